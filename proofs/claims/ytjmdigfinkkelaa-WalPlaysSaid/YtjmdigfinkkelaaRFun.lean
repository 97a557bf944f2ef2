import Derived.Test.YtjmdigfinkkelaaRec2
import Derived.Test.YtjmdigfinkkelaaPAllx11
import Derived.Test.YtjmdigfinkkelaaPAllx8
import Derived.Test.YtjmdigfinkkelaaPAllx13
namespace Go.Proofs.Ytjmdigfinkkelaa.Fun
open Go.RowKit Go.Proofs.Ytjmdigfinkkelaa.PAll Go.Proofs.YtjmdigfinkkelaaW.PrintWords Go.Proofs.YtjmdigfinkkelaaW.PrintLast SG

/-- As a step that the kernel doesn't have to find. -/
theorem bindS {α β : Type} (a : α) (f : α → Option β) : (some a).bind f = f a := Eq.trans (Option.bind_some a f) (Eq.refl (f a))

theorem bt_mk (l : By) (i : Int) : bt (mk l) i = ((l.getD i.toNat 0).toNat : Int) := by
  unfold bt
  split
  · rename_i h
    have h' : i.toNat < l.length := by rw [mk_size] at h; exact h
    rw [List.getD_eq_getElem?_getD, List.getElem?_eq_getElem h']
    rfl
  · rename_i h
    have h' : l.length ≤ i.toNat := by rw [mk_size] at h; omega
    rw [List.getD_eq_getElem?_getD, List.getElem?_eq_none h']
    rfl

theorem bt_mk_range (l : By) (i : Int) : 0 ≤ bt (mk l) i ∧ bt (mk l) i ≤ 255 := bt_range _ _

theorem xor_comm' (a b : Int) : Go.bits .xor .u32 a b = Go.bits .xor .u32 b a := by
  show IntKind.u32.wrap _ = IntKind.u32.wrap _
  rw [BitVec.xor_comm]

theorem not_int (v : BitVec 32) : Go.bits .xor .u32 4294967295 (v.toNat : Int) = ((v ^^^ BitVec.allOnes 32).toNat : Int) := by
  rw [xor_comm', all_int, bits_xor]

theorem not_int' (v : BitVec 32) : Go.bits .xor .u32 (v.toNat : Int) 4294967295 = ((v ^^^ BitVec.allOnes 32).toNat : Int) := by
  rw [all_int, bits_xor]

/-! The sum. -/
theorem more_l1 (m : Nat) (v : BitVec 32) (s : ByteArray) (n i : Int) : record_more.l1 (m + 9) (v.toNat : Int) s n i 0 = record_more.l0 m ((step8 v).toNat : Int) s n (wrap64 (i + 1)) := by
  have w0 : wrap64 (0 + 1) = 1 := by unfold wrap64; omega
  have w1 : wrap64 (1 + 1) = 2 := by unfold wrap64; omega
  have w2 : wrap64 (2 + 1) = 3 := by unfold wrap64; omega
  have w3 : wrap64 (3 + 1) = 4 := by unfold wrap64; omega
  have w4 : wrap64 (4 + 1) = 5 := by unfold wrap64; omega
  have w5 : wrap64 (5 + 1) = 6 := by unfold wrap64; omega
  have w6 : wrap64 (6 + 1) = 7 := by unfold wrap64; omega
  have w7 : wrap64 (7 + 1) = 8 := by unfold wrap64; omega
  rw [record_more.l1, if_pos (by decide), step_int, w0]
  rw [record_more.l1, if_pos (by decide), step_int, w1]
  rw [record_more.l1, if_pos (by decide), step_int, w2]
  rw [record_more.l1, if_pos (by decide), step_int, w3]
  rw [record_more.l1, if_pos (by decide), step_int, w4]
  rw [record_more.l1, if_pos (by decide), step_int, w5]
  rw [record_more.l1, if_pos (by decide), step_int, w6]
  rw [record_more.l1, if_pos (by decide), step_int, w7]
  rw [record_more.l1, if_neg (by decide)]
  rfl

theorem more_l0 (l : By) (hl : l.length ≤ 140737488351232) (d : Nat) : ∀ (i : Nat) (v : BitVec 32), i + d = l.length → record_more.l0 (10 * d + 1) (v.toNat : Int) (mk l) (l.length : Int) (i : Int) = some ((crc v (l.drop i)).toNat : Int) := by
  induction d with
  | zero =>
    intro i v h
    rw [record_more.l0, if_neg (by omega), List.drop_eq_nil_of_le (by omega)]
    rfl
  | succ d ih =>
    intro i v h
    have hi : i < l.length := by omega
    rw [show 10 * (d + 1) + 1 = (10 * d + 1 + 9) + 1 by omega, record_more.l0, if_pos (by omega), if_pos (by omega), if_pos (by rw [mk_size]; omega)]
    have e : bt (mk l) (i : Int) = ((l[i]).toNat : Int) := by
      rw [bt_mk, List.getD_eq_getElem?_getD, Int.toNat_natCast, List.getElem?_eq_getElem hi]
      rfl
    rw [e, byte_int, more_l1, w64 (by omega) (by omega), show (i : Int) + 1 = ((i + 1 : Nat) : Int) by omega, ih (i + 1) _ (by omega), List.drop_eq_getElem_cons hi]
    rfl

theorem E_more (v : BitVec 32) (l : By) (hl : l.length ≤ 140737488351232) : Ev (fun k => record_more.f k (v.toNat : Int) (mk l)) ((crc v l).toNat : Int) := by
  refine Ev.of (record_more.mono _ _) (k := 10 * l.length + 1) ?_
  have := more_l0 l hl l.length 0 v (by omega)
  unfold record_more.f
  rw [mk_size]
  exact this

theorem four_f (n : Nat) : record_four.f (n : Int) = some (mk (four n)) := by
  unfold record_four.f
  rw [four_nums]

/-- A record's bytes, or the error. -/
def frameA (s : By) : ByteArray × Int := if 4096 < s.length then (mk [], 2) else (mk (frame s), 0)

theorem E_Frame (s : By) (hl : s.length ≤ 140737488351232) : Ev (fun k => record_Frame.f k (mk s)) (frameA s) := by
  unfold record_Frame.f frameA
  rw [mk_size]
  by_cases h : 4096 < s.length
  · simp only [if_pos (show (s.length : Int) > 4096 by omega), if_pos h]
    exact Ev.now _
  · simp only [if_neg (show ¬ (s.length : Int) > 4096 by omega), if_neg h]
    rw [show (s.length : Int) % 4294967296 = (s.length : Int) by omega, four_f]
    simp only [bindS]
    refine Ev.bind (a := ((crc (BitVec.allOnes 32) (four s.length)).toNat : Int)) (by simpa only [all_int] using E_more (BitVec.allOnes 32) (four s.length) (by rw [four_length]; omega)) ?_
    refine Ev.bind (E_more _ s hl) ?_
    rw [not_int, ← crc_append, four_f, Option.bind_some, mk_append, mk_append, mk_size, mk_size, mk_size, if_pos (by simp only [four_length]; omega), if_pos (by simp only [List.length_append, four_length]; omega), List.append_assoc]
    exact Ev.now _

theorem number_f (l : By) (h : 4 ≤ l.length) : record_number.f (mk l) = some (num4 l : Int) := by
  unfold record_number.f
  rw [mk_size, if_pos (by omega), if_pos (by omega), if_pos (by omega), if_pos (by omega), or4_u32 _ _ _ _ (bt_mk_range l 0) (bt_mk_range l 1) (bt_mk_range l 2) (bt_mk_range l 3)]
  simp only [bt_mk, num4]
  refine congrArg some ?_
  simp only [Int.toNat_zero, show (1 : Int).toNat = 1 from rfl, show (2 : Int).toNat = 2 from rfl, show (3 : Int).toNat = 3 from rfl]
  omega

/-- What a Next tells. -/
def nextA (l : By) : ByteArray × Int × Int := (mk (nextR l).1, ((nextR l).2.1 : Int), ((nextR l).2.2 : Int))

theorem E_Next (l : By) (hl : l.length ≤ 140737488351232) : Ev (fun k => record_Next.f k (mk l)) (nextA l) := by
  unfold record_Next.f nextA nextR
  rw [mk_size]
  by_cases h4 : l.length < 4
  · simp only [if_pos (show (l.length : Int) < 4 by omega), if_pos h4]
    exact Ev.now _
  have hn := number_f l (by omega)
  have hlt := num4_lt l
  generalize num4 l = n at hn hlt ⊢
  rw [hn]
  simp only [if_neg (show ¬ (l.length : Int) < 4 by omega), if_neg h4, bindS]
  by_cases hm : 4096 < n
  · simp only [if_pos (show (n : Int) > 4096 by omega), if_pos hm]
    exact Ev.now _
  have w1 : wrap64 (8 + wrap64 (n : Int)) = ((8 + n : Nat) : Int) := by
    rw [w64 (n := (n : Int)) (by omega) (by omega), w64 (by omega) (by omega)]
    omega
  simp only [if_neg (show ¬ (n : Int) > 4096 by omega), if_neg hm, w1]
  by_cases h8 : l.length < 8 + n
  · simp only [if_pos (show (l.length : Int) < ((8 + n : Nat) : Int) by omega), if_pos h8]
    exact Ev.now _
  simp only [if_neg (show ¬ (l.length : Int) < ((8 + n : Nat) : Int) by omega), if_neg h8, if_pos (show (8 : Int) ≤ ((8 + n : Nat) : Int) by omega), if_pos (show ((8 + n : Nat) : Int) ≤ (l.length : Int) by omega), if_pos (show (4 : Int) ≤ (l.length : Int) by omega)]
  rw [mk_extract, mk_extract, mk_extract]
  simp only [Int.toNat_natCast, Nat.add_sub_cancel_left, List.drop_zero, Nat.sub_zero]
  have hq := number_f ((l.drop 4).take (l.length - 4)) (by rw [List.length_take, List.length_drop]; omega)
  rw [List.take_of_length_le (l := l.drop 4) (by rw [List.length_drop]; omega)] at hq ⊢
  generalize num4 (l.drop 4) = q at hq ⊢
  refine Ev.bind (a := ((crc (BitVec.allOnes 32) (l.take 4)).toNat : Int)) (by simpa only [all_int] using E_more (BitVec.allOnes 32) (l.take 4) (by rw [List.length_take]; omega)) ?_
  refine Ev.bind (E_more _ ((l.drop 8).take n) (by rw [List.length_take, List.length_drop]; omega)) ?_
  rw [hq, Option.bind_some, not_int, ← crc_append]
  by_cases he : (sum (l.take 4 ++ (l.drop 8).take n)).toNat = q
  · rw [if_pos (by unfold sum at he; exact_mod_cast he), if_pos he]
    exact Ev.now _
  · rw [if_neg (by intro h; apply he; unfold sum; exact_mod_cast h), if_neg he]
    exact Ev.now _

/-- What a Prefix tells. -/
def preA (l : By) : List ByteArray × Int := ((pre l).1.map mk, ((pre l).2 : Int))

theorem pre_count (d : Nat) : ∀ (l : By), l.length = d → (pre l).2 ≤ l.length ∧ (pre l).1.length ≤ (pre l).2 := by
  induction d using Nat.strongRecOn with
  | _ d ih =>
    intro l h
    by_cases h0 : (nextR l).2.2 = 0
    · obtain ⟨_, h2, h3, _⟩ := nextR_ok h0
      have := ih (l.drop (nextR l).2.1).length (by rw [List.length_drop]; omega) _ rfl
      rw [List.length_drop] at this
      rw [pre_ok h0]
      simp only [List.length_cons]
      omega
    · rw [pre_other h0]
      simp

theorem E_pre0 (l : By) (hl : l.length ≤ 100000) (d : Nat) : ∀ (i : Nat) (out : List ByteArray), l.length - i = d → i ≤ l.length → out.length + d ≤ 100000 →
    Ev (fun k => record_Prefix.l0 k (mk l) out (i : Int)) (out ++ (preA (l.drop i)).1, (i : Int) + (preA (l.drop i)).2) := by
  induction d using Nat.strongRecOn with
  | _ d ih =>
    intro i out hd hi ho
    refine Ev.step (f := fun k => _) (fun k => by rw [record_Prefix.l0]) ?_
    simp only [mk_size, if_pos (show (0 : Int) ≤ (i : Int) by omega), if_pos (show (i : Int) ≤ (l.length : Int) by omega), Int.toNat_natCast, mk_extract]
    rw [List.take_of_length_le (l := l.drop i) (by rw [List.length_drop]; omega)]
    refine Ev.bind (E_Next (l.drop i) (by rw [List.length_drop]; omega)) ?_
    unfold nextA preA
    by_cases h0 : (nextR (l.drop i)).2.2 = 0
    · obtain ⟨_, h2, h3, _⟩ := nextR_ok h0
      rw [List.length_drop] at h3
      rw [pre_ok h0]
      simp only [h0, if_pos (show ((0 : Nat) : Int) = 0 from rfl), if_pos (show out.length < 8796093022208 by omega)]
      rw [w64 (by omega) (by omega), show (i : Int) + ((nextR (l.drop i)).2.1 : Int) = ((i + (nextR (l.drop i)).2.1 : Nat) : Int) by omega]
      have := ih (l.length - (i + (nextR (l.drop i)).2.1)) (by omega) (i + (nextR (l.drop i)).2.1) (out ++ [mk (nextR (l.drop i)).1]) rfl (by omega) (by simp only [List.length_append, List.length_cons, List.length_nil]; omega)
      rw [← List.drop_drop] at this
      unfold preA at this
      simp only [List.append_assoc, List.cons_append, List.nil_append] at this
      simp only [List.map_cons]
      rw [show ((i : Int) + (((nextR (l.drop i)).2.1 + (pre ((l.drop i).drop (nextR (l.drop i)).2.1)).2 : Nat) : Int)) = ((i + (nextR (l.drop i)).2.1 : Nat) : Int) + ((pre ((l.drop i).drop (nextR (l.drop i)).2.1)).2 : Int) by omega]
      exact this
    · rw [pre_other h0]
      simp only [if_neg (show ¬ ((nextR (l.drop i)).2.2 : Int) = 0 by omega), List.map_nil, List.append_nil]
      rw [show (i : Int) + ((0 : Nat) : Int) = (i : Int) by omega]
      exact Ev.now _

theorem E_Prefix (l : By) (hl : l.length ≤ 100000) : Ev (fun k => record_Prefix.f k (mk l)) (preA l) := by
  have := E_pre0 l hl l.length 0 [] (by omega) (by omega) (by simpa using hl)
  unfold record_Prefix.f
  simpa using this

theorem E_Texts0 (a : List ByteArray) (ha : a.length ≤ 9223372036854775806) (d : Nat) : ∀ (i : Nat), a.length - i = d → Ev (fun k => sandglassref01_Texts.l0 k a a (i : Int)) true := by
  induction d with
  | zero =>
    intro i h
    refine Ev.step (f := fun k => _) (fun k => by rw [sandglassref01_Texts.l0]) ?_
    simp only [if_neg (show ¬ (i : Int) < (a.length : Int) by omega)]
    exact Ev.now _
  | succ d ih =>
    intro i h
    refine Ev.step (f := fun k => _) (fun k => by rw [sandglassref01_Texts.l0]) ?_
    simp only [if_pos (show (i : Int) < (a.length : Int) by omega), if_pos (show 0 ≤ (i : Int) by omega), if_true]
    rw [w64 (by omega) (by omega), show (i : Int) + 1 = ((i + 1 : Nat) : Int) by omega]
    exact ih (i + 1) (by omega)

theorem E_Texts (a : List ByteArray) (ha : a.length ≤ 9223372036854775806) : Ev (fun k => sandglassref01_Texts.f k a a) true := by
  unfold sandglassref01_Texts.f
  simp only [if_true]
  exact E_Texts0 a ha a.length 0 (by omega)


end Go.Proofs.Ytjmdigfinkkelaa.Fun
