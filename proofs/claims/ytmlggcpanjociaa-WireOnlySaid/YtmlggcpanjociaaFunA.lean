import Derived.Test.YtmlggcpanjociaaHlp
import Derived.Test.YtmlggcpanjociaaWire
import Derived.Test.YtmlggcpanjociaaPAllx3
import Derived.Test.YtmlggcpanjociaaPAllx7
import Derived.Test.YtmlggcpanjociaaPAllx5
import Derived.Test.YtmlggcpanjociaaPAllx18
namespace Go.Proofs.Ytmlggcpanjociaa.Fun
open Go.RowKit Go.Proofs.Ytmlggcpanjociaa.PAll Go.Proofs.YtmlggcpanjociaaW.PrintWords SG Go.Proofs.Ytmlggcpanjociaa.Hlp

theorem text_f (l : Bs) (hl : l.length ≤ 140737488351232) : wire_Text.f (mk l) = some (mk (text l)) := by
  unfold wire_Text.f
  rw [mk_size, bindS, four_nums, mk_append, mk_size, four_length, if_pos (by omega)]
  rfl

theorem E_texts0 (ls : List Bs) (hn : ls.length ≤ 100000) (hs : ∀ x ∈ ls, x.length ≤ 100000) (d : Nat) : ∀ (i : Nat) (acc : Bs), ls.length - i = d → acc.length ≤ i * 200000 → i ≤ ls.length →
    Ev (fun k => wire_Texts.l0 k (bytesOf (mk acc)) (ls.map mk) (ls.length : Int) (i : Int)) (mk (acc ++ texts (ls.drop i))) := by
  induction d with
  | zero =>
    intro i acc hd ha hi
    refine Ev.step (f := fun k => _) (fun k => by rw [wire_Texts.l0]) ?_
    simp only [if_neg (show ¬ (i : Int) < (ls.length : Int) by omega)]
    rw [List.drop_eq_nil_of_le (by omega), str_bytesOf, texts_nil, List.append_nil]
    exact nowE _
  | succ d ih =>
    intro i acc hd ha hi'
    have hi : i < ls.length := by omega
    have hx := hs ls[i] (List.getElem_mem hi)
    have hb : acc.length + (text ls[i]).length ≤ (i + 1) * 200000 := by rw [text_length]; omega
    have hb2 : acc.length + (text ls[i]).length < 140737488355328 := by omega
    refine Ev.step (f := fun k => _) (fun k => by rw [wire_Texts.l0]) ?_
    simp only [if_pos (show (i : Int) < (ls.length : Int) by omega), if_pos (show 0 ≤ (i : Int) by omega), List.length_map]
    rw [rdOf_mk ls i hi, List.drop_eq_getElem_cons hi, text_f _ (by omega), texts_cons]
    simp only [bindS, bytesOf_len, mk_size, if_pos hb2]
    rw [bytesOf_app, w64 (by omega) (by omega), show (i : Int) + 1 = ((i + 1 : Nat) : Int) by omega, ← List.append_assoc]
    exact ih (i + 1) _ (by omega) (by rw [List.length_append]; exact hb) (by omega)

theorem E_Texts (ls : List Bs) (hn : ls.length ≤ 100000) (hs : ∀ x ∈ ls, x.length ≤ 100000) : Ev (fun k => wire_Texts.f k (ls.map mk)) (mk (texts ls)) := by
  have := E_texts0 ls hn hs ls.length 0 [] (by omega) (by simp) (by omega)
  unfold wire_Texts.f
  rw [List.length_map]
  exact this

theorem next_f (l : Bs) (hl : l.length ≤ 140737488351232) : wire_next.f (mk l) = some (if l.length < 4 then (mk [], mk [], false) else if l.length - 4 < num4 l then (mk [], mk [], false) else (mk ((l.drop 4).take (num4 l)), mk (l.drop (4 + num4 l)), true)) := by
  unfold wire_next.f
  rw [mk_size]
  by_cases h4 : l.length < 4
  · rw [if_pos (show (l.length : Int) < 4 by omega), if_pos h4]
    rfl
  rw [num_i64, if_neg (show ¬ (l.length : Int) < 4 by omega), if_neg h4, if_pos (show (0 : Int) < (l.length : Int) by omega), if_pos (show (1 : Int) < (l.length : Int) by omega), if_pos (show (2 : Int) < (l.length : Int) by omega), if_pos (show (3 : Int) < (l.length : Int) by omega), if_pos (show (4 : Int) ≤ (l.length : Int) by omega)]
  generalize num4 l = n
  rw [mk_extract, List.take_of_length_le (l := l.drop 4) (by rw [List.length_drop]; omega), mk_size, List.length_drop]
  by_cases hn : l.length - 4 < n
  · rw [if_pos (show ((l.length - 4 : Nat) : Int) < (n : Int) by omega), if_pos hn]
    rfl
  rw [if_neg (show ¬ ((l.length - 4 : Nat) : Int) < (n : Int) by omega), if_neg hn, if_pos (show 0 ≤ (n : Int) by omega), if_pos (show (n : Int) ≤ ((l.length - 4 : Nat) : Int) by omega), mk_extract, mk_extract, Int.toNat_natCast, List.drop_zero, Nat.sub_zero, List.drop_drop, List.take_of_length_le (l := l.drop (4 + n)) (by rw [List.length_drop]; omega)]

/-- What a Read tells. -/
def readO (out : List ByteArray) (o : Option (List Bs)) : List ByteArray × Int := match o with
  | some ls => (out ++ ls.map mk, 0)
  | none => ([], 3)
theorem readO_some (out : List ByteArray) (ls : List Bs) : readO out (some ls) = (out ++ ls.map mk, 0) := rfl
theorem readO_none (out : List ByteArray) : readO out none = ([], 3) := rfl
theorem readO_cons (out : List ByteArray) (x : Bs) (o : Option (List Bs)) : readO out (o.map (x :: ·)) = readO (out ++ [mk x]) o := by
  cases o with
  | none => rfl
  | some ls => rw [Option.map_some, readO_some, readO_some, List.map_cons, List.append_assoc]; rfl

theorem E_read0 (d : Nat) : ∀ (l : Bs) (out : List ByteArray), l.length = d → l.length ≤ 1000000 → out.length + l.length ≤ 1000000 → Ev (fun k => wire_Read.l0 k (mk l) out) (readO out (readR l)) := by
  induction d using Nat.strongRecOn with
  | _ d ih =>
    intro l out hd hl ho
    refine Ev.step (f := fun k => _) (fun k => by rw [wire_Read.l0]) ?_
    rw [mk_toList]
    by_cases h0 : l = []
    · subst h0
      simp only [if_true]
      rw [readR_nil, readO_some, List.map_nil, List.append_nil]
      exact nowE _
    have hpos : l.length ≠ 0 := fun h => h0 (List.eq_nil_of_length_eq_zero h)
    rw [next_f l (by omega)]
    simp only [if_neg h0, bindS]
    by_cases h4 : l.length < 4
    · rw [readR_short hpos h4, readO_none]
      simp only [if_pos h4, if_neg (show ¬ false = true by decide)]
      exact nowE _
    by_cases hn : l.length - 4 < num4 l
    · rw [readR_less h4 hn, readO_none]
      simp only [if_neg h4, if_pos hn, if_neg (show ¬ false = true by decide)]
      exact nowE _
    rw [readR_more h4 hn, readO_cons]
    simp only [if_neg h4, if_neg hn, if_true, if_pos (show out.length < 8796093022208 by omega)]
    exact ih (l.drop (4 + num4 l)).length (by rw [List.length_drop]; omega) _ _ rfl (by rw [List.length_drop]; omega) (by simp only [List.length_drop, List.length_append, List.length_cons, List.length_nil]; omega)

theorem E_Read (l : Bs) (hl : l.length ≤ 1000000) : Ev (fun k => wire_Read.f k (mk l)) (readO [] (readR l)) := by
  have := E_read0 l.length l [] rfl hl (by simpa using hl)
  unfold wire_Read.f
  exact this

theorem E_few0 (ls : List Bs) (d : Nat) : ∀ (i N : Nat), ls.length - i = d → N = (texts (ls.take i)).length → i ≤ ls.length → N ≤ 60000 →
    ∃ b, Ev (fun k => sandglasslaw16_few.l0 k (ls.map mk) (N : Int) (i : Int)) b ∧ (b = true → (texts ls).length < 20000) := by
  induction d with
  | zero =>
    intro i N hd hN hi hb
    have e : ls.take i = ls := List.take_of_length_le (by omega)
    rw [e] at hN
    refine ⟨decide ((N : Int) < 20000), Ev.step (f := fun k => _) (fun k => by rw [sandglasslaw16_few.l0]) ?_, fun h => by rw [decide_eq_true_iff] at h; omega⟩
    simp only [List.length_map, if_neg (show ¬ (i : Int) < (ls.length : Int) by omega)]
    refine Ev.step (f := fun k => _) (fun k => by rw [sandglasslaw16_few.j1]) ?_
    simp only [if_neg (show ¬ false = true by decide)]
    exact nowE _
  | succ d ih =>
    intro i N hd hN hi' hb
    have hi : i < ls.length := by omega
    have hiN : i ≤ N := by
      have := (texts_small (ls.take i)).1
      rw [List.length_take, ← hN] at this
      omega
    by_cases hN2 : (N : Int) < 20000
    · by_cases hx : (ls[i].length : Int) > 20000
      · refine ⟨false, Ev.step (f := fun k => _) (fun k => by rw [sandglasslaw16_few.l0]) ?_, fun h => by cases h⟩
        simp only [List.length_map, if_pos (show (i : Int) < (ls.length : Int) by omega), decide_eq_true hN2]
        refine Ev.step (f := fun k => _) (fun k => by rw [sandglasslaw16_few.j1]) ?_
        simp only [if_true, List.length_map, if_pos (show (i : Int) < (ls.length : Int) by omega), if_pos (show 0 ≤ (i : Int) by omega)]
        rw [rdOf_mk ls i hi, mk_size]
        simp only [if_pos hx]
        exact nowE _
      · have hN3 : N + 4 + ls[i].length = (texts (ls.take (i + 1))).length := by
          rw [List.take_succ_eq_append_getElem hi, texts_append, List.length_append, ← hN, texts_cons, texts_nil, List.append_nil, text_length]
          omega
        obtain ⟨b, h1, h2⟩ := ih (i + 1) (N + 4 + ls[i].length) (by omega) hN3 (by omega) (by omega)
        refine ⟨b, Ev.step (f := fun k => _) (fun k => by rw [sandglasslaw16_few.l0]) ?_, h2⟩
        simp only [List.length_map, if_pos (show (i : Int) < (ls.length : Int) by omega), decide_eq_true hN2]
        refine Ev.step (f := fun k => _) (fun k => by rw [sandglasslaw16_few.j1]) ?_
        simp only [if_true, List.length_map, if_pos (show (i : Int) < (ls.length : Int) by omega), if_pos (show 0 ≤ (i : Int) by omega)]
        rw [rdOf_mk ls i hi, mk_size]
        simp only [if_neg hx]
        rw [w64 (n := (N : Int) + 4) (by omega) (by omega), w64 (n := (N : Int) + 4 + (ls[i].length : Int)) (by omega) (by omega), w64 (n := (i : Int) + 1) (by omega) (by omega), show (i : Int) + 1 = ((i + 1 : Nat) : Int) by omega, show (N : Int) + 4 + (ls[i].length : Int) = ((N + 4 + ls[i].length : Nat) : Int) by omega]
        exact h1
    · refine ⟨false, Ev.step (f := fun k => _) (fun k => by rw [sandglasslaw16_few.l0]) ?_, fun h => by cases h⟩
      simp only [List.length_map, if_pos (show (i : Int) < (ls.length : Int) by omega), decide_eq_false hN2]
      refine Ev.step (f := fun k => _) (fun k => by rw [sandglasslaw16_few.j1]) ?_
      simp only [if_neg (show ¬ false = true by decide), decide_eq_false hN2]
      exact nowE _

theorem E_few (ls : List Bs) : ∃ b, Ev (fun k => sandglasslaw16_few.f k (ls.map mk)) b ∧ (b = true → (texts ls).length < 20000) := by
  obtain ⟨b, h1, h2⟩ := E_few0 ls ls.length 0 0 (by omega) rfl (by omega) (by omega)
  exact ⟨b, by unfold sandglasslaw16_few.f; exact h1, h2⟩

theorem awake_g : sandglasslaw16_awake.g 200 = some true := by
  unfold sandglasslaw16_awake.g
  simp only [toList_eq]
  kernel_rfl

theorem E_awake : Ev (fun k => sandglasslaw16_awake.f k) true := by
  refine ofE sandglasslaw16_awake.mono (k := 200) ?_
  unfold sandglasslaw16_awake.f
  rw [awake_g]
  rfl

end Go.Proofs.Ytmlggcpanjociaa.Fun
