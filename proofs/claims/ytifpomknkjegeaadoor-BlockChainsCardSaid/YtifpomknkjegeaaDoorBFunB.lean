import Derived.Test.YtifpomknkjegeaaDoorBFunA
import Derived.Test.YtifpomknkjegeaaDoorPAllx43
import Derived.Test.YtifpomknkjegeaaDoorPAllx48
namespace Go.Proofs.YtifpomknkjegeaaDoor.BFun
open Go.RowKit Go.Proofs.YtifpomknkjegeaaDoor.PAll Go.Proofs.YtifpomknkjegeaaDoorW.PrintWords SG Go.Proofs.YtifpomknkjegeaaDoor.Hlp
theorem rtext_f (l : Bs) (hl : l.length ≤ 140737488351232) : sandglassref16_Text.f (mk l) = some (mk (text l)) := by
 unfold sandglassref16_Text.f
 rw [mk_size, bindS, four_nums, mk_append, mk_size, four_length, if_pos (by omega)]
 rfl
theorem E_rtexts0 (ls : List Bs) (hn : ls.length ≤ 100000) (hs : ∀ x ∈ ls, x.length ≤ 100000) (d : Nat) : ∀ (i : Nat) (acc : Bs), ls.length - i = d → acc.length ≤ i * 200000 → i ≤ ls.length →
  Ev (fun k => sandglassref16_Texts.l0 k (ls.map mk) (mk acc) (i : Int)) (mk (acc ++ texts (ls.drop i))) := by
 induction d with
 | zero =>
  intro i acc hd ha hi
  refine Ev.step (f := fun k => _) (fun k => by rw [sandglassref16_Texts.l0]) ?_
  simp only [List.length_map, if_neg (show ¬ (i : Int) < (ls.length : Int) by omega)]
  rw [List.drop_eq_nil_of_le (by omega), texts_nil, List.append_nil]
  exact nowE _
 | succ d ih =>
  intro i acc hd ha hi'
  have hi : i < ls.length := by omega
  have hx := hs ls[i] (List.getElem_mem hi)
  have hb : acc.length + (text ls[i]).length ≤ (i + 1) * 200000 := by rw [text_length]; omega
  have hb2 : acc.length + (text ls[i]).length ≤ 9223372036854775807 := by omega
  refine Ev.step (f := fun k => _) (fun k => by rw [sandglassref16_Texts.l0]) ?_
  simp only [List.length_map, if_pos (show (i : Int) < (ls.length : Int) by omega), if_pos (show 0 ≤ (i : Int) by omega)]
  rw [rdOf_mk ls i hi, List.drop_eq_getElem_cons hi, rtext_f _ (by omega), texts_cons]
  simp only [bindS, mk_size, if_pos hb2]
  rw [mk_append, w64 (by omega) (by omega), show (i : Int) + 1 = ((i + 1 : Nat) : Int) by omega, ← List.append_assoc]
  exact ih (i + 1) _ (by omega) (by rw [List.length_append]; exact hb) (by omega)
theorem E_rTexts (ls : List Bs) (hn : ls.length ≤ 100000) (hs : ∀ x ∈ ls, x.length ≤ 100000) : Ev (fun k => sandglassref16_Texts.f k (ls.map mk)) (mk (texts ls)) := by
 have := E_rtexts0 ls hn hs ls.length 0 [] (by omega) (by simp) (by omega)
 unfold sandglassref16_Texts.f
 exact this
theorem E_rread0 (l : Bs) (hl : l.length ≤ 1000000) (d : Nat) : ∀ (i : Nat) (out : List ByteArray), l.length - i = d → i ≤ l.length → out.length + d ≤ 1000000 → Ev (fun k => sandglassref16_Read.l0 k (mk l) out (i : Int)) (readO out (readR (l.drop i))) := by
 induction d using Nat.strongRecOn with
 | _ d ih =>
  intro i out hd hi ho
  refine Ev.step (f := fun k => _) (fun k => by rw [sandglassref16_Read.l0]) ?_
  rw [mk_size]
  by_cases h0 : ¬ (i : Int) < (l.length : Int)
  ·
   simp only [if_neg h0]
   rw [List.drop_eq_nil_of_le (by omega), readR_nil, readO_some, List.map_nil, List.append_nil]
   exact nowE _
  have h0 : (i : Int) < (l.length : Int) := by omega
  rw [w64_sub l.length i (by omega) (by omega)]
  have hdl : (l.drop i).length = l.length - i := List.length_drop
  simp only [if_pos h0]
  by_cases h4 : l.length - i < 4
  ·
   rw [readR_short (by rw [hdl]; omega) (by rw [hdl]; exact h4), readO_none]
   simp only [if_pos (show ((l.length - i : Nat) : Int) < 4 by omega)]
   exact nowE _
  rw [w64_1 i (by omega), w64_2 i (by omega), w64_3 i (by omega), w64_4 i (by omega), num_i64_at, w64_sub l.length (i + 4) (by omega) (by omega)]
  have hnl := num4_lt (l.drop i)
  have hless := @readR_less (l.drop i) (by rw [hdl]; exact h4)
  have hmore := @readR_more (l.drop i) (by rw [hdl]; exact h4)
  rw [hdl] at hless hmore
  generalize num4 (l.drop i) = n at hnl hless hmore ⊢
  have c0 : ¬ ((l.length - i : Nat) : Int) < 4 := by omega
  have c1 : 0 ≤ (i : Int) := by omega
  have c2 : 0 ≤ ((i + 1 : Nat) : Int) := by omega
  have c3 : ((i + 1 : Nat) : Int) < (l.length : Int) := by omega
  have c4 : 0 ≤ ((i + 2 : Nat) : Int) := by omega
  have c5 : ((i + 2 : Nat) : Int) < (l.length : Int) := by omega
  have c6 : 0 ≤ ((i + 3 : Nat) : Int) := by omega
  have c7 : ((i + 3 : Nat) : Int) < (l.length : Int) := by omega
  simp only [if_neg c0, if_pos c1, if_pos c2, if_pos c3, if_pos c4, if_pos c5, if_pos c6, if_pos c7]
  clear c0 c1 c2 c3 c4 c5 c6 c7
  by_cases hn : l.length - i - 4 < n
  ·
   rw [hless hn, readO_none]
   have c0 : ((l.length - (i + 4) : Nat) : Int) < (n : Int) := by omega
   simp only [if_pos c0]
   exact nowE _
  have hn' : i + (4 + n) ≤ l.length := by omega
  rw [hmore hn, readO_cons, w64_add (i + 4) n (by omega) (by omega), show i + 4 + n = i + (4 + n) by omega]
  have c0 : ¬ ((l.length - (i + 4) : Nat) : Int) < (n : Int) := by omega
  have c1 : 0 ≤ ((i + 4 : Nat) : Int) := by omega
  have c2 : ((i + 4 : Nat) : Int) ≤ ((i + (4 + n) : Nat) : Int) := by omega
  have c3 : ((i + (4 + n) : Nat) : Int) ≤ (l.length : Int) := by omega
  have c4 : out.length < 8796093022208 := by omega
  simp only [if_neg c0, if_pos c1, if_pos c2, if_pos c3, if_pos c4, Int.toNat_natCast]
  rw [mk_extract, show i + (4 + n) - (i + 4) = n by omega, List.drop_drop, List.drop_drop]
  exact ih (l.length - (i + (4 + n))) (by omega) _ _ rfl hn' (by simp only [List.length_append, List.length_cons, List.length_nil]; omega)
theorem E_rRead (l : Bs) (hl : l.length ≤ 1000000) : Ev (fun k => sandglassref16_Read.f k (mk l)) (readO [] (readR l)) := by
 have := E_rread0 l hl l.length 0 [] (by omega) (by omega) (by simpa using hl)
 unfold sandglassref16_Read.f
 exact this
theorem readO_len (l : Bs) (hl : l.length ≤ 1000000) : (readO [] (readR l)).1.length ≤ 9223372036854775806 := by
 cases h : readR l with
 | none => rw [readO_none]; simp
 | some ls =>
  have := readR_small h
  rw [readO_some, List.nil_append, List.length_map]
  omega
end Go.Proofs.YtifpomknkjegeaaDoor.BFun
