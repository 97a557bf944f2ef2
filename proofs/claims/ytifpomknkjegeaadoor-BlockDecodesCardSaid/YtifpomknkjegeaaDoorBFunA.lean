import Derived.Test.YtifpomknkjegeaaDoorHlp
import Derived.Test.YtifpomknkjegeaaDoorWire
import Derived.Test.YtifpomknkjegeaaDoorPAllx16
import Derived.Test.YtifpomknkjegeaaDoorPAllx10
namespace Go.Proofs.YtifpomknkjegeaaDoor.BFun
open Go.RowKit Go.Proofs.YtifpomknkjegeaaDoor.PAll Go.Proofs.YtifpomknkjegeaaDoorW.PrintWords SG Go.Proofs.YtifpomknkjegeaaDoor.Hlp
theorem text_f (l : Bs) (hl : l.length ≤ 140737488351232) : wire_Text.f (mk l) = some (mk (text l)) := by
 unfold wire_Text.f
 rw [mk_size, bindS, four_nums, mk_append, mk_size, four_length, if_pos (by omega)]
 rfl
theorem E_texts0 (ls : List Bs) (hn : ls.length ≤ 100000) (hs : ∀ x ∈ ls, x.length ≤ 100000) (d : Nat) : ∀ (i : Nat) (acc : Bs), ls.length - i = d → acc.length ≤ i * 200000 → i ≤ ls.length →
  Ev (fun k => wire_Texts.l0 k (bytesOf (mk acc)) (ls.map mk) (ls.length : Int) (i : Int)) (mk (acc ++ texts (ls.drop i))) := by
 induction d with
 | zero =>
  intro i acc hd ha hi
  refine Ev.step (f := fun k => _) (fun k => by rw [wire_Texts.l0]) ?_
  simp only [if_neg (show ¬ (i : Int) < (ls.length : Int) by omega)]
  rw [List.drop_eq_nil_of_le (by omega), str_bytesOf, texts_nil, List.append_nil]
  exact nowE _
 | succ d ih =>
  intro i acc hd ha hi'
  have hi : i < ls.length := by omega
  have hx := hs ls[i] (List.getElem_mem hi)
  have hb : acc.length + (text ls[i]).length ≤ (i + 1) * 200000 := by rw [text_length]; omega
  have hb2 : acc.length + (text ls[i]).length < 140737488355328 := by omega
  refine Ev.step (f := fun k => _) (fun k => by rw [wire_Texts.l0]) ?_
  simp only [if_pos (show (i : Int) < (ls.length : Int) by omega), if_pos (show 0 ≤ (i : Int) by omega), List.length_map]
  rw [rdOf_mk ls i hi, List.drop_eq_getElem_cons hi, text_f _ (by omega), texts_cons]
  simp only [bindS, bytesOf_len, mk_size, if_pos hb2]
  rw [bytesOf_app, w64 (by omega) (by omega), show (i : Int) + 1 = ((i + 1 : Nat) : Int) by omega, ← List.append_assoc]
  exact ih (i + 1) _ (by omega) (by rw [List.length_append]; exact hb) (by omega)
theorem E_Texts (ls : List Bs) (hn : ls.length ≤ 100000) (hs : ∀ x ∈ ls, x.length ≤ 100000) : Ev (fun k => wire_Texts.f k (ls.map mk)) (mk (texts ls)) := by
 have := E_texts0 ls hn hs ls.length 0 [] (by omega) (by simp) (by omega)
 unfold wire_Texts.f
 rw [List.length_map]
 exact this
theorem next_f (l : Bs) (hl : l.length ≤ 140737488351232) : wire_next.f (mk l) = some (if l.length < 4 then (mk [], mk [], false) else if l.length - 4 < num4 l then (mk [], mk [], false) else (mk ((l.drop 4).take (num4 l)), mk (l.drop (4 + num4 l)), true)) := by
 unfold wire_next.f
 rw [mk_size]
 by_cases h4 : l.length < 4
 ·
  rw [if_pos (show (l.length : Int) < 4 by omega), if_pos h4]
  rfl
 rw [num_i64, if_neg (show ¬ (l.length : Int) < 4 by omega), if_neg h4, if_pos (show (0 : Int) < (l.length : Int) by omega), if_pos (show (1 : Int) < (l.length : Int) by omega), if_pos (show (2 : Int) < (l.length : Int) by omega), if_pos (show (3 : Int) < (l.length : Int) by omega), if_pos (show (4 : Int) ≤ (l.length : Int) by omega)]
 generalize num4 l = n
 rw [mk_extract, List.take_of_length_le (l := l.drop 4) (by rw [List.length_drop]; omega), mk_size, List.length_drop]
 by_cases hn : l.length - 4 < n
 ·
  rw [if_pos (show ((l.length - 4 : Nat) : Int) < (n : Int) by omega), if_pos hn]
  rfl
 rw [if_neg (show ¬ ((l.length - 4 : Nat) : Int) < (n : Int) by omega), if_neg hn, if_pos (show 0 ≤ (n : Int) by omega), if_pos (show (n : Int) ≤ ((l.length - 4 : Nat) : Int) by omega), mk_extract, mk_extract, Int.toNat_natCast, List.drop_zero, Nat.sub_zero, List.drop_drop, List.take_of_length_le (l := l.drop (4 + n)) (by rw [List.length_drop]; omega)]
def readO (out : List ByteArray) (o : Option (List Bs)) : List ByteArray × Int := match o with
 | some ls => (out ++ ls.map mk, 0)
 | none => ([], 3)
theorem readO_some (out : List ByteArray) (ls : List Bs) : readO out (some ls) = (out ++ ls.map mk, 0) := rfl
theorem readO_none (out : List ByteArray) : readO out none = ([], 3) := rfl
theorem readO_cons (out : List ByteArray) (x : Bs) (o : Option (List Bs)) : readO out (o.map (x :: ·)) = readO (out ++ [mk x]) o := by
 cases o with
 | none => rfl
 | some ls => rw [Option.map_some, readO_some, readO_some, List.map_cons, List.append_assoc]; rfl
theorem E_read0 (d : Nat) : ∀ (l : Bs) (out : List ByteArray), l.length = d → l.length ≤ 1000000 → out.length + l.length ≤ 1000000 → Ev (fun k => wire_Read.l0 k (mk l) out) (readO out (readR l)) := by
 induction d using Nat.strongRecOn with
 | _ d ih =>
  intro l out hd hl ho
  refine Ev.step (f := fun k => _) (fun k => by rw [wire_Read.l0]) ?_
  rw [mk_toList]
  by_cases h0 : l = []
  ·
   subst h0
   simp only [if_true]
   rw [readR_nil, readO_some, List.map_nil, List.append_nil]
   exact nowE _
  have hpos : l.length ≠ 0 := fun h => h0 (List.eq_nil_of_length_eq_zero h)
  rw [next_f l (by omega)]
  simp only [if_neg h0, bindS]
  by_cases h4 : l.length < 4
  ·
   rw [readR_short hpos h4, readO_none]
   simp only [if_pos h4, if_neg (show ¬ false = true by decide)]
   exact nowE _
  by_cases hn : l.length - 4 < num4 l
  ·
   rw [readR_less h4 hn, readO_none]
   simp only [if_neg h4, if_pos hn, if_neg (show ¬ false = true by decide)]
   exact nowE _
  rw [readR_more h4 hn, readO_cons]
  simp only [if_neg h4, if_neg hn, if_true, if_pos (show out.length < 8796093022208 by omega)]
  exact ih (l.drop (4 + num4 l)).length (by rw [List.length_drop]; omega) _ _ rfl (by rw [List.length_drop]; omega) (by simp only [List.length_drop, List.length_append, List.length_cons, List.length_nil]; omega)
theorem E_Read (l : Bs) (hl : l.length ≤ 1000000) : Ev (fun k => wire_Read.f k (mk l)) (readO [] (readR l)) := by
 have := E_read0 l.length l [] rfl hl (by simpa using hl)
 unfold wire_Read.f
 exact this
end Go.Proofs.YtifpomknkjegeaaDoor.BFun
