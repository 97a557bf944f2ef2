import Derived.Test.YtifpomknkjegeaaDoorByt
import Derived.Test.YtifpomknkjegeaaDoorWords
namespace Go.Proofs.YtifpomknkjegeaaDoor.Hlp
open Go.RowKit Go.Proofs.YtifpomknkjegeaaDoorW.PrintWords SG
theorem bindS {α β : Type} (a : α) (f : α → Option β) : (some a).bind f = f a := Eq.trans (Option.bind_some a f) (Eq.refl (f a))
theorem bt_mk (l : List UInt8) (i : Int) : bt (mk l) i = ((l.getD i.toNat 0).toNat : Int) := by
 unfold bt
 split
 ·
  rename_i h
  have h' : i.toNat < l.length := by rw [mk_size] at h; exact h
  rw [List.getD_eq_getElem?_getD, List.getElem?_eq_getElem h']
  rfl
 ·
  rename_i h
  have h' : l.length ≤ i.toNat := by rw [mk_size] at h; omega
  rw [List.getD_eq_getElem?_getD, List.getElem?_eq_none h']
  rfl
theorem bt_mk_range (l : List UInt8) (i : Int) : 0 ≤ bt (mk l) i ∧ bt (mk l) i ≤ 255 := by
 rw [bt_mk]
 have := (l.getD i.toNat 0).toNat_lt
 omega
theorem ex_mks (ls : List ByteArray) : ∃ l : List (List UInt8), ls = l.map mk := ⟨ls.map (·.data.toList), by rw [List.map_map]; exact (List.map_id ls).symm.trans (List.map_congr_left fun s _ => rfl)⟩
theorem rdOf_mk (ls : List (List UInt8)) (i : Nat) (h : i < ls.length) : rdOf ByteArray.empty (ls.map mk) (i : Int) = mk ls[i] := by
 simp [rdOf, List.getD_eq_getElem?_getD, h]
theorem bytesOf_app (a b : List UInt8) : bytesOf (mk a) ++ bytesOf (mk b) = bytesOf (mk (a ++ b)) := by simp [bytesOf, mk]
theorem str_bytesOf (a : List UInt8) : strOfNums (bytesOf (mk a)) = mk a := by
 rw [nums_mk]
 refine congrArg mk ?_
 simp only [bytesOf, mk_data, List.map_map]
 refine (List.map_congr_left (g := id) fun x _ => ?_).trans (List.map_id a)
 simp
theorem bytesOf_len (a : List UInt8) : (bytesOf (mk a)).length = a.length := by simp [bytesOf, mk]
theorem num_i64 (l : List UInt8) : Go.bits .or .i64 (Go.bits .or .i64 (Go.bits .or .i64 (wrap64 ((wrap64 (bt (mk l) 0)) * 16777216)) (wrap64 ((wrap64 (bt (mk l) 1)) * 65536))) (wrap64 ((wrap64 (bt (mk l) 2)) * 256))) (wrap64 (bt (mk l) 3)) = (num4 l : Int) := by
 rw [or4_i64 _ _ _ _ (bt_mk_range l 0) (bt_mk_range l 1) (bt_mk_range l 2) (bt_mk_range l 3)]
 simp only [bt_mk, num4]
 simp only [Int.toNat_zero, show (1 : Int).toNat = 1 from rfl, show (2 : Int).toNat = 2 from rfl, show (3 : Int).toNat = 3 from rfl]
 omega
theorem num_i64_at (l : List UInt8) (i : Nat) : Go.bits .or .i64 (Go.bits .or .i64 (Go.bits .or .i64 (wrap64 ((wrap64 (bt (mk l) (i : Int))) * 16777216)) (wrap64 ((wrap64 (bt (mk l) ((i + 1 : Nat) : Int))) * 65536))) (wrap64 ((wrap64 (bt (mk l) ((i + 2 : Nat) : Int))) * 256))) (wrap64 (bt (mk l) ((i + 3 : Nat) : Int))) = (num4 (l.drop i) : Int) := by
 rw [or4_i64 _ _ _ _ (bt_mk_range l _) (bt_mk_range l _) (bt_mk_range l _) (bt_mk_range l _)]
 simp only [bt_mk, num4, Int.toNat_natCast, List.getD_eq_getElem?_getD, List.getElem?_drop, Nat.add_zero]
 omega
theorem w64_1 (i : Nat) (h : i ≤ 1000000000000000) : wrap64 ((i : Int) + 1) = ((i + 1 : Nat) : Int) := by rw [w64 (by omega) (by omega)]; omega
theorem w64_2 (i : Nat) (h : i ≤ 1000000000000000) : wrap64 ((i : Int) + 2) = ((i + 2 : Nat) : Int) := by rw [w64 (by omega) (by omega)]; omega
theorem w64_3 (i : Nat) (h : i ≤ 1000000000000000) : wrap64 ((i : Int) + 3) = ((i + 3 : Nat) : Int) := by rw [w64 (by omega) (by omega)]; omega
theorem w64_4 (i : Nat) (h : i ≤ 1000000000000000) : wrap64 ((i : Int) + 4) = ((i + 4 : Nat) : Int) := by rw [w64 (by omega) (by omega)]; omega
theorem w64_add (i j : Nat) (h : i ≤ 1000000000000000) (k : j ≤ 1000000000000000) : wrap64 ((i : Int) + (j : Int)) = ((i + j : Nat) : Int) := by rw [w64 (by omega) (by omega)]; omega
theorem w64_sub (i j : Nat) (h : j ≤ i) (k : i ≤ 1000000000000000) : wrap64 ((i : Int) - (j : Int)) = ((i - j : Nat) : Int) := by rw [w64 (by omega) (by omega)]; omega
theorem roundsE {α : Type} {g : Nat → Option α} {r : α} (h : Ev g r) : ∃ k, g k = some r := by
 obtain ⟨K, h⟩ := h
 exact ⟨K, h K (Nat.le_refl _)⟩
theorem nowE {α : Type} (r : α) : Ev (fun _ => some r) r := ⟨0, fun _ _ => rfl⟩
theorem ofE {α : Type} {g : Nat → Option α} {r : α} (hg : ∀ k, LeO (g k) (g (k + 1))) {k : Nat} (h : g k = some r) : Ev g r := by
 refine ⟨k, fun n hn => ?_⟩
 induction n with
 | zero => rw [show k = 0 by omega] at h; exact h
 | succ n ih =>
  by_cases e : k = n + 1
  ·
   rw [← e]; exact h
  ·
   exact hg n r (ih (by omega))
end Go.Proofs.YtifpomknkjegeaaDoor.Hlp
