import Derived.Laws.BytesArg
import Derived.Laws.BitsLemmas
import Derived.KernelRfl
import Derived.RowKit
namespace SG
open Go Go.RowKit
def mk (l : List UInt8) : ByteArray := ⟨l.toArray⟩
theorem mk_data (l : List UInt8) : (mk l).data.toList = l := rfl
theorem mk_of (s : ByteArray) : mk s.data.toList = s := rfl
theorem mk_size (l : List UInt8) : (mk l).size = l.length := by simp [mk, ByteArray.size]
theorem mk_inj {a b : List UInt8} (h : mk a = mk b) : a = b := by
 exact congrArg (fun s => s.data.toList) h
theorem ex_mk (s : ByteArray) : ∃ l, s = mk l := ⟨s.data.toList, rfl⟩
theorem mk_append (a b : List UInt8) : mk a ++ mk b = mk (a ++ b) := by
 apply ByteArray.ext
 rw [ByteArray.data_append]
 simp [mk]
theorem mk_extract (l : List UInt8) (i j : Nat) : (mk l).extract i j = mk ((l.drop i).take (j - i)) := by
 apply ByteArray.ext
 rw [ByteArray.data_extract]
 simp [mk, List.extract_eq_take_drop]
theorem loop_eq (s : ByteArray) (d : Nat) : ∀ (i : Nat) (r : List UInt8), s.size - i = d → ByteArray.toList.loop s i r = r.reverse ++ s.data.toList.drop i := by
 induction d with
 | zero =>
  intro i r h
  unfold ByteArray.toList.loop
  have h1 : ¬ i < s.size := by omega
  have h2 : s.data.toList.drop i = [] := List.drop_eq_nil_of_le (by simpa using Nat.le_of_not_lt h1)
  simp [h1, h2]
 | succ d ih =>
  intro i r h
  unfold ByteArray.toList.loop
  have h1 : i < s.size := by omega
  have h2 : i < s.data.toList.length := by simpa using h1
  rw [if_pos h1, ih (i + 1) _ (by omega), List.drop_eq_getElem_cons h2]
  have h3 : s.get! i = s.data.toList[i] := by
   have : i < s.data.size := h1
   simp only [ByteArray.get!]
   rw [getElem!_pos s.data i this]
   simp
  simp [h3]
theorem toList_eq (s : ByteArray) : s.toList = s.data.toList := by
 show ByteArray.toList.loop s 0 [] = _
 rw [loop_eq s s.size 0 [] (by omega)]
 simp
theorem mk_toList (l : List UInt8) : (mk l).toList = l := by rw [toList_eq, mk_data]
theorem nums_mk (xs : List Int) : strOfNums xs = mk (xs.map fun n => UInt8.ofNat n.toNat) := rfl
def four (n : Nat) : List UInt8 := [UInt8.ofNat (n / 16777216), UInt8.ofNat (n / 65536), UInt8.ofNat (n / 256), UInt8.ofNat n]
theorem four_length (n : Nat) : (four n).length = 4 := rfl
theorem four_nums (n : Nat) : strOfNums [((n : Int) / 16777216) % 256, ((n : Int) / 65536) % 256, ((n : Int) / 256) % 256, (n : Int) % 256] = mk (four n) := by
 rw [nums_mk]
 have h : ∀ m : Nat, UInt8.ofNat (((m : Int) % 256).toNat) = UInt8.ofNat m := by
  intro m
  have : (((m : Int) % 256).toNat) = m % 256 := by omega
  rw [this]
  apply UInt8.toNat.inj
  simp
 simp only [List.map_cons, List.map_nil, four]
 have h1 : ((n : Int) / 16777216) = ((n / 16777216 : Nat) : Int) := by omega
 have h2 : ((n : Int) / 65536) = ((n / 65536 : Nat) : Int) := by omega
 have h3 : ((n : Int) / 256) = ((n / 256 : Nat) : Int) := by omega
 rw [h1, h2, h3, h, h, h, h]
def num4 (l : List UInt8) : Nat := (l.getD 0 0).toNat * 16777216 + (l.getD 1 0).toNat * 65536 + (l.getD 2 0).toNat * 256 + (l.getD 3 0).toNat
theorem num4_lt (l : List UInt8) : num4 l < 4294967296 := by
 unfold num4
 have h0 := (l.getD 0 0).toNat_lt
 have h1 := (l.getD 1 0).toNat_lt
 have h2 := (l.getD 2 0).toNat_lt
 have h3 := (l.getD 3 0).toNat_lt
 omega
theorem num4_four (n : Nat) (h : n < 4294967296) (r : List UInt8) : num4 (four n ++ r) = n := by
 simp only [num4, four, List.cons_append, List.getD_cons_zero, List.getD_cons_succ, List.nil_append, UInt8.toNat_ofNat']
 omega
theorem four_num4 (l : List UInt8) (h : l.length = 4) : four (num4 l) = l := by
 match l, h with
 | [a, b, c, d], _ =>
  have ha := a.toNat_lt
  have hb := b.toNat_lt
  have hc := c.toNat_lt
  have hd := d.toNat_lt
  simp only [four, num4, List.getD_cons_zero, List.getD_cons_succ]
  refine List.cons_eq_cons.2 ⟨?_, List.cons_eq_cons.2 ⟨?_, List.cons_eq_cons.2 ⟨?_, List.cons_eq_cons.2 ⟨?_, rfl⟩⟩⟩⟩ <;>
  ·
   apply UInt8.toNat.inj
   simp only [UInt8.toNat_ofNat']
   omega
theorem num4_take (l : List UInt8) (n : Nat) (h : 4 ≤ n) : num4 (l.take n) = num4 l := by
 simp only [num4, List.getD_eq_getElem?_getD, List.getElem?_take]
 rw [if_pos (by omega), if_pos (by omega), if_pos (by omega), if_pos (by omega)]
theorem wraps_u32 (n : Int) (h₀ : 0 ≤ n) (h₁ : n < 2 ^ 32) : IntKind.u32.wrap n = n := by rw [IntKind.wrap_u32]; omega
theorem wraps_i64 (n : Int) (h₀ : 0 ≤ n) (h₁ : n < 2 ^ 63) : IntKind.i64.wrap n = n := by rw [IntKind.wrap_i64]; omega
theorem w64 {n : Int} (h0 : -9223372036854775808 ≤ n) (h1 : n ≤ 9223372036854775807) : wrap64 n = n := by unfold wrap64; omega
theorem or4 (k : IntKind) (j : Nat) (hj : j ≤ k.bits) (h32 : 32 ≤ j) (hk : ∀ n : Int, 0 ≤ n → n < 2 ^ j → k.wrap n = n) (a b c d : Int) (ha : 0 ≤ a ∧ a ≤ 255) (hb : 0 ≤ b ∧ b ≤ 255) (hc : 0 ≤ c ∧ c ≤ 255) (hd : 0 ≤ d ∧ d ≤ 255) :
  bits .or k (bits .or k (bits .or k (a * 16777216) (b * 65536)) (c * 256)) d = a * 16777216 + b * 65536 + c * 256 + d := by
 have hp : (4294967296 : Int) ≤ 2 ^ j := by
  have : (2 : Nat) ^ 32 ≤ 2 ^ j := Nat.pow_le_pow_right (by decide) h32
  have h2 : ((2 ^ 32 : Nat) : Int) ≤ ((2 ^ j : Nat) : Int) := Int.ofNat_le.2 this
  simpa using h2
 rw [bits_join k j hj hk 24 (a * 16777216) (b * 65536) (by omega) (by omega) (by omega) (by omega) (by omega) (by omega)]
 rw [bits_join k j hj hk 16 (a * 16777216 + b * 65536) (c * 256) (by omega) (by omega) (by omega) (by omega) (by omega) (by omega)]
 rw [bits_join k j hj hk 8 (a * 16777216 + b * 65536 + c * 256) d (by omega) (by omega) (by omega) (by omega) (by omega) (by omega)]
theorem or4_u32 (a b c d : Int) (ha : 0 ≤ a ∧ a ≤ 255) (hb : 0 ≤ b ∧ b ≤ 255) (hc : 0 ≤ c ∧ c ≤ 255) (hd : 0 ≤ d ∧ d ≤ 255) :
  bits .or .u32 (bits .or .u32 (bits .or .u32 (((a % 4294967296) * 16777216) % 4294967296) (((b % 4294967296) * 65536) % 4294967296)) (((c % 4294967296) * 256) % 4294967296)) (d % 4294967296) = a * 16777216 + b * 65536 + c * 256 + d := by
 have e1 : ((a % 4294967296) * 16777216) % 4294967296 = a * 16777216 := by omega
 have e2 : ((b % 4294967296) * 65536) % 4294967296 = b * 65536 := by omega
 have e3 : ((c % 4294967296) * 256) % 4294967296 = c * 256 := by omega
 have e4 : d % 4294967296 = d := by omega
 rw [e1, e2, e3, e4]
 exact or4 .u32 32 (by decide) (Nat.le_refl _) wraps_u32 a b c d ha hb hc hd
theorem or4_i64 (a b c d : Int) (ha : 0 ≤ a ∧ a ≤ 255) (hb : 0 ≤ b ∧ b ≤ 255) (hc : 0 ≤ c ∧ c ≤ 255) (hd : 0 ≤ d ∧ d ≤ 255) :
  bits .or .i64 (bits .or .i64 (bits .or .i64 (wrap64 ((wrap64 a) * 16777216)) (wrap64 ((wrap64 b) * 65536))) (wrap64 ((wrap64 c) * 256))) (wrap64 d) = a * 16777216 + b * 65536 + c * 256 + d := by
 rw [w64 (n := a) (by omega) (by omega), w64 (n := b) (by omega) (by omega), w64 (n := c) (by omega) (by omega), w64 (n := d) (by omega) (by omega)]
 rw [w64 (by omega) (by omega), w64 (by omega) (by omega), w64 (by omega) (by omega)]
 exact or4 .i64 63 (by decide) (by decide) wraps_i64 a b c d ha hb hc hd
end SG
