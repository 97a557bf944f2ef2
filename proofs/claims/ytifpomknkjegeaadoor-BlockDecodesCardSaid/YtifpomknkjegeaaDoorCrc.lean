import Derived.Test.YtifpomknkjegeaaDoorByt
namespace SG
open Go
def P32 : BitVec 32 := 2197175160#32
def stepB (v : BitVec 32) : BitVec 32 := (v >>> 1) ^^^ (P32 &&& -(v &&& 1#32))
theorem and_one (v : BitVec 32) : v &&& 1#32 = 0#32 ∨ v &&& 1#32 = 1#32 := by
 have h : (v &&& 1#32).toNat = v.toNat % 2 := by
  rw [BitVec.toNat_and]
  exact Nat.and_one_is_mod _
 rcases Nat.mod_two_eq_zero_or_one v.toNat with h0 | h1
 ·
  left; apply BitVec.eq_of_toNat_eq; rw [h, h0]; rfl
 ·
  right; apply BitVec.eq_of_toNat_eq; rw [h, h1]; rfl
theorem stepB_if (v : BitVec 32) : stepB v = if v &&& 1#32 = 1#32 then (v >>> 1) ^^^ P32 else v >>> 1 := by
 unfold stepB
 rcases and_one v with h | h <;> rw [h]
 ·
  rw [if_neg (by decide)]
  have : P32 &&& -(0#32) = 0#32 := by decide
  rw [this, BitVec.xor_zero]
 ·
  rw [if_pos rfl]
  have : P32 &&& -(1#32) = P32 := by decide
  rw [this]
theorem bits_xor (a b : BitVec 32) : bits .xor .u32 (a.toNat : Int) (b.toNat : Int) = ((a ^^^ b).toNat : Int) := by
 have ha := (a ^^^ b).isLt
 show IntKind.u32.wrap ((BitVec.ofInt 32 (a.toNat : Int) ^^^ BitVec.ofInt 32 (b.toNat : Int)).toNat : Int) = _
 rw [BitVec.ofInt_natCast, BitVec.ofInt_natCast, BitVec.ofNat_toNat, BitVec.ofNat_toNat, BitVec.setWidth_eq, BitVec.setWidth_eq, IntKind.wrap_u32]
 omega
theorem bits_and (a b : BitVec 32) : bits .and .u32 (a.toNat : Int) (b.toNat : Int) = ((a &&& b).toNat : Int) := by
 have ha := (a &&& b).isLt
 show IntKind.u32.wrap ((BitVec.ofInt 32 (a.toNat : Int) &&& BitVec.ofInt 32 (b.toNat : Int)).toNat : Int) = _
 rw [BitVec.ofInt_natCast, BitVec.ofInt_natCast, BitVec.ofNat_toNat, BitVec.ofNat_toNat, BitVec.setWidth_eq, BitVec.setWidth_eq, IntKind.wrap_u32]
 omega
theorem neg_int (a : BitVec 32) : (-(a.toNat : Int)) % 4294967296 = ((-a).toNat : Int) := by
 have ha := a.isLt
 rw [BitVec.toNat_neg]
 omega
theorem half_int (a : BitVec 32) : (a.toNat : Int) / (2 : Int) = ((a >>> 1).toNat : Int) := by
 rw [BitVec.toNat_ushiftRight]
 simp [Nat.shiftRight_eq_div_pow]
theorem one_int : (1 : Int) = ((1#32 : BitVec 32).toNat : Int) := rfl
theorem p_int : (2197175160 : Int) = (P32.toNat : Int) := rfl
theorem all_int : (4294967295 : Int) = ((BitVec.allOnes 32).toNat : Int) := rfl
theorem step_int (v : BitVec 32) : bits .xor .u32 ((v.toNat : Int) / 2) (bits .and .u32 2197175160 ((-(bits .and .u32 (v.toNat : Int) 1)) % 4294967296)) = ((stepB v).toNat : Int) := by
 rw [one_int, p_int, bits_and, neg_int, bits_and, half_int, bits_xor]
 rfl
theorem step_ref1 (v : BitVec 32) (h : bits .and .u32 (v.toNat : Int) 1 = 1) : bits .xor .u32 ((v.toNat : Int) / 2) 2197175160 = ((stepB v).toNat : Int) := by
 rw [one_int, bits_and] at h
 have h2 : v &&& 1#32 = 1#32 := BitVec.eq_of_toNat_eq (by exact_mod_cast h)
 rw [p_int, half_int, bits_xor, stepB_if, if_pos h2]
theorem step_ref0 (v : BitVec 32) (h : ¬ bits .and .u32 (v.toNat : Int) 1 = 1) : (v.toNat : Int) / 2 = ((stepB v).toNat : Int) := by
 have h2 : ¬ v &&& 1#32 = 1#32 := by
  intro h2
  apply h
  rw [one_int, bits_and, h2]
 rw [half_int, stepB_if, if_neg h2]
def byteV (b : UInt8) : BitVec 32 := BitVec.ofNat 32 b.toNat
theorem byteV_toNat (b : UInt8) : (byteV b).toNat = b.toNat := by
 have := b.toNat_lt
 simp only [byteV, BitVec.toNat_ofNat]
 omega
def step8 (v : BitVec 32) : BitVec 32 := stepB (stepB (stepB (stepB (stepB (stepB (stepB (stepB v)))))))
def byteB (v : BitVec 32) (b : UInt8) : BitVec 32 := step8 (v ^^^ byteV b)
def crc (v : BitVec 32) (l : List UInt8) : BitVec 32 := l.foldl byteB v
def sum (l : List UInt8) : BitVec 32 := crc (BitVec.allOnes 32) l ^^^ BitVec.allOnes 32
theorem crc_append (v : BitVec 32) (a b : List UInt8) : crc v (a ++ b) = crc (crc v a) b := by simp [crc, List.foldl_append]
theorem byte_int (v : BitVec 32) (b : UInt8) : bits .xor .u32 (v.toNat : Int) ((b.toNat : Int) % 4294967296) = ((v ^^^ byteV b).toNat : Int) := by
 have h : ((b.toNat : Int) % 4294967296) = ((byteV b).toNat : Int) := by
  have := b.toNat_lt
  rw [byteV_toNat]
  omega
 rw [h, bits_xor]
theorem stepB_xor (a b : BitVec 32) : stepB (a ^^^ b) = stepB a ^^^ stepB b := by
 have h1 : (a ^^^ b) >>> 1 = (a >>> 1) ^^^ (b >>> 1) := by ext i; simp
 have h2 : (a ^^^ b) &&& 1#32 = (a &&& 1#32) ^^^ (b &&& 1#32) := by
  apply BitVec.eq_of_getLsbD_eq
  intro i hi
  simp only [BitVec.getLsbD_and, BitVec.getLsbD_xor]
  cases a.getLsbD i <;> cases b.getLsbD i <;> cases (1#32).getLsbD i <;> rfl
 unfold stepB
 rw [h1, h2]
 rcases and_one a with ha | ha <;> rcases and_one b with hb | hb <;> rw [ha, hb]
 ·
  have e : P32 &&& -(0#32) = 0#32 := by decide
  have e2 : (0#32 : BitVec 32) ^^^ 0#32 = 0#32 := by decide
  rw [e2, e]
  simp
 ·
  have e : P32 &&& -(0#32) = 0#32 := by decide
  have e2 : (0#32 : BitVec 32) ^^^ 1#32 = 1#32 := by decide
  rw [e2, e]
  simp [BitVec.xor_assoc]
 ·
  have e : P32 &&& -(0#32) = 0#32 := by decide
  have e2 : (1#32 : BitVec 32) ^^^ 0#32 = 1#32 := by decide
  rw [e2, e]
  rw [BitVec.xor_zero, BitVec.xor_assoc, BitVec.xor_assoc, BitVec.xor_comm (b >>> 1)]
 ·
  have e : P32 &&& -(0#32) = 0#32 := by decide
  have e2 : (1#32 : BitVec 32) ^^^ 1#32 = 0#32 := by decide
  have e3 : P32 &&& -(1#32) = P32 := by decide
  rw [e2, e, e3, BitVec.xor_zero]
  rw [BitVec.xor_assoc, ← BitVec.xor_assoc P32, BitVec.xor_comm P32 (b >>> 1), BitVec.xor_assoc (b >>> 1), BitVec.xor_self, BitVec.xor_zero]
theorem stepB_zero : stepB 0#32 = 0#32 := by decide
theorem stepB_inj0 (a : BitVec 32) (h : stepB a = 0#32) : a = 0#32 := by
 rw [stepB_if] at h
 by_cases h1 : a &&& 1#32 = 1#32
 ·
  rw [if_pos h1] at h
  exfalso
  have h2 : a >>> 1 = P32 := by
   have := congrArg (· ^^^ P32) h
   simpa [BitVec.xor_assoc] using this
  have h3 : (a >>> 1).toNat < 2147483648 := by
   have := a.isLt
   rw [BitVec.toNat_ushiftRight, Nat.shiftRight_eq_div_pow]
   omega
  rw [h2] at h3
  exact absurd h3 (by decide)
 ·
  rw [if_neg h1] at h
  have h0 := (and_one a).resolve_right h1
  have e1 : (a &&& 1#32).toNat = a.toNat % 2 := by rw [BitVec.toNat_and]; exact Nat.and_one_is_mod _
  have e2 : (a >>> 1).toNat = a.toNat / 2 := by rw [BitVec.toNat_ushiftRight, Nat.shiftRight_eq_div_pow]
  rw [h0] at e1
  rw [h] at e2
  apply BitVec.eq_of_toNat_eq
  have z : (0#32 : BitVec 32).toNat = 0 := rfl
  rw [z] at e1 e2 ⊢
  omega
theorem step8_xor (a b : BitVec 32) : step8 (a ^^^ b) = step8 a ^^^ step8 b := by
 unfold step8
 simp only [stepB_xor]
theorem step8_inj0 (a : BitVec 32) (h : step8 a = 0#32) : a = 0#32 := by
 unfold step8 at h
 exact stepB_inj0 _ (stepB_inj0 _ (stepB_inj0 _ (stepB_inj0 _ (stepB_inj0 _ (stepB_inj0 _ (stepB_inj0 _ (stepB_inj0 _ h)))))))
theorem xor_eq_zero {a b : BitVec 32} (h : a ^^^ b = 0#32) : a = b := by
 have := congrArg (· ^^^ b) h
 simpa [BitVec.xor_assoc] using this
theorem step8_inj {a b : BitVec 32} (h : step8 a = step8 b) : a = b := by
 apply xor_eq_zero
 apply step8_inj0
 rw [step8_xor, h, BitVec.xor_self]
end SG
