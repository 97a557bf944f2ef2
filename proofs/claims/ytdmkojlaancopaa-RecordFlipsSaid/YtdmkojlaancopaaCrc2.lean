import Derived.Test.YtdmkojlaancopaaRec
namespace SG
open Go

/-! A sum tells a burst. -/
theorem and_one_mod (v : BitVec 32) : (v &&& 1#32).toNat = v.toNat % 2 := by
  rw [BitVec.toNat_and]
  exact Nat.and_one_is_mod _

theorem stepB_even (v : BitVec 32) (h : v.toNat % 2 = 0) : (stepB v).toNat = v.toNat / 2 := by
  have h1 : ¬ v &&& 1#32 = 1#32 := by
    intro e
    have := and_one_mod v
    rw [e, h] at this
    exact absurd this (by decide)
  rw [stepB_if, if_neg h1, BitVec.toNat_ushiftRight, Nat.shiftRight_eq_div_pow]

theorem step8_shift (z : BitVec 32) (h : z.toNat < 16777216) : step8 (z <<< 8) = z := by
  have h0 : (z <<< 8).toNat = z.toNat * 256 := by
    rw [BitVec.toNat_shiftLeft, Nat.shiftLeft_eq]
    omega
  apply BitVec.eq_of_toNat_eq
  generalize z <<< 8 = x at h0
  unfold step8
  have e1 := stepB_even x (by omega)
  generalize stepB x = x1 at e1
  have e2 := stepB_even x1 (by omega)
  generalize stepB x1 = x2 at e2
  have e3 := stepB_even x2 (by omega)
  generalize stepB x2 = x3 at e3
  have e4 := stepB_even x3 (by omega)
  generalize stepB x3 = x4 at e4
  have e5 := stepB_even x4 (by omega)
  generalize stepB x4 = x5 at e5
  have e6 := stepB_even x5 (by omega)
  generalize stepB x5 = x6 at e6
  have e7 := stepB_even x6 (by omega)
  generalize stepB x6 = x7 at e7
  have e8 := stepB_even x7 (by omega)
  generalize stepB x7 = x8 at e8
  omega

/-- Two bytes' difference. -/
theorem byteV_xor (a b : UInt8) : byteV (a ^^^ b) = byteV a ^^^ byteV b := by
  apply BitVec.eq_of_toNat_eq
  rw [BitVec.toNat_xor, byteV_toNat, byteV_toNat, byteV_toNat, UInt8.toNat_xor]

theorem byteB_diff (u v : BitVec 32) (x d : UInt8) : byteB u x ^^^ byteB v (x ^^^ d) = step8 ((u ^^^ v) ^^^ byteV d) := by
  unfold byteB
  rw [← step8_xor, byteV_xor]
  refine congrArg step8 ?_
  rw [← BitVec.xor_assoc, BitVec.xor_assoc u, BitVec.xor_comm (byteV x), ← BitVec.xor_assoc u, BitVec.xor_assoc (u ^^^ v), ← BitVec.xor_assoc (byteV x), BitVec.xor_self, BitVec.zero_xor]

theorem xor_cancel {a b c : BitVec 32} (h : a ^^^ b = c) : a = c ^^^ b := by rw [← h, BitVec.xor_assoc, BitVec.xor_self, BitVec.xor_zero]

theorem zero_parts (z : BitVec 32) (d : UInt8) (h : z.toNat < 16777216) (e : (z <<< 8) ^^^ byteV d = 0#32) : z = 0#32 ∧ d = 0 := by
  have h1 := congrArg BitVec.toNat (xor_eq_zero e)
  rw [BitVec.toNat_shiftLeft, Nat.shiftLeft_eq, byteV_toNat] at h1
  have h2 := d.toNat_lt
  have h3 : z.toNat = 0 ∧ d.toNat = 0 := by omega
  exact ⟨BitVec.eq_of_toNat_eq h3.1, UInt8.toNat.inj h3.2⟩

theorem shift_lt (z : BitVec 32) (d : UInt8) (n : Nat) (hn : 8 ≤ n) (h : z.toNat * 256 < 2 ^ n) : ((z <<< 8) ^^^ byteV d).toNat < 2 ^ n := by
  rw [BitVec.toNat_xor, byteV_toNat]
  refine Nat.xor_lt_two_pow ?_ ?_
  · rw [BitVec.toNat_shiftLeft, Nat.shiftLeft_eq]
    exact Nat.lt_of_le_of_lt (Nat.mod_le _ _) h
  · have := d.toNat_lt
    exact Nat.lt_of_lt_of_le this (Nat.pow_le_pow_right (by decide) hn)

theorem burst (v : BitVec 32) (x0 x1 x2 x3 d0 d1 d2 d3 : UInt8)
    (h : crc v [x0, x1, x2, x3] = crc v [x0 ^^^ d0, x1 ^^^ d1, x2 ^^^ d2, x3 ^^^ d3]) : d0 = 0 ∧ d1 = 0 ∧ d2 = 0 ∧ d3 = 0 := by
  simp only [crc, List.foldl_cons, List.foldl_nil] at h
  have e1 := byteB_diff v v x0 d0
  rw [BitVec.xor_self] at e1
  generalize byteB v x0 = u1 at h e1
  generalize byteB v (x0 ^^^ d0) = v1 at h e1
  have e2 := byteB_diff u1 v1 x1 d1
  generalize byteB u1 x1 = u2 at h e2
  generalize byteB v1 (x1 ^^^ d1) = v2 at h e2
  have e3 := byteB_diff u2 v2 x2 d2
  generalize byteB u2 x2 = u3 at h e3
  generalize byteB v2 (x2 ^^^ d2) = v3 at h e3
  have e4 := byteB_diff u3 v3 x3 d3
  rw [h, BitVec.xor_self] at e4
  generalize u1 ^^^ v1 = D1 at e1 e2
  generalize u2 ^^^ v2 = D2 at e2 e3
  generalize u3 ^^^ v3 = D3 at e3 e4
  have f3 : D3 = byteV d3 := xor_eq_zero (step8_inj0 _ e4.symm)
  have l3 : D3.toNat < 256 := by rw [f3, byteV_toNat]; exact d3.toNat_lt
  have f2 : D2 = (D3 <<< 8) ^^^ byteV d2 := by
    apply xor_cancel
    apply step8_inj
    rw [← e3, step8_shift D3 (by omega)]
  have l2 : D2.toNat < 2 ^ 16 := by rw [f2]; exact shift_lt D3 d2 16 (by decide) (by omega)
  have f1 : D1 = (D2 <<< 8) ^^^ byteV d1 := by
    apply xor_cancel
    apply step8_inj
    rw [← e2, step8_shift D2 (by omega)]
  have l1 : D1.toNat < 2 ^ 24 := by rw [f1]; exact shift_lt D2 d1 24 (by decide) (by omega)
  have f0 : 0#32 = (D1 <<< 8) ^^^ byteV d0 := by
    apply xor_cancel
    apply step8_inj
    rw [← e1, step8_shift D1 (by omega)]
  obtain ⟨z1, y0⟩ := zero_parts D1 d0 (by omega) f0.symm
  rw [z1] at f1
  obtain ⟨z2, y1⟩ := zero_parts D2 d1 (by omega) f1.symm
  rw [z2] at f2
  obtain ⟨z3, y2⟩ := zero_parts D3 d2 (by omega) f2.symm
  rw [z3] at f3
  have y3 : d3 = 0 := by
    have := congrArg BitVec.toNat f3
    rw [byteV_toNat] at this
    exact UInt8.toNat.inj this.symm
  exact ⟨y0, y1, y2, y3⟩

theorem crc_inj (l : By) : ∀ (u v : BitVec 32), crc u l = crc v l → u = v := by
  induction l with
  | nil => intro u v h; exact h
  | cons x r ih =>
    intro u v h
    have h1 : byteB u x = byteB v x := ih _ _ h
    unfold byteB at h1
    have h2 := step8_inj h1
    exact (xor_cancel h2).trans (by rw [BitVec.xor_assoc, BitVec.xor_self, BitVec.xor_zero])

/-- Four bytes side by side, turned. -/
theorem crc_flip (v : BitVec 32) (a b : By) (x0 x1 x2 x3 d0 d1 d2 d3 : UInt8) (h : crc v (a ++ ([x0, x1, x2, x3] ++ b)) = crc v (a ++ ([x0 ^^^ d0, x1 ^^^ d1, x2 ^^^ d2, x3 ^^^ d3] ++ b))) :
    d0 = 0 ∧ d1 = 0 ∧ d2 = 0 ∧ d3 = 0 := by
  rw [crc_append, crc_append, crc_append v a, crc_append (crc v a)] at h
  exact burst _ _ _ _ _ _ _ _ _ (crc_inj b _ _ h)

theorem sum_flip (a b : By) (x0 x1 x2 x3 d0 d1 d2 d3 : UInt8) (h : sum (a ++ ([x0, x1, x2, x3] ++ b)) = sum (a ++ ([x0 ^^^ d0, x1 ^^^ d1, x2 ^^^ d2, x3 ^^^ d3] ++ b))) :
    d0 = 0 ∧ d1 = 0 ∧ d2 = 0 ∧ d3 = 0 := by
  unfold sum at h
  exact crc_flip _ a b _ _ _ _ _ _ _ _ ((xor_cancel h).trans (by rw [BitVec.xor_assoc, BitVec.xor_self, BitVec.xor_zero]))

/-- A record whose text is another one of the same length, and its sum as it was. -/
theorem nextR_text (s t : By) (hl : t.length = s.length) (h : s.length ≤ 4096) (hs : sum (four s.length ++ t) ≠ sum (four s.length ++ s)) :
    nextR (four s.length ++ (four (sum (four s.length ++ s)).toNat ++ t)) = ([], 0, 4) := by
  have hn : num4 (four s.length ++ (four (sum (four s.length ++ s)).toNat ++ t)) = s.length := num4_four _ (by omega) _
  unfold nextR
  rw [hn]
  have hlen : (four s.length ++ (four (sum (four s.length ++ s)).toNat ++ t)).length = 8 + s.length := by
    simp only [List.length_append, four_length, hl]
    omega
  rw [hlen, if_neg (by omega), if_neg (by omega), if_neg (by omega), if_neg]
  have e1 : (four s.length ++ (four (sum (four s.length ++ s)).toNat ++ t)).take 4 = four s.length := List.take_left' (four_length _)
  have e2 : (four s.length ++ (four (sum (four s.length ++ s)).toNat ++ t)).drop 4 = four (sum (four s.length ++ s)).toNat ++ t := List.drop_left' (four_length _)
  have e3 : (four s.length ++ (four (sum (four s.length ++ s)).toNat ++ t)).drop 8 = t := by
    rw [← List.append_assoc]
    exact List.drop_left' (by simp [four_length])
  rw [e1, e2, e3, num4_four _ (BitVec.isLt _), List.take_of_length_le (by omega)]
  intro e
  exact hs (BitVec.eq_of_toNat_eq e)

/-- A record whose sum is another one. -/
theorem nextR_sum (s c : By) (hc : c.length = 4) (h : s.length ≤ 4096) (hs : c ≠ four (sum (four s.length ++ s)).toNat) : nextR (four s.length ++ (c ++ s)) = ([], 0, 4) := by
  have hn : num4 (four s.length ++ (c ++ s)) = s.length := num4_four _ (by omega) _
  unfold nextR
  rw [hn]
  have hlen : (four s.length ++ (c ++ s)).length = 8 + s.length := by
    simp only [List.length_append, four_length, hc]
    omega
  rw [hlen, if_neg (by omega), if_neg (by omega), if_neg (by omega), if_neg]
  have e1 : (four s.length ++ (c ++ s)).take 4 = four s.length := List.take_left' (four_length _)
  have e2 : (four s.length ++ (c ++ s)).drop 4 = c ++ s := List.drop_left' (four_length _)
  have e3 : (four s.length ++ (c ++ s)).drop 8 = s := by
    rw [← List.append_assoc]
    exact List.drop_left' (by simp [four_length, hc])
  rw [e1, e2, e3, List.take_of_length_le (Nat.le_refl _)]
  intro e
  apply hs
  rw [e, ← num4_take (c ++ s) 4 (Nat.le_refl _), List.take_left' hc]
  exact (four_num4 c hc).symm
end SG
