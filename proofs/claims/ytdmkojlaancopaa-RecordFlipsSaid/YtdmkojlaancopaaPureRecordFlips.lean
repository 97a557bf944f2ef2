/- Whatever the text, the place and the bits that are others: a record of which up to 32 bits side by side, within its sum or within its text, are others is refused for its sum. No condition. -/
import Derived.Test.YtdmkojlaancopaaFun3
import Derived.Test.YtdmkojlaancopaaCrc2
import Derived.Test.YtdmkojlaancopaaPAllx5
namespace Go.Proofs.Ytdmkojlaancopaa.Pure
open Go.RowKit Go.Proofs.Ytdmkojlaancopaa.PAll Go.Proofs.YtdmkojlaancopaaW.PrintWords Go.Proofs.YtdmkojlaancopaaW.PrintLast Go.Proofs.YtdmkojlaancopaaW.PrintMore SG Go.Proofs.Ytdmkojlaancopaa.Fun

/-- The byte of 'by' that round i takes. -/
def part (n : Int) (i : Nat) : UInt8 := UInt8.ofNat (n / 2 ^ (8 * i)).toNat

theorem xor_u8 (x : UInt8) (n : Int) (h : 0 ≤ n) : Go.bits .xor .u8 (x.toNat : Int) (n % 256) = ((x ^^^ UInt8.ofNat n.toNat).toNat : Int) := by
  have e : n % 256 = ((UInt8.ofNat n.toNat).toNat : Int) := by
    rw [UInt8.toNat_ofNat']
    omega
  rw [e]
  generalize UInt8.ofNat n.toNat = d
  show IntKind.u8.wrap ((BitVec.ofInt 8 (x.toNat : Int) ^^^ BitVec.ofInt 8 (d.toNat : Int)).toNat : Int) = _
  have hx := x.toNat_lt
  have hd := d.toNat_lt
  have hb := (x ^^^ d).toNat_lt
  rw [UInt8.toNat_xor] at hb
  rw [BitVec.ofInt_natCast, BitVec.ofInt_natCast, BitVec.toNat_xor, BitVec.toNat_ofNat, BitVec.toNat_ofNat, Nat.mod_eq_of_lt (show x.toNat < 2 ^ 8 from hx), Nat.mod_eq_of_lt (show d.toNat < 2 ^ 8 from hd), IntKind.wrap_u8, UInt8.toNat_xor]
  omega

theorem bytesOf_mk (l : By) : bytesOf (mk l) = l.map fun b => (b.toNat : Int) := by simp [bytesOf, mk]

theorem rd_at (A B : By) (x : UInt8) : rd (bytesOf (mk (A ++ x :: B))) (A.length : Int) = (x.toNat : Int) := by
  rw [bytesOf_mk]
  simp [rd, List.getD_eq_getElem?_getD]

theorem set_at (A B : By) (x y : UInt8) : (bytesOf (mk (A ++ x :: B))).set A.length (y.toNat : Int) = bytesOf (mk (A ++ y :: B)) := by
  rw [bytesOf_mk, bytesOf_mk, List.map_append, List.set_append_right _ _ (by simp)]
  simp

theorem flip_step (k : Nat) (n : Int) (hn : 0 ≤ n) (A B : By) (x : UInt8) (p i : Nat) (hi : i < 4) (hp : A.length = p + i) (hl : p ≤ 1000000) (hB : B.length ≤ 1000000) :
    sandglasslaw17_RecordFlips.l0 (k + 1) n (bytesOf (mk (A ++ x :: B))) (p : Int) (i : Int) = sandglasslaw17_RecordFlips.l0 k n (bytesOf (mk (A ++ (x ^^^ part n i) :: B))) (p : Int) ((i + 1 : Nat) : Int) := by
  have hlen : (bytesOf (mk (A ++ x :: B))).length = p + i + 1 + B.length := by
    rw [bytesOf_len]
    simp only [List.length_append, List.length_cons, hp]
    omega
  have c1 : (i : Int) < 4 := by omega
  have c2 : 0 ≤ (A.length : Int) := by omega
  have c3 : (A.length : Int) < ((bytesOf (mk (A ++ x :: B))).length : Int) := by rw [hlen, hp]; omega
  have c4 : 0 ≤ ((8 * i : Nat) : Int) := by omega
  have e1 : wrap64 ((p : Int) + (i : Int)) = (A.length : Int) := by rw [w64 (by omega) (by omega), hp]; omega
  have wu : ∀ x : Int, IntKind.u64.wrap x = x % 18446744073709551616 := fun x => by simp [IntKind.wrap, IntKind.bits, IntKind.signed]
  have e2 : IntKind.u64.wrap (wrap64 (8 * (i : Int))) = ((8 * i : Nat) : Int) := by rw [w64 (by omega) (by omega), wu]; omega
  have e3 : shr .u32 n ((8 * i : Nat) : Int) = n / 2 ^ (8 * i) := by
    unfold shr
    rw [Int.toNat_natCast, Nat.min_eq_left (by show 8 * i ≤ 32; omega)]
  have e4 : wrap64 ((i : Int) + 1) = ((i + 1 : Nat) : Int) := by rw [w64 (by omega) (by omega)]; omega
  have h0 : 0 ≤ n / 2 ^ (8 * i) := Int.ediv_nonneg hn (by exact_mod_cast Nat.zero_le _)
  have e5 : part n i = UInt8.ofNat (n / 2 ^ (8 * i)).toNat := rfl
  generalize hZ : bytesOf (mk (A ++ x :: B)) = Z at c3
  have hr : rd Z (A.length : Int) = (x.toNat : Int) := by rw [← hZ]; exact rd_at A B x
  rw [e5, sandglasslaw17_RecordFlips.l0, if_pos c1, e1, if_pos c2, if_pos c3, e2, if_pos c4, e3, e4, hr, xor_u8 _ _ h0, Int.toNat_natCast, ← hZ, set_at]

theorem flip_all (k : Nat) (n : Int) (hn : 0 ≤ n) (A B : By) (x0 x1 x2 x3 : UInt8) (hl : A.length ≤ 900000) (hB : B.length ≤ 900000) :
    sandglasslaw17_RecordFlips.l0 (k + 4) n (bytesOf (mk (A ++ ([x0, x1, x2, x3] ++ B)))) (A.length : Int) 0 =
    sandglasslaw17_RecordFlips.l0 k n (bytesOf (mk (A ++ ([x0 ^^^ part n 0, x1 ^^^ part n 1, x2 ^^^ part n 2, x3 ^^^ part n 3] ++ B)))) (A.length : Int) 4 := by
  have s0 := flip_step (k + 3) n hn A (x1 :: x2 :: x3 :: B) x0 A.length 0 (by decide) rfl (by omega) (by simp only [List.length_cons]; omega)
  have s1 := flip_step (k + 2) n hn (A ++ [x0 ^^^ part n 0]) (x2 :: x3 :: B) x1 A.length 1 (by decide) (by simp) (by omega) (by simp only [List.length_cons]; omega)
  have s2 := flip_step (k + 1) n hn (A ++ [x0 ^^^ part n 0, x1 ^^^ part n 1]) (x3 :: B) x2 A.length 2 (by decide) (by simp) (by omega) (by simp only [List.length_cons]; omega)
  have s3 := flip_step k n hn (A ++ [x0 ^^^ part n 0, x1 ^^^ part n 1, x2 ^^^ part n 2]) B x3 A.length 3 (by decide) (by simp) (by omega) (by omega)
  simp only [List.append_assoc, List.cons_append, List.nil_append] at s0 s1 s2 s3 ⊢
  exact s0.trans (s1.trans (s2.trans s3))

theorem part_nat (n i : Nat) (h : part (n : Int) i = 0) : n / 2 ^ (8 * i) % 256 = 0 := by
  have h1 := congrArg UInt8.toNat h
  unfold part at h1
  rw [UInt8.toNat_ofNat', show ((n : Int) / 2 ^ (8 * i)) = ((n / 2 ^ (8 * i) : Nat) : Int) by simp, Int.toNat_natCast] at h1
  exact h1

theorem part_zero (n : Int) (h0 : 0 ≤ n) (h1 : n ≤ 4294967295) (e0 : part n 0 = 0) (e1 : part n 1 = 0) (e2 : part n 2 = 0) (e3 : part n 3 = 0) : n = 0 := by
  obtain ⟨m, rfl⟩ := Int.eq_ofNat_of_zero_le h0
  have f0 : m / 1 % 256 = 0 := part_nat m 0 e0
  have f1 : m / 256 % 256 = 0 := part_nat m 1 e1
  have f2 : m / 65536 % 256 = 0 := part_nat m 2 e2
  have f3 : m / 16777216 % 256 = 0 := part_nat m 3 e3
  omega

theorem xor_same {x d : UInt8} (h : x ^^^ d = x) : d = 0 := by
  have h1 := congrArg UInt8.toBitVec h
  rw [UInt8.toBitVec_xor] at h1
  apply UInt8.toBitVec_inj.1
  have h2 : x.toBitVec ^^^ (x.toBitVec ^^^ d.toBitVec) = x.toBitVec ^^^ x.toBitVec := by rw [h1]
  rw [BitVec.xor_self, ← BitVec.xor_assoc, BitVec.xor_self, BitVec.zero_xor] at h2
  exact h2

theorem four_of (l : By) (h : 4 ≤ l.length) : ∃ x0 x1 x2 x3 r, l = [x0, x1, x2, x3] ++ r := by
  match l, h with
  | x0 :: x1 :: x2 :: x3 :: r, _ => exact ⟨x0, x1, x2, x3, r, rfl⟩

/-- What comes behind the four rounds. -/
theorem flip_end (n : Int) (hn : 0 ≤ n) (A B : By) (x0 x1 x2 x3 : UInt8) (hl : A.length + B.length ≤ 900000)
    (h : nextR (A ++ ([x0 ^^^ part n 0, x1 ^^^ part n 1, x2 ^^^ part n 2, x3 ^^^ part n 3] ++ B)) = ([], 0, 4)) :
    Ev (fun k => sandglasslaw17_RecordFlips.j2 k n (bytesOf (mk (A ++ ([x0, x1, x2, x3] ++ B)))) (A.length : Int)) true := by
  have step : Ev (fun k => sandglasslaw17_RecordFlips.l0 k n (bytesOf (mk (A ++ ([x0 ^^^ part n 0, x1 ^^^ part n 1, x2 ^^^ part n 2, x3 ^^^ part n 3] ++ B)))) (A.length : Int) 4) true := by
    refine Ev.step (f := fun k => _) (fun k => by rw [sandglasslaw17_RecordFlips.l0]) ?_
    simp only [if_neg (show ¬ (4 : Int) < 4 by decide)]
    rw [str_bytesOf]
    refine Ev.bind (E_Next _ (by simp only [List.length_append, List.length_cons, List.length_nil]; omega)) ?_
    unfold nextA
    rw [h]
    simp only [mk_toList]
    exact Ev.bind E_awake (Ev.now _)
  refine Ev.step (f := fun k => _) (fun k => by rw [sandglasslaw17_RecordFlips.j2]) ?_
  obtain ⟨K, hK⟩ := step
  refine ⟨K + 4, fun k hk => ?_⟩
  obtain ⟨m, rfl⟩ : ∃ m, k = m + 4 := ⟨k - 4, by omega⟩
  have := flip_all m n hn A B x0 x1 x2 x3 (by omega) (by omega)
  exact this.trans (hK m (by omega))

theorem j2_at4 (s : By) (hs : s.length ≤ 1000) (n : Int) (h0 : 0 ≤ n) (h1 : n ≤ 4294967295) (hne : n ≠ 0) : Ev (fun k => sandglasslaw17_RecordFlips.j2 k n (bytesOf (mk (frame s))) 4) true := by
  have e : frame s = four s.length ++ ([UInt8.ofNat ((sum (four s.length ++ s)).toNat / 16777216), UInt8.ofNat ((sum (four s.length ++ s)).toNat / 65536), UInt8.ofNat ((sum (four s.length ++ s)).toNat / 256), UInt8.ofNat (sum (four s.length ++ s)).toNat] ++ s) := rfl
  rw [e]
  refine flip_end n h0 (four s.length) s _ _ _ _ (by simp only [four_length]; omega) ?_
  refine nextR_sum s _ rfl (by omega) ?_
  intro he
  apply hne
  simp only [four, List.cons.injEq] at he
  exact part_zero n h0 h1 (xor_same he.1) (xor_same he.2.1) (xor_same he.2.2.1) (xor_same he.2.2.2.1)

theorem j2_text (s : By) (hs : s.length ≤ 1000) (n : Int) (h0 : 0 ≤ n) (h1 : n ≤ 4294967295) (hne : n ≠ 0) (t : Nat) (ht : t + 4 ≤ s.length) : Ev (fun k => sandglasslaw17_RecordFlips.j2 k n (bytesOf (mk (frame s))) ((8 + t : Nat) : Int)) true := by
  obtain ⟨x0, x1, x2, x3, r, hr⟩ := four_of (s.drop t) (by rw [List.length_drop]; omega)
  have hs2 : s = s.take t ++ ([x0, x1, x2, x3] ++ r) := by rw [← hr, List.take_append_drop]
  have hlt : (s.take t).length = t := by rw [List.length_take]; omega
  have hr2 : r.length + 4 + t = s.length := by
    have := congrArg List.length hr
    simp only [List.length_drop, List.length_append, List.length_cons, List.length_nil] at this
    omega
  have e : frame s = (four s.length ++ (four (sum (four s.length ++ s)).toNat ++ s.take t)) ++ ([x0, x1, x2, x3] ++ r) := by
    unfold frame
    rw [List.append_assoc, List.append_assoc, ← hs2]
  have hl : (four s.length ++ (four (sum (four s.length ++ s)).toNat ++ s.take t)).length = 8 + t := by
    simp only [List.length_append, four_length, hlt]
    omega
  have main := flip_end n h0 (four s.length ++ (four (sum (four s.length ++ s)).toNat ++ s.take t)) r x0 x1 x2 x3 (by rw [hl]; omega) ?_
  · rw [← e, hl] at main
    exact main
  · rw [List.append_assoc, List.append_assoc]
    refine nextR_text s _ ?_ (by omega) ?_
    · simp only [List.length_append, List.length_cons, List.length_nil, hlt]
      omega
    · intro he
      apply hne
      have h4 : sum ((four s.length ++ s.take t) ++ ([x0, x1, x2, x3] ++ r)) = sum ((four s.length ++ s.take t) ++ ([x0 ^^^ part n 0, x1 ^^^ part n 1, x2 ^^^ part n 2, x3 ^^^ part n 3] ++ r)) := by
        rw [List.append_assoc, ← hs2, List.append_assoc]
        exact he.symm
      obtain ⟨a, b, c, d⟩ := sum_flip _ _ _ _ _ _ _ _ _ _ h4
      exact part_zero n h0 h1 a b c d

theorem place_at (a : Int) (n : Nat) (h4 : 4 ≤ n) (hn : n ≤ 1000) : ∃ t : Nat, t + 4 ≤ n ∧ IntKind.u64.wrap (wrap64 ((n : Int) - 3)) ≠ 0 ∧ wrap64 (8 + wrap64 (Int.tmod (IntKind.u64.wrap a) (IntKind.u64.wrap (wrap64 ((n : Int) - 3))))) = ((8 + t : Nat) : Int) := by
  have e1 : wrap64 ((n : Int) - 3) = (n : Int) - 3 := w64 (by omega) (by omega)
  have wu : ∀ x : Int, IntKind.u64.wrap x = x % 18446744073709551616 := fun x => by simp [IntKind.wrap, IntKind.bits, IntKind.signed]
  have e2 : IntKind.u64.wrap ((n : Int) - 3) = (n : Int) - 3 := by rw [wu]; omega
  have h0 : 0 ≤ IntKind.u64.wrap a := by rw [wu]; omega
  rw [e1, e2]
  generalize IntKind.u64.wrap a = x at h0 ⊢
  rw [Int.tmod_eq_emod_of_nonneg h0]
  have h1 : 0 ≤ x % ((n : Int) - 3) := Int.emod_nonneg _ (by omega)
  have h2 : x % ((n : Int) - 3) < (n : Int) - 3 := Int.emod_lt_of_pos _ (by omega)
  refine ⟨(x % ((n : Int) - 3)).toNat, by omega, by omega, ?_⟩
  rw [w64 (n := x % ((n : Int) - 3)) (by omega) (by omega), w64 (by omega) (by omega)]
  omega

theorem RecordFlips : sandglasslaw17_RecordFlips.Pure := by
  intro s a n hs _ hw
  obtain ⟨l, rfl⟩ := ex_mk s
  rw [mk_size] at hs
  have hn : 0 ≤ n ∧ n ≤ 4294967295 := by
    simp only [Lit.wf, Bool.and_eq_true, decide_eq_true_eq] at hw
    exact hw
  apply Ev.rounds
  unfold sandglasslaw17_RecordFlips.f
  rw [mk_size]
  have skip : Ev (fun k => sandglasslaw17_RecordFlips.j0 k (mk l) a n true) true := by
    refine Ev.step (f := fun k => _) (fun k => by rw [sandglasslaw17_RecordFlips.j0]) ?_
    simp only [if_true]
    exact Ev.bind E_awake (Ev.now _)
  by_cases h : (l.length : Int) > 1000
  · simp only [if_pos h]
    exact skip
  simp only [if_neg h]
  by_cases hz : n = 0
  · rw [show (n == 0) = true by simpa using hz]
    exact skip
  rw [show (n == 0) = false by simpa using hz]
  refine Ev.step (f := fun k => _) (fun k => by rw [sandglasslaw17_RecordFlips.j0]) ?_
  simp only [if_neg (show ¬ false = true by decide)]
  refine Ev.bind (E_Frame l hs) ?_
  unfold frameA
  rw [if_neg (show ¬ 4096 < l.length by omega)]
  simp only [mk_size, frame_length]
  rw [w64 (by omega) (by omega)]
  simp only [if_pos (show ((8 + l.length : Nat) : Int) = (l.length : Int) + 8 by omega), if_pos (show 0 ≤ ((8 + l.length : Nat) : Int) by omega), if_pos (show ((8 + l.length : Nat) : Int).toNat ≤ 281474976710656 by omega), bindS]
  have at4 := j2_at4 l (by omega) n hn.1 hn.2 hz
  have f4 : Ev (fun k => sandglasslaw17_RecordFlips.j1 k (mk l) a n (bytesOf (mk (frame l))) 4 false) true := by
    refine Ev.step (f := fun k => _) (fun k => by rw [sandglasslaw17_RecordFlips.j1]) ?_
    simp only [if_neg (show ¬ false = true by decide)]
    exact at4
  by_cases h4 : (l.length : Int) ≥ 4
  · simp only [if_pos h4]
    cases hc : (Go.bits .and .i64 a 1 == 0) with
    | false => exact f4
    | true =>
      obtain ⟨t, ht, hne, he⟩ := place_at a l.length (by omega) (by omega)
      refine Ev.step (f := fun k => _) (fun k => by rw [sandglasslaw17_RecordFlips.j1]) ?_
      simp only [if_true, mk_size]
      rw [he]
      simp only [if_neg hne]
      exact j2_text l (by omega) n hn.1 hn.2 hz t ht
  · simp only [if_neg h4]
    exact f4

end Go.Proofs.Ytdmkojlaancopaa.Pure
