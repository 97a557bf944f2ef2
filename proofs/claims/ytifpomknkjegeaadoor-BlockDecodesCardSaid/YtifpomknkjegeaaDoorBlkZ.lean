/- Contracts of functions that the law runs, for every input: BlkM, BlkN, BlkR, BlkS, BlkT; no condition. -/
import Derived.Test.YtifpomknkjegeaaDoorBlkAll
import Derived.Test.YtifpomknkjegeaaDoorBFunD
import Derived.Test.YtifpomknkjegeaaDoorPAllx40
import Derived.Test.YtifpomknkjegeaaDoorPAllx41
import Derived.Test.YtifpomknkjegeaaDoorPAllx45
import Derived.Test.YtifpomknkjegeaaDoorPAllx43
import Derived.Deep.RegionLaw
import Derived.Deep.RegionHeld
import Derived.Deep.RegionHeld3
import Derived.Test.YtifpomknkjegeaaDoorPAllx48
import Derived.Test.YtifpomknkjegeaaDoorPAllx49
import Derived.Test.YtifpomknkjegeaaDoorRefAll
import Derived.Test.YtifpomknkjegeaaDoorPAllx65
namespace Go.Proofs.YtifpomknkjegeaaDoor.Bk
open Go.RowKit Go.Proofs.YtifpomknkjegeaaDoor.PAll Go.Proofs.YtifpomknkjegeaaDoorW.PrintWords Go.Proofs.YtifpomknkjegeaaDoorW.PrintLast Go.Proofs.YtifpomknkjegeaaDoorW.PrintMore SG Go.Proofs.YtifpomknkjegeaaDoor.BFun Go.Proofs.YtifpomknkjegeaaDoor.Hlp Go.Proofs.YtifpomknkjegeaaDoor.Sha
set_option linter.unusedVariables false
set_option linter.unusedSimpArgs false
theorem may_yes {r : S53} (h : okQ r) : sandglassref42_May.f r.f0 r.f1 r.f2.f0 r.f2.f1 r.f2.f2 r.f2.f3 = some true := by
 obtain ⟨a, b, k, e, n, x⟩ := r
 obtain ⟨n, rfl⟩ := ex_mk n
 obtain ⟨x, rfl⟩ := ex_mk x
 have h5 : okC k e n.length x.length := by simpa only [mk_size] using h.2.2
 have h0 : 0 ≤ a ∧ a ≤ 15 := h.1
 have h1 : 0 ≤ b ∧ b < 2147483648 := h.2.1
 show sandglassref42_May.f a b k e (mk n) (mk x) = _
 unfold sandglassref42_May.f
 rw [if_pos (by omega), if_pos (by omega), if_pos (by omega), if_pos (by omega), rchkC k e n x, if_pos h5, bindS]
 rfl
theorem may_no {r : S53} (h : ¬ okQ r) : sandglassref42_May.f r.f0 r.f1 r.f2.f0 r.f2.f1 r.f2.f2 r.f2.f3 = some false := by
 obtain ⟨a, b, k, e, n, x⟩ := r
 obtain ⟨n, rfl⟩ := ex_mk n
 obtain ⟨x, rfl⟩ := ex_mk x
 show sandglassref42_May.f a b k e (mk n) (mk x) = _
 unfold sandglassref42_May.f
 by_cases h1 : a ≥ 0
 ·
  rw [if_pos h1]
  by_cases h2 : a ≤ 15
  ·
   rw [if_pos h2]
   by_cases h3 : b ≥ 0
   ·
    rw [if_pos h3]
    by_cases h4 : b < 2147483648
    ·
     rw [if_pos h4]
     have h5 : ¬ okC k e n.length x.length := fun h5 => h ⟨⟨h1, h2⟩, ⟨h3, h4⟩, by simpa only [mk_size] using h5⟩
     rw [rchkC k e n x, if_neg h5, bindS]
     rfl
    ·
     rw [if_neg h4]
   ·
    rw [if_neg h3]
  ·
   rw [if_neg h2]
 ·
  rw [if_neg h1]
def okFrom (l : List S53) (i : Nat) : Prop := ∀ j, i ≤ j → (hj : j < l.length) → okQ l[j] ∧ ∀ m, m < j → (hm : m < l.length) → sm l[m] l[j] = false
theorem take_any {l : List S53} {j : Nat} (hj : j < l.length) : (l.take j).any (fun o => sm o l[j]) = true ↔ ∃ m, m < j ∧ ∃ hm : m < l.length, sm l[m] l[j] = true := by
 rw [List.any_eq_true]
 constructor
 ·
  rintro ⟨o, ho, hs⟩
  obtain ⟨m, hm, rfl⟩ := List.getElem_of_mem ho
  rw [List.length_take] at hm
  exact ⟨m, by omega, by omega, by rw [List.getElem_take] at hs; exact hs⟩
 ·
  rintro ⟨m, h1, hm, hs⟩
  refine ⟨l[m], ?_, hs⟩
  rw [List.mem_take_iff_getElem]
  exact ⟨m, by omega, rfl⟩
theorem okFrom_zero (l : List S53) : okFrom l 0 ↔ (∀ r ∈ l, okQ r) ∧ ¬ dup l := by
 constructor
 ·
  intro h
  refine ⟨fun r hr => ?_, ?_⟩
  ·
   obtain ⟨j, hj, rfl⟩ := List.getElem_of_mem hr
   exact (h j (Nat.zero_le _) hj).1
  ·
   rintro ⟨j, hj, ha⟩
   obtain ⟨m, h1, hm, hs⟩ := (take_any hj).1 ha
   rw [(h j (Nat.zero_le _) hj).2 m h1 hm] at hs
   cases hs
 ·
  rintro ⟨h1, h2⟩ j _ hj
  refine ⟨h1 _ (List.getElem_mem hj), fun m h3 hm => ?_⟩
  cases hs : sm l[m] l[j] with
  | false => rfl
  | true => exact (h2 ⟨j, hj, (take_any hj).2 ⟨m, h3, hm, hs⟩⟩).elim
theorem sm_true {o r : S53} (h0 : o.f0 = r.f0) (h1 : o.f1 = r.f1) : sm o r = true := by unfold sm; rw [h0, h1]; simp
theorem sm_false0 {o r : S53} (h0 : o.f0 ≠ r.f0) : sm o r = false := by unfold sm; simp [h0]
theorem sm_false1 {o r : S53} (h0 : o.f1 ≠ r.f1) : sm o r = false := by unfold sm; simp [h0]
theorem E_rchk1 (h : Int) (p : ByteArray) (l : List S53) (hl : l.length ≤ 100) (i : Nat) (hi : i < l.length) (rr : Int) (hrr : Ev (fun k => sandglassref43_Check.l0 k ((i + 1 : Nat) : Int) h p l) rr) (d : Nat) : ∀ j : Nat, i - j = d → j ≤ i →
  ((∀ m, j ≤ m → m < i → (hm : m < l.length) → sm l[m] l[i] = false) → Ev (fun k => sandglassref43_Check.l1 k (i : Int) (j : Int) h p l) rr) ∧ ((∃ m, j ≤ m ∧ m < i ∧ ∃ hm : m < l.length, sm l[m] l[i] = true) → Ev (fun k => sandglassref43_Check.l1 k (i : Int) (j : Int) h p l) 1) := by
 induction d with
 | zero =>
  intro j hd hj
  refine ⟨fun _ => ?_, fun ⟨m, h1, h2, _⟩ => by omega⟩
  refine Ev.step (f := fun k => _) (fun k => by rw [sandglassref43_Check.l1]) ?_
  simp only [if_neg (show ¬ (j : Int) < (i : Int) by omega)]
  rw [w64_1 i (by omega)]
  exact hrr
 | succ d ih =>
  intro j hd hj
  have hjl : j < l.length := by omega
  obtain ⟨ih1, ih2⟩ := ih (j + 1) (by omega) (by omega)
  by_cases h0 : l[j].f0 = l[i].f0
  ·
   by_cases h1 : l[j].f1 = l[i].f1
   ·
    refine ⟨fun hm => ?_, fun _ => ?_⟩
    ·
     have := hm j (Nat.le_refl _) (by omega) hjl
     rw [sm_true h0 h1] at this
     cases this
    ·
     refine Ev.step (f := fun k => _) (fun k => by rw [sandglassref43_Check.l1]) ?_
     simp only [if_pos (show (j : Int) < (i : Int) by omega), if_pos (show 0 ≤ (j : Int) by omega), if_pos (show (j : Int) < (l.length : Int) by omega), if_pos (show 0 ≤ (i : Int) by omega), if_pos (show (i : Int) < (l.length : Int) by omega), rd53 hjl, rd53 hi, if_pos h0, if_pos h1]
     exact nowE _
   ·
    have hst : Ev (fun k => sandglassref43_Check.l1 k (i : Int) ((j + 1 : Nat) : Int) h p l) = Ev (fun k => sandglassref43_Check.l1 k (i : Int) (wrap64 ((j : Int) + 1)) h p l) := by rw [w64_1 j (by omega)]
    refine ⟨fun hm => ?_, fun hm => ?_⟩
    ·
     refine Ev.step (f := fun k => _) (fun k => by rw [sandglassref43_Check.l1]) ?_
     simp only [if_pos (show (j : Int) < (i : Int) by omega), if_pos (show 0 ≤ (j : Int) by omega), if_pos (show (j : Int) < (l.length : Int) by omega), if_pos (show 0 ≤ (i : Int) by omega), if_pos (show (i : Int) < (l.length : Int) by omega), rd53 hjl, rd53 hi, if_pos h0, if_neg h1]
     rw [← hst]
     exact ih1 fun m h2 h3 hm' => hm m (by omega) h3 hm'
    ·
     refine Ev.step (f := fun k => _) (fun k => by rw [sandglassref43_Check.l1]) ?_
     simp only [if_pos (show (j : Int) < (i : Int) by omega), if_pos (show 0 ≤ (j : Int) by omega), if_pos (show (j : Int) < (l.length : Int) by omega), if_pos (show 0 ≤ (i : Int) by omega), if_pos (show (i : Int) < (l.length : Int) by omega), rd53 hjl, rd53 hi, if_pos h0, if_neg h1]
     rw [← hst]
     obtain ⟨m, h2, h3, hm', hs⟩ := hm
     refine ih2 ⟨m, ?_, h3, hm', hs⟩
     rcases Nat.lt_or_ge j m with h4 | h4
     ·
      exact h4
     ·
      have : m = j := by omega
      subst this
      rw [sm_false1 h1] at hs
      cases hs
  ·
   have hst : Ev (fun k => sandglassref43_Check.l1 k (i : Int) ((j + 1 : Nat) : Int) h p l) = Ev (fun k => sandglassref43_Check.l1 k (i : Int) (wrap64 ((j : Int) + 1)) h p l) := by rw [w64_1 j (by omega)]
   refine ⟨fun hm => ?_, fun hm => ?_⟩
   ·
    refine Ev.step (f := fun k => _) (fun k => by rw [sandglassref43_Check.l1]) ?_
    simp only [if_pos (show (j : Int) < (i : Int) by omega), if_pos (show 0 ≤ (j : Int) by omega), if_pos (show (j : Int) < (l.length : Int) by omega), if_pos (show 0 ≤ (i : Int) by omega), if_pos (show (i : Int) < (l.length : Int) by omega), rd53 hjl, rd53 hi, if_neg h0]
    rw [← hst]
    exact ih1 fun m h2 h3 hm' => hm m (by omega) h3 hm'
   ·
    refine Ev.step (f := fun k => _) (fun k => by rw [sandglassref43_Check.l1]) ?_
    simp only [if_pos (show (j : Int) < (i : Int) by omega), if_pos (show 0 ≤ (j : Int) by omega), if_pos (show (j : Int) < (l.length : Int) by omega), if_pos (show 0 ≤ (i : Int) by omega), if_pos (show (i : Int) < (l.length : Int) by omega), rd53 hjl, rd53 hi, if_neg h0]
    rw [← hst]
    obtain ⟨m, h2, h3, hm', hs⟩ := hm
    refine ih2 ⟨m, ?_, h3, hm', hs⟩
    rcases Nat.lt_or_ge j m with h4 | h4
    ·
     exact h4
    ·
     have : m = j := by omega
     subst this
     rw [sm_false0 h0] at hs
     cases hs
theorem E_rchk0 (h : Int) (p : ByteArray) (l : List S53) (hl : l.length ≤ 100) (d : Nat) : ∀ i : Nat, l.length - i = d →
  (okFrom l i → Ev (fun k => sandglassref43_Check.l0 k (i : Int) h p l) 0) ∧ (¬ okFrom l i → Ev (fun k => sandglassref43_Check.l0 k (i : Int) h p l) 1) := by
 induction d with
 | zero =>
  intro i hd
  refine ⟨fun _ => ?_, fun hn => (hn fun j h1 h2 => by omega).elim⟩
  refine Ev.step (f := fun k => _) (fun k => by rw [sandglassref43_Check.l0]) ?_
  simp only [if_neg (show ¬ (i : Int) < (l.length : Int) by omega)]
  exact nowE _
 | succ d ih =>
  intro i hd
  have hi : i < l.length := by omega
  obtain ⟨ih1, ih2⟩ := ih (i + 1) (by omega)
  have step : ∀ v, Ev (fun k => sandglassref43_Check.l1 k (i : Int) 0 h p l) v → okQ l[i] → Ev (fun k => sandglassref43_Check.l0 k (i : Int) h p l) v := by
   intro v hv hq
   refine Ev.step (f := fun k => _) (fun k => by rw [sandglassref43_Check.l0]) ?_
   simp only [if_pos (show (i : Int) < (l.length : Int) by omega), if_pos (show 0 ≤ (i : Int) by omega), rd53 hi]
   rw [may_yes hq]
   simp only [bindS, if_true]
   exact hv
  refine ⟨fun ho => ?_, fun ho => ?_⟩
  ·
   have hq := ho i (Nat.le_refl _) hi
   have h2 : okFrom l (i + 1) := fun j h1 hj => ho j (by omega) hj
   exact step 0 ((E_rchk1 h p l hl i hi 0 (ih1 h2) i 0 (by omega) (by omega)).1 fun m _ h3 hm => hq.2 m h3 hm) hq.1
  ·
   by_cases hq : okQ l[i]
   ·
    by_cases hs : ∃ m, 0 ≤ m ∧ m < i ∧ ∃ hm : m < l.length, sm l[m] l[i] = true
    ·
     by_cases h2 : okFrom l (i + 1)
     ·
      exact step 1 ((E_rchk1 h p l hl i hi 0 (ih1 h2) i 0 (by omega) (by omega)).2 hs) hq
     ·
      exact step 1 ((E_rchk1 h p l hl i hi 1 (ih2 h2) i 0 (by omega) (by omega)).2 hs) hq
    ·
     have hno : ∀ m, m < i → (hm : m < l.length) → sm l[m] l[i] = false := fun m h3 hm => by
      cases hx : sm l[m] l[i] with
      | false => rfl
      | true => exact (hs ⟨m, Nat.zero_le _, h3, hm, hx⟩).elim
     have h2 : ¬ okFrom l (i + 1) := fun h2 => ho fun j h1 hj => by
      by_cases hji : j = i
      ·
       subst hji
       exact ⟨hq, hno⟩
      ·
       exact h2 j (by omega) hj
     exact step 1 ((E_rchk1 h p l hl i hi 1 (ih2 h2) i 0 (by omega) (by omega)).1 fun m _ h3 hm => hno m h3 hm) hq
   ·
    refine Ev.step (f := fun k => _) (fun k => by rw [sandglassref43_Check.l0]) ?_
    simp only [if_pos (show (i : Int) < (l.length : Int) by omega), if_pos (show 0 ≤ (i : Int) by omega), rd53 hi]
    rw [may_no hq]
    simp only [bindS, Bool.false_eq_true, if_false]
    exact nowE _
theorem E_rchkT (h : Int) (p : ByteArray) (l : List S53) : Ev (fun k => sandglassref43_Check.j0 k true h p l) 1 := by
 refine Ev.step (f := fun k => _) (fun k => by rw [sandglassref43_Check.j0]) ?_
 simp only [if_true]
 exact nowE _
theorem E_rCheck (h : Int) (p : ByteArray) (l : List S53) : Ev (fun k => sandglassref43_Check.f k h p l) (eB h p l) := by
 unfold sandglassref43_Check.f
 by_cases h1 : h < 0
 ·
  rw [eB_neg (fun hk => by have := hk.1.1; omega)]
  simp only [if_pos h1]
  exact E_rchkT h p l
 ·
  by_cases h2 : h > 64
  ·
   rw [eB_neg (fun hk => by have := hk.1.2; omega)]
   simp only [if_neg h1, if_pos h2]
   exact E_rchkT h p l
  ·
   by_cases h3 : p.size = 32
   ·
    by_cases h4 : l.length ≤ 8
    ·
     simp only [if_neg h1, if_neg h2, if_pos (show (p.size : Int) = 32 by omega), decide_eq_false (show ¬ ((l.length : Int) > 8) by omega)]
     refine Ev.step (f := fun k => _) (fun k => by rw [sandglassref43_Check.j0]) ?_
     simp only [Bool.false_eq_true, if_false]
     have hz := E_rchk0 h p l (by omega) l.length 0 (by omega)
     by_cases ho : okFrom l 0
     ·
      have ho' := (okFrom_zero l).1 ho
      rw [eB_pos ⟨⟨by omega, by omega⟩, h3, h4, ho'.2, ho'.1⟩]
      exact hz.1 ho
     ·
      rw [eB_neg (fun hk => ho ((okFrom_zero l).2 ⟨hk.2.2.2.2, hk.2.2.2.1⟩))]
      exact hz.2 ho
    ·
     rw [eB_neg (fun hk => h4 hk.2.2.1)]
     simp only [if_neg h1, if_neg h2, if_pos (show (p.size : Int) = 32 by omega), decide_eq_true (show ((l.length : Int) > 8) by omega)]
     exact E_rchkT h p l
   ·
    rw [eB_neg (fun hk => h3 hk.2.1)]
    simp only [if_neg h1, if_neg h2, if_neg (show ¬ (p.size : Int) = 32 by omega)]
    exact E_rchkT h p l
theorem rcheckC (h : Int) (p : ByteArray) (A : Option Addr) (n c : Nat) (l : List S53) (w : World) (hn : n = l.length) (hC : Kd.C k53 w A n l) (hnc : n ≤ c) :
  Calls Tryd.prog 13 #[.agg (cB h p A n c)] w fun e w' => e = .returned (.int .i64 (eB h p l)) ∧ Below w.heap.size w w' := by
 subst hn
 obtain ⟨q, hq⟩ := roundsE (E_rCheck h p l)
 exact sandglassref43_Check.calls q h p A c l _ w hC hnc hq
theorem oneC (x : Int) (w : World) : Calls Tryd.prog 26 #[.int .i64 x] w fun e w' => e = .returned (.string (mk [u8 x])) ∧ Below w.heap.size w w' := by
 refine sandglassref43_one.calls x _ w ?_
 unfold sandglassref43_one.f
 rfl
theorem rcommandC {r : S53} (h : okQ r) (w : World) : Calls Tryd.prog 27 #[.agg (cK r.f2)] w fun e w' => e = .returned (.tuple #[.string (mk (cmdB r)), .int .i64 0]) ∧ Below w.heap.size w w' := by
 have hs := okQ_short h
 obtain ⟨a, b, k, e, n, x⟩ := r
 obtain ⟨n, rfl⟩ := ex_mk n
 obtain ⟨x, rfl⟩ := ex_mk x
 have hs1 : n.length ≤ 16 := by simpa only [mk_size] using hs.1
 have hs2 : x.length ≤ 4096 := by simpa only [mk_size] using hs.2
 obtain ⟨q, hq⟩ := roundsE (E_rCommand k e n x (by omega) (by omega))
 have hok : okC k e n.length x.length := by simpa only [mk_size] using h.2.2
 unfold cmdA at hq
 rw [if_pos hok] at hq
 have := sandglassref16_Command.calls q k e (mk n) (mk x) _ _ w hq
 show Calls Tryd.prog 27 _ w fun e' w' => e' = .returned (.tuple #[.string (mk (texts [[u8 k], [u8 e], (mk n).toList, (mk x).toList])), .int .i64 0]) ∧ _
 rw [mk_toList, mk_toList]
 exact this
theorem rtextsC (A : Option Addr) (n c : Nat) (ls : List (List UInt8)) (w : World) (hC : Kd.C Kd.string w A n (ls.map mk)) (hnc : n ≤ c) (hn : ls.length ≤ 100000) (hs : ∀ x ∈ ls, x.length ≤ 100000) : Calls Tryd.prog 28 #[.slice A n c] w fun e w' => e = .returned (.string (mk (texts ls))) ∧ Below w.heap.size w w' := by
 have h1 : n = (ls.map mk).length := hC.1.symm
 subst h1
 obtain ⟨q, hq⟩ := roundsE (E_rTexts ls hn hs)
 exact sandglassref16_Texts.calls q A c (ls.map mk) _ w hC hnc hq
theorem four_u8 (x : Int) (h : 0 ≤ x) : [u8 (x / 16777216)] ++ [u8 (x / 65536)] ++ [u8 (x / 256)] ++ [u8 x] = SG.four x.toNat := by
 obtain ⟨n, rfl⟩ := Int.eq_ofNat_of_zero_le h
 simp only [SG.four, u8, List.cons_append, List.nil_append, Int.toNat_natCast, List.cons.injEq, and_true]
 refine ⟨?_, ?_, ?_, ?_⟩ <;> (apply UInt8.toNat.inj; simp only [UInt8.toNat_ofNat']; omega)
end Go.Proofs.YtifpomknkjegeaaDoor.Bk
namespace Go.Proofs.YtifpomknkjegeaaDoor.Bk
open Go.RowKit Go.Proofs.YtifpomknkjegeaaDoor.PAll Go.Proofs.YtifpomknkjegeaaDoorW.PrintWords Go.Proofs.YtifpomknkjegeaaDoorW.PrintLast Go.Proofs.YtifpomknkjegeaaDoorW.PrintMore SG Go.Proofs.YtifpomknkjegeaaDoor.BFun Go.Proofs.YtifpomknkjegeaaDoor.Hlp
set_option linter.unusedVariables false
set_option linter.unusedSimpArgs false
theorem strs2_C (w : World) (a b : ByteArray) : Kd.C Kd.string (w.alloc (.cells #[.string a, .string b] 9)) (some ⟨w.heap.size, 0, none⟩) 2 [a, b] := by
 refine Kd.C_of_reads (d := ByteArray.empty) ⟨rfl, by decide, fun _ => ⟨_, rfl, fun j hj => ?_⟩⟩
 rw [add_plain]
 refine (cell_of_row _ _ j _ 9 (0, 0) (heap_alloc_new w _)).trans ?_
 match j, hj with
 | 0, _ => rfl
 | 1, _ => rfl
 | j + 2, h => exact absurd h (by omega)
theorem four_mk (x : Int) (h : 0 ≤ x) : mk [u8 (x / 16777216)] ++ mk [u8 (x / 65536)] ++ mk [u8 (x / 256)] ++ mk [u8 x] = mk (SG.four x.toNat) := by
 rw [mk_append, mk_append, mk_append, four_u8 x h]
set_option maxHeartbeats 16000000 in
set_option maxRecDepth 100000 in
theorem rencode_walk (h : Int) (p : ByteArray) (A : Option Addr) (n c : Nat) (l : List S53) (w : World) (hn : n = l.length) (hC : Kd.C k53 w A n l) (hnc : n ≤ c) (hm : n ≤ 1000) (hs : shortQ l) :
  Calls Tryd.prog 11 #[.agg (cB h p A n c)] w fun e w' => e = .returned (.tuple #[.string (mk (encF h p l).1), .int .i64 (encF h p l).2]) ∧ Below w.heap.size w w' := by
 have HC := sqA hC
 have HN := sqA hn
 have HS := sqA hs
 clear hC hn hs
 by_cases hk : okB h p l
 ·
  have HK := sqA hk
  have HE : Aside0 (encF h p l = encO h p l) := ⟨by unfold encF; rw [if_pos hk]⟩
  rw [HE.out]
  clear hk
  unfold cB
  go_enter Tryd.func11, Tryd.ntmps11
  go_upto_region 4 with (first | ((with_reducible refine gate_dst (N := 1) rfl ?_); refine sqo (N := 1) (cs := #[.int .i64 h, .string p, .slice A n c]) (t := 24) ?_; intro gb hgb wb hboxb hbb; have HGB := sqA hboxb; have HBB := sqA hbb; obtain ⟨y0, yz0, y1, yz1, y2, yz2⟩ := sq3 hboxb; clear hgb hboxb hbb) | ((with_reducible refine gate_callee (f := 13) rfl ?_); refine goesL_ (some 12) rfl rfl Tryd.func13 (by kernel_rfl) rfl #[.agg (cB h p A n c)] rfl sqm ?_; (with_reducible refine (rcheckC h p A n c l _ HN.out (Kd.C_below HC.out HBB.out) hnc).mono ?_); rintro e w1 ⟨rfl, hb⟩; refine ⟨_, rfl, ?_⟩; rw [eB_pos HK.out]; have HB1 := sqA (below_step HBB.out hb); have HG1 := sqA (blk_below HGB.out hb); clear hb))
  (try simp only [Act.put, List.setIfInBounds_toArray, List.set_cons_zero, List.set_cons_succ])
  have SOF1 : Aside0 (∀ w', Below w1.heap.size w1 w' → w'.cell? ⟨gb, 0, none⟩ = some (.int .i64 h) ∧ w'.cell? ⟨gb, 1, none⟩ = some (.string p)) := ⟨fun w' hb => ⟨(blk_cell (blk_below HG1.out hb) 0).trans rfl, (blk_cell (blk_below HG1.out hb) 1).trans rfl⟩⟩
  refine wp_region_held_drew (S := fun w' => w'.cell? ⟨gb, 0, none⟩ = some (.int .i64 h) ∧ w'.cell? ⟨gb, 1, none⟩ = some (.string p)) (by kernel_rfl) (SOF1.out _ (below_drew (Below.refl _ _))) (fun hHeld => ?_)
  (refine wpAnyH_take (i := 0) (v := ?hv1) rfl (by kernel_rfl) (by kernel_rfl) (by kernel_rfl) (fun _ _ _ h => h) (Or.inl ⟨by rfl, ?hy1⟩) (by assumption) ?hrest1; (case hy1 => (intro w hSw; obtain ⟨sA, sB⟩ := hSw; first | (go_simp; done) | (go_simp; with_reducible rfl))); (try simp only [Act.put, List.getElem_toArray, List.getElem_cons_succ, List.getElem_cons_zero, List.setIfInBounds_toArray, List.set_cons_zero, List.set_cons_succ]))
  (refine wpAnyH_take (i := 1) (v := ?hv2) rfl (by kernel_rfl) (by kernel_rfl) (by kernel_rfl) (fun _ _ _ h => h) (Or.inl ⟨by rfl, ?hy2⟩) (by assumption) ?hrest2; (case hy2 => (intro w hSw; obtain ⟨sA, sB⟩ := hSw; first | (go_simp; done) | (go_simp; with_reducible rfl))); (try simp only [Act.put, List.getElem_toArray, List.getElem_cons_succ, List.getElem_cons_zero, List.setIfInBounds_toArray, List.set_cons_zero, List.set_cons_succ]))
  (refine wpAnyH_take (i := 3) (v := ?hv3) rfl (by kernel_rfl) (by kernel_rfl) (by kernel_rfl) (fun _ _ _ h => h) (Or.inl ⟨by rfl, ?hy3⟩) (by assumption) ?hrest3; (case hy3 => (intro w hSw; obtain ⟨sA, sB⟩ := hSw; first | (go_simp; done) | (go_simp; with_reducible rfl))); (try simp only [Act.put, List.getElem_toArray, List.getElem_cons_succ, List.getElem_cons_zero, List.setIfInBounds_toArray, List.set_cons_zero, List.set_cons_succ]))
  (refine wpAnyH_take (i := 4) (v := ?hv4) rfl (by kernel_rfl) (by kernel_rfl) (by kernel_rfl) (fun _ _ _ h => h) (Or.inl ⟨by rfl, ?hy4⟩) (by assumption) ?hrest4; (case hy4 => (intro w hSw; obtain ⟨sA, sB⟩ := hSw; first | (go_simp; done) | (go_simp; with_reducible rfl))); (try simp only [Act.put, List.getElem_toArray, List.getElem_cons_succ, List.getElem_cons_zero, List.setIfInBounds_toArray, List.set_cons_zero, List.set_cons_succ]))
  refine wpAnyH_ready (rs := [2]) (by kernel_rfl) (by simp) ?_
  refine AllReadyH.cons rfl (fun K hK => ?_) AllReadyH.nil
  go_simp
  go_at_call 26
  refine (oneC _ _).mono ?_
  rintro e w2 ⟨rfl, hb⟩
  have HBw2 := sqA (below_step (below_drew (Below.refl w1.heap.size w1)) hb)
  clear hb
  refine hK.out _ _ (SOF1.out _ HBw2.out) (fun hHeld => ?_)
  clear hK K
  refine wpAnyH_ready (rs := [5]) (by kernel_rfl) (by simp) ?_
  refine AllReadyH.cons rfl (fun K hK => ?_) AllReadyH.nil
  have HB2 := sqA (below_step HB1.out HBw2.out)
  refine Kd.R_lit_step Kd.string (w0 := w) w.heap.size 9 rfl (N := 21) rfl (xs := [mk [u8 h], p]) (inner := [.string (mk [u8 h]), .string p]) (okp := fun _ => False) (ok := fun _ => True) ?hr ?hrep (fun _ _ => trivial) trivial HB2.out HB2.out.size (by show 2 ≤ _; decide) ?_
  case hr => first | (go_simp; done) | (go_simp; rfl)
  case hrep => exact Kd.reps_scalar (enc := Value.string) [mk [u8 h], p]
  intro v3 w3 hr3 hb3 hg3 hat3
  have HR3 := sqA hr3
  have HB3 := sqA hb3
  have HG3 := sqA (blk_grown (blk_below HG1.out HBw2.out) hg3 (fun h => by cases h))
  have HS3 : Aside0 (w3.cell? ⟨gb, 0, none⟩ = some (.int .i64 h) ∧ w3.cell? ⟨gb, 1, none⟩ = some (.string p)) := ⟨(blk_cell HG3.out 0).trans rfl, (blk_cell HG3.out 1).trans rfl⟩
  clear hr3 hb3 hg3 hat3
  refine hK.out _ _ HS3.out (fun hHeld => ?_)
  clear hK K
  refine wpAnyH_ready (rs := [6]) (by kernel_rfl) (by simp) ?_
  refine AllReadyH.cons rfl (fun K hK => ?_) AllReadyH.nil
  go_simp
  refine hK.out _ _ HS3.out (fun hHeld => ?_)
  clear hK K
  refine wpAnyH_done (by kernel_rfl) ?_ _
  have HR0 : Aside0 (Kd.string.R 9 w3 w.heap.size (fun _ => True) v3 ((encL h p (l.take 0)).map mk)) := ⟨by
   have : (encL h p (l.take 0)).map mk = [mk [u8 h], p] := by
    rw [List.take_zero]
    show [mk [u8 h], mk p.toList] = _
    rw [mk_of_toList]
   rw [this]
   exact HR3.out⟩
  clear hHeld
  go_wp2
  go_loopg [5, 6] n (fun kq v5 v6 w' => ∃ (i : Nat), v6 = .int .i64 (i : Int) ∧ Aside0 (i + kq = n) ∧ Aside0 (Kd.string.R 9 w' w.heap.size (fun _ => True) v5 ((encL h p (l.take i)).map mk)) ∧ Aside0 (w'.heap[gb]? = some (.cells #[.int .i64 h, .string p, .slice A n c] 24 (0, 0))) ∧ Aside0 (Below w.heap.size w w'))
  case atStart => exact ⟨0, rfl, ⟨by omega⟩, HR0, HG3, HB3⟩
  case round =>
   obtain ⟨i, rfl, HI, HRi, HGi, HBi⟩ := hrel
   have hi := HI.out
   have q2 : wr.cell? ⟨gb, 2, none⟩ = some (.slice A n c) := (blk_cell HGi.out 2).trans rfl
   by_cases hat : i < n
   ·
    obtain ⟨k1, rfl⟩ : ∃ k1, gk = k1 + 1 := ⟨gk - 1, by omega⟩
    have hlt : decide ((i : Int) < (n : Int)) = true := decide_eq_true (by omega)
    have hil : i < l.length := by rw [← HN.out]; exact hat
    obtain ⟨ad, e101, sof⟩ := at53 HC.out HN.out hil
    cases e101
    obtain ⟨x0, x1, x2, x3, x4, x5⟩ := sof _ HBi.out
    have HT : Aside0 (l.take (i + 1) = l.take i ++ [l[i]]) := ⟨by rw [List.take_add_one, List.getElem?_eq_getElem hil]; rfl⟩
    have HQ : Aside0 (okQ l[i]) := ⟨HK.out.2.2.2.2 _ (List.getElem_mem hil)⟩
    have HL3 : Aside0 (((encL h p (l.take i)).map mk).length ≤ 4000) := ⟨by rw [List.length_map, encL_len, List.length_take]; omega⟩
    generalize l[i] = r at *
    have hq1 := HQ.out.2.1.1
    have HQ1 := sqA hq1
    have HI1 : Aside0 (i + 1 + k1 = n) := ⟨by omega⟩
    clear sof HI hq1
    go_upto_region 10 with (first | ((with_reducible refine gate_dst (N := 7) rfl ?_); refine sqo (N := 7) (cs := #[.int .i64 0, .int .i64 0, .int .i64 0, .int .i64 0, .string ⟨#[]⟩, .string ⟨#[]⟩]) (t := 53) ?_; intro g hg w3 hbox hb; have HG3 := sqA hbox; have HGE := sqA (show wr.heap.size ≤ g by rw [hg]; exact Nat.le_refl _); have HB3 := sqA hb; have b0 : w3.cell? ⟨g, 0, none⟩ = some (.int .i64 0) := (blk_cell hbox 0).trans rfl; have bz0 : w3.frozen? ⟨g, 0, none⟩ = false := blk_frozen hbox 0; have b1 : w3.cell? ⟨g, 1, none⟩ = some (.int .i64 0) := (blk_cell hbox 1).trans rfl; have bz1 : w3.frozen? ⟨g, 1, none⟩ = false := blk_frozen hbox 1; have b2 : w3.cell? ⟨g, 2, none⟩ = some (.int .i64 0) := (blk_cell hbox 2).trans rfl; have bz2 : w3.frozen? ⟨g, 2, none⟩ = false := blk_frozen hbox 2; have b3 : w3.cell? ⟨g, 3, none⟩ = some (.int .i64 0) := (blk_cell hbox 3).trans rfl; have bz3 : w3.frozen? ⟨g, 3, none⟩ = false := blk_frozen hbox 3; have b4 : w3.cell? ⟨g, 4, none⟩ = some (.string ⟨#[]⟩) := (blk_cell hbox 4).trans rfl; have bz4 : w3.frozen? ⟨g, 4, none⟩ = false := blk_frozen hbox 4; have b5 : w3.cell? ⟨g, 5, none⟩ = some (.string ⟨#[]⟩) := (blk_cell hbox 5).trans rfl; have bz5 : w3.frozen? ⟨g, 5, none⟩ = false := blk_frozen hbox 5; clear hg hbox hb) | ((with_reducible refine gate_store (t := 53) (p := 7) (v := .tmp 33) rfl ?_); refine sqp (w1 := (set6 w3 g r)) ?_; intro w4 hw4; have hg4 : w4.heap[g]? = some (.cells (cR r) 53 (0, 0)) := (by rw [hw4]; exact set6_blk HG3.out r); have HB4 : Aside0 (Below w.heap.size w w4) := ⟨(by rw [hw4]; exact below_step HBi.out (set6_below HB3.out HGE.out r))⟩; have HBr : Aside0 (Below wr.heap.size wr w4) := ⟨(by rw [hw4]; exact set6_below HB3.out HGE.out r)⟩; have HG4 := sqA hg4; have z0 : w4.cell? ⟨g, 0, none⟩ = some (.int .i64 r.f0) := (blk_cell hg4 0).trans rfl; have zz0 : w4.frozen? ⟨g, 0, none⟩ = false := blk_frozen hg4 0; have z1 : w4.cell? ⟨g, 1, none⟩ = some (.int .i64 r.f1) := (blk_cell hg4 1).trans rfl; have zz1 : w4.frozen? ⟨g, 1, none⟩ = false := blk_frozen hg4 1; have z2 : w4.cell? ⟨g, 2, none⟩ = some (.int .i64 r.f2.f0) := (blk_cell hg4 2).trans rfl; have zz2 : w4.frozen? ⟨g, 2, none⟩ = false := blk_frozen hg4 2; have z3 : w4.cell? ⟨g, 3, none⟩ = some (.int .i64 r.f2.f1) := (blk_cell hg4 3).trans rfl; have zz3 : w4.frozen? ⟨g, 3, none⟩ = false := blk_frozen hg4 3; have z4 : w4.cell? ⟨g, 4, none⟩ = some (.string r.f2.f2) := (blk_cell hg4 4).trans rfl; have zz4 : w4.frozen? ⟨g, 4, none⟩ = false := blk_frozen hg4 4; have z5 : w4.cell? ⟨g, 5, none⟩ = some (.string r.f2.f3) := (blk_cell hg4 5).trans rfl; have zz5 : w4.frozen? ⟨g, 5, none⟩ = false := blk_frozen hg4 5; clear hw4 hg4) | ((with_reducible refine gate_callee (f := 27) rfl ?_); refine goesL_ (some 37) rfl rfl Tryd.func27 (by kernel_rfl) rfl #[.agg (cK r.f2)] rfl sqm ?_; (with_reducible refine (rcommandC HQ.out _).mono ?_); rintro e w5 ⟨rfl, hb⟩; refine ⟨_, rfl, ?_⟩; have HG5 := sqA (blk_below HG4.out hb); have HGb5 := sqA (blk_below (blk_below HGi.out HBr.out) hb); have HR5 := sqA (Kd.R_below HRi.out (below_step HBr.out hb)); have HB5 := sqA (below_step HB4.out hb); clear hb))
    (try simp only [Act.put, List.setIfInBounds_toArray, List.set_cons_zero, List.set_cons_succ])
    have SOF : Aside0 (∀ w', Below w5.heap.size w5 w' → w'.cell? ⟨g, 0, none⟩ = some (.int .i64 r.f0) ∧ w'.cell? ⟨g, 1, none⟩ = some (.int .i64 r.f1)) := ⟨fun w' hb => ⟨(blk_cell (blk_below HG5.out hb) 0).trans rfl, (blk_cell (blk_below HG5.out hb) 1).trans rfl⟩⟩
    have SOG : Aside0 (∀ w' : World, w'.heap[g]? = some (.cells (cR r) 53 (0, 0)) → w'.cell? ⟨g, 0, none⟩ = some (.int .i64 r.f0) ∧ w'.cell? ⟨g, 1, none⟩ = some (.int .i64 r.f1)) := ⟨fun w' h => ⟨(blk_cell h 0).trans rfl, (blk_cell h 1).trans rfl⟩⟩
    have NE9 : Aside0 (some g ≠ u5.ownBlock) := ⟨Kd.R_ne HR5.out HG5.out (by decide)⟩
    have NEb : Aside0 (some gb ≠ u5.ownBlock) := ⟨Kd.R_ne HR5.out HGb5.out (by decide)⟩
    have cc1 : ¬ 9223372036854775807 < (mk [SG.u8 (r.f1 / 16777216)]).size + (mk [SG.u8 (r.f1 / 65536)]).size := by simp only [mk_size, List.length_cons, List.length_nil]; decide
    have cc2 : ¬ 9223372036854775807 < (mk [SG.u8 (r.f1 / 16777216)]).size + (mk [SG.u8 (r.f1 / 65536)]).size + (mk [SG.u8 (r.f1 / 256)]).size := by simp only [mk_size, List.length_cons, List.length_nil]; decide
    have cc3 : ¬ 9223372036854775807 < (mk [SG.u8 (r.f1 / 16777216)]).size + (mk [SG.u8 (r.f1 / 65536)]).size + (mk [SG.u8 (r.f1 / 256)]).size + (mk [SG.u8 r.f1]).size := by simp only [mk_size, List.length_cons, List.length_nil]; decide
    clear x0 x1 x2 x3 x4 x5 q2 z0 zz0 z1 zz1 z2 zz2 z3 zz3 z4 zz4 z5 zz5 b0 bz0 b1 bz1 b2 bz2 b3 bz3 b4 bz4 b5 bz5
    refine wp_region_held_drew (S := fun w' => w'.cell? ⟨g, 0, none⟩ = some (.int .i64 r.f0) ∧ w'.cell? ⟨g, 1, none⟩ = some (.int .i64 r.f1)) (by kernel_rfl) (SOF.out _ (below_drew (Below.refl _ _))) (fun hHeld => ?_)
    (refine wpAnyH_take (i := 0) (v := ?hv5) rfl (by kernel_rfl) (by kernel_rfl) (by kernel_rfl) (fun _ _ _ h => h) (Or.inl ⟨by rfl, ?hy5⟩) (by assumption) ?hrest5; (case hy5 => (intro w hSw; obtain ⟨sA, sB⟩ := hSw; first | (go_simp; done) | (go_simp; with_reducible rfl))); (try simp only [Act.put, List.getElem_toArray, List.getElem_cons_succ, List.getElem_cons_zero, List.setIfInBounds_toArray, List.set_cons_zero, List.set_cons_succ]))
    (refine wpAnyH_take (i := 1) (v := ?hv6) rfl (by kernel_rfl) (by kernel_rfl) (by kernel_rfl) (fun _ _ _ h => h) (Or.inl ⟨by rfl, ?hy6⟩) (by assumption) ?hrest6; (case hy6 => (intro w hSw; obtain ⟨sA, sB⟩ := hSw; first | (go_simp; done) | (go_simp; with_reducible rfl))); (try simp only [Act.put, List.getElem_toArray, List.getElem_cons_succ, List.getElem_cons_zero, List.setIfInBounds_toArray, List.set_cons_zero, List.set_cons_succ]))
    (refine wpAnyH_take (i := 2) (v := ?hv7) rfl (by kernel_rfl) (by kernel_rfl) (by kernel_rfl) (fun _ _ _ h => h) (Or.inl ⟨by rfl, ?hy7⟩) (by assumption) ?hrest7; (case hy7 => (intro w hSw; obtain ⟨sA, sB⟩ := hSw; first | (go_simp; done) | (go_simp; with_reducible rfl))); (try simp only [Act.put, List.getElem_toArray, List.getElem_cons_succ, List.getElem_cons_zero, List.setIfInBounds_toArray, List.set_cons_zero, List.set_cons_succ]))
    (refine wpAnyH_take (i := 4) (v := ?hv8) rfl (by kernel_rfl) (by kernel_rfl) (by kernel_rfl) (fun _ _ _ h => h) (Or.inl ⟨by rfl, ?hy8⟩) (by assumption) ?hrest8; (case hy8 => (intro w hSw; obtain ⟨sA, sB⟩ := hSw; first | (go_simp; done) | (go_simp; with_reducible rfl))); (try simp only [Act.put, List.getElem_toArray, List.getElem_cons_succ, List.getElem_cons_zero, List.setIfInBounds_toArray, List.set_cons_zero, List.set_cons_succ]))
    (refine wpAnyH_take (i := 5) (v := ?hv9) rfl (by kernel_rfl) (by kernel_rfl) (by kernel_rfl) (fun _ _ _ h => h) (Or.inl ⟨by rfl, ?hy9⟩) (by assumption) ?hrest9; (case hy9 => (intro w hSw; obtain ⟨sA, sB⟩ := hSw; first | (go_simp; done) | (go_simp; with_reducible rfl))); (try simp only [Act.put, List.getElem_toArray, List.getElem_cons_succ, List.getElem_cons_zero, List.setIfInBounds_toArray, List.set_cons_zero, List.set_cons_succ]))
    (refine wpAnyH_take (i := 6) (v := ?hv10) rfl (by kernel_rfl) (by kernel_rfl) (by kernel_rfl) (fun _ _ _ h => h) (Or.inl ⟨by rfl, ?hy10⟩) (by assumption) ?hrest10; (case hy10 => (intro w hSw; obtain ⟨sA, sB⟩ := hSw; first | (go_simp; done) | (go_simp; with_reducible rfl))); (try simp only [Act.put, List.getElem_toArray, List.getElem_cons_succ, List.getElem_cons_zero, List.setIfInBounds_toArray, List.set_cons_zero, List.set_cons_succ]))
    (refine wpAnyH_take (i := 8) (v := ?hv11) rfl (by kernel_rfl) (by kernel_rfl) (by kernel_rfl) (fun _ _ _ h => h) (Or.inl ⟨by rfl, ?hy11⟩) (by assumption) ?hrest11; (case hy11 => (intro w hSw; obtain ⟨sA, sB⟩ := hSw; first | (go_simp; done) | (go_simp; with_reducible rfl))); (try simp only [Act.put, List.getElem_toArray, List.getElem_cons_succ, List.getElem_cons_zero, List.setIfInBounds_toArray, List.set_cons_zero, List.set_cons_succ]))
    (refine wpAnyH_take (i := 9) (v := ?hv12) rfl (by kernel_rfl) (by kernel_rfl) (by kernel_rfl) (fun _ _ _ h => h) (Or.inl ⟨by rfl, ?hy12⟩) (by assumption) ?hrest12; (case hy12 => (intro w hSw; obtain ⟨sA, sB⟩ := hSw; first | (go_simp; done) | (go_simp; with_reducible rfl))); (try simp only [Act.put, List.getElem_toArray, List.getElem_cons_succ, List.getElem_cons_zero, List.setIfInBounds_toArray, List.set_cons_zero, List.set_cons_succ]))
    (refine wpAnyH_take (i := 10) (v := ?hv13) rfl (by kernel_rfl) (by kernel_rfl) (by kernel_rfl) (fun _ _ _ h => h) (Or.inl ⟨by rfl, ?hy13⟩) (by assumption) ?hrest13; (case hy13 => (intro w hSw; obtain ⟨sA, sB⟩ := hSw; first | (go_simp; done) | (go_simp; with_reducible rfl))); (try simp only [Act.put, List.getElem_toArray, List.getElem_cons_succ, List.getElem_cons_zero, List.setIfInBounds_toArray, List.set_cons_zero, List.set_cons_succ]))
    (refine wpAnyH_take (i := 13) (v := ?hv14) rfl (by kernel_rfl) (by kernel_rfl) (by kernel_rfl) (fun _ _ _ h => h) (Or.inl ⟨by rfl, ?hy14⟩) (by assumption) ?hrest14; (case hy14 => (intro w hSw; obtain ⟨sA, sB⟩ := hSw; first | (go_simp; done) | (go_simp; with_reducible rfl))); (try simp only [Act.put, List.getElem_toArray, List.getElem_cons_succ, List.getElem_cons_zero, List.setIfInBounds_toArray, List.set_cons_zero, List.set_cons_succ]))
    (refine wpAnyH_take (i := 14) (v := ?hv15) rfl (by kernel_rfl) (by kernel_rfl) (by kernel_rfl) (fun _ _ _ h => h) (Or.inl ⟨by rfl, ?hy15⟩) (by assumption) ?hrest15; (case hy15 => (intro w hSw; obtain ⟨sA, sB⟩ := hSw; first | (go_simp; done) | (go_simp; with_reducible rfl))); (try simp only [Act.put, List.getElem_toArray, List.getElem_cons_succ, List.getElem_cons_zero, List.setIfInBounds_toArray, List.set_cons_zero, List.set_cons_succ]))
    (refine wpAnyH_take (i := 15) (v := ?hv16) rfl (by kernel_rfl) (by kernel_rfl) (by kernel_rfl) (fun _ _ _ h => h) (Or.inl ⟨by rfl, ?hy16⟩) (by assumption) ?hrest16; (case hy16 => (intro w hSw; obtain ⟨sA, sB⟩ := hSw; first | (go_simp; done) | (go_simp; with_reducible rfl))); (try simp only [Act.put, List.getElem_toArray, List.getElem_cons_succ, List.getElem_cons_zero, List.setIfInBounds_toArray, List.set_cons_zero, List.set_cons_succ]))
    (refine wpAnyH_take (i := 18) (v := ?hv17) rfl (by kernel_rfl) (by kernel_rfl) (by kernel_rfl) (fun _ _ _ h => h) (Or.inl ⟨by rfl, ?hy17⟩) (by assumption) ?hrest17; (case hy17 => (intro w hSw; obtain ⟨sA, sB⟩ := hSw; first | (go_simp; done) | (go_simp; with_reducible rfl))); (try simp only [Act.put, List.getElem_toArray, List.getElem_cons_succ, List.getElem_cons_zero, List.setIfInBounds_toArray, List.set_cons_zero, List.set_cons_succ]))
    (refine wpAnyH_take (i := 19) (v := ?hv18) rfl (by kernel_rfl) (by kernel_rfl) (by kernel_rfl) (fun _ _ _ h => h) (Or.inl ⟨by rfl, ?hy18⟩) (by assumption) ?hrest18; (case hy18 => (intro w hSw; obtain ⟨sA, sB⟩ := hSw; first | (go_simp; done) | (go_simp; with_reducible rfl))); (try simp only [Act.put, List.getElem_toArray, List.getElem_cons_succ, List.getElem_cons_zero, List.setIfInBounds_toArray, List.set_cons_zero, List.set_cons_succ]))
    (refine wpAnyH_take (i := 22) (v := ?hv19) rfl (by kernel_rfl) (by kernel_rfl) (by kernel_rfl) (fun _ _ _ h => h) (Or.inl ⟨by rfl, ?hy19⟩) (by assumption) ?hrest19; (case hy19 => (intro w hSw; obtain ⟨sA, sB⟩ := hSw; first | (go_simp; done) | (go_simp; with_reducible rfl))); (try simp only [Act.put, List.getElem_toArray, List.getElem_cons_succ, List.getElem_cons_zero, List.setIfInBounds_toArray, List.set_cons_zero, List.set_cons_succ]))
    refine wpAnyH_ready (rs := [3]) (by kernel_rfl) (by simp) ?_
    refine AllReadyH.cons rfl (fun K hK => ?_) AllReadyH.nil
    go_simp
    go_at_call 26
    refine (oneC _ _).mono ?_
    rintro e wa ⟨rfl, hb⟩
    have HBwa := sqA (below_step (below_drew (Below.refl w5.heap.size w5)) hb)
    clear hb
    refine hK.out _ _ (SOF.out _ HBwa.out) (fun hHeld => ?_)
    clear hK K
    refine wpAnyH_ready (rs := [7]) (by kernel_rfl) (by simp) ?_
    refine AllReadyH.cons rfl (fun K hK => ?_) AllReadyH.nil
    go_simp
    go_at_call 26
    refine (oneC _ _).mono ?_
    rintro e wb2 ⟨rfl, hb⟩
    have HBwb2 := sqA (below_step HBwa.out hb)
    clear hb
    refine hK.out _ _ (SOF.out _ HBwb2.out) (fun hHeld => ?_)
    clear hK K
    refine wpAnyH_ready (rs := [11]) (by kernel_rfl) (by simp) ?_
    refine AllReadyH.cons rfl (fun K hK => ?_) AllReadyH.nil
    go_simp
    go_at_call 26
    refine (oneC _ _).mono ?_
    rintro e wc ⟨rfl, hb⟩
    have HBwc := sqA (below_step HBwb2.out hb)
    clear hb
    refine hK.out _ _ (SOF.out _ HBwc.out) (fun hHeld => ?_)
    clear hK K
    (refine wpAnyH_take (i := 12) (v := ?hv20) rfl (by kernel_rfl) (by kernel_rfl) (by kernel_rfl) (fun _ _ _ h => h) (Or.inl ⟨by rfl, ?hy20⟩) (by assumption) ?hrest20; (case hy20 => (intro w hSw; obtain ⟨sA, sB⟩ := hSw; first | (go_simp; done) | (go_simp; with_reducible rfl))); (try simp only [Act.put, List.getElem_toArray, List.getElem_cons_succ, List.getElem_cons_zero, List.setIfInBounds_toArray, List.set_cons_zero, List.set_cons_succ]))
    refine wpAnyH_ready (rs := [16]) (by kernel_rfl) (by simp) ?_
    refine AllReadyH.cons rfl (fun K hK => ?_) AllReadyH.nil
    go_simp
    go_at_call 26
    refine (oneC _ _).mono ?_
    rintro e wd ⟨rfl, hb⟩
    have HBwd := sqA (below_step HBwc.out hb)
    clear hb
    refine hK.out _ _ (SOF.out _ HBwd.out) (fun hHeld => ?_)
    clear hK K
    (refine wpAnyH_take (i := 17) (v := ?hv21) rfl (by kernel_rfl) (by kernel_rfl) (by kernel_rfl) (fun _ _ _ h => h) (Or.inl ⟨by rfl, ?hy21⟩) (by assumption) ?hrest21; (case hy21 => (intro w hSw; obtain ⟨sA, sB⟩ := hSw; first | (go_simp; done) | (go_simp; with_reducible rfl))); (try simp only [Act.put, List.getElem_toArray, List.getElem_cons_succ, List.getElem_cons_zero, List.setIfInBounds_toArray, List.set_cons_zero, List.set_cons_succ]))
    refine wpAnyH_ready (rs := [20]) (by kernel_rfl) (by simp) ?_
    refine AllReadyH.cons rfl (fun K hK => ?_) AllReadyH.nil
    go_simp
    go_at_call 26
    refine (oneC _ _).mono ?_
    rintro e we ⟨rfl, hb⟩
    have HBwe := sqA (below_step HBwd.out hb)
    clear hb
    refine hK.out _ _ (SOF.out _ HBwe.out) (fun hHeld => ?_)
    clear hK K
    (refine wpAnyH_take (i := 21) (v := ?hv22) rfl (by kernel_rfl) (by kernel_rfl) (by kernel_rfl) (fun _ _ _ h => h) (Or.inl ⟨by rfl, ?hy22⟩) (by assumption) ?hrest22; (case hy22 => (intro w hSw; obtain ⟨sA, sB⟩ := hSw; first | (go_simp; done) | (go_simp; with_reducible rfl))); (try simp only [Act.put, List.getElem_toArray, List.getElem_cons_succ, List.getElem_cons_zero, List.setIfInBounds_toArray, List.set_cons_zero, List.set_cons_succ]))
    refine wpAnyH_ready (rs := [23]) (by kernel_rfl) (by simp) ?_
    refine AllReadyH.cons rfl (fun K hK => ?_) AllReadyH.nil
    go_simp
    rw [four_mk _ HQ1.out]
    refine hK.out _ _ (SOF.out _ (below_alloc HBwe.out _)) (fun hHeld => ?_)
    clear hK K
    refine wpAnyH_ready (rs := [24]) (by kernel_rfl) (by simp) ?_
    refine AllReadyH.cons rfl (fun K hK => ?_) AllReadyH.nil
    refine Kd.R_append_rows_step Kd.string (Rr := fun x cs => cs = [Value.string x]) (w0 := w5) w.heap.size rfl (.tmp 40) (.tmp 63) 42 9 (.string ⟨#[]⟩) 16 rfl Tryd.underlying42 (by kernel_rfl) rfl (by decide) (by decide) u5 ((encL h p (l.take i)).map mk) ((parts r).map mk) (some ⟨_, 0, none⟩) 3 3 (fun _ => True) (fun _ => False) rfl rfl (Kd.R_below HR5.out (below_alloc HBwe.out _)) (strs3_C _ _ _ _) (fun _ _ h => h) (fun _ hk => hk.elim) (fun _ _ => trivial) (Below.mono (below_alloc HBwe.out _) HB5.out.size) (Nat.le_trans HB5.out.size (Below.size (B := w5.heap.size) (below_alloc HBwe.out _))) (by have := HL3.out; omega) ?_
    intro v1 w9 hr9 hb9 hg9 hat9
    have HR9 := sqA hr9
    have HB9 := sqA (HB5.out.trans hb9)
    have HGb9 := sqA (blk_grown (blk_below HGb5.out (below_alloc HBwe.out _)) hg9 NEb.out)
    have HS9 : Aside0 (w9.cell? ⟨g, 0, none⟩ = some (.int .i64 r.f0) ∧ w9.cell? ⟨g, 1, none⟩ = some (.int .i64 r.f1)) := ⟨SOG.out _ (blk_grown (blk_below HG5.out (below_alloc HBwe.out _)) hg9 NE9.out)⟩
    clear hr9 hb9 hg9 hat9
    refine hK.out _ _ HS9.out (fun hHeld => ?_)
    clear hK K
    refine wpAnyH_ready (rs := [25]) (by kernel_rfl) (by simp) ?_
    refine AllReadyH.cons rfl (fun K hK => ?_) AllReadyH.nil
    go_simp
    refine hK.out _ _ HS9.out (fun hHeld => ?_)
    clear hK K
    refine wpAnyH_done (by kernel_rfl) ?_ _
    clear hHeld
    go_wp2
    go_roundg k1
    case measure => omega
    case rel => exact ⟨i + 1, by first | rfl | (simp; done), HI1, ⟨by rw [HT.out, encL_snoc, List.map_append]; exact HR9.out⟩, HGb9, HB9⟩
   ·
    obtain rfl : gk = 0 := by omega
    have hge : decide ((i : Int) < (n : Int)) = false := decide_eq_false (by omega)
    have HT : Aside0 (l.take i = l) := ⟨List.take_of_length_le (by have := HN.out; omega)⟩
    have hr0 := HRi.out
    rw [HT.out] at hr0
    obtain ⟨A6, c6, rfl, hc6, hC6⟩ := Kd.R_reads hr0
    have HC6 := sqA hC6
    have hshort : ∀ x ∈ encL h p l, x.length ≤ 100000 := encL_short HK.out
    have HSH := sqA hshort
    have hlen : (encL h p l).length ≤ 100000 := by rw [encL_len]; have := HN.out; omega
    have HLN := sqA hlen
    obtain ⟨T, hT⟩ : ∃ T, T = texts (encL h p l) := ⟨_, rfl⟩
    have HTE := sqA hT
    generalize ((encL h p l).map mk).length = pl at *
    clear hr0 HRi hC6 hshort hlen hT HI
    have HE2 : Aside0 (encO h p l = if T.length > 4096 then ([], 2) else (T, 0)) := ⟨by unfold encO; rw [← HTE.out]⟩
    have hsz : (mk T).size = T.length := mk_size T
    by_cases h96 : T.length > 4096
    ·
     have t96 : decide (4096 < ((mk T).size : Int)) = true := by rw [hsz]; exact decide_eq_true (by omega)
     have HE3 : Aside0 (encO h p l = ([], 2)) := ⟨by rw [HE2.out, if_pos h96]⟩
     clear hsz h96
     go_wp2_with (first | ((with_reducible refine gate_callee (f := 28) rfl ?_); refine goesL_ (some 66) rfl rfl Tryd.func28 (by kernel_rfl) rfl #[.slice A6 pl c6] rfl sqm ?_; (with_reducible refine (rtextsC A6 pl c6 (encL h p l) _ HC6.out hc6 HLN.out HSH.out).mono ?_); rintro e w7 ⟨rfl, hb⟩; refine ⟨_, rfl, ?_⟩; rw [← HTE.out]; have HB7 := sqA (below_step HBi.out hb); clear hb))
     go_ret2
     exact ⟨by rw [HE3.out]; rfl, HB7.out⟩
    ·
     have t96 : decide (4096 < ((mk T).size : Int)) = false := by rw [hsz]; exact decide_eq_false (by omega)
     have HE3 : Aside0 (encO h p l = (T, 0)) := ⟨by rw [HE2.out, if_neg h96]⟩
     clear hsz h96
     go_wp2_with (first | ((with_reducible refine gate_callee (f := 28) rfl ?_); refine goesL_ (some 66) rfl rfl Tryd.func28 (by kernel_rfl) rfl #[.slice A6 pl c6] rfl sqm ?_; (with_reducible refine (rtextsC A6 pl c6 (encL h p l) _ HC6.out hc6 HLN.out HSH.out).mono ?_); rintro e w7 ⟨rfl, hb⟩; refine ⟨_, rfl, ?_⟩; rw [← HTE.out]; have HB7 := sqA (below_step HBi.out hb); clear hb))
     go_ret2
     exact ⟨by rw [HE3.out]; rfl, HB7.out⟩
 ·
  have HK := sqA hk
  have HE : Aside0 (encF h p l = ([], 1)) := ⟨by unfold encF; rw [if_neg hk]⟩
  rw [HE.out]
  clear hk
  unfold cB
  go_enter Tryd.func11, Tryd.ntmps11
  go_wp2_with (first | ((with_reducible refine gate_dst (N := 1) rfl ?_); refine sqo (N := 1) (cs := #[.int .i64 h, .string p, .slice A n c]) (t := 24) ?_; intro gb hgb wb hboxb hbb; have HGB := sqA hboxb; have HBB := sqA hbb; obtain ⟨y0, yz0, y1, yz1, y2, yz2⟩ := sq3 hboxb; clear hgb hboxb hbb) | ((with_reducible refine gate_callee (f := 13) rfl ?_); refine goesL_ (some 12) rfl rfl Tryd.func13 (by kernel_rfl) rfl #[.agg (cB h p A n c)] rfl sqm ?_; (with_reducible refine (rcheckC h p A n c l _ HN.out (Kd.C_below HC.out HBB.out) hnc).mono ?_); rintro e w1 ⟨rfl, hb⟩; refine ⟨_, rfl, ?_⟩; rw [eB_neg HK.out]; have HB1 := sqA (below_step HBB.out hb); clear hb))
  go_ret2
  exact ⟨rfl, HB1.out⟩
end Go.Proofs.YtifpomknkjegeaaDoor.Bk
namespace Go.Proofs.YtifpomknkjegeaaDoor.Bk
open Go.RowKit Go.Proofs.YtifpomknkjegeaaDoor.PAll Go.Proofs.YtifpomknkjegeaaDoorW.PrintWords Go.Proofs.YtifpomknkjegeaaDoorW.PrintLast Go.Proofs.YtifpomknkjegeaaDoorW.PrintMore SG Go.Proofs.YtifpomknkjegeaaDoor.BFun Go.Proofs.YtifpomknkjegeaaDoor.Hlp
set_option linter.unusedVariables false
set_option linter.unusedSimpArgs false
theorem rreadC (s : List UInt8) (hl : s.length ≤ 1000000) (w : World) : Calls Tryd.prog 34 #[.string (mk s)] w fun e w' => ∃ v0 : Value, e = .returned (.tuple #[v0, .int .i64 (readO [] (readR s)).2]) ∧ Kd.R Kd.string 9 w' w.heap.size (fun _ => True) v0 (readO [] (readR s)).1 ∧ Below w.heap.size w w' := by
 obtain ⟨q, hq⟩ := roundsE (E_rRead s hl)
 exact sandglassref16_Read.calls q (mk s) _ _ w hq
theorem rreadCmdC (c : List UInt8) (hl : c.length ≤ 1000000) (w : World) : Calls Tryd.prog 35 #[.string (mk c)] w fun e w' => e = .returned (.tuple #[.agg #[.int .i64 (rcA c).1, .int .i64 (rcA c).2.1, .string (rcA c).2.2.1, .string (rcA c).2.2.2.1], .int .i64 (rcA c).2.2.2.2]) ∧ Below w.heap.size w w' := by
 obtain ⟨q, hq⟩ := roundsE (E_rReadCommand c hl)
 exact sandglassref16_ReadCommand.calls q (mk c) _ _ _ _ _ w hq
theorem add_lit1 (ad : Addr) (i : Nat) : ad.add (i + 1) = ⟨ad.block, ad.off + (i + 1), none⟩ := by
 unfold Addr.add
 rw [if_neg (by omega)]
theorem num4_ix (l : List UInt8) (h : l.length = 4) (p0 : 0 < (mk l).size) (p1 : 1 < (mk l).size) (p2 : 2 < (mk l).size) (p3 : 3 < (mk l).size) :
  ((((mk l)[0]'p0).toNat : Nat) : Int) * 16777216 + ((((mk l)[1]'p1).toNat : Nat) : Int) * 65536 + ((((mk l)[2]'p2).toNat : Nat) : Int) * 256 + ((((mk l)[3]'p3).toNat : Nat) : Int) = (num4 l : Int) := by
 match l, h with
 | [a, b, c, d], _ => show (a.toNat : Int) * 16777216 + (b.toNat : Int) * 65536 + (c.toNat : Int) * 256 + (d.toNat : Int) = ((a.toNat * 16777216 + b.toNat * 65536 + c.toNat * 256 + d.toNat : Nat) : Int); omega
theorem mk_ne {a b : List UInt8} (h : a ≠ b) : mk a ≠ mk b := fun e => h (by have := congrArg (fun x : ByteArray => x.data.toList) e; simpa [mk] using this)
theorem tm3 (N : Nat) : Int.tmod (N : Int) 3 = ((N % 3 : Nat) : Int) := rfl
theorem em3 (N : Nat) : (N : Int) % 3 = ((N % 3 : Nat) : Int) := by omega
theorem decF_no {s : List UInt8} {ts : List (List UInt8)} (h : readR s = some ts) (hn : readF ts = (noB, false)) : decF s = (noB, 3) := by
 rw [decF_some h, hn, if_neg (fun hh => by cases hh.2)]
theorem decF_ref {s : List UInt8} {ts : List (List UInt8)} (h : readR s = some ts) (hq : (2 ≤ ts.length ∧ (ts.length - 2) % 3 = 0 ∧ (ts.getD 0 []).length = 1) ∧ ∀ j, j < (ts.length - 2) / 3 → (rq ts j).2 = true) {hh : Int} {p : ByteArray} {l : List S53} (eh : b0 (ts.getD 0 []) = hh) (ep : mk (ts.getD 1 []) = p) (el : rqs ts ((ts.length - 2) / 3) = l) :
  (encF hh p l = (s, 0) → decF s = ((hh, p, l), 0)) ∧ (encF hh p l ≠ (s, 0) → decF s = (noB, 3)) := by
 have hE := encL_rqs hq.1.1 hq.1.2.2 ((ts.length - 2) / 3) (by omega) hq.2
 rw [eh, ep, el, List.take_of_length_le (by omega)] at hE
 have ht : texts (encL hh p l) = s := by rw [hE]; exact readR_back _ _ _ rfl h
 refine ⟨fun he => (decF_encF he).1, fun he => ?_⟩
 rw [decF_some h, readF_pos hq, eh, ep, el]
 by_cases hk : okB hh p l
 ·
  by_cases h4 : s.length ≤ 4096
  ·
   refine (he ?_).elim
   unfold encF encO
   rw [if_pos hk, ht, if_neg (by omega)]
  ·
   rw [if_neg (fun hx => h4 hx.1)]
 ·
  rw [if_neg]
  rintro ⟨_, hx⟩
  have hx' : (eB hh p l == 0) = true := hx
  rw [eB_neg hk] at hx'
  cases hx'
set_option maxHeartbeats 16000000 in
set_option maxRecDepth 100000 in
theorem rdec_none (s : List UInt8) (hl : s.length ≤ 5000) (w : World) (h : readR s = none) : Calls Tryd.prog 15 #[.string (mk s)] w (DecA s w) := by
 have HR : Aside0 (decF s = (noB, 3)) := ⟨decF_none h⟩
 have hro : readO [] (readR s) = ([], 3) := by rw [h]; rfl
 go_enter Tryd.func15, Tryd.ntmps15
 go_wp2_with (first | ((with_reducible refine gate_dst (N := 2) rfl ?_); refine sqo (N := 2) (cs := #[.int .i64 0, .string ⟨#[]⟩, .slice none 0 0]) (t := 24) ?_; intro g2 hg2 w2 hbox2 hb2; have HX2 := sqA hbox2; have HB2 := sqA hb2; have HGE2 := sqA (show w.heap.size ≤ g2 by rw [hg2]; exact Nat.le_refl _); clear hg2 hbox2 hb2) | (((with_reducible refine gate_callee (f := 34) rfl ?_); refine goesL_ (some 15) rfl rfl Tryd.func34 (by kernel_rfl) rfl #[.string (mk s)] rfl sqm ?_; (with_reducible refine (rreadC s (by omega) _).mono ?_); rintro e w3 ⟨v0, rfl, hr3, hb3⟩; refine ⟨_, rfl, ?_⟩; rw [hro] at hr3; (try rw [hro]); have HX3 := sqA (blk_below HX2.out hb3); have HB3 := sqA (below_step HB2.out hb3); have HR3 := sqA hr3; obtain ⟨y0, yz0, y1, yz1, y2, yz2⟩ := sq3 HX3.out; clear hr3 hb3)))
 exact bodyPost_ret (results_ct rfl _ _ g2 24 #[.int .i64 0, .string ⟨#[]⟩, .slice none 0 0] (0, 0) _ rfl (show (set3 w3 g2 0 ⟨#[]⟩ (.slice none 0 0)).heap[g2]? = _ from set3_blk HX3.out _ _ _) Tryd.underlying24 rfl (by kernel_rfl)) rfl (by exact decA_no HR.out (show Below w.heap.size w (set3 w3 g2 0 ⟨#[]⟩ (.slice none 0 0)) from set3_below HB3.out HGE2.out _ _ _))
set_option maxHeartbeats 16000000 in
set_option maxRecDepth 100000 in
theorem rdec_lt (s : List UInt8) (hl : s.length ≤ 5000) (w : World) (ts : List (List UInt8)) (h : readR s = some ts) (h1 : ts.length < 2) : Calls Tryd.prog 15 #[.string (mk s)] w (DecA s w) := by
 have HR : Aside0 (decF s = (noB, 3)) := ⟨decF_no h (readF_neg (fun hh => by have := hh.1.1; omega))⟩
 have hro : readO [] (readR s) = (ts.map mk, 0) := by rw [h]; rfl
 have hml : (ts.map mk).length = ts.length := List.length_map _
 have hN6 : ts.length ≤ 5000 := Nat.le_trans (readR_small h).1 hl
 have t1 : decide ((ts.length : Int) < 2) = true := decide_eq_true (by omega)
 go_enter Tryd.func15, Tryd.ntmps15
 go_wp2_with (first | ((with_reducible refine gate_dst (N := 2) rfl ?_); refine sqo (N := 2) (cs := #[.int .i64 0, .string ⟨#[]⟩, .slice none 0 0]) (t := 24) ?_; intro g2 hg2 w2 hbox2 hb2; have HX2 := sqA hbox2; have HB2 := sqA hb2; have HGE2 := sqA (show w.heap.size ≤ g2 by rw [hg2]; exact Nat.le_refl _); clear hg2 hbox2 hb2) | (((with_reducible refine gate_callee (f := 34) rfl ?_); refine goesL_ (some 15) rfl rfl Tryd.func34 (by kernel_rfl) rfl #[.string (mk s)] rfl sqm ?_; (with_reducible refine (rreadC s (by omega) _).mono ?_); rintro e w3 ⟨v0, rfl, hr3, hb3⟩; refine ⟨_, rfl, ?_⟩; rw [hro] at hr3; (try rw [hro]); have HX3 := sqA (blk_below HX2.out hb3); have HB3 := sqA (below_step HB2.out hb3); have HR3 := sqA hr3; obtain ⟨y0, yz0, y1, yz1, y2, yz2⟩ := sq3 HX3.out; clear hr3 hb3); obtain ⟨A3, c3, rfl, hc3, hC3⟩ := Kd.R_reads HR3.out; rw [hml] at hc3 hC3 ⊢; generalize ts.length = N at *))
 exact bodyPost_ret (results_ct rfl _ _ g2 24 #[.int .i64 0, .string ⟨#[]⟩, .slice none 0 0] (0, 0) _ rfl (show (set3 w3 g2 0 ⟨#[]⟩ (.slice none 0 0)).heap[g2]? = _ from set3_blk HX3.out _ _ _) Tryd.underlying24 rfl (by kernel_rfl)) rfl (by exact decA_no HR.out (show Below w.heap.size w (set3 w3 g2 0 ⟨#[]⟩ (.slice none 0 0)) from set3_below HB3.out HGE2.out _ _ _))
set_option maxHeartbeats 16000000 in
set_option maxRecDepth 100000 in
theorem rdec_mod (s : List UInt8) (hl : s.length ≤ 5000) (w : World) (ts : List (List UInt8)) (h : readR s = some ts) (h1 : 2 ≤ ts.length) (h2 : ¬ ts.length % 3 = 2) : Calls Tryd.prog 15 #[.string (mk s)] w (DecA s w) := by
 have HR : Aside0 (decF s = (noB, 3)) := ⟨decF_no h (readF_neg (fun hh => by have := hh.1.2.1; omega))⟩
 have hro : readO [] (readR s) = (ts.map mk, 0) := by rw [h]; rfl
 have hml : (ts.map mk).length = ts.length := List.length_map _
 have hN6 : ts.length ≤ 5000 := Nat.le_trans (readR_small h).1 hl
 have t1 : decide ((ts.length : Int) < 2) = false := decide_eq_false (by omega)
 have t2 := tm3 ts.length
 have t3 := em3 ts.length
 have t4 : (((ts.length % 3 : Nat) : Int) != 2) = true := bne_iff_ne.2 (by omega)
 generalize ts.length % 3 = r at *
 go_enter Tryd.func15, Tryd.ntmps15
 go_wp2_with (first | ((with_reducible refine gate_dst (N := 2) rfl ?_); refine sqo (N := 2) (cs := #[.int .i64 0, .string ⟨#[]⟩, .slice none 0 0]) (t := 24) ?_; intro g2 hg2 w2 hbox2 hb2; have HX2 := sqA hbox2; have HB2 := sqA hb2; have HGE2 := sqA (show w.heap.size ≤ g2 by rw [hg2]; exact Nat.le_refl _); clear hg2 hbox2 hb2) | (((with_reducible refine gate_callee (f := 34) rfl ?_); refine goesL_ (some 15) rfl rfl Tryd.func34 (by kernel_rfl) rfl #[.string (mk s)] rfl sqm ?_; (with_reducible refine (rreadC s (by omega) _).mono ?_); rintro e w3 ⟨v0, rfl, hr3, hb3⟩; refine ⟨_, rfl, ?_⟩; rw [hro] at hr3; (try rw [hro]); have HX3 := sqA (blk_below HX2.out hb3); have HB3 := sqA (below_step HB2.out hb3); have HR3 := sqA hr3; obtain ⟨y0, yz0, y1, yz1, y2, yz2⟩ := sq3 HX3.out; clear hr3 hb3); obtain ⟨A3, c3, rfl, hc3, hC3⟩ := Kd.R_reads HR3.out; rw [hml] at hc3 hC3 ⊢; generalize ts.length = N at *))
 exact bodyPost_ret (results_ct rfl _ _ g2 24 #[.int .i64 0, .string ⟨#[]⟩, .slice none 0 0] (0, 0) _ rfl (show (set3 w3 g2 0 ⟨#[]⟩ (.slice none 0 0)).heap[g2]? = _ from set3_blk HX3.out _ _ _) Tryd.underlying24 rfl (by kernel_rfl)) rfl (by exact decA_no HR.out (show Below w.heap.size w (set3 w3 g2 0 ⟨#[]⟩ (.slice none 0 0)) from set3_below HB3.out HGE2.out _ _ _))
set_option maxHeartbeats 16000000 in
set_option maxRecDepth 100000 in
theorem rdec_one (s : List UInt8) (hl : s.length ≤ 5000) (w : World) (ts : List (List UInt8)) (h : readR s = some ts) (h1 : 2 ≤ ts.length) (h2 : ts.length % 3 = 2) (h3 : ¬ (ts.getD 0 []).length = 1) : Calls Tryd.prog 15 #[.string (mk s)] w (DecA s w) := by
 have HR : Aside0 (decF s = (noB, 3)) := ⟨decF_no h (readF_neg (fun hh => h3 hh.1.2.2))⟩
 have hro : readO [] (readR s) = (ts.map mk, 0) := by rw [h]; rfl
 have hml : (ts.map mk).length = ts.length := List.length_map _
 have hN6 : ts.length ≤ 5000 := Nat.le_trans (readR_small h).1 hl
 have t1 : decide ((ts.length : Int) < 2) = false := decide_eq_false (by omega)
 have t2 := tm3 ts.length
 have t3 := em3 ts.length
 have t4 : (((ts.length % 3 : Nat) : Int) != 2) = false := by rw [h2]; rfl
 obtain ⟨T0, hT0⟩ : ∃ T0, T0 = ts.getD 0 [] := ⟨_, rfl⟩
 have HT0 := sqA hT0
 rw [← hT0] at h3
 have t5 : (((mk T0).size : Int) != 1) = true := bne_iff_ne.2 (by rw [mk_size]; omega)
 generalize ts.length % 3 = r at *
 clear hT0
 go_enter Tryd.func15, Tryd.ntmps15
 go_wp2_with (first | ((with_reducible refine gate_dst (N := 2) rfl ?_); refine sqo (N := 2) (cs := #[.int .i64 0, .string ⟨#[]⟩, .slice none 0 0]) (t := 24) ?_; intro g2 hg2 w2 hbox2 hb2; have HX2 := sqA hbox2; have HB2 := sqA hb2; have HGE2 := sqA (show w.heap.size ≤ g2 by rw [hg2]; exact Nat.le_refl _); clear hg2 hbox2 hb2) | (((with_reducible refine gate_callee (f := 34) rfl ?_); refine goesL_ (some 15) rfl rfl Tryd.func34 (by kernel_rfl) rfl #[.string (mk s)] rfl sqm ?_; (with_reducible refine (rreadC s (by omega) _).mono ?_); rintro e w3 ⟨v0, rfl, hr3, hb3⟩; refine ⟨_, rfl, ?_⟩; rw [hro] at hr3; (try rw [hro]); have HX3 := sqA (blk_below HX2.out hb3); have HB3 := sqA (below_step HB2.out hb3); have HR3 := sqA hr3; obtain ⟨y0, yz0, y1, yz1, y2, yz2⟩ := sq3 HX3.out; clear hr3 hb3); obtain ⟨A3, c3, rfl, hc3, hC3⟩ := Kd.R_reads HR3.out; rw [hml] at hc3 hC3 ⊢; generalize ts.length = N at *; obtain ⟨ad, rfl, sof⟩ := strs_at hC3 (by omega); have s0 : w3.cell? ad = some (.string (mk T0)) := (by rw [HT0.out]; exact (sof _ (Below.refl _ _) 0 (by omega)).trans (getD_mk _ _))))
 exact bodyPost_ret (results_ct rfl _ _ g2 24 #[.int .i64 0, .string ⟨#[]⟩, .slice none 0 0] (0, 0) _ rfl (show (set3 w3 g2 0 ⟨#[]⟩ (.slice none 0 0)).heap[g2]? = _ from set3_blk HX3.out _ _ _) Tryd.underlying24 rfl (by kernel_rfl)) rfl (by exact decA_no HR.out (show Below w.heap.size w (set3 w3 g2 0 ⟨#[]⟩ (.slice none 0 0)) from set3_below HB3.out HGE2.out _ _ _))
set_option maxHeartbeats 16000000 in
set_option maxRecDepth 100000 in
theorem rdec_main (s : List UInt8) (hl : s.length ≤ 5000) (w : World) (ts : List (List UInt8)) (h : readR s = some ts) (h1 : 2 ≤ ts.length) (h2 : ts.length % 3 = 2) (h3 : (ts.getD 0 []).length = 1) : Calls Tryd.prog 15 #[.string (mk s)] w (DecA s w) := by
 have HRD := sqA h
 have H1 := sqA h1
 have H2 := sqA h2
 have H3 := sqA h3
 have hro : readO [] (readR s) = (ts.map mk, 0) := by rw [h]; rfl
 have hml : (ts.map mk).length = ts.length := List.length_map _
 have hN6 : ts.length ≤ 5000 := Nat.le_trans (readR_small h).1 hl
 have HS : Aside0 (∀ t ∈ ts, t.length ≤ 1000000) := ⟨fun t ht => by have := (readR_small h).2 t ht; omega⟩
 have t1 : decide ((ts.length : Int) < 2) = false := decide_eq_false (by omega)
 have t2 := tm3 ts.length
 have t3 := em3 ts.length
 have t4 : (((ts.length % 3 : Nat) : Int) != 2) = false := by rw [h2]; rfl
 obtain ⟨T0, hT0⟩ : ∃ T0, T0 = ts.getD 0 [] := ⟨_, rfl⟩
 obtain ⟨T1, hT1⟩ : ∃ T1, T1 = ts.getD 1 [] := ⟨_, rfl⟩
 have HT0 := sqA hT0
 have HT1 := sqA hT1
 rw [← hT0] at h3
 have t5 : (((mk T0).size : Int) != 1) = false := by rw [mk_size, h3]; rfl
 have hps : 0 < (mk T0).size := by rw [mk_size, h3]; decide
 obtain ⟨X, hX, hb0⟩ : ∃ X : Nat, ((mk T0)[0]'hps).toNat = X ∧ b0 T0 = (X : Int) := one0 h3 hps
 have hX2 : X < 256 := by rw [← hX]; exact UInt8.toNat_lt _
 have HX256 := sqA hX2
 have HB0 := sqA hb0
 obtain ⟨m, hm3⟩ : ∃ m, ts.length = 2 + 3 * m := ⟨(ts.length - 2) / 3, by omega⟩
 have HM3 := sqA hm3
 have HMD : Aside0 ((ts.length - 2) / 3 = m) := ⟨by omega⟩
 obtain ⟨N, hN⟩ : ∃ N, N = ts.length := ⟨_, rfl⟩
 have HN := sqA hN
 rw [← hN] at h1 h2 hml hN6 t1 t2 t3 t4 hm3
 have HM6 : Aside0 (m ≤ 2000) := ⟨by omega⟩
 have HM3N := sqA hm3
 have H1N := sqA h1
 generalize N % 3 = r at *
 clear hT0 hT1 h hN h3 hX2 hb0 h2 hm3
 go_enter Tryd.func15, Tryd.ntmps15
 go_upto_region 4 with (first | ((with_reducible refine gate_dst (N := 2) rfl ?_); refine sqo (N := 2) (cs := #[.int .i64 0, .string ⟨#[]⟩, .slice none 0 0]) (t := 24) ?_; intro g2 hg2 w2 hbox2 hb2; have HX2 := sqA hbox2; have HB2 := sqA hb2; have HGE2 := sqA (show w.heap.size ≤ g2 by rw [hg2]; exact Nat.le_refl _); clear hg2 hbox2 hb2) | (((with_reducible refine gate_callee (f := 34) rfl ?_); refine goesL_ (some 15) rfl rfl Tryd.func34 (by kernel_rfl) rfl #[.string (mk s)] rfl sqm ?_; (with_reducible refine (rreadC s (by omega) _).mono ?_); rintro e w3 ⟨v0, rfl, hr3, hb3⟩; refine ⟨_, rfl, ?_⟩; rw [hro] at hr3; (try rw [hro]); have HX3 := sqA (blk_below HX2.out hb3); have HB3 := sqA (below_step HB2.out hb3); have HR3 := sqA hr3; obtain ⟨y0, yz0, y1, yz1, y2, yz2⟩ := sq3 HX3.out; clear hr3 hb3); obtain ⟨A3, c3, rfl, hc3, hC3⟩ := Kd.R_reads HR3.out; rw [hml] at hc3 hC3 ⊢; have HC3 := sqA hC3; have HC3c := sqA hc3; obtain ⟨ad, rfl, sof⟩ := strs_at hC3 (by omega); have s0 : w3.cell? ad = some (.string (mk T0)) := (by rw [HT0.out]; exact (sof _ (Below.refl _ _) 0 (by omega)).trans (getD_mk _ _)); have SOF := sqA sof; clear sof hC3))
 (try simp only [Act.put, List.setIfInBounds_toArray, List.set_cons_zero, List.set_cons_succ])
 have HSF0 : Aside0 (∀ w', Below w3.heap.size w3 w' → w'.cell? ad = some (.string (mk T0))) := ⟨fun w' hb => by rw [HT0.out]; exact (SOF.out w' hb 0 (by omega)).trans (getD_mk _ _)⟩
 have HSF1 : Aside0 (∀ w', Below w3.heap.size w3 w' → w'.cell? ⟨ad.block, ad.off + 1, none⟩ = some (.string (mk T1))) := ⟨fun w' hb => by rw [HT1.out]; exact (SOF.out w' hb 1 (by omega)).trans (getD_mk _ _)⟩
 have hn1 : 1 < N := by omega
 have hn1' : (1 : Int) < (N : Int) := by omega
 have hn0 : 0 < N := by omega
 have BD : Aside0 (Below w3.heap.size w3 w3.drew) := ⟨below_drew (Below.refl _ _)⟩
 clear t1 t2 t3 t4
 refine wp_region_held_drew (S := fun w' => w'.cell? ad = some (.string (mk T0)) ∧ w'.cell? ⟨ad.block, ad.off + 1, none⟩ = some (.string (mk T1))) (by kernel_rfl) ⟨HSF0.out _ BD.out, HSF1.out _ BD.out⟩ (fun hHeld => ?_)
 (refine wpAnyH_take (i := 0) (v := ?hv1) rfl (by kernel_rfl) (by kernel_rfl) (by kernel_rfl) (fun _ _ _ h => h) (Or.inl ⟨by rfl, ?hy1⟩) (by assumption) ?hrest1; (case hy1 => (intro w hSw; obtain ⟨sA, sB⟩ := hSw; first | (go_simp; done) | (go_simp; with_reducible rfl))); (try simp only [Act.put, List.getElem_toArray, List.getElem_cons_succ, List.getElem_cons_zero, List.setIfInBounds_toArray, List.set_cons_zero, List.set_cons_succ]))
 (refine wpAnyH_take (i := 1) (v := ?hv2) rfl (by kernel_rfl) (by kernel_rfl) (by kernel_rfl) (fun _ _ _ h => h) (Or.inl ⟨by rfl, ?hy2⟩) (by assumption) ?hrest2; (case hy2 => (intro w hSw; obtain ⟨sA, sB⟩ := hSw; first | (go_simp; done) | (go_simp; with_reducible rfl))); (try simp only [Act.put, List.getElem_toArray, List.getElem_cons_succ, List.getElem_cons_zero, List.setIfInBounds_toArray, List.set_cons_zero, List.set_cons_succ]))
 (refine wpAnyH_take (i := 2) (v := ?hv3) rfl (by kernel_rfl) (by kernel_rfl) (by kernel_rfl) (fun _ _ _ h => h) (Or.inl ⟨by rfl, ?hy3⟩) (by assumption) ?hrest3; (case hy3 => (intro w hSw; obtain ⟨sA, sB⟩ := hSw; first | (go_simp; done) | (go_simp; with_reducible rfl))); (try simp only [Act.put, List.getElem_toArray, List.getElem_cons_succ, List.getElem_cons_zero, List.setIfInBounds_toArray, List.set_cons_zero, List.set_cons_succ]))
 (refine wpAnyH_take (i := 3) (v := ?hv4) rfl (by kernel_rfl) (by kernel_rfl) (by kernel_rfl) (fun _ _ _ h => h) (Or.inl ⟨by rfl, ?hy4⟩) (by assumption) ?hrest4; (case hy4 => (intro w hSw; obtain ⟨sA, sB⟩ := hSw; first | (go_simp; done) | (go_simp; with_reducible rfl))); (try simp only [Act.put, List.getElem_toArray, List.getElem_cons_succ, List.getElem_cons_zero, List.setIfInBounds_toArray, List.set_cons_zero, List.set_cons_succ]))
 (refine wpAnyH_take (i := 4) (v := ?hv5) rfl (by kernel_rfl) (by kernel_rfl) (by kernel_rfl) (fun _ _ _ h => h) (Or.inl ⟨by rfl, ?hy5⟩) (by assumption) ?hrest5; (case hy5 => (intro w hSw; obtain ⟨sA, sB⟩ := hSw; first | (go_simp; done) | (go_simp; with_reducible rfl))); (try simp only [Act.put, List.getElem_toArray, List.getElem_cons_succ, List.getElem_cons_zero, List.setIfInBounds_toArray, List.set_cons_zero, List.set_cons_succ]))
 (refine wpAnyH_take (i := 5) (v := ?hv6) rfl (by kernel_rfl) (by kernel_rfl) (by kernel_rfl) (fun _ _ _ h => h) (Or.inl ⟨by rfl, ?hy6⟩) (by assumption) ?hrest6; (case hy6 => (intro w hSw; obtain ⟨sA, sB⟩ := hSw; first | (go_simp; done) | (go_simp; with_reducible rfl))); (try simp only [Act.put, List.getElem_toArray, List.getElem_cons_succ, List.getElem_cons_zero, List.setIfInBounds_toArray, List.set_cons_zero, List.set_cons_succ]))
 (refine wpAnyH_take (i := 6) (v := ?hv7) rfl (by kernel_rfl) (by kernel_rfl) (by kernel_rfl) (fun _ _ _ h => h) (Or.inl ⟨by rfl, ?hy7⟩) (by assumption) ?hrest7; (case hy7 => (intro w hSw; obtain ⟨sA, sB⟩ := hSw; first | (go_simp; done) | (go_simp; with_reducible rfl))); (try simp only [Act.put, List.getElem_toArray, List.getElem_cons_succ, List.getElem_cons_zero, List.setIfInBounds_toArray, List.set_cons_zero, List.set_cons_succ]))
 (refine wpAnyH_take (i := 7) (v := ?hv8) rfl (by kernel_rfl) (by kernel_rfl) (by kernel_rfl) (fun _ _ _ h => h) (Or.inl ⟨by rfl, ?hy8⟩) (by assumption) ?hrest8; (case hy8 => (intro w hSw; obtain ⟨sA, sB⟩ := hSw; first | (go_simp; done) | (go_simp; with_reducible rfl))); (try simp only [Act.put, List.getElem_toArray, List.getElem_cons_succ, List.getElem_cons_zero, List.setIfInBounds_toArray, List.set_cons_zero, List.set_cons_succ]))
 (refine wpAnyH_take (i := 8) (v := ?hv9) rfl (by kernel_rfl) (by kernel_rfl) (by kernel_rfl) (fun _ _ _ h => h) (Or.inl ⟨by rfl, ?hy9⟩) (by assumption) ?hrest9; (case hy9 => (intro w hSw; obtain ⟨sA, sB⟩ := hSw; first | (go_simp; done) | (go_simp; with_reducible rfl))); (try simp only [Act.put, List.getElem_toArray, List.getElem_cons_succ, List.getElem_cons_zero, List.setIfInBounds_toArray, List.set_cons_zero, List.set_cons_succ]))
 refine wpAnyH_ready (rs := [9]) (by kernel_rfl) (by simp) ?_
 refine AllReadyH.cons rfl (fun K hK => ?_) AllReadyH.nil
 go_simp
 refine hK.out _ _ ⟨HSF0.out _ (below_drew (below_alloc (Below.refl _ _) _)), HSF1.out _ (below_drew (below_alloc (Below.refl _ _) _))⟩ (fun hHeld => ?_)
 clear hK K
 refine wpAnyH_ready (rs := [10]) (by kernel_rfl) (by simp) ?_
 refine AllReadyH.cons rfl (fun K hK => ?_) AllReadyH.nil
 go_simp
 have qx2 := wrapX HX256.out
 rw [qx2]
 refine hK.out _ _ ⟨HSF0.out _ (below_drew (below_alloc (Below.refl _ _) _)), HSF1.out _ (below_drew (below_alloc (Below.refl _ _) _))⟩ (fun hHeld => ?_)
 refine wpAnyH_done (by kernel_rfl) ?_ _
 clear hK K
 clear hHeld
 obtain ⟨w4, hw4⟩ : ∃ w4, w4 = (w3.alloc (.cells #[.int .i64 (X : Int), .string (mk T1), .slice none 0 0] 24)).drew := ⟨_, rfl⟩
 rw [← hw4]
 obtain ⟨g4, hg4⟩ : ∃ g4, g4 = w3.heap.size := ⟨_, rfl⟩
 rw [← hg4]
 have HX4 : Aside0 (w4.heap[g4]? = some (.cells #[.int .i64 (X : Int), .string (mk T1), .slice none 0 0] 24 (0, 0))) := ⟨by rw [hw4, hg4]; exact blk_drew (blk_new w3 _)⟩
 have HY4 : Aside0 (w4.heap[g2]? = some (.cells #[.int .i64 0, .string ⟨#[]⟩, .slice none 0 0] 24 (0, 0))) := ⟨by rw [hw4]; exact blk_drew (blk_alloc HX3.out _)⟩
 have HB34 : Aside0 (Below w3.heap.size w3 w4) := ⟨by rw [hw4]; exact below_drew (below_alloc (Below.refl _ _) _)⟩
 have HB4 : Aside0 (Below w.heap.size w w4) := ⟨below_step HB3.out HB34.out⟩
 have HGE4 : Aside0 (w.heap.size ≤ g4) := ⟨by rw [hg4]; exact HB3.out.size⟩
 have HGE34 : Aside0 (w3.heap.size ≤ g4) := ⟨by rw [hg4]; exact Nat.le_refl _⟩
 have HNE : Aside0 (g4 ≠ g2) := ⟨by rw [hg4]; exact Nat.ne_of_gt (blk_lt HX3.out)⟩
 have HNE' : Aside0 (g2 ≠ g4) := ⟨by rw [hg4]; exact Nat.ne_of_lt (blk_lt HX3.out)⟩
 clear qx2 hw4 hg4 y0 yz0 y1 yz1 y2 yz2 s0 hX hps hn1 hn1' hn0 t5
 go_wp2
 go_loopg [7] m (fun kq v7 w' => ∃ (I j : Nat) (A9 : Option Addr) (c9 : Nat), v7 = .int .i64 (I : Int) ∧ Aside0 (I = 2 + 3 * j) ∧ Aside0 (j + kq = m) ∧ Aside0 (w'.heap[g4]? = some (.cells #[.int .i64 (X : Int), .string (mk T1), .slice A9 j c9] 24 (0, 0))) ∧ Aside0 (w'.heap[g2]? = some (.cells #[.int .i64 0, .string ⟨#[]⟩, .slice none 0 0] 24 (0, 0))) ∧ Aside0 (k53.R 53 w' w3.heap.size (fun _ => True) (.slice A9 j c9) (rqs ts j)) ∧ Aside0 (∀ i, i < j → (rq ts i).2 = true) ∧ Aside0 (Below w.heap.size w w') ∧ Aside0 (Below w3.heap.size w3 w'))
 case atStart => exact ⟨2, 0, none, 0, rfl, ⟨rfl⟩, ⟨by omega⟩, HX4, HY4, ⟨Kd.R_nil _ _ _ _ _⟩, ⟨fun i hi => absurd hi (Nat.not_lt_zero i)⟩, HB4, HB34⟩
 case round =>
  obtain ⟨I, j, A9, c9, rfl, HI, HJ, HXr, HYr, HRr, HAr, HBr, HDr⟩ := hrel
  have hj := HJ.out
  have gI : ∀ i, i < N → wr.cell? (ad.add i) = some (.string (mk (ts.getD i []))) := fun i hi => (SOF.out _ HDr.out i hi).trans (getD_mk _ _)
  by_cases hat : j < m
  ·
   obtain ⟨k1, rfl⟩ : ∃ k1, gk = k1 + 1 := ⟨gk - 1, by omega⟩
   have hI3 : I + 3 ≤ N := by have := HI.out; have := HM3N.out; omega
   have hlt : decide ((I : Int) < (N : Int)) = true := decide_eq_true (by omega)
   have hlt2 : I < N := by omega
   have x0 : wr.cell? (ad.add I) = some (.string (mk (ts.getD I []))) := gI I (by omega)
   have x1 : wr.cell? ⟨ad.block, ad.off + (I + 1), none⟩ = some (.string (mk (ts.getD (I + 1) []))) := by have := gI (I + 1) (by omega); rwa [add_lit1] at this
   have x2 : wr.cell? ⟨ad.block, ad.off + (I + 2), none⟩ = some (.string (mk (ts.getD (I + 2) []))) := by have := gI (I + 2) (by omega); rwa [add_lit1] at this
   have HL3 : Aside0 ((ts.getD (I + 2) []).length ≤ 1000000) := ⟨len_getD HS.out _⟩
   have HRQ : Aside0 (rq ts j = reqF (ts.getD I []) (ts.getD (I + 1) []) (ts.getD (I + 2) [])) := ⟨by rw [HI.out]; unfold rq; rw [show 3 + 3 * j = 2 + 3 * j + 1 by omega, show 4 + 3 * j = 2 + 3 * j + 2 by omega]⟩
   have SOFA : Aside0 (∀ w', Below w3.heap.size w3 w' → w'.cell? (ad.add I) = some (.string (mk (ts.getD I [])))) := ⟨fun w' hb => (SOF.out _ hb I hlt2).trans (getD_mk _ _)⟩
   generalize ts.getD I [] = ta at *
   generalize ts.getD (I + 1) [] = tb at *
   generalize ts.getD (I + 2) [] = tc at *
   have HJ1 : Aside0 (j + 1 + k1 = m) := ⟨by omega⟩
   have HJM := sqA hat
   have HNO : Aside0 ((reqF ta tb tc).2 = false → decF s = (noB, 3)) := ⟨fun hf => decF_no HRD.out (readF_neg (fun h => by have := h.2 j (by rw [HMD.out]; exact HJM.out); rw [HRQ.out, hf] at this; cases this))⟩
   have YF := sqA (And.intro HYr.out HXr.out)
   obtain ⟨y0, yz0, y1, yz1, y2, yz2⟩ := sq3 HYr.out
   clear HJ gI hj hat
   have w1 : wrap64 ((I : Int) + 1) = ((I + 1 : Nat) : Int) := w64_1 I (by omega)
   have w2' : wrap64 ((I : Int) + 2) = ((I + 2 : Nat) : Int) := w64_2 I (by omega)
   by_cases ha : ta.length = 1
   ·
    by_cases hb : tb.length = 4
    ·
     have ua : (((mk ta).size : Int) != 1) = false := by rw [mk_size, ha]; rfl
     have ub : (((mk tb).size : Int) != 4) = false := by rw [mk_size, hb]; rfl
     have HA1 := sqA ha
     have HB1 := sqA hb
     clear ha hb
     obtain ⟨q0, q1, q2, q3, er, hrc⟩ : ∃ q0 q1 q2 q3 er, rcA tc = (q0, q1, q2, q3, er) := ⟨_, _, _, _, _, rfl⟩
     have HRC := sqA hrc
     have hrcl := rreadCmdC tc HL3.out
     rw [hrc] at hrcl
     have HRCL := sqA hrcl
     clear hrc hrcl
     by_cases he : er = 0
     ·
      have HRS : Aside0 (reqF ta tb tc = (⟨b0 ta, (num4 tb : Int), ⟨q0, q1, q2, q3⟩⟩, true)) := ⟨by unfold reqF; rw [if_pos ⟨HA1.out, HB1.out⟩, HRC.out]; exact congrArg (Prod.mk _) (beq_iff_eq.2 he)⟩
      subst he
      have p0 : 0 < (mk tb).size := by rw [mk_size, HB1.out]; decide
      have p1 : 1 < (mk tb).size := by rw [mk_size, HB1.out]; decide
      have p2 : 2 < (mk tb).size := by rw [mk_size, HB1.out]; decide
      have p3 : 3 < (mk tb).size := by rw [mk_size, HB1.out]; decide
      obtain ⟨Y0, hY0⟩ : ∃ Y : Nat, ((mk tb)[0]'p0).toNat = Y := ⟨_, rfl⟩
      obtain ⟨Y1, hY1⟩ : ∃ Y : Nat, ((mk tb)[1]'p1).toNat = Y := ⟨_, rfl⟩
      obtain ⟨Y2, hY2⟩ : ∃ Y : Nat, ((mk tb)[2]'p2).toNat = Y := ⟨_, rfl⟩
      obtain ⟨Y3, hY3⟩ : ∃ Y : Nat, ((mk tb)[3]'p3).toNat = Y := ⟨_, rfl⟩
      go_upto_region 13 with (first | ((with_reducible refine gate_callee (f := 35) rfl ?_); refine goesL_ (some 76) rfl rfl Tryd.func35 (by kernel_rfl) rfl #[.string (mk tc)] rfl sqm ?_; (with_reducible refine (HRCL.out _).mono ?_); rintro e w5 ⟨rfl, hb⟩; refine ⟨_, rfl, ?_⟩; have HX5 := sqA (blk_below HXr.out hb); have HY5 := sqA (blk_below HYr.out hb); have HR5 := sqA (Kd.R_below HRr.out hb); have HB5 := sqA (below_step HBr.out hb); have HW5 := sqA hb; clear hb) | ((with_reducible refine gate_dst (N := 8) rfl ?_); refine sqo (N := 8) (cs := #[.int .i64 0, .int .i64 0, .string ⟨#[]⟩, .string ⟨#[]⟩]) (t := 51) ?_; intro g8 hg8 w6 hbox8 hb8; have HG8 := sqA hbox8; have HB8 := sqA hb8; have HGE8 := sqA (show w5.heap.size ≤ g8 by rw [hg8]; exact Nat.le_refl _); obtain ⟨v0, vz0, v1, vz1, v2, vz2, v3, vz3⟩ := sq4 hbox8; clear hg8 hbox8 hb8) | ((with_reducible refine gate_store (t := 51) (p := 8) (v := .tmp 77) rfl ?_); refine sqp (w1 := (set4 w6 g8 ⟨q0, q1, q2, q3⟩)) ?_; intro w7 hw7; have hg7 : w7.heap[g8]? = some (.cells #[.int .i64 q0, .int .i64 q1, .string q2, .string q3] 51 (0, 0)) := (by rw [hw7]; exact set4_blk HG8.out ⟨q0, q1, q2, q3⟩); have hb57 : Below w5.heap.size w5 w7 := (by rw [hw7]; exact set4_below HB8.out HGE8.out _); have HG7 := sqA hg7; have HX7 := sqA (blk_below HX5.out hb57); have HY7 := sqA (blk_below HY5.out hb57); have HR7 := sqA (Kd.R_below HR5.out hb57); have HB7 := sqA (below_step HB5.out hb57); have HW7 := sqA (below_step HW5.out hb57); obtain ⟨kk0, kkz0, kk1, kkz1, kk2, kkz2, kk3, kkz3⟩ := sq4 hg7; obtain ⟨z0, zz0, z1, zz1, z2, zz2⟩ := sq3 HY7.out; clear hw7 hg7 hb57))
      (try simp only [Act.put, List.setIfInBounds_toArray, List.set_cons_zero, List.set_cons_succ])
      have z1 : w7.drew.cell? ⟨ad.block, ad.off + (I + 1), none⟩ = some (.string (mk tb)) := pw_cell_below (below_drew HW7.out) x1
      have hNum : (Y0 : Int) * 16777216 + (Y1 : Int) * 65536 + (Y2 : Int) * 256 + (Y3 : Int) = (num4 tb : Int) := by
       rw [← hY0, ← hY1, ← hY2, ← hY3]
       exact num4_ix tb HB1.out p0 p1 p2 p3
      have by0 : Y0 < 256 := by rw [← hY0]; exact UInt8.toNat_lt _
      have by1 : Y1 < 256 := by rw [← hY1]; exact UInt8.toNat_lt _
      have by2 : Y2 < 256 := by rw [← hY2]; exact UInt8.toNat_lt _
      have by3 : Y3 < 256 := by rw [← hY3]; exact UInt8.toNat_lt _
      have k0 : (0 : Int) ≤ (I : Int) + 1 := by omega
      have i1 : (1 : Int) < ((mk tb).size : Int) := by omega
      have i2 : (2 : Int) < ((mk tb).size : Int) := by omega
      have i3 : (3 : Int) < ((mk tb).size : Int) := by omega
      have k1' : (I : Int) + 1 < (N : Int) := by omega
      go_wp2
      refine start_ (n := 35) (S := fun w' => w'.cell? ⟨ad.block, ad.off + (I + 1), none⟩ = some (.string (mk tb)) ∧ w'.cell? ⟨ad.block, ad.off + (I + 1), none⟩ = some (.string (mk tb))) (ds := []) #[false, false, false, false, false, false, false, false, false, false, false, false, false, false, false, false, false, false, false, false, false, false, false, false, false, false, false, false, false, false, false, false, false, false, false] (by kernel_rfl) rfl rfl ⟨z1, z1⟩ (fun hHeld => ?_)
      refine pure_ (i := 0) (N := some 82) (v := ?_) (a' := ?_) #[true, false, false, false, false, false, false, false, false, false, false, false, false, false, false, false, false, false, false, false, false, false, false, false, false, false, false, false, false, false, false, false, false, false, false] rfl rfl (by kernel_rfl) (fun _ _ _ h => h) (Or.inl ⟨by rfl, ?_⟩) ?_ ?_
      rotate_left
      ·
       intro w'
       go_simp
       with_reducible rfl
      rotate_left
      ·
       simp only [Act.put, List.setIfInBounds_toArray, List.set_cons_zero, List.set_cons_succ, i64_w, i32_w]
       rfl
      refine pure_ (i := 1) (N := some 83) (v := ?_) (a' := ?_) #[true, true, false, false, false, false, false, false, false, false, false, false, false, false, false, false, false, false, false, false, false, false, false, false, false, false, false, false, false, false, false, false, false, false, false] rfl rfl (by kernel_rfl) (fun _ _ _ h => h) (Or.inl ⟨by rfl, ?_⟩) ?_ ?_
      rotate_left
      ·
       intro w'
       go_simp
       with_reducible rfl
      rotate_left
      ·
       simp only [Act.put, List.setIfInBounds_toArray, List.set_cons_zero, List.set_cons_succ, i64_w, i32_w]
       rfl
      refine pure_ (i := 2) (N := some 84) (v := ?_) (a' := ?_) #[true, true, true, false, false, false, false, false, false, false, false, false, false, false, false, false, false, false, false, false, false, false, false, false, false, false, false, false, false, false, false, false, false, false, false] rfl rfl (by kernel_rfl) (fun _ _ _ h => h) (Or.inl ⟨by rfl, ?_⟩) ?_ ?_
      rotate_left
      ·
       intro w'
       go_simp
       with_reducible rfl
      rotate_left
      ·
       simp only [Act.put, List.setIfInBounds_toArray, List.set_cons_zero, List.set_cons_succ, i64_w, i32_w]
       rfl
      refine pure_ (i := 3) (N := some 85) (v := ?_) (a' := ?_) #[true, true, true, true, false, false, false, false, false, false, false, false, false, false, false, false, false, false, false, false, false, false, false, false, false, false, false, false, false, false, false, false, false, false, false] rfl rfl (by kernel_rfl) (fun _ _ _ h => h) (Or.inl ⟨by rfl, ?_⟩) ?_ ?_
      rotate_left
      ·
       intro w'
       go_simp
       with_reducible rfl
      rotate_left
      ·
       simp only [Act.put, List.setIfInBounds_toArray, List.set_cons_zero, List.set_cons_succ, i64_w, i32_w]
       rfl
      refine take_ (i := 4) (N := some 86) (v := ?_) (a' := ?_) #[true, true, true, true, true, false, false, false, false, false, false, false, false, false, false, false, false, false, false, false, false, false, false, false, false, false, false, false, false, false, false, false, false, false, false] rfl rfl (by kernel_rfl) (fun _ _ _ h => h) (Or.inl ⟨by rfl, ?_⟩) hHeld ?_ ?_
      rotate_left
      ·
       rintro w' ⟨s0, s1⟩
       go_simp
       with_reducible rfl
      rotate_left
      ·
       simp only [Act.put, List.setIfInBounds_toArray, List.set_cons_zero, List.set_cons_succ, i64_w, i32_w]
       rfl
      refine pure_ (i := 5) (N := some 87) (v := ?_) (a' := ?_) #[true, true, true, true, true, true, false, false, false, false, false, false, false, false, false, false, false, false, false, false, false, false, false, false, false, false, false, false, false, false, false, false, false, false, false] rfl rfl (by kernel_rfl) (fun _ _ _ h => h) (Or.inl ⟨by rfl, ?_⟩) ?_ ?_
      rotate_left
      ·
       intro w'
       go_simp
       with_reducible rfl
      rotate_left
      ·
       simp only [Act.put, List.setIfInBounds_toArray, List.set_cons_zero, List.set_cons_succ, i64_w, i32_w]
       rfl
      refine pure_ (i := 6) (N := some 88) (v := ?_) (a' := ?_) #[true, true, true, true, true, true, true, false, false, false, false, false, false, false, false, false, false, false, false, false, false, false, false, false, false, false, false, false, false, false, false, false, false, false, false] rfl rfl (by kernel_rfl) (fun _ _ _ h => h) (Or.inl ⟨by rfl, ?_⟩) ?_ ?_
      rotate_left
      ·
       intro w'
       go_simp
       with_reducible rfl
      rotate_left
      ·
       simp only [Act.put, List.setIfInBounds_toArray, List.set_cons_zero, List.set_cons_succ, i64_w, i32_w]
       rfl
      refine pure_ (i := 7) (N := some 89) (v := ?_) (a' := ?_) #[true, true, true, true, true, true, true, true, false, false, false, false, false, false, false, false, false, false, false, false, false, false, false, false, false, false, false, false, false, false, false, false, false, false, false] rfl rfl (by kernel_rfl) (fun _ _ _ h => h) (Or.inl ⟨by rfl, ?_⟩) ?_ ?_
      rotate_left
      ·
       intro w'
       go_simp
       with_reducible rfl
      rotate_left
      ·
       simp only [Act.put, List.setIfInBounds_toArray, List.set_cons_zero, List.set_cons_succ, i64_w, i32_w]
       rfl
      refine pure_ (i := 8) (N := some 90) (v := ?_) (a' := ?_) #[true, true, true, true, true, true, true, true, true, false, false, false, false, false, false, false, false, false, false, false, false, false, false, false, false, false, false, false, false, false, false, false, false, false, false] rfl rfl (by kernel_rfl) (fun _ _ _ h => h) (Or.inl ⟨by rfl, ?_⟩) ?_ ?_
      rotate_left
      ·
       intro w'
       go_simp
       with_reducible rfl
      rotate_left
      ·
       simp only [Act.put, List.setIfInBounds_toArray, List.set_cons_zero, List.set_cons_succ, i64_w, i32_w]
       rfl
      refine pure_ (i := 9) (N := some 91) (v := ?_) (a' := ?_) #[true, true, true, true, true, true, true, true, true, true, false, false, false, false, false, false, false, false, false, false, false, false, false, false, false, false, false, false, false, false, false, false, false, false, false] rfl rfl (by kernel_rfl) (fun _ _ _ h => h) (Or.inl ⟨by rfl, ?_⟩) ?_ ?_
      rotate_left
      ·
       intro w'
       go_simp
       with_reducible rfl
      rotate_left
      ·
       simp only [Act.put, List.setIfInBounds_toArray, List.set_cons_zero, List.set_cons_succ, i64_w, i32_w]
       rfl
      refine pure_ (i := 10) (N := some 92) (v := ?_) (a' := ?_) #[true, true, true, true, true, true, true, true, true, true, true, false, false, false, false, false, false, false, false, false, false, false, false, false, false, false, false, false, false, false, false, false, false, false, false] rfl rfl (by kernel_rfl) (fun _ _ _ h => h) (Or.inl ⟨by rfl, ?_⟩) ?_ ?_
      rotate_left
      ·
       intro w'
       go_simp
       with_reducible rfl
      rotate_left
      ·
       simp only [Act.put, List.setIfInBounds_toArray, List.set_cons_zero, List.set_cons_succ, i64_w, i32_w]
       rfl
      refine pure_ (i := 11) (N := some 93) (v := ?_) (a' := ?_) #[true, true, true, true, true, true, true, true, true, true, true, true, false, false, false, false, false, false, false, false, false, false, false, false, false, false, false, false, false, false, false, false, false, false, false] rfl rfl (by kernel_rfl) (fun _ _ _ h => h) (Or.inl ⟨by rfl, ?_⟩) ?_ ?_
      rotate_left
      ·
       intro w'
       go_simp
       with_reducible rfl
      rotate_left
      ·
       simp only [Act.put, List.setIfInBounds_toArray, List.set_cons_zero, List.set_cons_succ, i64_w, i32_w]
       rfl
      refine take_ (i := 12) (N := some 94) (v := ?_) (a' := ?_) #[true, true, true, true, true, true, true, true, true, true, true, true, true, false, false, false, false, false, false, false, false, false, false, false, false, false, false, false, false, false, false, false, false, false, false] rfl rfl (by kernel_rfl) (fun _ _ _ h => h) (Or.inl ⟨by rfl, ?_⟩) hHeld ?_ ?_
      rotate_left
      ·
       rintro w' ⟨s0, s1⟩
       go_simp
       with_reducible rfl
      rotate_left
      ·
       simp only [Act.put, List.setIfInBounds_toArray, List.set_cons_zero, List.set_cons_succ, i64_w, i32_w]
       rfl
      refine pure_ (i := 13) (N := some 95) (v := ?_) (a' := ?_) #[true, true, true, true, true, true, true, true, true, true, true, true, true, true, false, false, false, false, false, false, false, false, false, false, false, false, false, false, false, false, false, false, false, false, false] rfl rfl (by kernel_rfl) (fun _ _ _ h => h) (Or.inl ⟨by rfl, ?_⟩) ?_ ?_
      rotate_left
      ·
       intro w'
       go_simp
       with_reducible rfl
      rotate_left
      ·
       simp only [Act.put, List.setIfInBounds_toArray, List.set_cons_zero, List.set_cons_succ, i64_w, i32_w]
       rfl
      refine pure_ (i := 14) (N := some 96) (v := ?_) (a' := ?_) #[true, true, true, true, true, true, true, true, true, true, true, true, true, true, true, false, false, false, false, false, false, false, false, false, false, false, false, false, false, false, false, false, false, false, false] rfl rfl (by kernel_rfl) (fun _ _ _ h => h) (Or.inl ⟨by rfl, ?_⟩) ?_ ?_
      rotate_left
      ·
       intro w'
       go_simp
       with_reducible rfl
      rotate_left
      ·
       simp only [Act.put, List.setIfInBounds_toArray, List.set_cons_zero, List.set_cons_succ, i64_w, i32_w]
       rfl
      refine pure_ (i := 15) (N := some 97) (v := ?_) (a' := ?_) #[true, true, true, true, true, true, true, true, true, true, true, true, true, true, true, true, false, false, false, false, false, false, false, false, false, false, false, false, false, false, false, false, false, false, false] rfl rfl (by kernel_rfl) (fun _ _ _ h => h) (Or.inl ⟨by rfl, ?_⟩) ?_ ?_
      rotate_left
      ·
       intro w'
       go_simp
       with_reducible rfl
      rotate_left
      ·
       simp only [Act.put, List.setIfInBounds_toArray, List.set_cons_zero, List.set_cons_succ, i64_w, i32_w]
       rfl
      refine pure_ (i := 16) (N := some 98) (v := ?_) (a' := ?_) #[true, true, true, true, true, true, true, true, true, true, true, true, true, true, true, true, true, false, false, false, false, false, false, false, false, false, false, false, false, false, false, false, false, false, false] rfl rfl (by kernel_rfl) (fun _ _ _ h => h) (Or.inl ⟨by rfl, ?_⟩) ?_ ?_
      rotate_left
      ·
       intro w'
       go_simp
       with_reducible rfl
      rotate_left
      ·
       simp only [Act.put, List.setIfInBounds_toArray, List.set_cons_zero, List.set_cons_succ, i64_w, i32_w]
       rfl
      refine pure_ (i := 17) (N := some 99) (v := ?_) (a' := ?_) #[true, true, true, true, true, true, true, true, true, true, true, true, true, true, true, true, true, true, false, false, false, false, false, false, false, false, false, false, false, false, false, false, false, false, false] rfl rfl (by kernel_rfl) (fun _ _ _ h => h) (Or.inl ⟨by rfl, ?_⟩) ?_ ?_
      rotate_left
      ·
       intro w'
       go_simp
       with_reducible rfl
      rotate_left
      ·
       simp only [Act.put, List.setIfInBounds_toArray, List.set_cons_zero, List.set_cons_succ, i64_w, i32_w]
       rfl
      refine pure_ (i := 18) (N := some 100) (v := ?_) (a' := ?_) #[true, true, true, true, true, true, true, true, true, true, true, true, true, true, true, true, true, true, true, false, false, false, false, false, false, false, false, false, false, false, false, false, false, false, false] rfl rfl (by kernel_rfl) (fun _ _ _ h => h) (Or.inl ⟨by rfl, ?_⟩) ?_ ?_
      rotate_left
      ·
       intro w'
       go_simp
       with_reducible rfl
      rotate_left
      ·
       simp only [Act.put, List.setIfInBounds_toArray, List.set_cons_zero, List.set_cons_succ, i64_w, i32_w]
       rfl
      refine pure_ (i := 19) (N := some 101) (v := ?_) (a' := ?_) #[true, true, true, true, true, true, true, true, true, true, true, true, true, true, true, true, true, true, true, true, false, false, false, false, false, false, false, false, false, false, false, false, false, false, false] rfl rfl (by kernel_rfl) (fun _ _ _ h => h) (Or.inl ⟨by rfl, ?_⟩) ?_ ?_
      rotate_left
      ·
       intro w'
       go_simp
       with_reducible rfl
      rotate_left
      ·
       simp only [Act.put, List.setIfInBounds_toArray, List.set_cons_zero, List.set_cons_succ, i64_w, i32_w]
       rfl
      refine pure_ (i := 20) (N := some 102) (v := ?_) (a' := ?_) #[true, true, true, true, true, true, true, true, true, true, true, true, true, true, true, true, true, true, true, true, true, false, false, false, false, false, false, false, false, false, false, false, false, false, false] rfl rfl (by kernel_rfl) (fun _ _ _ h => h) (Or.inl ⟨by rfl, ?_⟩) ?_ ?_
      rotate_left
      ·
       intro w'
       go_simp
       with_reducible rfl
      rotate_left
      ·
       simp only [Act.put, List.setIfInBounds_toArray, List.set_cons_zero, List.set_cons_succ, i64_w, i32_w]
       rfl
      refine take_ (i := 21) (N := some 103) (v := ?_) (a' := ?_) #[true, true, true, true, true, true, true, true, true, true, true, true, true, true, true, true, true, true, true, true, true, true, false, false, false, false, false, false, false, false, false, false, false, false, false] rfl rfl (by kernel_rfl) (fun _ _ _ h => h) (Or.inl ⟨by rfl, ?_⟩) hHeld ?_ ?_
      rotate_left
      ·
       rintro w' ⟨s0, s1⟩
       go_simp
       with_reducible rfl
      rotate_left
      ·
       simp only [Act.put, List.setIfInBounds_toArray, List.set_cons_zero, List.set_cons_succ, i64_w, i32_w]
       rfl
      refine pure_ (i := 22) (N := some 104) (v := ?_) (a' := ?_) #[true, true, true, true, true, true, true, true, true, true, true, true, true, true, true, true, true, true, true, true, true, true, true, false, false, false, false, false, false, false, false, false, false, false, false] rfl rfl (by kernel_rfl) (fun _ _ _ h => h) (Or.inl ⟨by rfl, ?_⟩) ?_ ?_
      rotate_left
      ·
       intro w'
       go_simp
       with_reducible rfl
      rotate_left
      ·
       simp only [Act.put, List.setIfInBounds_toArray, List.set_cons_zero, List.set_cons_succ, i64_w, i32_w]
       rfl
      refine pure_ (i := 23) (N := some 105) (v := ?_) (a' := ?_) #[true, true, true, true, true, true, true, true, true, true, true, true, true, true, true, true, true, true, true, true, true, true, true, true, false, false, false, false, false, false, false, false, false, false, false] rfl rfl (by kernel_rfl) (fun _ _ _ h => h) (Or.inl ⟨by rfl, ?_⟩) ?_ ?_
      rotate_left
      ·
       intro w'
       go_simp
       with_reducible rfl
      rotate_left
      ·
       simp only [Act.put, List.setIfInBounds_toArray, List.set_cons_zero, List.set_cons_succ, i64_w, i32_w]
       rfl
      refine pure_ (i := 24) (N := some 106) (v := ?_) (a' := ?_) #[true, true, true, true, true, true, true, true, true, true, true, true, true, true, true, true, true, true, true, true, true, true, true, true, true, false, false, false, false, false, false, false, false, false, false] rfl rfl (by kernel_rfl) (fun _ _ _ h => h) (Or.inl ⟨by rfl, ?_⟩) ?_ ?_
      rotate_left
      ·
       intro w'
       go_simp
       with_reducible rfl
      rotate_left
      ·
       simp only [Act.put, List.setIfInBounds_toArray, List.set_cons_zero, List.set_cons_succ, i64_w, i32_w]
       rfl
      refine pure_ (i := 25) (N := some 107) (v := ?_) (a' := ?_) #[true, true, true, true, true, true, true, true, true, true, true, true, true, true, true, true, true, true, true, true, true, true, true, true, true, true, false, false, false, false, false, false, false, false, false] rfl rfl (by kernel_rfl) (fun _ _ _ h => h) (Or.inl ⟨by rfl, ?_⟩) ?_ ?_
      rotate_left
      ·
       intro w'
       go_simp
       with_reducible rfl
      rotate_left
      ·
       simp only [Act.put, List.setIfInBounds_toArray, List.set_cons_zero, List.set_cons_succ, i64_w, i32_w]
       rfl
      refine pure_ (i := 26) (N := some 108) (v := ?_) (a' := ?_) #[true, true, true, true, true, true, true, true, true, true, true, true, true, true, true, true, true, true, true, true, true, true, true, true, true, true, true, false, false, false, false, false, false, false, false] rfl rfl (by kernel_rfl) (fun _ _ _ h => h) (Or.inl ⟨by rfl, ?_⟩) ?_ ?_
      rotate_left
      ·
       intro w'
       go_simp
       with_reducible rfl
      rotate_left
      ·
       simp only [Act.put, List.setIfInBounds_toArray, List.set_cons_zero, List.set_cons_succ, i64_w, i32_w]
       rfl
      refine pure_ (i := 27) (N := some 109) (v := ?_) (a' := ?_) #[true, true, true, true, true, true, true, true, true, true, true, true, true, true, true, true, true, true, true, true, true, true, true, true, true, true, true, true, false, false, false, false, false, false, false] rfl rfl (by kernel_rfl) (fun _ _ _ h => h) (Or.inl ⟨by rfl, ?_⟩) ?_ ?_
      rotate_left
      ·
       intro w'
       go_simp
       with_reducible rfl
      rotate_left
      ·
       simp only [Act.put, List.setIfInBounds_toArray, List.set_cons_zero, List.set_cons_succ, i64_w, i32_w]
       rfl
      refine pure_ (i := 28) (N := some 110) (v := ?_) (a' := ?_) #[true, true, true, true, true, true, true, true, true, true, true, true, true, true, true, true, true, true, true, true, true, true, true, true, true, true, true, true, true, false, false, false, false, false, false] rfl rfl (by kernel_rfl) (fun _ _ _ h => h) (Or.inl ⟨by rfl, ?_⟩) ?_ ?_
      rotate_left
      ·
       intro w'
       go_simp
       with_reducible rfl
      rotate_left
      ·
       simp only [Act.put, List.setIfInBounds_toArray, List.set_cons_zero, List.set_cons_succ, i64_w, i32_w]
       rfl
      refine pure_ (i := 29) (N := some 111) (v := ?_) (a' := ?_) #[true, true, true, true, true, true, true, true, true, true, true, true, true, true, true, true, true, true, true, true, true, true, true, true, true, true, true, true, true, true, false, false, false, false, false] rfl rfl (by kernel_rfl) (fun _ _ _ h => h) (Or.inl ⟨by rfl, ?_⟩) ?_ ?_
      rotate_left
      ·
       intro w'
       go_simp
       with_reducible rfl
      rotate_left
      ·
       simp only [Act.put, List.setIfInBounds_toArray, List.set_cons_zero, List.set_cons_succ, i64_w, i32_w]
       rfl
      refine take_ (i := 30) (N := some 112) (v := ?_) (a' := ?_) #[true, true, true, true, true, true, true, true, true, true, true, true, true, true, true, true, true, true, true, true, true, true, true, true, true, true, true, true, true, true, true, false, false, false, false] rfl rfl (by kernel_rfl) (fun _ _ _ h => h) (Or.inl ⟨by rfl, ?_⟩) hHeld ?_ ?_
      rotate_left
      ·
       rintro w' ⟨s0, s1⟩
       go_simp
       with_reducible rfl
      rotate_left
      ·
       simp only [Act.put, List.setIfInBounds_toArray, List.set_cons_zero, List.set_cons_succ, i64_w, i32_w]
       rfl
      refine pure_ (i := 31) (N := some 113) (v := ?_) (a' := ?_) #[true, true, true, true, true, true, true, true, true, true, true, true, true, true, true, true, true, true, true, true, true, true, true, true, true, true, true, true, true, true, true, true, false, false, false] rfl rfl (by kernel_rfl) (fun _ _ _ h => h) (Or.inl ⟨by rfl, ?_⟩) ?_ ?_
      rotate_left
      ·
       intro w'
       go_simp
       with_reducible rfl
      rotate_left
      ·
       simp only [Act.put, List.setIfInBounds_toArray, List.set_cons_zero, List.set_cons_succ, i64_w, i32_w]
       rfl
      refine pure_ (i := 32) (N := some 114) (v := ?_) (a' := ?_) #[true, true, true, true, true, true, true, true, true, true, true, true, true, true, true, true, true, true, true, true, true, true, true, true, true, true, true, true, true, true, true, true, true, false, false] rfl rfl (by kernel_rfl) (fun _ _ _ h => h) (Or.inl ⟨by rfl, ?_⟩) ?_ ?_
      rotate_left
      ·
       intro w'
       go_simp
       with_reducible rfl
      rotate_left
      ·
       simp only [Act.put, List.setIfInBounds_toArray, List.set_cons_zero, List.set_cons_succ, i64_w, i32_w]
       rfl
      refine pure_ (i := 33) (N := some 115) (v := ?_) (a' := ?_) #[true, true, true, true, true, true, true, true, true, true, true, true, true, true, true, true, true, true, true, true, true, true, true, true, true, true, true, true, true, true, true, true, true, true, false] rfl rfl (by kernel_rfl) (fun _ _ _ h => h) (Or.inl ⟨by rfl, ?_⟩) ?_ ?_
      rotate_left
      ·
       intro w'
       go_simp
       with_reducible rfl
      rotate_left
      ·
       simp only [Act.put, List.setIfInBounds_toArray, List.set_cons_zero, List.set_cons_succ, i64_w, i32_w]
       rfl
      refine pure_ (i := 34) (N := some 10) (v := ?_) (a' := ?_) #[true, true, true, true, true, true, true, true, true, true, true, true, true, true, true, true, true, true, true, true, true, true, true, true, true, true, true, true, true, true, true, true, true, true, true] rfl rfl (by kernel_rfl) (fun _ _ _ h => h) (Or.inl ⟨by rfl, ?_⟩) ?_ ?_
      rotate_left
      ·
       intro w'
       go_simp
       with_reducible rfl
      rotate_left
      ·
       simp only [Act.put, List.setIfInBounds_toArray, List.set_cons_zero, List.set_cons_succ, i64_w, i32_w]
       rfl
      refine done_ (by kernel_rfl) ?_
      rw [or4_i64 (Y0 : Int) (Y1 : Int) (Y2 : Int) (Y3 : Int) (by omega) (by omega) (by omega) (by omega), hNum]
      generalize wrap64 (wrap64 (Y0 : Int) * 16777216) = e0
      generalize wrap64 (wrap64 (Y1 : Int) * 65536) = e1
      generalize wrap64 (wrap64 (Y2 : Int) * 256) = e2
      generalize bits .or .i64 e0 e1 = e3
      generalize bits .or .i64 e3 e2 = e4
      obtain ⟨D, hD⟩ : ∃ D, D = num4 tb := ⟨_, rfl⟩
      rw [← hD] at HRS ⊢
      have pa : 0 < (mk ta).size := by rw [mk_size, HA1.out]; decide
      obtain ⟨Z, hZ, hbz⟩ : ∃ Z : Nat, ((mk ta)[0]'pa).toNat = Z ∧ b0 ta = (Z : Int) := one0 HA1.out pa
      have hZ2 : Z < 256 := by rw [← hZ]; exact UInt8.toNat_lt _
      have HZ2 := sqA hZ2
      rw [hbz] at HRS
      have HDC := sqA (below_drew (below_step HDr.out HW7.out))
      obtain ⟨wd, hwd⟩ : ∃ wd, wd = w7.drew := ⟨_, rfl⟩
      rw [← hwd] at HDC ⊢
      have HXd : Aside0 (wd.heap[g4]? = some (.cells #[.int .i64 (X : Int), .string (mk T1), .slice A9 j c9] 24 (0, 0))) := ⟨by rw [hwd]; exact blk_drew HX7.out⟩
      have HYd : Aside0 (wd.heap[g2]? = some (.cells #[.int .i64 0, .string ⟨#[]⟩, .slice none 0 0] 24 (0, 0))) := ⟨by rw [hwd]; exact blk_drew HY7.out⟩
      have HGd : Aside0 (wd.heap[g8]? = some (.cells #[.int .i64 q0, .int .i64 q1, .string q2, .string q3] 51 (0, 0))) := ⟨by rw [hwd]; exact blk_drew HG7.out⟩
      have HRd : Aside0 (k53.R 53 wd w3.heap.size (fun _ => True) (.slice A9 j c9) (rqs ts j)) := ⟨by rw [hwd]; exact Kd.R_drew HR7.out⟩
      have HBd : Aside0 (Below w.heap.size w wd) := ⟨by rw [hwd]; exact below_drew HB7.out⟩
      have S14 : Aside0 (∀ w' : World, Below w3.heap.size w3 w' → w'.heap[g4]? = some (.cells #[.int .i64 (X : Int), .string (mk T1), .slice A9 j c9] 24 (0, 0)) → w'.heap[g8]? = some (.cells #[.int .i64 q0, .int .i64 q1, .string q2, .string q3] 51 (0, 0)) → w'.cell? (ad.add I) = some (.string (mk ta)) ∧ w'.cell? ⟨g4, 2, none⟩ = some (.slice A9 j c9) ∧ w'.cell? ⟨g8, 0, none⟩ = some (.int .i64 q0) ∧ w'.cell? ⟨g8, 1, none⟩ = some (.int .i64 q1) ∧ w'.cell? ⟨g8, 2, none⟩ = some (.string q2) ∧ w'.cell? ⟨g8, 3, none⟩ = some (.string q3)) := ⟨fun w' hb h4 h8 => ⟨SOFA.out _ hb, (blk_cell h4 2).trans rfl, (blk_cell h8 0).trans rfl, (blk_cell h8 1).trans rfl, (blk_cell h8 2).trans rfl, (blk_cell h8 3).trans rfl⟩⟩
      clear hY0 hY1 hY2 hY3 hD hNum hwd z1 p0 p1 p2 p3 i1 i2 i3 hZ2 hbz
      clear x0 x1 x2 y0 yz0 y1 yz1 y2 yz2 w2' w1 ub ua
      go_wp2
      refine start_ (n := 15) (S := fun w' => w'.cell? (ad.add I) = some (.string (mk ta)) ∧ w'.cell? ⟨g4, 2, none⟩ = some (.slice A9 j c9) ∧ w'.cell? ⟨g8, 0, none⟩ = some (.int .i64 q0) ∧ w'.cell? ⟨g8, 1, none⟩ = some (.int .i64 q1) ∧ w'.cell? ⟨g8, 2, none⟩ = some (.string q2) ∧ w'.cell? ⟨g8, 3, none⟩ = some (.string q3)) (ds := [14]) #[false, false, false, false, false, false, false, false, false, false, false, false, false, false, false] (by kernel_rfl) rfl rfl (S14.out _ (below_drew HDC.out) (blk_drew HXd.out) (blk_drew HGd.out)) (fun hHeld => ?_)
      refine pure_ (i := 0) (N := some 116) (v := ?_) (a' := ?_) #[true, false, false, false, false, false, false, false, false, false, false, false, false, false, false] rfl rfl (by kernel_rfl) (fun _ _ _ h => h) (Or.inl ⟨by rfl, ?_⟩) ?_ ?_
      rotate_left
      ·
       intro w'
       go_simp
       with_reducible rfl
      rotate_left
      ·
       simp only [Act.put, List.setIfInBounds_toArray, List.set_cons_zero, List.set_cons_succ, i64_w, i32_w]
       rfl
      refine take_ (i := 1) (N := some 117) (v := ?_) (a' := ?_) #[true, true, false, false, false, false, false, false, false, false, false, false, false, false, false] rfl rfl (by kernel_rfl) (fun _ _ _ h => h) (Or.inl ⟨by rfl, ?_⟩) hHeld ?_ ?_
      rotate_left
      ·
       rintro w' ⟨s0, s1, s2, s3, s4, s5⟩
       go_simp
       with_reducible rfl
      rotate_left
      ·
       simp only [Act.put, List.setIfInBounds_toArray, List.set_cons_zero, List.set_cons_succ, i64_w, i32_w]
       rfl
      refine pure_ (i := 2) (N := some 118) (v := ?_) (a' := ?_) #[true, true, true, false, false, false, false, false, false, false, false, false, false, false, false] rfl rfl (by kernel_rfl) (fun _ _ _ h => h) (Or.inl ⟨by rfl, ?_⟩) ?_ ?_
      rotate_left
      ·
       intro w'
       go_simp
       with_reducible rfl
      rotate_left
      ·
       simp only [Act.put, List.setIfInBounds_toArray, List.set_cons_zero, List.set_cons_succ, i64_w, i32_w]
       rfl
      refine pure_ (i := 3) (N := some 119) (v := ?_) (a' := ?_) #[true, true, true, true, false, false, false, false, false, false, false, false, false, false, false] rfl rfl (by kernel_rfl) (fun _ _ _ h => h) (Or.inl ⟨by rfl, ?_⟩) ?_ ?_
      rotate_left
      ·
       intro w'
       go_simp
       with_reducible rfl
      rotate_left
      ·
       simp only [Act.put, List.setIfInBounds_toArray, List.set_cons_zero, List.set_cons_succ, i64_w, i32_w]
       rfl
      refine pure_ (i := 4) (N := some 120) (v := ?_) (a' := ?_) #[true, true, true, true, true, false, false, false, false, false, false, false, false, false, false] rfl rfl (by kernel_rfl) (fun _ _ _ h => h) (Or.inl ⟨by rfl, ?_⟩) ?_ ?_
      rotate_left
      ·
       intro w'
       go_simp
       with_reducible rfl
      rotate_left
      ·
       simp only [Act.put, List.setIfInBounds_toArray, List.set_cons_zero, List.set_cons_succ, i64_w, i32_w]
       rfl
      refine take_ (i := 5) (N := some 121) (v := ?_) (a' := ?_) #[true, true, true, true, true, true, false, false, false, false, false, false, false, false, false] rfl rfl (by kernel_rfl) (fun _ _ _ h => h) (Or.inl ⟨by rfl, ?_⟩) hHeld ?_ ?_
      rotate_left
      ·
       rintro w' ⟨s0, s1, s2, s3, s4, s5⟩
       go_simp
       with_reducible rfl
      rotate_left
      ·
       simp only [Act.put, List.setIfInBounds_toArray, List.set_cons_zero, List.set_cons_succ, i64_w, i32_w]
       rfl
      refine pure_ (i := 6) (N := some 122) (v := ?_) (a' := ?_) #[true, true, true, true, true, true, true, false, false, false, false, false, false, false, false] rfl rfl (by kernel_rfl) (fun _ _ _ h => h) (Or.inl ⟨by rfl, ?_⟩) ?_ ?_
      rotate_left
      ·
       intro w'
       go_simp
       with_reducible rfl
      rotate_left
      ·
       simp only [Act.put, List.setIfInBounds_toArray, List.set_cons_zero, List.set_cons_succ, i64_w, i32_w]
       rfl
      refine pure_ (i := 7) (N := some 123) (v := ?_) (a' := ?_) #[true, true, true, true, true, true, true, true, false, false, false, false, false, false, false] rfl rfl (by kernel_rfl) (fun _ _ _ h => h) (Or.inl ⟨by rfl, ?_⟩) ?_ ?_
      rotate_left
      ·
       intro w'
       go_simp
       with_reducible rfl
      rotate_left
      ·
       simp only [Act.put, List.setIfInBounds_toArray, List.set_cons_zero, List.set_cons_succ, i64_w, i32_w]
       rfl
      refine pure_ (i := 8) (N := some 124) (v := ?_) (a' := ?_) #[true, true, true, true, true, true, true, true, true, false, false, false, false, false, false] rfl rfl (by kernel_rfl) (fun _ _ _ h => h) (Or.inl ⟨by rfl, ?_⟩) ?_ ?_
      rotate_left
      ·
       intro w'
       go_simp
       with_reducible rfl
      rotate_left
      ·
       simp only [Act.put, List.setIfInBounds_toArray, List.set_cons_zero, List.set_cons_succ, i64_w, i32_w]
       rfl
      refine take_ (i := 9) (N := some 125) (v := ?_) (a' := ?_) #[true, true, true, true, true, true, true, true, true, true, false, false, false, false, false] rfl rfl (by kernel_rfl) (fun _ _ _ h => h) (Or.inl ⟨by rfl, ?_⟩) hHeld ?_ ?_
      rotate_left
      ·
       rintro w' ⟨s0, s1, s2, s3, s4, s5⟩
       go_simp
       with_reducible rfl
      rotate_left
      ·
       simp only [Act.put, List.setIfInBounds_toArray, List.set_cons_zero, List.set_cons_succ, i64_w, i32_w]
       rfl
      refine pure_ (i := 10) (N := some 126) (v := ?_) (a' := ?_) #[true, true, true, true, true, true, true, true, true, true, true, false, false, false, false] rfl rfl (by kernel_rfl) (fun _ _ _ h => h) (Or.inl ⟨by rfl, ?_⟩) ?_ ?_
      rotate_left
      ·
       intro w'
       go_simp
       with_reducible rfl
      rotate_left
      ·
       simp only [Act.put, List.setIfInBounds_toArray, List.set_cons_zero, List.set_cons_succ, i64_w, i32_w]
       rfl
      refine one_ (i := 11) (N := some 127) #[true, true, true, true, true, true, true, true, true, true, true, true, false, false, false] rfl rfl (by kernel_rfl) (by decide) (fun K hK => ?_)
      go_simp
      refine hK.out _ _ (S14.out _ (below_alloc (below_drew HDC.out) _) (blk_alloc (blk_drew HXd.out) _) (blk_alloc (blk_drew HGd.out) _)) (fun hHeld => ?_)
      clear hK K
      refine norm_ (a' := ?_) ?_ ?_
      rotate_left
      ·
       first | (show Act.put _ (some 127) _ = _; simp only [Act.put, List.setIfInBounds_toArray, List.set_cons_zero, List.set_cons_succ, i64_w, i32_w]; rfl) | rfl
      refine one_ (i := 12) (N := some 128) #[true, true, true, true, true, true, true, true, true, true, true, true, true, false, false] rfl rfl (by kernel_rfl) (by decide) (fun K hK => ?_)
      rw [w64 (n := (Z : Int)) (by have := HZ2.out; omega) (by have := HZ2.out; omega)]
      refine Kd.R_append_step k53 (w0 := w3) w3.heap.size rfl (.tmp 117) (.tmp 127) 22 53 (.agg (cR z53)) 64 rfl Tryd.underlying22 info53 rfl (by decide) (by decide) (.slice A9 j c9) (rqs ts j) ⟨(Z : Int), (D : Int), ⟨q0, q1, q2, q3⟩⟩ [.int .i64 (Z : Int), .int .i64 (D : Int), .int .i64 q0, .int .i64 q1, .string q2, .string q3] (fun _ => True) (fun _ => False) rfl rfl (k53_mkM _ _ _ ⟨(Z : Int), (D : Int), ⟨q0, q1, q2, q3⟩⟩) (fun _ hk => hk.elim) (fun _ _ => trivial) (Kd.R_drew HRd.out) (below_drew HDC.out) (Below.size (below_drew HDC.out)) (by rw [rqs_len]; have := HJM.out; have := HM6.out; omega) ?_
      intro v1 w9 hr9 hb9 hg9 hat9
      obtain ⟨A8, c8, rfl⟩ := Kd.R_slice hr9
      rw [List.length_append, List.length_singleton, rqs_len] at hr9 ⊢
      have HX9 := sqA (blk_grown (blk_drew HXd.out) hg9 (Kd.R_ne (Kd.R_drew HRd.out) (blk_drew HXd.out) (by decide)))
      have HY9 := sqA (blk_grown (blk_drew HYd.out) hg9 (Kd.R_ne (Kd.R_drew HRd.out) (blk_drew HYd.out) (by decide)))
      have HG9 := sqA (blk_grown (blk_drew HGd.out) hg9 (Kd.R_ne (Kd.R_drew HRd.out) (blk_drew HGd.out) (by decide)))
      have HR9 := sqA hr9
      have HD9 := sqA hb9
      clear hr9 hb9 hg9 hat9
      refine hK.out _ _ (S14.out _ HD9.out HX9.out HG9.out) (fun hHeld => ?_)
      clear hK K
      refine norm_ (a' := ?_) ?_ ?_
      rotate_left
      ·
       first | (show Act.put _ (some 128) _ = _; simp only [Act.put, List.setIfInBounds_toArray, List.set_cons_zero, List.set_cons_succ, i64_w, i32_w]; rfl) | rfl
      refine pure_ (i := 13) (N := some 129) (v := ?_) (a' := ?_) #[true, true, true, true, true, true, true, true, true, true, true, true, true, true, false] rfl rfl (by kernel_rfl) (fun _ _ _ h => h) (Or.inl ⟨by rfl, ?_⟩) ?_ ?_
      rotate_left
      ·
       intro w'
       go_simp
       with_reducible rfl
      rotate_left
      ·
       simp only [Act.put, List.setIfInBounds_toArray, List.set_cons_zero, List.set_cons_succ, i64_w, i32_w]
       rfl
      refine last_ (i := 14) (N := none) #[true, true, true, true, true, true, true, true, true, true, true, true, true, true, true] rfl rfl (by kernel_rfl) (by decide) (fun K hK => ?_)
      have yc : w9.cell? ⟨g4, 2, none⟩ = some (.slice A9 j c9) := (blk_cell HX9.out 2).trans rfl
      have yf : w9.frozen? ⟨g4, 2, none⟩ = false := blk_frozen HX9.out 2
      go_simp
      refine hK.out _ _ ?_
      clear hK K
      refine done_ (by kernel_rfl) ?_
      obtain ⟨wz, hwz⟩ : ∃ wz, wz = w9.setCell ⟨g4, 2, none⟩ (.slice A8 (j + 1) c8) := ⟨_, rfl⟩
      rw [← hwz]
      have HXz : Aside0 (wz.heap[g4]? = some (.cells #[.int .i64 (X : Int), .string (mk T1), .slice A8 (j + 1) c8] 24 (0, 0))) := ⟨by rw [hwz]; simpa using blk_set HX9.out 2 (.slice A8 (j + 1) c8)⟩
      have HYz : Aside0 (wz.heap[g2]? = some (.cells #[.int .i64 0, .string ⟨#[]⟩, .slice none 0 0] 24 (0, 0))) := ⟨by rw [hwz]; exact blk_far HY9.out HNE'.out _⟩
      have HRz : Aside0 (k53.R 53 wz w3.heap.size (fun _ => True) (.slice A8 (j + 1) c8) (rqs ts (j + 1))) := ⟨by rw [hwz, rqs_succ, HRQ.out, HRS.out]; exact Kd.R_set HR9.out HX9.out (by decide) 2 _⟩
      have HBz : Aside0 (Below w.heap.size w wz) := ⟨by rw [hwz]; exact Below.setCell (below_step HB3.out HD9.out) HGE4.out _⟩
      have HDz : Aside0 (Below w3.heap.size w3 wz) := ⟨by rw [hwz]; exact Below.setCell HD9.out HGE34.out _⟩
      clear hwz yc yf
      clear hlt hlt2 k0 k1'
      have w3' : wrap64 ((I : Int) + 3) = ((I + 3 : Nat) : Int) := by rw [w64 (by omega) (by omega)]; omega
      generalize wrap64 ((I : Int) + 1) = e5
      generalize wrap64 (Y0 : Int) = e6
      generalize wrap64 (Y1 : Int) = e7
      generalize wrap64 (Y2 : Int) = e8
      generalize wrap64 (Y3 : Int) = e9
      clear by0 by1 by2 by3 hHeld hZ pa
      go_wp2
      go_roundg k1
      case measure => omega
      case rel => exact ⟨I + 3, j + 1, A8, c8, by first | rfl | (simp; done), ⟨by rw [HI.out]; omega⟩, HJ1, HXz, HYz, HRz, ⟨fun i hi => by rcases Nat.lt_succ_iff_lt_or_eq.1 hi with h | h; exact HAr.out i h; rw [h, HRQ.out, HRS.out]⟩, HBz, HDz⟩
     ·
      have HR : Aside0 (decF s = (noB, 3)) := ⟨HNO.out (by unfold reqF; rw [if_pos ⟨HA1.out, HB1.out⟩, HRC.out]; exact beq_eq_false_iff_ne.2 he)⟩
      have hne : (er != 0) = true := bne_iff_ne.2 he
      clear he
      go_wp2_with (first | ((with_reducible refine gate_callee (f := 35) rfl ?_); refine goesL_ (some 76) rfl rfl Tryd.func35 (by kernel_rfl) rfl #[.string (mk tc)] rfl sqm ?_; (with_reducible refine (HRCL.out _).mono ?_); rintro e w5 ⟨rfl, hb⟩; refine ⟨_, rfl, ?_⟩; have HX5 := sqA (blk_below HXr.out hb); have HY5 := sqA (blk_below HYr.out hb); have HR5 := sqA (Kd.R_below HRr.out hb); have HB5 := sqA (below_step HBr.out hb); have HW5 := sqA hb; clear hb) | ((with_reducible refine gate_dst (N := 8) rfl ?_); refine sqo (N := 8) (cs := #[.int .i64 0, .int .i64 0, .string ⟨#[]⟩, .string ⟨#[]⟩]) (t := 51) ?_; intro g8 hg8 w6 hbox8 hb8; have HG8 := sqA hbox8; have HB8 := sqA hb8; have HGE8 := sqA (show w5.heap.size ≤ g8 by rw [hg8]; exact Nat.le_refl _); obtain ⟨v0, vz0, v1, vz1, v2, vz2, v3, vz3⟩ := sq4 hbox8; clear hg8 hbox8 hb8) | ((with_reducible refine gate_store (t := 51) (p := 8) (v := .tmp 77) rfl ?_); refine sqp (w1 := (set4 w6 g8 ⟨q0, q1, q2, q3⟩)) ?_; intro w7 hw7; have hg7 : w7.heap[g8]? = some (.cells #[.int .i64 q0, .int .i64 q1, .string q2, .string q3] 51 (0, 0)) := (by rw [hw7]; exact set4_blk HG8.out ⟨q0, q1, q2, q3⟩); have hb57 : Below w5.heap.size w5 w7 := (by rw [hw7]; exact set4_below HB8.out HGE8.out _); have HG7 := sqA hg7; have HX7 := sqA (blk_below HX5.out hb57); have HY7 := sqA (blk_below HY5.out hb57); have HR7 := sqA (Kd.R_below HR5.out hb57); have HB7 := sqA (below_step HB5.out hb57); have HW7 := sqA (below_step HW5.out hb57); obtain ⟨kk0, kkz0, kk1, kkz1, kk2, kkz2, kk3, kkz3⟩ := sq4 hg7; obtain ⟨z0, zz0, z1, zz1, z2, zz2⟩ := sq3 HY7.out; clear hw7 hg7 hb57))
      exact bodyPost_ret (results_ct rfl _ _ g2 24 #[.int .i64 0, .string ⟨#[]⟩, .slice none 0 0] (0, 0) _ rfl (show (set3 w7 g2 0 ⟨#[]⟩ (.slice none 0 0)).heap[g2]? = _ from set3_blk HY7.out _ _ _) Tryd.underlying24 rfl (by kernel_rfl)) rfl (by exact decA_no HR.out (show Below w.heap.size w (set3 w7 g2 0 ⟨#[]⟩ (.slice none 0 0)) from set3_below HB7.out HGE2.out _ _ _))
    ·
     have HR : Aside0 (decF s = (noB, 3)) := ⟨HNO.out (by unfold reqF; rw [if_neg (fun hh => hb hh.2)])⟩
     have ua : (((mk ta).size : Int) != 1) = false := by rw [mk_size, ha]; rfl
     have ub : (((mk tb).size : Int) != 4) = true := bne_iff_ne.2 (by rw [mk_size]; intro hx; exact hb (by exact_mod_cast hx))
     clear ha hb
     go_wp2
     exact bodyPost_ret (results_ct rfl _ _ g2 24 #[.int .i64 0, .string ⟨#[]⟩, .slice none 0 0] (0, 0) _ rfl (show (set3 wr g2 0 ⟨#[]⟩ (.slice none 0 0)).heap[g2]? = _ from set3_blk HYr.out _ _ _) Tryd.underlying24 rfl (by kernel_rfl)) rfl (by exact decA_no HR.out (show Below w.heap.size w (set3 wr g2 0 ⟨#[]⟩ (.slice none 0 0)) from set3_below HBr.out HGE2.out _ _ _))
   ·
    have HR : Aside0 (decF s = (noB, 3)) := ⟨HNO.out (by unfold reqF; rw [if_neg (fun hh => ha hh.1)])⟩
    have ua : (((mk ta).size : Int) != 1) = true := bne_iff_ne.2 (by rw [mk_size]; intro hx; exact ha (by exact_mod_cast hx))
    clear ha
    go_wp2
    exact bodyPost_ret (results_ct rfl _ _ g2 24 #[.int .i64 0, .string ⟨#[]⟩, .slice none 0 0] (0, 0) _ rfl (show (set3 wr g2 0 ⟨#[]⟩ (.slice none 0 0)).heap[g2]? = _ from set3_blk HYr.out _ _ _) Tryd.underlying24 rfl (by kernel_rfl)) rfl (by exact decA_no HR.out (show Below w.heap.size w (set3 wr g2 0 ⟨#[]⟩ (.slice none 0 0)) from set3_below HBr.out HGE2.out _ _ _))
  ·
   obtain rfl : gk = 0 := by omega
   obtain rfl : j = m := by omega
   obtain rfl : I = N := by have := HI.out; have := HM3N.out; omega
   have hge : decide ((I : Int) < (I : Int)) = false := by simp
   obtain ⟨hj9, hc9, hC9⟩ := Kd.R_reads' HRr.out
   rw [rqs_len] at hC9
   have HC9 := sqA hC9
   have HC9' : Aside0 (j ≤ c9) := ⟨hc9⟩
   have HLE : Aside0 (j = (rqs ts j).length) := ⟨(rqs_len ts j).symm⟩
   have hsh : shortQ (rqs ts j) := rqs_short HAr.out
   have HSH := sqA hsh
   have HJ1000 : Aside0 (j ≤ 1000) := ⟨by
    have hcnt := texts_count ts
    rw [readR_back _ _ _ rfl HRD.out] at hcnt
    have := HM3.out
    omega⟩
   have HQ : Aside0 ((2 ≤ ts.length ∧ (ts.length - 2) % 3 = 0 ∧ (ts.getD 0 []).length = 1) ∧ ∀ i, i < (ts.length - 2) / 3 → (rq ts i).2 = true) := ⟨⟨H1.out, by have := H2.out; omega, H3.out⟩, fun i hi => HAr.out i (by rw [HMD.out] at hi; exact hi)⟩
   have HDE := sqA (decF_ref (hh := (X : Int)) (p := mk T1) (l := rqs ts j) HRD.out HQ.out (by rw [← HT0.out, HB0.out]) (by rw [HT1.out]) (by rw [HMD.out]))
   obtain ⟨x0, xz0, x1, xz1, x2, xz2⟩ := sq3 HXr.out
   obtain ⟨y0, yz0, y1, yz1, y2, yz2⟩ := sq3 HYr.out
   clear hj9 hc9 hC9 hsh hj gI
   obtain ⟨tE, eE, hE⟩ : ∃ tE eE, encF (X : Int) (mk T1) (rqs ts j) = (tE, eE) := ⟨_, _, rfl⟩
   have HE := sqA hE
   clear hE
   by_cases e1 : eE = 0
   ·
    by_cases e2 : tE = s
    ·
     have HD : Aside0 (decF s = (((X : Int), mk T1, rqs ts j), 0)) := ⟨HDE.out.1 (by rw [HE.out, e1, e2])⟩
     subst e1
     subst e2
     go_wp2_with fail
     refine (rencode_walk (X : Int) (mk T1) A9 j c9 (rqs ts j) _ HLE.out HC9.out HC9'.out HJ1000.out HSH.out).mono ?_
     rintro e w9 ⟨rfl, hb9⟩
     rw [HE.out]
     have HX9 := sqA (blk_below HXr.out hb9)
     have HY9 := sqA (blk_below HYr.out hb9)
     have HB9 := sqA (below_step HBr.out hb9)
     have HR9 := sqA (Kd.R_below HRr.out hb9)
     obtain ⟨p0, pz0, p1, pz1, p2, pz2⟩ := sq3 HX9.out
     obtain ⟨q0, qz0, q1, qz1, q2, qz2⟩ := sq3 HY9.out
     clear hb9
     go_wp2
     have HYz : Aside0 ((set3 w9 g2 (X : Int) (mk T1) (.slice A9 j c9)).heap[g2]? = some (.cells #[.int .i64 (X : Int), .string (mk T1), .slice A9 j c9] 24 (0, 0))) := ⟨set3_blk HY9.out _ _ _⟩
     refine bodyPost_ret (results_ct rfl _ _ g2 24 #[.int .i64 (X : Int), .string (mk T1), .slice A9 j c9] (0, 0) _ rfl HYz.out Tryd.underlying24 rfl (by kernel_rfl)) rfl ?_
     refine ⟨A9, j, c9, ?_, ?_, HC9'.out, ?_, ?_⟩
     ·
      rw [HD.out]; rfl
     ·
      rw [HD.out]; exact HLE.out
     ·
      rw [HD.out]
      show Kd.R k53 53 (set3 w9 g2 (X : Int) (mk T1) (.slice A9 j c9)) w.heap.size (fun _ => True) (.slice A9 j c9) (rqs ts j)
      have hr := Kd.R_set (Kd.R_set (Kd.R_set HR9.out HY9.out (by decide) 0 (.int .i64 (X : Int))) (blk_set HY9.out 0 _) (by decide) 1 (.string (mk T1))) (blk_set (blk_set HY9.out 0 _) 1 _) (by decide) 2 (.slice A9 j c9)
      exact Kd.R_lower hr HB3.out.size
     ·
      show Below w.heap.size w (set3 w9 g2 (X : Int) (mk T1) (.slice A9 j c9))
      exact set3_below HB9.out HGE2.out _ _ _
    ·
     have HR : Aside0 (decF s = (noB, 3)) := ⟨HDE.out.2 (fun hx => e2 (by rw [HE.out] at hx; exact (Prod.mk.inj hx).1))⟩
     have hne := bytes_bne (mk_ne e2)
     subst e1
     go_wp2_with fail
     refine (rencode_walk (X : Int) (mk T1) A9 j c9 (rqs ts j) _ HLE.out HC9.out HC9'.out HJ1000.out HSH.out).mono ?_
     rintro e w9 ⟨rfl, hb9⟩
     rw [HE.out]
     have HX9 := sqA (blk_below HXr.out hb9)
     have HY9 := sqA (blk_below HYr.out hb9)
     have HB9 := sqA (below_step HBr.out hb9)
     have HR9 := sqA (Kd.R_below HRr.out hb9)
     obtain ⟨p0, pz0, p1, pz1, p2, pz2⟩ := sq3 HX9.out
     obtain ⟨q0, qz0, q1, qz1, q2, qz2⟩ := sq3 HY9.out
     clear hb9
     go_wp2
     exact bodyPost_ret (results_ct rfl _ _ g2 24 #[.int .i64 0, .string ⟨#[]⟩, .slice none 0 0] (0, 0) _ rfl (show (set3 w9 g2 0 ⟨#[]⟩ (.slice none 0 0)).heap[g2]? = _ from set3_blk HY9.out _ _ _) Tryd.underlying24 rfl (by kernel_rfl)) rfl (by exact decA_no HR.out (show Below w.heap.size w (set3 w9 g2 0 ⟨#[]⟩ (.slice none 0 0)) from set3_below HB9.out HGE2.out _ _ _))
   ·
    have HR : Aside0 (decF s = (noB, 3)) := ⟨HDE.out.2 (fun hx => e1 (by rw [HE.out] at hx; exact (Prod.mk.inj hx).2))⟩
    have hne : (eE != 0) = true := bne_iff_ne.2 e1
    go_wp2_with fail
    refine (rencode_walk (X : Int) (mk T1) A9 j c9 (rqs ts j) _ HLE.out HC9.out HC9'.out HJ1000.out HSH.out).mono ?_
    rintro e w9 ⟨rfl, hb9⟩
    rw [HE.out]
    have HX9 := sqA (blk_below HXr.out hb9)
    have HY9 := sqA (blk_below HYr.out hb9)
    have HB9 := sqA (below_step HBr.out hb9)
    have HR9 := sqA (Kd.R_below HRr.out hb9)
    obtain ⟨p0, pz0, p1, pz1, p2, pz2⟩ := sq3 HX9.out
    obtain ⟨q0, qz0, q1, qz1, q2, qz2⟩ := sq3 HY9.out
    clear hb9
    go_wp2
    exact bodyPost_ret (results_ct rfl _ _ g2 24 #[.int .i64 0, .string ⟨#[]⟩, .slice none 0 0] (0, 0) _ rfl (show (set3 w9 g2 0 ⟨#[]⟩ (.slice none 0 0)).heap[g2]? = _ from set3_blk HY9.out _ _ _) Tryd.underlying24 rfl (by kernel_rfl)) rfl (by exact decA_no HR.out (show Below w.heap.size w (set3 w9 g2 0 ⟨#[]⟩ (.slice none 0 0)) from set3_below HB9.out HGE2.out _ _ _))
set_option maxRecDepth 100000 in
theorem rdecode_walk (s : List UInt8) (hl : s.length ≤ 5000) (w : World) : Calls Tryd.prog 15 #[.string (mk s)] w (DecA s w) := by
 cases h : readR s with
 | none => exact rdec_none s hl w h
 | some ts =>
  by_cases h1 : 2 ≤ ts.length
  ·
   by_cases h2 : ts.length % 3 = 2
   ·
    by_cases h3 : (ts.getD 0 []).length = 1
    ·
     exact rdec_main s hl w ts h h1 h2 h3
    ·
     exact rdec_one s hl w ts h h1 h2 h3
   ·
    exact rdec_mod s hl w ts h h1 h2
  ·
   exact rdec_lt s hl w ts h (by omega)
end Go.Proofs.YtifpomknkjegeaaDoor.Bk
namespace Go.Proofs.YtifpomknkjegeaaDoor.Bk
open Go.RowKit Go.Proofs.YtifpomknkjegeaaDoor.PAll Go.Proofs.YtifpomknkjegeaaDoorW.PrintWords Go.Proofs.YtifpomknkjegeaaDoorW.PrintLast Go.Proofs.YtifpomknkjegeaaDoorW.PrintMore SG Go.Proofs.YtifpomknkjegeaaDoor.BFun Go.Proofs.YtifpomknkjegeaaDoor.Hlp Go.Proofs.YtifpomknkjegeaaDoor.Sha
set_option linter.unusedVariables false
set_option linter.unusedSimpArgs false
theorem rfirstC (w : World) : Calls Tryd.prog 41 #[] w fun e w' => e = .returned (.string (mk first32)) ∧ Below w.heap.size w w' := by
 refine (sandglassref43_First.calls (mk first32) w ?_).mono ?_
 ·
  unfold sandglassref43_First.f
  rw [if_pos (by decide)]
  exact congrArg some (by decide)
 ·
  rintro e w' h
  exact h
set_option maxHeartbeats 16000000 in
set_option maxRecDepth 100000 in
theorem rchain_walk (ss : List (List UInt8)) (A : Option Addr) (n cap : Nat) (w : World) (hn : n = ss.length) (hC : Kd.C Kd.string w A n (ss.map mk)) (hm : n ≤ 1000000) (hs : ∀ t ∈ ss, t.length ≤ 5000) :
  Calls Tryd.prog 21 #[.slice A n cap] w fun e w' => e = .returned (.tuple #[.int .i64 (chainG 0 first32 ss).1, .int .i64 (chainG 0 first32 ss).2]) ∧ Below w.heap.size w w' := by
 have HN := sqA hn
 have HC := sqA hC
 have HS := sqA hs
 clear hn hC hs
 go_enter Tryd.func21, Tryd.ntmps21
 go_wp2_with (first | ((with_reducible refine gate_callee (f := 41) rfl ?_); refine goesL_ (some 8) rfl rfl Tryd.func41 (by kernel_rfl) rfl #[] rfl sqm ?_; (with_reducible refine (rfirstC _).mono ?_); rintro e w2 ⟨rfl, hb⟩; refine ⟨_, rfl, ?_⟩; have HB2 := sqA hb; clear hb))
 go_loopg [4, 5] n (fun kq v4 v12 w' => ∃ (i : Nat) (p : List UInt8), v12 = .int .i64 (i : Int) ∧ v4 = .string (mk p) ∧ Aside0 (i + kq = n) ∧ Aside0 (chainG i p (ss.drop i) = chainG 0 first32 ss) ∧ Aside0 (Below w.heap.size w w'))
 case atStart => exact ⟨0, first32, rfl, rfl, ⟨by omega⟩, ⟨rfl⟩, HB2⟩
 case round =>
  obtain ⟨i, p, rfl, rfl, HI, HG, HBr⟩ := hrel
  have hi := HI.out
  by_cases hat : i < n
  ·
   obtain ⟨k1, rfl⟩ : ∃ k1, gk = k1 + 1 := ⟨gk - 1, by omega⟩
   have hlt : decide ((i : Int) < (n : Int)) = true := decide_eq_true (by omega)
   obtain ⟨ad, rfl, sof⟩ := strs_at HC.out (by omega)
   have hil : i < ss.length := by rw [← HN.out]; exact hat
   have x0 : wr.cell? (ad.add i) = some (.string (mk ss[i])) := by
    rw [sof _ HBr.out i hat, List.getD_eq_getElem?_getD, List.getElem?_map, List.getElem?_eq_getElem hil]
    rfl
   have SOF : Aside0 (∀ w', Below w.heap.size w w' → w'.cell? (ad.add i) = some (.string (mk ss[i]))) := ⟨fun w' hb => by rw [sof _ hb i hat, List.getD_eq_getElem?_getD, List.getElem?_map, List.getElem?_eq_getElem hil]; rfl⟩
   have HDR : Aside0 (ss.drop i = ss[i] :: ss.drop (i + 1)) := ⟨List.drop_eq_getElem_cons hil⟩
   have HSL : Aside0 (ss[i].length ≤ 5000) := ⟨HS.out _ (List.getElem_mem hil)⟩
   generalize ss[i] = s at *
   have HK1 : Aside0 (i + 1 + k1 = n) := ⟨by omega⟩
   clear HI sof hil
   go_wp2_with fail
   refine (rdecode_walk s HSL.out _).mono ?_
   rintro e w4 ⟨A4, m, c4, rfl, hm, hmc, hC4, hb4⟩
   have HB4 := sqA (below_step HBr.out hb4)
   obtain ⟨h, q, l, er, hD⟩ : ∃ h q l er, decF s = ((h, q, l), er) := ⟨_, _, _, _, rfl⟩
   rw [hD]
   simp only [cB]
   have HD := sqA hD
   clear hm hmc hC4 hb4 hD x0
   by_cases e1 : er = 0
   ·
    by_cases e2 : h = (i : Int)
    ·
     by_cases e3 : q = mk p
     ·
      have HG2 : Aside0 (chainG i p (s :: ss.drop (i + 1)) = chainG (i + 1) (shaF s) (ss.drop (i + 1))) := ⟨chainG_yes ⟨by rw [HD.out]; exact e1, by rw [HD.out]; exact e2, by rw [HD.out]; exact e3⟩⟩
      subst e1
      subst e2
      subst e3
      go_wp2_with (first | ((with_reducible refine gate_dst (N := 6) rfl ?_); refine sqo (N := 6) (cs := #[.int .i64 0, .string ⟨#[]⟩, .slice none 0 0]) (t := 24) ?_; intro g6 hg6 w6 hbox6 hb6; have HG6 := sqA hbox6; have HB6 := sqA hb6; have HGE6 := sqA (show w4.heap.size ≤ g6 by rw [hg6]; exact Nat.le_refl _); obtain ⟨v0, vz0, v1, vz1, v2, vz2⟩ := sq3 hbox6; have hb7 : Below w.heap.size w (set3 w6 g6 (i : Int) (mk p) (.slice A4 m c4)) := below_step HB4.out (set3_below HB6.out HGE6.out _ _ _); have HB7 := sqA hb7; have z0 : (((w6.setCell ⟨g6, 0, none⟩ (.int .i64 (i : Int))).setCell ⟨g6, 1, none⟩ (.string (mk p))).setCell ⟨g6, 2, none⟩ (.slice A4 m c4)).cell? (ad.add i) = some (.string (mk s)) := SOF.out _ hb7; clear hb7; clear hg6 hbox6 hb6) | ((with_reducible refine gate_callee (f := 19) rfl ?_); refine goesL_ (some 42) rfl rfl Tryd.func19 (by kernel_rfl) rfl #[.string (mk s)] rfl sqm ?_; (with_reducible refine (rsum s (by have := HSL.out; omega) _).mono ?_); rintro e w8 ⟨rfl, hb8⟩; refine ⟨_, rfl, ?_⟩; have HB8 := sqA (below_step HB7.out hb8); clear hb8))
      go_roundg k1
      case measure => omega
      case rel => exact ⟨i + 1, shaF s, by first | rfl | (simp; done), rfl, HK1, ⟨by rw [← HG2.out, ← HDR.out]; exact HG.out⟩, HB8⟩
     ·
      have HG3 : Aside0 (chainG 0 first32 ss = ((i : Int), 3)) := ⟨by rw [← HG.out, HDR.out]; exact chainG_no (fun hh => e3 (by rw [HD.out] at hh; exact hh.2.2))⟩
      have hne := bytes_bne e3
      subst e1
      subst e2
      go_wp2_with (first | ((with_reducible refine gate_dst (N := 6) rfl ?_); refine sqo (N := 6) (cs := #[.int .i64 0, .string ⟨#[]⟩, .slice none 0 0]) (t := 24) ?_; intro g6 hg6 w6 hbox6 hb6; have HG6 := sqA hbox6; have HB6 := sqA hb6; have HGE6 := sqA (show w4.heap.size ≤ g6 by rw [hg6]; exact Nat.le_refl _); obtain ⟨v0, vz0, v1, vz1, v2, vz2⟩ := sq3 hbox6; clear hg6 hbox6 hb6) | ((with_reducible refine gate_store (t := 24) (p := 6) (v := .tmp 21) rfl ?_); refine sqp (w1 := (set3 w6 g6 h q (.slice A4 m c4))) ?_; intro w7 hw7; have hg7 : w7.heap[g6]? = some (.cells #[.int .i64 h, .string q, .slice A4 m c4] 24 (0, 0)) := (by rw [hw7]; exact set3_blk HG6.out _ _ _); have hb47 : Below w4.heap.size w4 w7 := (by rw [hw7]; exact set3_below HB6.out HGE6.out _ _ _); have HB7 := sqA (below_step HB4.out hb47); have u0 : w7.cell? ⟨g6, 0, none⟩ = some (.int .i64 h) := (blk_cell hg7 0).trans rfl; have u1 : w7.cell? ⟨g6, 1, none⟩ = some (.string q) := (blk_cell hg7 1).trans rfl; have u2 : w7.cell? ⟨g6, 2, none⟩ = some (.slice A4 m c4) := (blk_cell hg7 2).trans rfl; clear hw7 hg7 hb47))
      go_ret2; rw [HG3.out]; first | exact ⟨rfl, HB7.out⟩ | exact ⟨rfl, below_step HB4.out (set3_below HB6.out HGE6.out _ _ _)⟩
    ·
     have HG3 : Aside0 (chainG 0 first32 ss = ((i : Int), 3)) := ⟨by rw [← HG.out, HDR.out]; exact chainG_no (fun hh => e2 (by rw [HD.out] at hh; exact hh.2.1))⟩
     have hne : (h != (i : Int)) = true := bne_iff_ne.2 e2
     subst e1
     go_wp2_with (first | ((with_reducible refine gate_dst (N := 6) rfl ?_); refine sqo (N := 6) (cs := #[.int .i64 0, .string ⟨#[]⟩, .slice none 0 0]) (t := 24) ?_; intro g6 hg6 w6 hbox6 hb6; have HG6 := sqA hbox6; have HB6 := sqA hb6; have HGE6 := sqA (show w4.heap.size ≤ g6 by rw [hg6]; exact Nat.le_refl _); obtain ⟨v0, vz0, v1, vz1, v2, vz2⟩ := sq3 hbox6; clear hg6 hbox6 hb6) | ((with_reducible refine gate_store (t := 24) (p := 6) (v := .tmp 21) rfl ?_); refine sqp (w1 := (set3 w6 g6 h q (.slice A4 m c4))) ?_; intro w7 hw7; have hg7 : w7.heap[g6]? = some (.cells #[.int .i64 h, .string q, .slice A4 m c4] 24 (0, 0)) := (by rw [hw7]; exact set3_blk HG6.out _ _ _); have hb47 : Below w4.heap.size w4 w7 := (by rw [hw7]; exact set3_below HB6.out HGE6.out _ _ _); have HB7 := sqA (below_step HB4.out hb47); have u0 : w7.cell? ⟨g6, 0, none⟩ = some (.int .i64 h) := (blk_cell hg7 0).trans rfl; have u1 : w7.cell? ⟨g6, 1, none⟩ = some (.string q) := (blk_cell hg7 1).trans rfl; have u2 : w7.cell? ⟨g6, 2, none⟩ = some (.slice A4 m c4) := (blk_cell hg7 2).trans rfl; clear hw7 hg7 hb47))
     go_ret2; rw [HG3.out]; first | exact ⟨rfl, HB7.out⟩ | exact ⟨rfl, below_step HB4.out (set3_below HB6.out HGE6.out _ _ _)⟩
   ·
    have HG3 : Aside0 (chainG 0 first32 ss = ((i : Int), 3)) := ⟨by rw [← HG.out, HDR.out]; exact chainG_no (fun hh => e1 (by rw [HD.out] at hh; exact hh.1))⟩
    have hne : (er != 0) = true := bne_iff_ne.2 e1
    go_wp2_with (first | ((with_reducible refine gate_dst (N := 6) rfl ?_); refine sqo (N := 6) (cs := #[.int .i64 0, .string ⟨#[]⟩, .slice none 0 0]) (t := 24) ?_; intro g6 hg6 w6 hbox6 hb6; have HG6 := sqA hbox6; have HB6 := sqA hb6; have HGE6 := sqA (show w4.heap.size ≤ g6 by rw [hg6]; exact Nat.le_refl _); obtain ⟨v0, vz0, v1, vz1, v2, vz2⟩ := sq3 hbox6; clear hg6 hbox6 hb6) | ((with_reducible refine gate_store (t := 24) (p := 6) (v := .tmp 21) rfl ?_); refine sqp (w1 := (set3 w6 g6 h q (.slice A4 m c4))) ?_; intro w7 hw7; have hg7 : w7.heap[g6]? = some (.cells #[.int .i64 h, .string q, .slice A4 m c4] 24 (0, 0)) := (by rw [hw7]; exact set3_blk HG6.out _ _ _); have hb47 : Below w4.heap.size w4 w7 := (by rw [hw7]; exact set3_below HB6.out HGE6.out _ _ _); have HB7 := sqA (below_step HB4.out hb47); have u0 : w7.cell? ⟨g6, 0, none⟩ = some (.int .i64 h) := (blk_cell hg7 0).trans rfl; have u1 : w7.cell? ⟨g6, 1, none⟩ = some (.string q) := (blk_cell hg7 1).trans rfl; have u2 : w7.cell? ⟨g6, 2, none⟩ = some (.slice A4 m c4) := (blk_cell hg7 2).trans rfl; clear hw7 hg7 hb47))
    go_ret2; rw [HG3.out]; first | exact ⟨rfl, HB7.out⟩ | exact ⟨rfl, below_step HB4.out (set3_below HB6.out HGE6.out _ _ _)⟩
  ·
   obtain rfl : gk = 0 := by omega
   obtain rfl : i = n := by omega
   have hge : decide ((i : Int) < (i : Int)) = false := by simp
   have HG3 : Aside0 (chainG 0 first32 ss = ((i : Int), 0)) := ⟨by rw [← HG.out, List.drop_of_length_le (by rw [← HN.out]; exact Nat.le_refl _)]; rfl⟩
   go_wp2
   go_ret2
   rw [HG3.out]
   exact ⟨rfl, HBr.out⟩
end Go.Proofs.YtifpomknkjegeaaDoor.Bk
namespace Go.Proofs.YtifpomknkjegeaaDoor.Bk
open Go.RowKit Go.Proofs.YtifpomknkjegeaaDoor.PAll Go.Proofs.YtifpomknkjegeaaDoorW.PrintWords Go.Proofs.YtifpomknkjegeaaDoorW.PrintLast Go.Proofs.YtifpomknkjegeaaDoorW.PrintMore SG Go.Proofs.YtifpomknkjegeaaDoor.BFun Go.Proofs.YtifpomknkjegeaaDoor.Hlp Go.Proofs.YtifpomknkjegeaaDoor.Sha
set_option linter.unusedVariables false
set_option linter.unusedSimpArgs false
theorem rdecC (s : List UInt8) (h : Int) (p : ByteArray) (l : List S53) (er : Int) (hd : decF s = ((h, p, l), er)) (hl : s.length ≤ 5000) (w : World) : Calls Tryd.prog 15 #[.string (mk s)] w fun e w' => ∃ A m c, e = .returned (.tuple #[.agg #[.int .i64 h, .string p, .slice A m c], .int .i64 er]) ∧ m = l.length ∧ m ≤ c ∧ Kd.C k53 w' A m l ∧ Below w.heap.size w w' := by
 refine (rdecode_walk s hl w).mono ?_
 rintro e w' ⟨A, m, c, rfl, hm, hmc, hR, hb⟩
 rw [hd] at hm hR ⊢
 have hm' : m = l.length := hm
 subst hm'
 exact ⟨A, l.length, c, rfl, rfl, hmc, (Kd.R_reads' hR).2.2, hb⟩
theorem decF_few {s : List UInt8} {h : Int} {p : ByteArray} {l : List S53} {er : Int} (hd : decF s = ((h, p, l), er)) : l.length ≤ 1000000 := by
 by_cases he : er = 0
 ·
  subst he
  exact Nat.le_trans (decF_back hd).1.2.2.1 (by decide)
 ·
  have h2 := decF_err (s := s) (by rw [hd]; exact he)
  rw [hd] at h2
  have h3 : l = [] := congrArg (fun x : (Int × ByteArray × List S53) × Int => x.1.2.2) h2
  rw [h3]
  decide
set_option maxHeartbeats 16000000 in
set_option maxRecDepth 100000 in
theorem dec_long (s : List UInt8) (w : World) (hT : Tab w) (h5 : 5000 < s.length) : Calls Tryd.prog 4 #[.string (mk s)] w fun e w' => e = .returned (.bool true) ∧ Below w.heap.size w w' := by
 have HT := sqA hT
 clear hT
 have HB0 := sqA (Below.refl w.heap.size w)
 have t5 : decide (5000 < ((mk s).size : Int)) = true := by rw [mk_size]; exact decide_eq_true (by omega)
 clear h5
 go_enter Tryd.func4, Tryd.ntmps4
 go_wp2_with (first | ((with_reducible refine gate_callee (f := 9) rfl ?_); refine goesL_ (some 10) rfl rfl Tryd.func9 (by kernel_rfl) rfl #[] rfl sqm ?_; (with_reducible refine (awake_walk _ (HT.out.below HB0.out)).mono ?_); rintro e w9 ⟨rfl, hb⟩; refine ⟨_, rfl, ?_⟩; have HB9 := sqA (below_step HB0.out hb); clear hb))
 go_ret
 exact ⟨rfl, HB9.out⟩
set_option maxHeartbeats 16000000 in
set_option maxRecDepth 100000 in
theorem dec_short (s : List UInt8) (w : World) (hT : Tab w) (h5 : ¬ 5000 < s.length) (h : Int) (p : ByteArray) (l : List S53) (er : Int) (hd : decF s = ((h, p, l), er)) : Calls Tryd.prog 4 #[.string (mk s)] w fun e w' => e = .returned (.bool true) ∧ Below w.heap.size w w' := by
 have HT := sqA hT
 have HD := sqA hd
 have hl5 : s.length ≤ 5000 := by omega
 have hl6 : s.length ≤ 1000000 := by omega
 have hsz : (mk s).size ≤ 1000000 := by rw [mk_size]; exact hl6
 have HB0 := sqA (Below.refl w.heap.size w)
 have t5 : decide (5000 < ((mk s).size : Int)) = false := by rw [mk_size]; exact decide_eq_false (by omega)
 have heq := mkA_eq (shaF s)
 clear h5 hd hT
 go_enter Tryd.func4, Tryd.ntmps4
 go_wp2_with (first | ((with_reducible refine gate_callee (f := 14) rfl ?_); refine goesL_ (some 13) rfl rfl Tryd.func14 (by kernel_rfl) rfl #[.string (mk s)] rfl sqm ?_; (with_reducible refine (decC s h p l er HD.out hl6 _).mono ?_); rintro e w1 ⟨A1, m1, c1, rfl, hm1, hcc1, hC1, hb⟩; refine ⟨_, rfl, ?_⟩; have HM1 := sqA hm1; have HB1 := sqA hb; have HC1 := sqA hC1; clear hb hC1 hm1) | ((with_reducible refine gate_dst (N := 3) rfl ?_); refine sqo (N := 3) (cs := #[.int .i64 0, .string ⟨#[]⟩, .slice none 0 0]) (t := 24) ?_; intro ga hgga w1b hboxga hbga; have HGga := sqA hboxga; have HBga := sqA hbga; have HGEga := sqA (show w1.heap.size ≤ ga by rw [hgga]; exact Nat.le_refl _); obtain ⟨gab0, gabz0, gab1, gabz1, gab2, gabz2⟩ := sq3 hboxga; clear hgga hboxga hbga) | ((with_reducible refine gate_store (t := 24) (p := 3) (v := .tmp 14) rfl ?_); refine sqp (w1 := (set3 w1b ga h p (.slice A1 m1 c1))) ?_; intro w2 hww2; have hgga : w2.heap[ga]? = some (.cells #[.int .i64 h, .string p, .slice A1 m1 c1] 24 (0, 0)) := (by rw [hww2]; exact set3_blk HGga.out _ _ _); have hbs : Below w1.heap.size w1 w2 := (by rw [hww2]; exact set3_below HBga.out HGEga.out _ _ _); have HXga := sqA hgga; have HBw2 := sqA (below_step HB1.out hbs); obtain ⟨gas0, gasz0, gas1, gasz1, gas2, gasz2⟩ := sq3 hgga; have HC2 := sqA (Kd.C_below HC1.out hbs); clear hww2 hgga hbs) | ((with_reducible refine gate_callee (f := 15) rfl ?_); refine goesL_ (some 18) rfl rfl Tryd.func15 (by kernel_rfl) rfl #[.string (mk s)] rfl sqm ?_; (with_reducible refine (rdecC s h p l er HD.out hl5 _).mono ?_); rintro e w3 ⟨A2, m2, c2, rfl, hm2, hcc2, hC2, hb⟩; refine ⟨_, rfl, ?_⟩; have HM2 := sqA hm2; have HB3 := sqA (below_step HBw2.out hb); have HD3 := sqA (Kd.C_below HC2.out hb); have HG3 := sqA (blk_below HXga.out hb); have HC3 := sqA hC2; obtain ⟨u0, uz0, u1, uz1, u2, uz2⟩ := sq3 HG3.out; clear hb hC2 hm2) | ((with_reducible refine gate_dst (N := 5) rfl ?_); refine sqo (N := 5) (cs := #[.int .i64 0, .string ⟨#[]⟩, .slice none 0 0]) (t := 24) ?_; intro gb hggb w3b hboxgb hbgb; have HGgb := sqA hboxgb; have HBgb := sqA hbgb; have HGEgb := sqA (show w3.heap.size ≤ gb by rw [hggb]; exact Nat.le_refl _); obtain ⟨gbb0, gbbz0, gbb1, gbbz1, gbb2, gbbz2⟩ := sq3 hboxgb; clear hggb hboxgb hbgb) | ((with_reducible refine gate_store (t := 24) (p := 5) (v := .tmp 19) rfl ?_); refine sqp (w1 := (set3 w3b gb h p (.slice A2 m2 c2))) ?_; intro w4 hww4; have hggb : w4.heap[gb]? = some (.cells #[.int .i64 h, .string p, .slice A2 m2 c2] 24 (0, 0)) := (by rw [hww4]; exact set3_blk HGgb.out _ _ _); have hbs : Below w3.heap.size w3 w4 := (by rw [hww4]; exact set3_below HBgb.out HGEgb.out _ _ _); have HXgb := sqA hggb; have HBw4 := sqA (below_step HB3.out hbs); obtain ⟨gbs0, gbsz0, gbs1, gbsz1, gbs2, gbsz2⟩ := sq3 hggb; have HC4 := sqA (Kd.C_below HD3.out hbs); have HD4 := sqA (Kd.C_below HC3.out hbs); have HG4 := sqA (blk_below HG3.out hbs); obtain ⟨q0, qz0, q1, qz1, q2, qz2⟩ := sq3 HG4.out; clear hww4 hggb hbs) | ((refine (sameC h p l (decF_few HD.out) A1 m1 c1 A2 m2 c2 _ HM1.out HM2.out HC4.out HD4.out hcc1 hcc2).mono ?_); rintro e w5 ⟨rfl, hb⟩; have HB5 := sqA (below_step HBw4.out hb); have HG5 := sqA (blk_below HG4.out hb); have HX5 := sqA (blk_below HXgb.out hb); have HC5 := sqA (Kd.C_below HC4.out hb); have HD5 := sqA (Kd.C_below HD4.out hb); obtain ⟨r0, rz0, r1, rz1, r2, rz2⟩ := sq3 HG5.out; obtain ⟨v0, vz0, v1, vz1, v2, vz2⟩ := sq3 HX5.out; clear hb) | ((refine (rsameC h p l (decF_few HD.out) A1 m1 c1 A2 m2 c2 _ HM1.out HM2.out HC5.out HD5.out hcc1 hcc2).mono ?_); rintro e w6 ⟨rfl, hb⟩; have HB6 := sqA (below_step HB5.out hb); clear hb) | ((refine (digest (mk s) _ (HT.out.below HB6.out) hsz).mono ?_); rintro e w7 ⟨rfl, hb⟩; rw [mk_toList]; have HB7 := sqA (below_step HB6.out hb); clear hb) | ((refine (rsum s hl6 _).mono ?_); rintro e w8 ⟨rfl, hb⟩; have HB8 := sqA (below_step HB7.out hb); clear hb) | ((refine (awake_walk _ (HT.out.below HB8.out)).mono ?_); rintro e w9 ⟨rfl, hb⟩; have HB9 := sqA (below_step HB8.out hb); clear hb))
 go_ret
 exact ⟨rfl, HB9.out⟩
set_option maxHeartbeats 16000000 in
set_option maxRecDepth 100000 in
theorem BlockDecodes_walk (s : List UInt8) (w : World) (hT : Tab w) : Calls Tryd.prog 4 #[.string (mk s)] w fun e w' => e = .returned (.bool true) ∧ Below w.heap.size w w' := by
 by_cases h5 : 5000 < s.length
 ·
  exact dec_long s w hT h5
 ·
  obtain ⟨h, p, l, er, hd⟩ := decF_shape s
  exact dec_short s w hT h5 h p l er hd
set_option maxHeartbeats 16000000 in
set_option maxRecDepth 100000 in
theorem BlockChains_walk (A : Option Addr) (n c : Nat) (l : List (List UInt8)) (w : World) (hT : Tab w) (hn : n = l.length) (hC : Kd.C Kd.string w A n (l.map mk)) (hnc : n ≤ c) :
  Calls Tryd.prog 6 #[.slice A n c] w fun e w' => e = .returned (.bool true) ∧ Below w.heap.size w w' := by
 have HC := sqA hC
 have HN := sqA hn
 have HT := sqA hT
 clear hC hn hT
 have HB0 := sqA (Below.refl w.heap.size w)
 by_cases h30 : 30 < n
 ·
  have t1 : decide (30 < (n : Int)) = true := decide_eq_true (by omega)
  go_enter Tryd.func6, Tryd.ntmps6
  go_wp2_with (first | ((with_reducible refine gate_callee (f := 9) rfl ?_); refine goesL_ (some 11) rfl rfl Tryd.func9 (by kernel_rfl) rfl #[] rfl sqm ?_; (with_reducible refine (awake_walk _ (HT.out.below HB0.out)).mono ?_); rintro e w9 ⟨rfl, hb⟩; refine ⟨_, rfl, ?_⟩; have HB9 := sqA (below_step HB0.out hb); clear hb))
  go_ret
  exact ⟨rfl, HB9.out⟩
 have t1 : decide (30 < (n : Int)) = false := decide_eq_false (by omega)
 go_enter Tryd.func6, Tryd.ntmps6
 go_wp2
 go_loopg [3] n (fun kq v3 w' => ∃ (i : Nat), v3 = .int .i64 (i : Int) ∧ Aside0 (i + kq = n) ∧ Aside0 (∀ j, j < i → (l.getD j []).length ≤ 5000) ∧ Aside0 (Below w.heap.size w w'))
 case atStart => exact ⟨0, rfl, ⟨by omega⟩, ⟨fun j h => absurd h (by omega)⟩, HB0⟩
 case round =>
  obtain ⟨i, rfl, HI, HA, HBi⟩ := hrel
  have hi := HI.out
  by_cases hat : i < n
  ·
   obtain ⟨k1, rfl⟩ : ∃ k1, gk = k1 + 1 := ⟨gk - 1, by omega⟩
   have hlt : decide ((i : Int) < (n : Int)) = true := decide_eq_true (by omega)
   have HI1 : Aside0 (i + 1 + k1 = n) := ⟨by omega⟩
   obtain ⟨ad, rfl, sof⟩ := strs_at HC.out (by omega)
   have x0 : wr.cell? (ad.add i) = some (.string (mk (l.getD i []))) := by
    rw [sof _ HBi.out i hat]
    exact getD_mk l i
   obtain ⟨t, ht⟩ : ∃ t, t = l.getD i [] := ⟨_, rfl⟩
   have HTT := sqA ht
   rw [← ht] at x0
   by_cases h5 : 5000 < t.length
   ·
    have t5 : decide (5000 < ((mk t).size : Int)) = true := by rw [mk_size]; exact decide_eq_true (by omega)
    clear HI sof ht
    go_wp2_with (first | ((with_reducible refine gate_callee (f := 9) rfl ?_); refine goesL_ (some 24) rfl rfl Tryd.func9 (by kernel_rfl) rfl #[] rfl sqm ?_; (with_reducible refine (awake_walk _ (HT.out.below HBi.out)).mono ?_); rintro e w9 ⟨rfl, hb⟩; refine ⟨_, rfl, ?_⟩; have HB9 := sqA (below_step HBi.out hb); clear hb))
    go_ret
    exact ⟨rfl, HB9.out⟩
   ·
    have t5 : decide (5000 < ((mk t).size : Int)) = false := by rw [mk_size]; exact decide_eq_false (by omega)
    have HA1 : Aside0 (∀ j, j < i + 1 → (l.getD j []).length ≤ 5000) := ⟨fun j hj => by
     by_cases hji : j = i
     ·
      subst hji
      rw [← HTT.out]
      omega
     ·
      exact HA.out j (by omega)⟩
    clear HI sof ht h5
    go_wp2
    go_roundg k1
    case measure => omega
    case rel => exact ⟨i + 1, by first | rfl | (simp; done), HI1, HA1, HBi⟩
  ·
   obtain rfl : gk = 0 := by omega
   have hge : decide ((i : Int) < (n : Int)) = false := decide_eq_false (by omega)
   have hge2 : ¬ i < n := hat
   have HS5 : Aside0 (∀ t ∈ l, t.length ≤ 5000) := ⟨fun t ht => by
    obtain ⟨j, hj, rfl⟩ := List.getElem_of_mem ht
    have := HA.out j (by have := HN.out; omega)
    rwa [List.getD_eq_getElem?_getD, List.getElem?_eq_getElem hj] at this⟩
   have HS6 : Aside0 (∀ t ∈ l, t.length ≤ 1000000) := ⟨fun t ht => Nat.le_trans (HS5.out t ht) (by decide)⟩
   have HZ4 : Aside0 (n ≤ 1000000) := ⟨by omega⟩
   obtain ⟨ca, ce, hch⟩ : ∃ ca ce, chainG 0 first32 l = (ca, ce) := ⟨_, _, rfl⟩
   have HCH := sqA hch
   have q1 : (ca == ca) = true := beq_self_eq_true _
   have q2 : (ce == ce) = true := beq_self_eq_true _
   clear HI HA hi hch
   go_wp2_with (first | ((with_reducible refine gate_callee (f := 20) rfl ?_); refine goesL_ (some 27) rfl rfl Tryd.func20 (by kernel_rfl) rfl #[.slice A n c] rfl sqm ?_; (with_reducible refine (chain_walk l A n c _ (HT.out.below HBi.out) HN.out (Kd.C_below HC.out HBi.out) HZ4.out HS6.out).mono ?_); rintro e w1 ⟨rfl, hb⟩; refine ⟨_, rfl, ?_⟩; rw [HCH.out]; have HB1 := sqA (below_step HBi.out hb); clear hb) | ((with_reducible refine gate_callee (f := 21) rfl ?_); refine goesL_ (some 32) rfl rfl Tryd.func21 (by kernel_rfl) rfl #[.slice A n c] rfl sqm ?_; (with_reducible refine (rchain_walk l A n c _ HN.out (Kd.C_below HC.out HB1.out) HZ4.out HS5.out).mono ?_); rintro e w2 ⟨rfl, hb⟩; refine ⟨_, rfl, ?_⟩; rw [HCH.out]; have HB2 := sqA (below_step HB1.out hb); clear hb) | ((refine (awake_walk _ (HT.out.below HB2.out)).mono ?_); rintro e w9 ⟨rfl, hb⟩; have HB9 := sqA (below_step HB2.out hb); clear hb))
   go_ret
   exact ⟨rfl, HB9.out⟩
end Go.Proofs.YtifpomknkjegeaaDoor.Bk
