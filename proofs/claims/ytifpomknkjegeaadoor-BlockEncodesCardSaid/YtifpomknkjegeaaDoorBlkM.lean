import Derived.Test.YtifpomknkjegeaaDoorBlkAll
import Derived.Test.YtifpomknkjegeaaDoorPAllx40
import Derived.Test.YtifpomknkjegeaaDoorPAllx41
import Derived.Test.YtifpomknkjegeaaDoorPAllx45
import Derived.Test.YtifpomknkjegeaaDoorPAllx43
namespace Go.Proofs.YtifpomknkjegeaaDoor.Bk
open Go.RowKit Go.Proofs.YtifpomknkjegeaaDoor.PAll Go.Proofs.YtifpomknkjegeaaDoorW.PrintWords Go.Proofs.YtifpomknkjegeaaDoorW.PrintLast Go.Proofs.YtifpomknkjegeaaDoorW.PrintMore SG Go.Proofs.YtifpomknkjegeaaDoor.BFun Go.Proofs.YtifpomknkjegeaaDoor.Hlp Go.Proofs.YtifpomknkjegeaaDoor.Sha
set_option linter.unusedVariables false
set_option linter.unusedSimpArgs false
theorem may_yes {r : S53} (h : okQ r) : sandglassref42_May.f r.f0 r.f1 r.f2.f0 r.f2.f1 r.f2.f2 r.f2.f3 = some true := by
  obtain ⟨a, b, k, e, n, x⟩ := r
  obtain ⟨n, rfl⟩ := ex_mk n
  obtain ⟨x, rfl⟩ := ex_mk x
  have h5 : okC k e n.length x.length := by simpa only [mk_size] using h.2.2
  have h0 : 0 ≤ a ∧ a ≤ 15 := h.1
  have h1 : 0 ≤ b ∧ b < 2147483648 := h.2.1
  show sandglassref42_May.f a b k e (mk n) (mk x) = _
  unfold sandglassref42_May.f
  rw [if_pos (by omega), if_pos (by omega), if_pos (by omega), if_pos (by omega), rchkC k e n x, if_pos h5, bindS]
  rfl
theorem may_no {r : S53} (h : ¬ okQ r) : sandglassref42_May.f r.f0 r.f1 r.f2.f0 r.f2.f1 r.f2.f2 r.f2.f3 = some false := by
  obtain ⟨a, b, k, e, n, x⟩ := r
  obtain ⟨n, rfl⟩ := ex_mk n
  obtain ⟨x, rfl⟩ := ex_mk x
  show sandglassref42_May.f a b k e (mk n) (mk x) = _
  unfold sandglassref42_May.f
  by_cases h1 : a ≥ 0
  · rw [if_pos h1]
    by_cases h2 : a ≤ 15
    · rw [if_pos h2]
      by_cases h3 : b ≥ 0
      · rw [if_pos h3]
        by_cases h4 : b < 2147483648
        · rw [if_pos h4]
          have h5 : ¬ okC k e n.length x.length := fun h5 => h ⟨⟨h1, h2⟩, ⟨h3, h4⟩, by simpa only [mk_size] using h5⟩
          rw [rchkC k e n x, if_neg h5, bindS]
          rfl
        · rw [if_neg h4]
      · rw [if_neg h3]
    · rw [if_neg h2]
  · rw [if_neg h1]
/-- From a place on all requests may be, and none is of an earlier one's client and number. -/
def okFrom (l : List S53) (i : Nat) : Prop := ∀ j, i ≤ j → (hj : j < l.length) → okQ l[j] ∧ ∀ m, m < j → (hm : m < l.length) → sm l[m] l[j] = false
theorem take_any {l : List S53} {j : Nat} (hj : j < l.length) : (l.take j).any (fun o => sm o l[j]) = true ↔ ∃ m, m < j ∧ ∃ hm : m < l.length, sm l[m] l[j] = true := by
  rw [List.any_eq_true]
  constructor
  · rintro ⟨o, ho, hs⟩
    obtain ⟨m, hm, rfl⟩ := List.getElem_of_mem ho
    rw [List.length_take] at hm
    exact ⟨m, by omega, by omega, by rw [List.getElem_take] at hs; exact hs⟩
  · rintro ⟨m, h1, hm, hs⟩
    refine ⟨l[m], ?_, hs⟩
    rw [List.mem_take_iff_getElem]
    exact ⟨m, by omega, rfl⟩
theorem okFrom_zero (l : List S53) : okFrom l 0 ↔ (∀ r ∈ l, okQ r) ∧ ¬ dup l := by
  constructor
  · intro h
    refine ⟨fun r hr => ?_, ?_⟩
    · obtain ⟨j, hj, rfl⟩ := List.getElem_of_mem hr
      exact (h j (Nat.zero_le _) hj).1
    · rintro ⟨j, hj, ha⟩
      obtain ⟨m, h1, hm, hs⟩ := (take_any hj).1 ha
      rw [(h j (Nat.zero_le _) hj).2 m h1 hm] at hs
      cases hs
  · rintro ⟨h1, h2⟩ j _ hj
    refine ⟨h1 _ (List.getElem_mem hj), fun m h3 hm => ?_⟩
    cases hs : sm l[m] l[j] with
    | false => rfl
    | true => exact (h2 ⟨j, hj, (take_any hj).2 ⟨m, h3, hm, hs⟩⟩).elim
theorem sm_true {o r : S53} (h0 : o.f0 = r.f0) (h1 : o.f1 = r.f1) : sm o r = true := by unfold sm; rw [h0, h1]; simp
theorem sm_false0 {o r : S53} (h0 : o.f0 ≠ r.f0) : sm o r = false := by unfold sm; simp [h0]
theorem sm_false1 {o r : S53} (h0 : o.f1 ≠ r.f1) : sm o r = false := by unfold sm; simp [h0]
theorem E_rchk1 (h : Int) (p : ByteArray) (l : List S53) (hl : l.length ≤ 100) (i : Nat) (hi : i < l.length) (rr : Int) (hrr : Ev (fun k => sandglassref43_Check.l0 k ((i + 1 : Nat) : Int) h p l) rr) (d : Nat) : ∀ j : Nat, i - j = d → j ≤ i →
    ((∀ m, j ≤ m → m < i → (hm : m < l.length) → sm l[m] l[i] = false) → Ev (fun k => sandglassref43_Check.l1 k (i : Int) (j : Int) h p l) rr) ∧ ((∃ m, j ≤ m ∧ m < i ∧ ∃ hm : m < l.length, sm l[m] l[i] = true) → Ev (fun k => sandglassref43_Check.l1 k (i : Int) (j : Int) h p l) 1) := by
  induction d with
  | zero =>
    intro j hd hj
    refine ⟨fun _ => ?_, fun ⟨m, h1, h2, _⟩ => by omega⟩
    refine Ev.step (f := fun k => _) (fun k => by rw [sandglassref43_Check.l1]) ?_
    simp only [if_neg (show ¬ (j : Int) < (i : Int) by omega)]
    rw [w64_1 i (by omega)]
    exact hrr
  | succ d ih =>
    intro j hd hj
    have hjl : j < l.length := by omega
    obtain ⟨ih1, ih2⟩ := ih (j + 1) (by omega) (by omega)
    by_cases h0 : l[j].f0 = l[i].f0
    · by_cases h1 : l[j].f1 = l[i].f1
      · refine ⟨fun hm => ?_, fun _ => ?_⟩
        · have := hm j (Nat.le_refl _) (by omega) hjl
          rw [sm_true h0 h1] at this
          cases this
        · refine Ev.step (f := fun k => _) (fun k => by rw [sandglassref43_Check.l1]) ?_
          simp only [if_pos (show (j : Int) < (i : Int) by omega), if_pos (show 0 ≤ (j : Int) by omega), if_pos (show (j : Int) < (l.length : Int) by omega), if_pos (show 0 ≤ (i : Int) by omega), if_pos (show (i : Int) < (l.length : Int) by omega), rd53 hjl, rd53 hi, if_pos h0, if_pos h1]
          exact nowE _
      · have hst : Ev (fun k => sandglassref43_Check.l1 k (i : Int) ((j + 1 : Nat) : Int) h p l) = Ev (fun k => sandglassref43_Check.l1 k (i : Int) (wrap64 ((j : Int) + 1)) h p l) := by rw [w64_1 j (by omega)]
        refine ⟨fun hm => ?_, fun hm => ?_⟩
        · refine Ev.step (f := fun k => _) (fun k => by rw [sandglassref43_Check.l1]) ?_
          simp only [if_pos (show (j : Int) < (i : Int) by omega), if_pos (show 0 ≤ (j : Int) by omega), if_pos (show (j : Int) < (l.length : Int) by omega), if_pos (show 0 ≤ (i : Int) by omega), if_pos (show (i : Int) < (l.length : Int) by omega), rd53 hjl, rd53 hi, if_pos h0, if_neg h1]
          rw [← hst]
          exact ih1 fun m h2 h3 hm' => hm m (by omega) h3 hm'
        · refine Ev.step (f := fun k => _) (fun k => by rw [sandglassref43_Check.l1]) ?_
          simp only [if_pos (show (j : Int) < (i : Int) by omega), if_pos (show 0 ≤ (j : Int) by omega), if_pos (show (j : Int) < (l.length : Int) by omega), if_pos (show 0 ≤ (i : Int) by omega), if_pos (show (i : Int) < (l.length : Int) by omega), rd53 hjl, rd53 hi, if_pos h0, if_neg h1]
          rw [← hst]
          obtain ⟨m, h2, h3, hm', hs⟩ := hm
          refine ih2 ⟨m, ?_, h3, hm', hs⟩
          rcases Nat.lt_or_ge j m with h4 | h4
          · exact h4
          · have : m = j := by omega
            subst this
            rw [sm_false1 h1] at hs
            cases hs
    · have hst : Ev (fun k => sandglassref43_Check.l1 k (i : Int) ((j + 1 : Nat) : Int) h p l) = Ev (fun k => sandglassref43_Check.l1 k (i : Int) (wrap64 ((j : Int) + 1)) h p l) := by rw [w64_1 j (by omega)]
      refine ⟨fun hm => ?_, fun hm => ?_⟩
      · refine Ev.step (f := fun k => _) (fun k => by rw [sandglassref43_Check.l1]) ?_
        simp only [if_pos (show (j : Int) < (i : Int) by omega), if_pos (show 0 ≤ (j : Int) by omega), if_pos (show (j : Int) < (l.length : Int) by omega), if_pos (show 0 ≤ (i : Int) by omega), if_pos (show (i : Int) < (l.length : Int) by omega), rd53 hjl, rd53 hi, if_neg h0]
        rw [← hst]
        exact ih1 fun m h2 h3 hm' => hm m (by omega) h3 hm'
      · refine Ev.step (f := fun k => _) (fun k => by rw [sandglassref43_Check.l1]) ?_
        simp only [if_pos (show (j : Int) < (i : Int) by omega), if_pos (show 0 ≤ (j : Int) by omega), if_pos (show (j : Int) < (l.length : Int) by omega), if_pos (show 0 ≤ (i : Int) by omega), if_pos (show (i : Int) < (l.length : Int) by omega), rd53 hjl, rd53 hi, if_neg h0]
        rw [← hst]
        obtain ⟨m, h2, h3, hm', hs⟩ := hm
        refine ih2 ⟨m, ?_, h3, hm', hs⟩
        rcases Nat.lt_or_ge j m with h4 | h4
        · exact h4
        · have : m = j := by omega
          subst this
          rw [sm_false0 h0] at hs
          cases hs
theorem E_rchk0 (h : Int) (p : ByteArray) (l : List S53) (hl : l.length ≤ 100) (d : Nat) : ∀ i : Nat, l.length - i = d →
    (okFrom l i → Ev (fun k => sandglassref43_Check.l0 k (i : Int) h p l) 0) ∧ (¬ okFrom l i → Ev (fun k => sandglassref43_Check.l0 k (i : Int) h p l) 1) := by
  induction d with
  | zero =>
    intro i hd
    refine ⟨fun _ => ?_, fun hn => (hn fun j h1 h2 => by omega).elim⟩
    refine Ev.step (f := fun k => _) (fun k => by rw [sandglassref43_Check.l0]) ?_
    simp only [if_neg (show ¬ (i : Int) < (l.length : Int) by omega)]
    exact nowE _
  | succ d ih =>
    intro i hd
    have hi : i < l.length := by omega
    obtain ⟨ih1, ih2⟩ := ih (i + 1) (by omega)
    have step : ∀ v, Ev (fun k => sandglassref43_Check.l1 k (i : Int) 0 h p l) v → okQ l[i] → Ev (fun k => sandglassref43_Check.l0 k (i : Int) h p l) v := by
      intro v hv hq
      refine Ev.step (f := fun k => _) (fun k => by rw [sandglassref43_Check.l0]) ?_
      simp only [if_pos (show (i : Int) < (l.length : Int) by omega), if_pos (show 0 ≤ (i : Int) by omega), rd53 hi]
      rw [may_yes hq]
      simp only [bindS, if_true]
      exact hv
    refine ⟨fun ho => ?_, fun ho => ?_⟩
    · have hq := ho i (Nat.le_refl _) hi
      have h2 : okFrom l (i + 1) := fun j h1 hj => ho j (by omega) hj
      exact step 0 ((E_rchk1 h p l hl i hi 0 (ih1 h2) i 0 (by omega) (by omega)).1 fun m _ h3 hm => hq.2 m h3 hm) hq.1
    · by_cases hq : okQ l[i]
      · by_cases hs : ∃ m, 0 ≤ m ∧ m < i ∧ ∃ hm : m < l.length, sm l[m] l[i] = true
        · by_cases h2 : okFrom l (i + 1)
          · exact step 1 ((E_rchk1 h p l hl i hi 0 (ih1 h2) i 0 (by omega) (by omega)).2 hs) hq
          · exact step 1 ((E_rchk1 h p l hl i hi 1 (ih2 h2) i 0 (by omega) (by omega)).2 hs) hq
        · have hno : ∀ m, m < i → (hm : m < l.length) → sm l[m] l[i] = false := fun m h3 hm => by
            cases hx : sm l[m] l[i] with
            | false => rfl
            | true => exact (hs ⟨m, Nat.zero_le _, h3, hm, hx⟩).elim
          have h2 : ¬ okFrom l (i + 1) := fun h2 => ho fun j h1 hj => by
            by_cases hji : j = i
            · subst hji
              exact ⟨hq, hno⟩
            · exact h2 j (by omega) hj
          exact step 1 ((E_rchk1 h p l hl i hi 1 (ih2 h2) i 0 (by omega) (by omega)).1 fun m _ h3 hm => hno m h3 hm) hq
      · refine Ev.step (f := fun k => _) (fun k => by rw [sandglassref43_Check.l0]) ?_
        simp only [if_pos (show (i : Int) < (l.length : Int) by omega), if_pos (show 0 ≤ (i : Int) by omega), rd53 hi]
        rw [may_no hq]
        simp only [bindS, Bool.false_eq_true, if_false]
        exact nowE _
theorem E_rchkT (h : Int) (p : ByteArray) (l : List S53) : Ev (fun k => sandglassref43_Check.j0 k true h p l) 1 := by
  refine Ev.step (f := fun k => _) (fun k => by rw [sandglassref43_Check.j0]) ?_
  simp only [if_true]
  exact nowE _
/-- The reference's check is the program's. -/
theorem E_rCheck (h : Int) (p : ByteArray) (l : List S53) : Ev (fun k => sandglassref43_Check.f k h p l) (eB h p l) := by
  unfold sandglassref43_Check.f
  by_cases h1 : h < 0
  · rw [eB_neg (fun hk => by have := hk.1.1; omega)]
    simp only [if_pos h1]
    exact E_rchkT h p l
  · by_cases h2 : h > 64
    · rw [eB_neg (fun hk => by have := hk.1.2; omega)]
      simp only [if_neg h1, if_pos h2]
      exact E_rchkT h p l
    · by_cases h3 : p.size = 32
      · by_cases h4 : l.length ≤ 8
        · simp only [if_neg h1, if_neg h2, if_pos (show (p.size : Int) = 32 by omega), decide_eq_false (show ¬ ((l.length : Int) > 8) by omega)]
          refine Ev.step (f := fun k => _) (fun k => by rw [sandglassref43_Check.j0]) ?_
          simp only [Bool.false_eq_true, if_false]
          have hz := E_rchk0 h p l (by omega) l.length 0 (by omega)
          by_cases ho : okFrom l 0
          · have ho' := (okFrom_zero l).1 ho
            rw [eB_pos ⟨⟨by omega, by omega⟩, h3, h4, ho'.2, ho'.1⟩]
            exact hz.1 ho
          · rw [eB_neg (fun hk => ho ((okFrom_zero l).2 ⟨hk.2.2.2.2, hk.2.2.2.1⟩))]
            exact hz.2 ho
        · rw [eB_neg (fun hk => h4 hk.2.2.1)]
          simp only [if_neg h1, if_neg h2, if_pos (show (p.size : Int) = 32 by omega), decide_eq_true (show ((l.length : Int) > 8) by omega)]
          exact E_rchkT h p l
      · rw [eB_neg (fun hk => h3 hk.2.1)]
        simp only [if_neg h1, if_neg h2, if_neg (show ¬ (p.size : Int) = 32 by omega)]
        exact E_rchkT h p l
theorem rcheckC (h : Int) (p : ByteArray) (A : Option Addr) (n c : Nat) (l : List S53) (w : World) (hn : n = l.length) (hC : Kd.C k53 w A n l) (hnc : n ≤ c) :
    Calls Tryd.prog 13 #[.agg (cB h p A n c)] w fun e w' => e = .returned (.int .i64 (eB h p l)) ∧ Below w.heap.size w w' := by
  subst hn
  obtain ⟨q, hq⟩ := roundsE (E_rCheck h p l)
  exact sandglassref43_Check.calls q h p A c l _ w hC hnc hq
theorem oneC (x : Int) (w : World) : Calls Tryd.prog 26 #[.int .i64 x] w fun e w' => e = .returned (.string (mk [u8 x])) ∧ Below w.heap.size w w' := by
  refine sandglassref43_one.calls x _ w ?_
  unfold sandglassref43_one.f
  rfl
theorem rcommandC {r : S53} (h : okQ r) (w : World) : Calls Tryd.prog 27 #[.agg (cK r.f2)] w fun e w' => e = .returned (.tuple #[.string (mk (cmdB r)), .int .i64 0]) ∧ Below w.heap.size w w' := by
  have hs := okQ_short h
  obtain ⟨a, b, k, e, n, x⟩ := r
  obtain ⟨n, rfl⟩ := ex_mk n
  obtain ⟨x, rfl⟩ := ex_mk x
  have hs1 : n.length ≤ 16 := by simpa only [mk_size] using hs.1
  have hs2 : x.length ≤ 4096 := by simpa only [mk_size] using hs.2
  obtain ⟨q, hq⟩ := roundsE (E_rCommand k e n x (by omega) (by omega))
  have hok : okC k e n.length x.length := by simpa only [mk_size] using h.2.2
  unfold cmdA at hq
  rw [if_pos hok] at hq
  have := sandglassref16_Command.calls q k e (mk n) (mk x) _ _ w hq
  show Calls Tryd.prog 27 _ w fun e' w' => e' = .returned (.tuple #[.string (mk (texts [[u8 k], [u8 e], (mk n).toList, (mk x).toList])), .int .i64 0]) ∧ _
  rw [mk_toList, mk_toList]
  exact this
theorem rtextsC (A : Option Addr) (n c : Nat) (ls : List (List UInt8)) (w : World) (hC : Kd.C Kd.string w A n (ls.map mk)) (hnc : n ≤ c) (hn : ls.length ≤ 100000) (hs : ∀ x ∈ ls, x.length ≤ 100000) : Calls Tryd.prog 28 #[.slice A n c] w fun e w' => e = .returned (.string (mk (texts ls))) ∧ Below w.heap.size w w' := by
  have h1 : n = (ls.map mk).length := hC.1.symm
  subst h1
  obtain ⟨q, hq⟩ := roundsE (E_rTexts ls hn hs)
  exact sandglassref16_Texts.calls q A c (ls.map mk) _ w hC hnc hq
theorem four_u8 (x : Int) (h : 0 ≤ x) : [u8 (x / 16777216)] ++ [u8 (x / 65536)] ++ [u8 (x / 256)] ++ [u8 x] = SG.four x.toNat := by
  obtain ⟨n, rfl⟩ := Int.eq_ofNat_of_zero_le h
  simp only [SG.four, u8, List.cons_append, List.nil_append, Int.toNat_natCast, List.cons.injEq, and_true]
  refine ⟨?_, ?_, ?_, ?_⟩ <;> (apply UInt8.toNat.inj; simp only [UInt8.toNat_ofNat']; omega)
end Go.Proofs.YtifpomknkjegeaaDoor.Bk
