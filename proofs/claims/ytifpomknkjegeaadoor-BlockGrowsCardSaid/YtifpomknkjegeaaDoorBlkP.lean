import Derived.Test.YtifpomknkjegeaaDoorBlkAll
import Derived.Test.YtifpomknkjegeaaDoorRefAll
namespace Go.Proofs.YtifpomknkjegeaaDoor.Bk
open Go.RowKit Go.Proofs.YtifpomknkjegeaaDoor.PAll Go.Proofs.YtifpomknkjegeaaDoorW.PrintWords Go.Proofs.YtifpomknkjegeaaDoorW.PrintLast Go.Proofs.YtifpomknkjegeaaDoorW.PrintMore SG Go.Proofs.YtifpomknkjegeaaDoor.BFun Go.Proofs.YtifpomknkjegeaaDoor.Hlp Go.Proofs.YtifpomknkjegeaaDoor.Sha
set_option linter.unusedVariables false
set_option linter.unusedSimpArgs false
/-- The parent behind so many blocks. -/
def par : List UInt8 → List (List UInt8) → Nat → List UInt8
  | p, _, 0 => p
  | p, [], _ + 1 => p
  | _, s :: r, k + 1 => par (shaF s) r k
theorem par_succ (l : List (List UInt8)) : ∀ (p : List UInt8) (k : Nat), k < l.length → par p l (k + 1) = shaF (l.getD k []) := by
  induction l with
  | nil => intro p k h; exact absurd h (by simp)
  | cons s r ih =>
    intro p k h
    match k, h with
    | 0, _ =>
      show par (shaF s) r 0 = _
      cases r <;> rfl
    | k + 1, h =>
      show par (shaF s) r (k + 1) = _
      rw [ih (shaF s) k (by simpa using h)]
      rfl
/-- One more block behind a chain. -/
theorem chainG_grows (l : List (List UInt8)) : ∀ (i : Nat) (p : List UInt8), ∃ m e, chainG i p l = (((i + m : Nat) : Int), e) ∧ m ≤ l.length ∧ ∀ s r, decF s = ((((i + m : Nat) : Int), mk (par p l m), r), 0) → chainG i p (l.take m ++ [s]) = (((i + m + 1 : Nat) : Int), 0) := by
  induction l with
  | nil =>
    intro i p
    refine ⟨0, 0, rfl, Nat.le_refl _, fun s r h => ?_⟩
    show chainG i p [s] = _
    rw [chainG_yes (by rw [h]; exact ⟨rfl, rfl, rfl⟩)]
    rfl
  | cons a t ih =>
    intro i p
    by_cases hc : (decF a).2 = 0 ∧ (decF a).1.1 = (i : Int) ∧ (decF a).1.2.1 = mk p
    · obtain ⟨m, e, h1, h2, h3⟩ := ih (i + 1) (shaF a)
      refine ⟨m + 1, e, ?_, by simpa using h2, fun s r h => ?_⟩
      · rw [chainG_yes hc, h1, show i + 1 + m = i + (m + 1) by omega]
      · rw [List.take_succ_cons, List.cons_append, chainG_yes hc, h3 s r (by rw [show i + 1 + m = i + (m + 1) by omega]; exact h), show i + 1 + m + 1 = i + (m + 1) + 1 by omega]
    · refine ⟨0, 3, chainG_no hc, Nat.zero_le _, fun s r h => ?_⟩
      show chainG i p [s] = _
      rw [chainG_yes (by rw [h]; exact ⟨rfl, rfl, rfl⟩)]
      rfl
theorem take_len1 {l : List (List UInt8)} {m : Nat} (h : m ≤ l.length) (s : List UInt8) : m + 1 = (l.take m ++ [s]).length := by rw [List.length_append, List.length_take, List.length_singleton, Nat.min_eq_left h]
theorem wsub1 {m k : Nat} (h : m = k + 1) (hm : m ≤ 1000) : wrap64 ((m : Int) - 1) = (k : Int) := by
  subst h
  unfold wrap64
  omega
theorem strs1_C (w : World) (a : ByteArray) : Kd.C Kd.string (w.alloc (.cells #[.string a] 9)) (some ⟨w.heap.size, 0, none⟩) 1 [a] := by
  refine Kd.C_of_reads (d := ByteArray.empty) ⟨rfl, by decide, fun _ => ⟨_, rfl, fun j hj => ?_⟩⟩
  rw [add_plain]
  refine (cell_of_row _ _ j _ 9 (0, 0) (heap_alloc_new w _)).trans ?_
  match j, hj with
  | 0, _ => rfl
  | j + 1, h => exact absurd h (by omega)
theorem C_takeS {w : World} {A : Option Addr} {n : Nat} {ls : List (List UInt8)} (h : Kd.C Kd.string w A n (ls.map mk)) (hn : n = ls.length) (m : Nat) (hm : m ≤ n) : Kd.C Kd.string w A m ((ls.take m).map mk) := by
  have h' : Kd.C Kd.string w A (ls.map mk).length (ls.map mk) := by rw [List.length_map, ← hn]; exact h
  have := Kd.C_take h' (m := m) (by rw [List.length_map]; omega)
  rw [List.length_take, List.length_map, Nat.min_eq_left (by omega), ← List.map_take] at this
  exact this
set_option maxHeartbeats 16000000 in
set_option maxRecDepth 100000 in
theorem grows_long (A : Option Addr) (n c : Nat) (l : List (List UInt8)) (A2 : Option Addr) (n2 c2 : Nat) (r : List S53) (w : World) (hT : Tab w) (hn : n = l.length) (hC : Kd.C Kd.string w A n (l.map mk)) (hnc : n ≤ c) (hn2 : n2 = r.length) (hC2 : Kd.C k53 w A2 n2 r) (hnc2 : n2 ≤ c2) (hlong : 30 < n ∨ 8 < n2) :
    Calls Tryd.prog 7 #[.slice A n c, .slice A2 n2 c2] w fun e w' => e = .returned (.bool true) ∧ Below w.heap.size w w' := by
  have HC := Aside0.mk hC
  have HN := Aside0.mk hn
  have HT := Aside0.mk hT
  have HC2 := Aside0.mk hC2
  have HN2 := Aside0.mk hn2
  clear hC hn hT hC2 hn2
  have HB0 := Aside0.mk (Below.refl w.heap.size w)
  by_cases h30 : 30 < n
  · have t1 : decide (30 < (n : Int)) = true := decide_eq_true (by omega)
    go_enter Tryd.func7, Tryd.ntmps7
    go_wp2_with (first | ((with_reducible refine gate_callee (f := 9) rfl ?_); refine goesL_ (some 22) rfl rfl Tryd.func9 (by kernel_rfl) rfl #[] rfl (by (try simp only [List.map_toArray, List.map_cons, List.map_nil]); first | done | rfl) ?_; (with_reducible refine (awake_walk _ (HT.out.below HB0.out)).mono ?_); rintro e w9 ⟨rfl, hb⟩; refine ⟨_, rfl, ?_⟩; have HB9 := Aside0.mk (below_step HB0.out hb); clear hb))
    go_ret
    exact ⟨rfl, HB9.out⟩
  · have t1 : decide (30 < (n : Int)) = false := decide_eq_false (by omega)
    have h8 : 8 < n2 := by omega
    have t2 : decide (8 < (n2 : Int)) = true := decide_eq_true (by omega)
    go_enter Tryd.func7, Tryd.ntmps7
    go_wp2_with (first | ((with_reducible refine gate_callee (f := 9) rfl ?_); refine goesL_ (some 22) rfl rfl Tryd.func9 (by kernel_rfl) rfl #[] rfl (by (try simp only [List.map_toArray, List.map_cons, List.map_nil]); first | done | rfl) ?_; (with_reducible refine (awake_walk _ (HT.out.below HB0.out)).mono ?_); rintro e w9 ⟨rfl, hb⟩; refine ⟨_, rfl, ?_⟩; have HB9 := Aside0.mk (below_step HB0.out hb); clear hb))
    go_ret
    exact ⟨rfl, HB9.out⟩
set_option maxHeartbeats 16000000 in
set_option maxRecDepth 100000 in
theorem grows_short (A : Option Addr) (n c : Nat) (l : List (List UInt8)) (A2 : Option Addr) (n2 c2 : Nat) (r : List S53) (w : World) (hT : Tab w) (hn : n = l.length) (hC : Kd.C Kd.string w A n (l.map mk)) (hnc : n ≤ c) (hn2 : n2 = r.length) (hC2 : Kd.C k53 w A2 n2 r) (hnc2 : n2 ≤ c2) (h30 : n ≤ 30) (h8 : n2 ≤ 8) :
    Calls Tryd.prog 7 #[.slice A n c, .slice A2 n2 c2] w fun e w' => e = .returned (.bool true) ∧ Below w.heap.size w w' := by
  have HC := Aside0.mk hC
  have HN := Aside0.mk hn
  have HT := Aside0.mk hT
  have HC2 := Aside0.mk hC2
  have HN2 := Aside0.mk hn2
  clear hC hn hT hC2 hn2
  have t1 : decide (30 < (n : Int)) = false := decide_eq_false (by omega)
  have t2 : decide (8 < (n2 : Int)) = false := decide_eq_false (by omega)
  have HB0 := Aside0.mk (Below.refl w.heap.size w)
  go_enter Tryd.func7, Tryd.ntmps7
  go_wp2
  go_loopg [5] n (fun kq v5 w' => ∃ (i : Nat), v5 = .int .i64 (i : Int) ∧ Aside0 (i + kq = n) ∧ Aside0 (∀ j, j < i → (l.getD j []).length ≤ 5000) ∧ Aside0 (Below w.heap.size w w'))
  case atStart => exact ⟨0, rfl, ⟨by omega⟩, ⟨fun j h => absurd h (by omega)⟩, HB0⟩
  case round =>
    obtain ⟨i, rfl, HI, HA, HBi⟩ := hrel
    have hi := HI.out
    by_cases hat : i < n
    · obtain ⟨k1, rfl⟩ : ∃ k1, gk = k1 + 1 := ⟨gk - 1, by omega⟩
      have hlt : decide ((i : Int) < (n : Int)) = true := decide_eq_true (by omega)
      have HI1 : Aside0 (i + 1 + k1 = n) := ⟨by omega⟩
      obtain ⟨ad, rfl, sof⟩ := strs_at HC.out (by omega)
      have x0 : wr.cell? (ad.add i) = some (.string (mk (l.getD i []))) := by
        rw [sof _ HBi.out i hat]
        exact getD_mk l i
      obtain ⟨t, ht⟩ : ∃ t, t = l.getD i [] := ⟨_, rfl⟩
      have HTT := Aside0.mk ht
      rw [← ht] at x0
      by_cases h5 : 5000 < t.length
      · have t5 : decide (5000 < ((mk t).size : Int)) = true := by rw [mk_size]; exact decide_eq_true (by omega)
        clear HI sof ht
        go_wp2_with (first | ((with_reducible refine gate_callee (f := 9) rfl ?_); refine goesL_ (some 35) rfl rfl Tryd.func9 (by kernel_rfl) rfl #[] rfl (by (try simp only [List.map_toArray, List.map_cons, List.map_nil]); first | done | rfl) ?_; (with_reducible refine (awake_walk _ (HT.out.below HBi.out)).mono ?_); rintro e w9 ⟨rfl, hb⟩; refine ⟨_, rfl, ?_⟩; have HB9 := Aside0.mk (below_step HBi.out hb); clear hb))
        go_ret
        exact ⟨rfl, HB9.out⟩
      · have t5 : decide (5000 < ((mk t).size : Int)) = false := by rw [mk_size]; exact decide_eq_false (by omega)
        have HA1 : Aside0 (∀ j, j < i + 1 → (l.getD j []).length ≤ 5000) := ⟨fun j hj => by
          by_cases hji : j = i
          · subst hji
            rw [← HTT.out]
            omega
          · exact HA.out j (by omega)⟩
        clear HI sof ht h5
        go_wp2
        go_roundg k1
        case measure => omega
        case rel => exact ⟨i + 1, by first | rfl | (simp; done), HI1, HA1, HBi⟩
    · obtain rfl : gk = 0 := by omega
      have hge : decide ((i : Int) < (n : Int)) = false := decide_eq_false (by omega)
      have hge2 : ¬ i < n := hat
      have HS5 : Aside0 (∀ t ∈ l, t.length ≤ 5000) := ⟨fun t ht => by
        obtain ⟨j, hj, rfl⟩ := List.getElem_of_mem ht
        have := HA.out j (by have := HN.out; omega)
        rwa [List.getD_eq_getElem?_getD, List.getElem?_eq_getElem hj] at this⟩
      have HS6 : Aside0 (∀ t ∈ l, t.length ≤ 1000000) := ⟨fun t ht => Nat.le_trans (HS5.out t ht) (by decide)⟩
      obtain ⟨m, ec, hch, hml, hgrow⟩ := chainG_grows l 0 first32
      simp only [Nat.zero_add] at hch hgrow
      have HCH := Aside0.mk hch
      have HMN : Aside0 (m ≤ n) := ⟨by rw [HN.out]; exact hml⟩
      have hm0 : decide ((m : Int) < 0) = false := decide_eq_false (by omega)
      have hmn : decide ((n : Int) < (m : Int)) = false := decide_eq_false (by have := HMN.out; omega)
      have hmn2 : ¬ n < m := by have := HMN.out; omega
      obtain ⟨pa, hpa⟩ : ∃ pa, pa = par first32 l m := ⟨_, rfl⟩
      rw [← hpa] at hgrow
      have HGROW := Aside0.mk hgrow
      clear hch hgrow HI HA hi
      have HZ1 : Aside0 ((([] : List ByteArray).length + m) * 16 ≤ 140737488355328) := ⟨by have := HMN.out; simp only [List.length_nil]; omega⟩
      have HZ2 : Aside0 ((((l.take m).map mk).length + 1) * 16 ≤ 140737488355328) := ⟨by rw [List.length_map, List.length_take]; have := HMN.out; omega⟩
      have HZ3 : Aside0 (m + 1 ≤ 1000000) := ⟨by have := HMN.out; omega⟩
      have HZ4 : Aside0 (n ≤ 1000000) := ⟨by omega⟩
      have HZ5 : Aside0 (n2 ≤ 1000) := ⟨by omega⟩
      have HZ6 : Aside0 (m ≤ 1000000000000000) := ⟨by have := HMN.out; omega⟩
      have HZ7 : Aside0 ((m : Int) ≤ (c : Int)) := ⟨by have := HMN.out; omega⟩
      have HZ8 : Aside0 (m ≤ l.length) := ⟨hml⟩
      have HZ9 : Aside0 (m ≤ c) := ⟨by have := HMN.out; omega⟩
      by_cases hm : m = 0
      · have HPA : Aside0 (pa = first32) := ⟨by rw [hpa, hm]; cases l <;> rfl⟩
        have hz0 : decide (0 < (m : Int)) = false := decide_eq_false (by omega)
        have hz1 : ¬ 0 < m := by omega
        clear hpa hml hm
        cases hfew : fewB (m : Int) (mk pa) r with
        | false =>
          go_wp2_with (first | ((with_reducible refine gate_callee (f := 20) rfl ?_); refine goesL_ (some 38) rfl rfl Tryd.func20 (by kernel_rfl) rfl #[.slice A n c] rfl (by (try simp only [List.map_toArray, List.map_cons, List.map_nil]); first | done | rfl) ?_; (with_reducible refine (chain_walk l A n c _ (HT.out.below HBi.out) HN.out (Kd.C_below HC.out HBi.out) HZ4.out HS6.out).mono ?_); rintro e w1 ⟨rfl, hb⟩; refine ⟨_, rfl, ?_⟩; rw [HCH.out]; have HB1 := Aside0.mk (below_step HBi.out hb); clear hb) | ((with_reducible refine gate_callee (f := 22) rfl ?_); refine goesL_ (some 49) rfl rfl Tryd.func22 (by kernel_rfl) rfl #[] rfl (by (try simp only [List.map_toArray, List.map_cons, List.map_nil]); first | done | rfl) ?_; (with_reducible refine (firstC _).mono ?_); rintro e w2 ⟨rfl, hb⟩; refine ⟨_, rfl, ?_⟩; rw [← HPA.out]; have HB2 := Aside0.mk (below_step HB1.out hb); clear hb) | ((with_reducible refine gate_dst (N := 9) rfl ?_); refine box_event ?hg (N := 9) ?hd (cs := #[.int .i64 0, .string ⟨#[]⟩, .slice none 0 0]) (t := 24) ?hr ?_; (case hd => rfl); (case hg => rfl); (case hr => first | (go_simp; done) | (go_simp; rfl)); intro gb hggb wb hboxgb hbgb; have HGgb := Aside0.mk hboxgb; have HBgb := Aside0.mk hbgb; have HGEgb := Aside0.mk (show w2.heap.size ≤ gb by rw [hggb]; exact Nat.le_refl _); have gbb0 : wb.cell? ⟨gb, 0, none⟩ = some (.int .i64 0) := (blk_cell hboxgb 0).trans rfl; have gbbz0 : wb.frozen? ⟨gb, 0, none⟩ = false := blk_frozen hboxgb 0; have gbb1 : wb.cell? ⟨gb, 1, none⟩ = some (.string ⟨#[]⟩) := (blk_cell hboxgb 1).trans rfl; have gbbz1 : wb.frozen? ⟨gb, 1, none⟩ = false := blk_frozen hboxgb 1; have gbb2 : wb.cell? ⟨gb, 2, none⟩ = some (.slice none 0 0) := (blk_cell hboxgb 2).trans rfl; have gbbz2 : wb.frozen? ⟨gb, 2, none⟩ = false := blk_frozen hboxgb 2; clear hggb hboxgb hbgb) | ((with_reducible refine gate_store (t := 24) (p := 9) (v := .tmp 61) rfl ?_); refine store_event (w1 := (set3 wb gb (m : Int) (mk pa) (.slice A2 n2 c2))) ?hg rfl ?hN ?hr ?_; (case hg => rfl); (case hN => rfl); (case hr => first | (go_simp; done) | (go_simp; rfl)); intro w4 hww4; have hggb : w4.heap[gb]? = some (.cells #[.int .i64 (m : Int), .string (mk pa), .slice A2 n2 c2] 24 (0, 0)) := (by rw [hww4]; exact set3_blk HGgb.out _ _ _); have hbs : Below w2.heap.size w2 w4 := (by rw [hww4]; exact set3_below HBgb.out HGEgb.out _ _ _); have HXgb := Aside0.mk hggb; have HBw4 := Aside0.mk (below_step HB2.out hbs); have gbs0 : w4.cell? ⟨gb, 0, none⟩ = some (.int .i64 (m : Int)) := (blk_cell hggb 0).trans rfl; have gbsz0 : w4.frozen? ⟨gb, 0, none⟩ = false := blk_frozen hggb 0; have gbs1 : w4.cell? ⟨gb, 1, none⟩ = some (.string (mk pa)) := (blk_cell hggb 1).trans rfl; have gbsz1 : w4.frozen? ⟨gb, 1, none⟩ = false := blk_frozen hggb 1; have gbs2 : w4.cell? ⟨gb, 2, none⟩ = some (.slice A2 n2 c2) := (blk_cell hggb 2).trans rfl; have gbsz2 : w4.frozen? ⟨gb, 2, none⟩ = false := blk_frozen hggb 2; clear hww4 hggb hbs) | ((with_reducible refine gate_callee (f := 8) rfl ?_); refine goesL_ (some 63) rfl rfl Tryd.func8 (by kernel_rfl) rfl #[.agg (cB (m : Int) (mk pa) A2 n2 c2)] rfl (by (try simp only [List.map_toArray, List.map_cons, List.map_nil]); first | done | rfl) ?_; (with_reducible refine (fewBC (m : Int) (mk pa) A2 n2 c2 r _ HN2.out (Kd.C_below HC2.out HBw4.out) hnc2).mono ?_); rintro e w5 ⟨rfl, hb⟩; refine ⟨_, rfl, ?_⟩; rw [hfew]; have HB5 := Aside0.mk (below_step HBw4.out hb); have HG5 := Aside0.mk (blk_below HXgb.out hb); have z0 : w5.cell? ⟨gb, 0, none⟩ = some (.int .i64 (m : Int)) := (blk_cell HG5.out 0).trans rfl; have zz0 : w5.frozen? ⟨gb, 0, none⟩ = false := blk_frozen HG5.out 0; have z1 : w5.cell? ⟨gb, 1, none⟩ = some (.string (mk pa)) := (blk_cell HG5.out 1).trans rfl; have zz1 : w5.frozen? ⟨gb, 1, none⟩ = false := blk_frozen HG5.out 1; have z2 : w5.cell? ⟨gb, 2, none⟩ = some (.slice A2 n2 c2) := (blk_cell HG5.out 2).trans rfl; have zz2 : w5.frozen? ⟨gb, 2, none⟩ = false := blk_frozen HG5.out 2; clear hb) | ((with_reducible refine gate_callee (f := 9) rfl ?_); refine goesL_ (some 65) rfl rfl Tryd.func9 (by kernel_rfl) rfl #[] rfl (by (try simp only [List.map_toArray, List.map_cons, List.map_nil]); first | done | rfl) ?_; (with_reducible refine (awake_walk _ (HT.out.below HB5.out)).mono ?_); rintro e w9 ⟨rfl, hb⟩; refine ⟨_, rfl, ?_⟩; have HB9 := Aside0.mk (below_step HB5.out hb); clear hb))
          go_ret
          exact ⟨rfl, HB9.out⟩
        | true =>
          have HSQ : Aside0 (shortQ r) := ⟨fewP_short (fewB_P hfew)⟩
          by_cases hx : (encF (m : Int) (mk pa) r).2 = 0
          · obtain ⟨s, hs⟩ : ∃ s, s = (encF (m : Int) (mk pa) r).1 := ⟨_, rfl⟩
            have HEN : Aside0 (encF (m : Int) (mk pa) r = (s, 0)) := ⟨by rw [hs, ← hx]⟩
            have hd := decF_encF HEN.out
            have HGR : Aside0 (chainG 0 first32 (l.take m ++ [s]) = (((m + 1 : Nat) : Int), 0)) := ⟨HGROW.out s r hd.1⟩
            have HSS : Aside0 (∀ t ∈ l.take m ++ [s], t.length ≤ 1000000) := ⟨fun t ht => by
              rcases List.mem_append.1 ht with ht | ht
              · exact HS6.out t (List.mem_of_mem_take ht)
              · rw [List.mem_singleton] at ht
                subst ht
                exact Nat.le_trans hd.2 (by decide)⟩
            have HTK : Aside0 ((l.take m ++ [s]).map mk = (l.take m).map mk ++ [mk s]) := ⟨by rw [List.map_append]; rfl⟩
            have HLM : Aside0 (m + 1 = (l.take m ++ [s]).length) := ⟨take_len1 HZ8.out s⟩
            have HLK : Aside0 (((l.take m ++ [s]).map mk).length = m + 1) := ⟨by rw [List.length_map]; exact HLM.out.symm⟩
            have hm1 : wrap64 ((m : Int) + 1) = ((m + 1 : Nat) : Int) := w64_1 m HZ6.out
            have hmc := HZ7.out
            have hmc2 := HZ9.out
            have hq : ((((m + 1 : Nat) : Int)) == (((m + 1 : Nat) : Int))) = true := beq_self_eq_true _
            clear hx hs hd
            go_wp2_with (first | ((with_reducible refine gate_callee (f := 20) rfl ?_); refine goesL_ (some 38) rfl rfl Tryd.func20 (by kernel_rfl) rfl #[.slice A n c] rfl (by (try simp only [List.map_toArray, List.map_cons, List.map_nil]); first | done | rfl) ?_; (with_reducible refine (chain_walk l A n c _ (HT.out.below HBi.out) HN.out (Kd.C_below HC.out HBi.out) HZ4.out HS6.out).mono ?_); rintro e w1 ⟨rfl, hb⟩; refine ⟨_, rfl, ?_⟩; rw [HCH.out]; have HB1 := Aside0.mk (below_step HBi.out hb); clear hb) | ((with_reducible refine gate_callee (f := 22) rfl ?_); refine goesL_ (some 49) rfl rfl Tryd.func22 (by kernel_rfl) rfl #[] rfl (by (try simp only [List.map_toArray, List.map_cons, List.map_nil]); first | done | rfl) ?_; (with_reducible refine (firstC _).mono ?_); rintro e w2 ⟨rfl, hb⟩; refine ⟨_, rfl, ?_⟩; rw [← HPA.out]; have HB2 := Aside0.mk (below_step HB1.out hb); clear hb) | ((with_reducible refine gate_dst (N := 9) rfl ?_); refine box_event ?hg (N := 9) ?hd (cs := #[.int .i64 0, .string ⟨#[]⟩, .slice none 0 0]) (t := 24) ?hr ?_; (case hd => rfl); (case hg => rfl); (case hr => first | (go_simp; done) | (go_simp; rfl)); intro gb hggb wb hboxgb hbgb; have HGgb := Aside0.mk hboxgb; have HBgb := Aside0.mk hbgb; have HGEgb := Aside0.mk (show w2.heap.size ≤ gb by rw [hggb]; exact Nat.le_refl _); have gbb0 : wb.cell? ⟨gb, 0, none⟩ = some (.int .i64 0) := (blk_cell hboxgb 0).trans rfl; have gbbz0 : wb.frozen? ⟨gb, 0, none⟩ = false := blk_frozen hboxgb 0; have gbb1 : wb.cell? ⟨gb, 1, none⟩ = some (.string ⟨#[]⟩) := (blk_cell hboxgb 1).trans rfl; have gbbz1 : wb.frozen? ⟨gb, 1, none⟩ = false := blk_frozen hboxgb 1; have gbb2 : wb.cell? ⟨gb, 2, none⟩ = some (.slice none 0 0) := (blk_cell hboxgb 2).trans rfl; have gbbz2 : wb.frozen? ⟨gb, 2, none⟩ = false := blk_frozen hboxgb 2; clear hggb hboxgb hbgb) | ((with_reducible refine gate_store (t := 24) (p := 9) (v := .tmp 61) rfl ?_); refine store_event (w1 := (set3 wb gb (m : Int) (mk pa) (.slice A2 n2 c2))) ?hg rfl ?hN ?hr ?_; (case hg => rfl); (case hN => rfl); (case hr => first | (go_simp; done) | (go_simp; rfl)); intro w4 hww4; have hggb : w4.heap[gb]? = some (.cells #[.int .i64 (m : Int), .string (mk pa), .slice A2 n2 c2] 24 (0, 0)) := (by rw [hww4]; exact set3_blk HGgb.out _ _ _); have hbs : Below w2.heap.size w2 w4 := (by rw [hww4]; exact set3_below HBgb.out HGEgb.out _ _ _); have HXgb := Aside0.mk hggb; have HBw4 := Aside0.mk (below_step HB2.out hbs); have gbs0 : w4.cell? ⟨gb, 0, none⟩ = some (.int .i64 (m : Int)) := (blk_cell hggb 0).trans rfl; have gbsz0 : w4.frozen? ⟨gb, 0, none⟩ = false := blk_frozen hggb 0; have gbs1 : w4.cell? ⟨gb, 1, none⟩ = some (.string (mk pa)) := (blk_cell hggb 1).trans rfl; have gbsz1 : w4.frozen? ⟨gb, 1, none⟩ = false := blk_frozen hggb 1; have gbs2 : w4.cell? ⟨gb, 2, none⟩ = some (.slice A2 n2 c2) := (blk_cell hggb 2).trans rfl; have gbsz2 : w4.frozen? ⟨gb, 2, none⟩ = false := blk_frozen hggb 2; clear hww4 hggb hbs) | ((with_reducible refine gate_callee (f := 8) rfl ?_); refine goesL_ (some 63) rfl rfl Tryd.func8 (by kernel_rfl) rfl #[.agg (cB (m : Int) (mk pa) A2 n2 c2)] rfl (by (try simp only [List.map_toArray, List.map_cons, List.map_nil]); first | done | rfl) ?_; (with_reducible refine (fewBC (m : Int) (mk pa) A2 n2 c2 r _ HN2.out (Kd.C_below HC2.out HBw4.out) hnc2).mono ?_); rintro e w5 ⟨rfl, hb⟩; refine ⟨_, rfl, ?_⟩; rw [hfew]; have HB5 := Aside0.mk (below_step HBw4.out hb); have HG5 := Aside0.mk (blk_below HXgb.out hb); have z0 : w5.cell? ⟨gb, 0, none⟩ = some (.int .i64 (m : Int)) := (blk_cell HG5.out 0).trans rfl; have zz0 : w5.frozen? ⟨gb, 0, none⟩ = false := blk_frozen HG5.out 0; have z1 : w5.cell? ⟨gb, 1, none⟩ = some (.string (mk pa)) := (blk_cell HG5.out 1).trans rfl; have zz1 : w5.frozen? ⟨gb, 1, none⟩ = false := blk_frozen HG5.out 1; have z2 : w5.cell? ⟨gb, 2, none⟩ = some (.slice A2 n2 c2) := (blk_cell HG5.out 2).trans rfl; have zz2 : w5.frozen? ⟨gb, 2, none⟩ = false := blk_frozen HG5.out 2; clear hb) | ((with_reducible refine gate_callee (f := 10) rfl ?_); refine goesL_ (some 68) rfl rfl Tryd.func10 (by kernel_rfl) rfl #[.agg (cB (m : Int) (mk pa) A2 n2 c2)] rfl (by (try simp only [List.map_toArray, List.map_cons, List.map_nil]); first | done | rfl) ?_; (with_reducible refine (encode_walk (m : Int) (mk pa) A2 n2 c2 r _ HN2.out (Kd.C_below HC2.out HB5.out) hnc2 HZ5.out HSQ.out).mono ?_); rintro e w6 ⟨rfl, hb⟩; refine ⟨_, rfl, ?_⟩; rw [HEN.out]; have HB6 := Aside0.mk (below_step HB5.out hb); clear hb) | ((with_reducible refine gate_builtin (b := .append) (xs := #[.const (.slice none 0 0), .tmp 81]) rfl ?_); at_builtin; refine Kd.R_append_rows Kd.string (Rr := fun x cs => cs = [Value.string x]) (w0 := w) w.heap.size rfl (.const (.slice none 0 0)) (.tmp 81) 42 9 (.string ⟨#[]⟩) 16 rfl Tryd.underlying42 (by kernel_rfl) rfl (by decide) (by decide) (.slice none 0 0) [] ((l.take m).map mk) _ m _ (fun _ => True) (fun _ => False) rfl rfl (Kd.R_nil _ _ _ _ _) (C_takeS (Kd.C_below HC.out HB6.out) HN.out m HMN.out) (fun _ _ h => h) (fun _ hk => hk.elim) (fun _ _ => trivial) HB6.out HB6.out.size HZ1.out ?_; intro v7 w7 hr7 hb7 hg7 hat7; rw [List.nil_append] at hr7; have HR7 := Aside0.mk hr7; have HB7 := Aside0.mk hb7; clear hr7 hb7 hg7 hat7) | ((with_reducible refine gate_builtin (b := .append) (xs := #[.tmp 82, .tmp 84]) rfl ?_); at_builtin; refine Kd.R_append_rows Kd.string (Rr := fun x cs => cs = [Value.string x]) (w0 := w) w.heap.size rfl (.tmp 82) (.tmp 84) 42 9 (.string ⟨#[]⟩) 16 rfl Tryd.underlying42 (by kernel_rfl) rfl (by decide) (by decide) v7 ((l.take m).map mk) [mk s] (some ⟨w7.heap.size, 0, none⟩) 1 1 (fun _ => True) (fun _ => False) rfl rfl (Kd.R_below HR7.out (below_alloc (Below.refl _ _) _)) (strs1_C w7 (mk s)) (fun _ _ h => h) (fun _ hk => hk.elim) (fun _ _ => trivial) (below_alloc HB7.out _) (below_alloc HB7.out (.cells #[.string (mk s)] 9)).size HZ2.out ?_; intro v8 w8 hr8 hb8 hg8 hat8; have HB8 := Aside0.mk hb8; rw [← HTK.out] at hr8; obtain ⟨A8, c8, rfl, hc8, hC8⟩ := Kd.R_reads hr8; (rw [HLK.out] at hC8 ⊢); have HC8 := Aside0.mk hC8; clear hr8 hb8 hg8 hat8 hc8 hC8) | ((with_reducible refine gate_callee (f := 20) rfl ?_); refine goesL_ (some 86) rfl rfl Tryd.func20 (by kernel_rfl) rfl #[.slice A8 (m + 1) c8] rfl (by (try simp only [List.map_toArray, List.map_cons, List.map_nil]); first | done | rfl) ?_; (with_reducible refine (chain_walk (l.take m ++ [s]) A8 (m + 1) c8 _ (HT.out.below HB8.out) HLM.out HC8.out HZ3.out HSS.out).mono ?_); rintro e w10 ⟨rfl, hb⟩; refine ⟨_, rfl, ?_⟩; rw [HGR.out]; have HB10 := Aside0.mk (below_step HB8.out hb); clear hb) | ((refine (awake_walk _ (HT.out.below HB10.out)).mono ?_); rintro e w9 ⟨rfl, hb⟩; have HB9 := Aside0.mk (below_step HB10.out hb); clear hb))
            go_ret
            exact ⟨rfl, HB9.out⟩
          · have HEN := Aside0.mk (encF_err hx)
            have hne : ((encF (m : Int) (mk pa) r).2 != 0) = true := bne_iff_ne.2 hx
            have hem : ((mk []).toList == (ByteArray.mk #[]).toList) = true := mkA_eq []
            have hem2 : (mk []).toList = [] := mk_toList []
            generalize (encF (m : Int) (mk pa) r).2 = xe at *
            clear hx
            go_wp2_with (first | ((with_reducible refine gate_callee (f := 20) rfl ?_); refine goesL_ (some 38) rfl rfl Tryd.func20 (by kernel_rfl) rfl #[.slice A n c] rfl (by (try simp only [List.map_toArray, List.map_cons, List.map_nil]); first | done | rfl) ?_; (with_reducible refine (chain_walk l A n c _ (HT.out.below HBi.out) HN.out (Kd.C_below HC.out HBi.out) HZ4.out HS6.out).mono ?_); rintro e w1 ⟨rfl, hb⟩; refine ⟨_, rfl, ?_⟩; rw [HCH.out]; have HB1 := Aside0.mk (below_step HBi.out hb); clear hb) | ((with_reducible refine gate_callee (f := 22) rfl ?_); refine goesL_ (some 49) rfl rfl Tryd.func22 (by kernel_rfl) rfl #[] rfl (by (try simp only [List.map_toArray, List.map_cons, List.map_nil]); first | done | rfl) ?_; (with_reducible refine (firstC _).mono ?_); rintro e w2 ⟨rfl, hb⟩; refine ⟨_, rfl, ?_⟩; rw [← HPA.out]; have HB2 := Aside0.mk (below_step HB1.out hb); clear hb) | ((with_reducible refine gate_dst (N := 9) rfl ?_); refine box_event ?hg (N := 9) ?hd (cs := #[.int .i64 0, .string ⟨#[]⟩, .slice none 0 0]) (t := 24) ?hr ?_; (case hd => rfl); (case hg => rfl); (case hr => first | (go_simp; done) | (go_simp; rfl)); intro gb hggb wb hboxgb hbgb; have HGgb := Aside0.mk hboxgb; have HBgb := Aside0.mk hbgb; have HGEgb := Aside0.mk (show w2.heap.size ≤ gb by rw [hggb]; exact Nat.le_refl _); have gbb0 : wb.cell? ⟨gb, 0, none⟩ = some (.int .i64 0) := (blk_cell hboxgb 0).trans rfl; have gbbz0 : wb.frozen? ⟨gb, 0, none⟩ = false := blk_frozen hboxgb 0; have gbb1 : wb.cell? ⟨gb, 1, none⟩ = some (.string ⟨#[]⟩) := (blk_cell hboxgb 1).trans rfl; have gbbz1 : wb.frozen? ⟨gb, 1, none⟩ = false := blk_frozen hboxgb 1; have gbb2 : wb.cell? ⟨gb, 2, none⟩ = some (.slice none 0 0) := (blk_cell hboxgb 2).trans rfl; have gbbz2 : wb.frozen? ⟨gb, 2, none⟩ = false := blk_frozen hboxgb 2; clear hggb hboxgb hbgb) | ((with_reducible refine gate_store (t := 24) (p := 9) (v := .tmp 61) rfl ?_); refine store_event (w1 := (set3 wb gb (m : Int) (mk pa) (.slice A2 n2 c2))) ?hg rfl ?hN ?hr ?_; (case hg => rfl); (case hN => rfl); (case hr => first | (go_simp; done) | (go_simp; rfl)); intro w4 hww4; have hggb : w4.heap[gb]? = some (.cells #[.int .i64 (m : Int), .string (mk pa), .slice A2 n2 c2] 24 (0, 0)) := (by rw [hww4]; exact set3_blk HGgb.out _ _ _); have hbs : Below w2.heap.size w2 w4 := (by rw [hww4]; exact set3_below HBgb.out HGEgb.out _ _ _); have HXgb := Aside0.mk hggb; have HBw4 := Aside0.mk (below_step HB2.out hbs); have gbs0 : w4.cell? ⟨gb, 0, none⟩ = some (.int .i64 (m : Int)) := (blk_cell hggb 0).trans rfl; have gbsz0 : w4.frozen? ⟨gb, 0, none⟩ = false := blk_frozen hggb 0; have gbs1 : w4.cell? ⟨gb, 1, none⟩ = some (.string (mk pa)) := (blk_cell hggb 1).trans rfl; have gbsz1 : w4.frozen? ⟨gb, 1, none⟩ = false := blk_frozen hggb 1; have gbs2 : w4.cell? ⟨gb, 2, none⟩ = some (.slice A2 n2 c2) := (blk_cell hggb 2).trans rfl; have gbsz2 : w4.frozen? ⟨gb, 2, none⟩ = false := blk_frozen hggb 2; clear hww4 hggb hbs) | ((with_reducible refine gate_callee (f := 8) rfl ?_); refine goesL_ (some 63) rfl rfl Tryd.func8 (by kernel_rfl) rfl #[.agg (cB (m : Int) (mk pa) A2 n2 c2)] rfl (by (try simp only [List.map_toArray, List.map_cons, List.map_nil]); first | done | rfl) ?_; (with_reducible refine (fewBC (m : Int) (mk pa) A2 n2 c2 r _ HN2.out (Kd.C_below HC2.out HBw4.out) hnc2).mono ?_); rintro e w5 ⟨rfl, hb⟩; refine ⟨_, rfl, ?_⟩; rw [hfew]; have HB5 := Aside0.mk (below_step HBw4.out hb); have HG5 := Aside0.mk (blk_below HXgb.out hb); have z0 : w5.cell? ⟨gb, 0, none⟩ = some (.int .i64 (m : Int)) := (blk_cell HG5.out 0).trans rfl; have zz0 : w5.frozen? ⟨gb, 0, none⟩ = false := blk_frozen HG5.out 0; have z1 : w5.cell? ⟨gb, 1, none⟩ = some (.string (mk pa)) := (blk_cell HG5.out 1).trans rfl; have zz1 : w5.frozen? ⟨gb, 1, none⟩ = false := blk_frozen HG5.out 1; have z2 : w5.cell? ⟨gb, 2, none⟩ = some (.slice A2 n2 c2) := (blk_cell HG5.out 2).trans rfl; have zz2 : w5.frozen? ⟨gb, 2, none⟩ = false := blk_frozen HG5.out 2; clear hb) | ((with_reducible refine gate_callee (f := 10) rfl ?_); refine goesL_ (some 68) rfl rfl Tryd.func10 (by kernel_rfl) rfl #[.agg (cB (m : Int) (mk pa) A2 n2 c2)] rfl (by (try simp only [List.map_toArray, List.map_cons, List.map_nil]); first | done | rfl) ?_; (with_reducible refine (encode_walk (m : Int) (mk pa) A2 n2 c2 r _ HN2.out (Kd.C_below HC2.out HB5.out) hnc2 HZ5.out HSQ.out).mono ?_); rintro e w6 ⟨rfl, hb⟩; refine ⟨_, rfl, ?_⟩; rw [HEN.out]; have HB6 := Aside0.mk (below_step HB5.out hb); clear hb) | ((refine (awake_walk _ (HT.out.below HB6.out)).mono ?_); rintro e w9 ⟨rfl, hb⟩; have HB9 := Aside0.mk (below_step HB6.out hb); clear hb))
            go_ret
            exact ⟨rfl, HB9.out⟩
      · obtain ⟨k, hk⟩ : ∃ k, m = k + 1 := ⟨m - 1, by omega⟩
        have hkl : k < l.length := by omega
        have HPA : Aside0 (pa = shaF (l.getD k [])) := ⟨by rw [hpa, hk]; exact par_succ l first32 k hkl⟩
        have hz0 : decide (0 < (m : Int)) = true := decide_eq_true (by omega)
        have hz1 : 0 < m := by omega
        have hkn : k < n := by rw [HN.out]; exact hkl
        obtain ⟨ad, rfl, sof⟩ := strs_at HC.out (by omega)
        obtain ⟨t, ht⟩ : ∃ t, t = l.getD k [] := ⟨_, rfl⟩
        rw [← ht] at HPA
        have XS : Aside0 (∀ w', Below w.heap.size w w' → w'.cell? (ad.add (m - 1)) = some (.string (mk t))) := ⟨fun w' hb => by rw [show m - 1 = k by omega, sof _ hb k hkn, ht]; exact getD_mk l k⟩
        have HTL : Aside0 (t.length ≤ 1000000) := ⟨by rw [ht, List.getD_eq_getElem?_getD, List.getElem?_eq_getElem hkl]; exact HS6.out _ (List.getElem_mem hkl)⟩
        have hkm : m - 1 < n := by omega
        have hki : (k : Int) < (n : Int) := by omega
        clear hpa hml hm hk hkl sof ht
        cases hfew : fewB (m : Int) (mk pa) r with
        | false =>
          go_wp2_with (first | ((with_reducible refine gate_callee (f := 20) rfl ?_); refine goesL_ (some 38) rfl rfl Tryd.func20 (by kernel_rfl) rfl #[.slice (some ad) n c] rfl (by (try simp only [List.map_toArray, List.map_cons, List.map_nil]); first | done | rfl) ?_; (with_reducible refine (chain_walk l (some ad) n c _ (HT.out.below HBi.out) HN.out (Kd.C_below HC.out HBi.out) HZ4.out HS6.out).mono ?_); rintro e w1 ⟨rfl, hb⟩; refine ⟨_, rfl, ?_⟩; rw [HCH.out]; have HB1 := Aside0.mk (below_step HBi.out hb); clear hb) | ((with_reducible refine gate_callee (f := 22) rfl ?_); refine goesL_ (some 49) rfl rfl Tryd.func22 (by kernel_rfl) rfl #[] rfl (by (try simp only [List.map_toArray, List.map_cons, List.map_nil]); first | done | rfl) ?_; (with_reducible refine (firstC _).mono ?_); rintro e w2 ⟨rfl, hb⟩; refine ⟨_, rfl, ?_⟩; have HB2 := Aside0.mk (below_step HB1.out hb); have x2 := XS.out _ HB2.out; clear hb) | ((with_reducible refine gate_callee (f := 19) rfl ?_); refine goesL_ (some 57) rfl rfl Tryd.func19 (by kernel_rfl) rfl #[.string (mk t)] rfl (by (try simp only [List.map_toArray, List.map_cons, List.map_nil]); first | done | rfl) ?_; (with_reducible refine (rsum t HTL.out _).mono ?_); rintro e w3 ⟨rfl, hb⟩; refine ⟨_, rfl, ?_⟩; rw [← HPA.out]; have HB3 := Aside0.mk (below_step HB2.out hb); clear hb) | ((with_reducible refine gate_dst (N := 9) rfl ?_); refine box_event ?hg (N := 9) ?hd (cs := #[.int .i64 0, .string ⟨#[]⟩, .slice none 0 0]) (t := 24) ?hr ?_; (case hd => rfl); (case hg => rfl); (case hr => first | (go_simp; done) | (go_simp; rfl)); intro gb hggb wb hboxgb hbgb; have HGgb := Aside0.mk hboxgb; have HBgb := Aside0.mk hbgb; have HGEgb := Aside0.mk (show w3.heap.size ≤ gb by rw [hggb]; exact Nat.le_refl _); have gbb0 : wb.cell? ⟨gb, 0, none⟩ = some (.int .i64 0) := (blk_cell hboxgb 0).trans rfl; have gbbz0 : wb.frozen? ⟨gb, 0, none⟩ = false := blk_frozen hboxgb 0; have gbb1 : wb.cell? ⟨gb, 1, none⟩ = some (.string ⟨#[]⟩) := (blk_cell hboxgb 1).trans rfl; have gbbz1 : wb.frozen? ⟨gb, 1, none⟩ = false := blk_frozen hboxgb 1; have gbb2 : wb.cell? ⟨gb, 2, none⟩ = some (.slice none 0 0) := (blk_cell hboxgb 2).trans rfl; have gbbz2 : wb.frozen? ⟨gb, 2, none⟩ = false := blk_frozen hboxgb 2; clear hggb hboxgb hbgb) | ((with_reducible refine gate_store (t := 24) (p := 9) (v := .tmp 61) rfl ?_); refine store_event (w1 := (set3 wb gb (m : Int) (mk pa) (.slice A2 n2 c2))) ?hg rfl ?hN ?hr ?_; (case hg => rfl); (case hN => rfl); (case hr => first | (go_simp; done) | (go_simp; rfl)); intro w4 hww4; have hggb : w4.heap[gb]? = some (.cells #[.int .i64 (m : Int), .string (mk pa), .slice A2 n2 c2] 24 (0, 0)) := (by rw [hww4]; exact set3_blk HGgb.out _ _ _); have hbs : Below w3.heap.size w3 w4 := (by rw [hww4]; exact set3_below HBgb.out HGEgb.out _ _ _); have HXgb := Aside0.mk hggb; have HBw4 := Aside0.mk (below_step HB3.out hbs); have gbs0 : w4.cell? ⟨gb, 0, none⟩ = some (.int .i64 (m : Int)) := (blk_cell hggb 0).trans rfl; have gbsz0 : w4.frozen? ⟨gb, 0, none⟩ = false := blk_frozen hggb 0; have gbs1 : w4.cell? ⟨gb, 1, none⟩ = some (.string (mk pa)) := (blk_cell hggb 1).trans rfl; have gbsz1 : w4.frozen? ⟨gb, 1, none⟩ = false := blk_frozen hggb 1; have gbs2 : w4.cell? ⟨gb, 2, none⟩ = some (.slice A2 n2 c2) := (blk_cell hggb 2).trans rfl; have gbsz2 : w4.frozen? ⟨gb, 2, none⟩ = false := blk_frozen hggb 2; clear hww4 hggb hbs) | ((with_reducible refine gate_callee (f := 8) rfl ?_); refine goesL_ (some 63) rfl rfl Tryd.func8 (by kernel_rfl) rfl #[.agg (cB (m : Int) (mk pa) A2 n2 c2)] rfl (by (try simp only [List.map_toArray, List.map_cons, List.map_nil]); first | done | rfl) ?_; (with_reducible refine (fewBC (m : Int) (mk pa) A2 n2 c2 r _ HN2.out (Kd.C_below HC2.out HBw4.out) hnc2).mono ?_); rintro e w5 ⟨rfl, hb⟩; refine ⟨_, rfl, ?_⟩; rw [hfew]; have HB5 := Aside0.mk (below_step HBw4.out hb); have HG5 := Aside0.mk (blk_below HXgb.out hb); have z0 : w5.cell? ⟨gb, 0, none⟩ = some (.int .i64 (m : Int)) := (blk_cell HG5.out 0).trans rfl; have zz0 : w5.frozen? ⟨gb, 0, none⟩ = false := blk_frozen HG5.out 0; have z1 : w5.cell? ⟨gb, 1, none⟩ = some (.string (mk pa)) := (blk_cell HG5.out 1).trans rfl; have zz1 : w5.frozen? ⟨gb, 1, none⟩ = false := blk_frozen HG5.out 1; have z2 : w5.cell? ⟨gb, 2, none⟩ = some (.slice A2 n2 c2) := (blk_cell HG5.out 2).trans rfl; have zz2 : w5.frozen? ⟨gb, 2, none⟩ = false := blk_frozen HG5.out 2; clear hb) | ((with_reducible refine gate_callee (f := 9) rfl ?_); refine goesL_ (some 65) rfl rfl Tryd.func9 (by kernel_rfl) rfl #[] rfl (by (try simp only [List.map_toArray, List.map_cons, List.map_nil]); first | done | rfl) ?_; (with_reducible refine (awake_walk _ (HT.out.below HB5.out)).mono ?_); rintro e w9 ⟨rfl, hb⟩; refine ⟨_, rfl, ?_⟩; have HB9 := Aside0.mk (below_step HB5.out hb); clear hb))
          go_ret
          exact ⟨rfl, HB9.out⟩
        | true =>
          have HSQ : Aside0 (shortQ r) := ⟨fewP_short (fewB_P hfew)⟩
          by_cases hx : (encF (m : Int) (mk pa) r).2 = 0
          · obtain ⟨s, hs⟩ : ∃ s, s = (encF (m : Int) (mk pa) r).1 := ⟨_, rfl⟩
            have HEN : Aside0 (encF (m : Int) (mk pa) r = (s, 0)) := ⟨by rw [hs, ← hx]⟩
            have hd := decF_encF HEN.out
            have HGR : Aside0 (chainG 0 first32 (l.take m ++ [s]) = (((m + 1 : Nat) : Int), 0)) := ⟨HGROW.out s r hd.1⟩
            have HSS : Aside0 (∀ t ∈ l.take m ++ [s], t.length ≤ 1000000) := ⟨fun t ht => by
              rcases List.mem_append.1 ht with ht | ht
              · exact HS6.out t (List.mem_of_mem_take ht)
              · rw [List.mem_singleton] at ht
                subst ht
                exact Nat.le_trans hd.2 (by decide)⟩
            have HTK : Aside0 ((l.take m ++ [s]).map mk = (l.take m).map mk ++ [mk s]) := ⟨by rw [List.map_append]; rfl⟩
            have HLM : Aside0 (m + 1 = (l.take m ++ [s]).length) := ⟨take_len1 HZ8.out s⟩
            have HLK : Aside0 (((l.take m ++ [s]).map mk).length = m + 1) := ⟨by rw [List.length_map]; exact HLM.out.symm⟩
            have hm1 : wrap64 ((m : Int) + 1) = ((m + 1 : Nat) : Int) := w64_1 m HZ6.out
            have hmc := HZ7.out
            have hmc2 := HZ9.out
            have hq : ((((m + 1 : Nat) : Int)) == (((m + 1 : Nat) : Int))) = true := beq_self_eq_true _
            clear hx hs hd
            go_wp2_with (first | ((with_reducible refine gate_callee (f := 20) rfl ?_); refine goesL_ (some 38) rfl rfl Tryd.func20 (by kernel_rfl) rfl #[.slice (some ad) n c] rfl (by (try simp only [List.map_toArray, List.map_cons, List.map_nil]); first | done | rfl) ?_; (with_reducible refine (chain_walk l (some ad) n c _ (HT.out.below HBi.out) HN.out (Kd.C_below HC.out HBi.out) HZ4.out HS6.out).mono ?_); rintro e w1 ⟨rfl, hb⟩; refine ⟨_, rfl, ?_⟩; rw [HCH.out]; have HB1 := Aside0.mk (below_step HBi.out hb); clear hb) | ((with_reducible refine gate_callee (f := 22) rfl ?_); refine goesL_ (some 49) rfl rfl Tryd.func22 (by kernel_rfl) rfl #[] rfl (by (try simp only [List.map_toArray, List.map_cons, List.map_nil]); first | done | rfl) ?_; (with_reducible refine (firstC _).mono ?_); rintro e w2 ⟨rfl, hb⟩; refine ⟨_, rfl, ?_⟩; have HB2 := Aside0.mk (below_step HB1.out hb); have x2 := XS.out _ HB2.out; clear hb) | ((with_reducible refine gate_callee (f := 19) rfl ?_); refine goesL_ (some 57) rfl rfl Tryd.func19 (by kernel_rfl) rfl #[.string (mk t)] rfl (by (try simp only [List.map_toArray, List.map_cons, List.map_nil]); first | done | rfl) ?_; (with_reducible refine (rsum t HTL.out _).mono ?_); rintro e w3 ⟨rfl, hb⟩; refine ⟨_, rfl, ?_⟩; rw [← HPA.out]; have HB3 := Aside0.mk (below_step HB2.out hb); clear hb) | ((with_reducible refine gate_dst (N := 9) rfl ?_); refine box_event ?hg (N := 9) ?hd (cs := #[.int .i64 0, .string ⟨#[]⟩, .slice none 0 0]) (t := 24) ?hr ?_; (case hd => rfl); (case hg => rfl); (case hr => first | (go_simp; done) | (go_simp; rfl)); intro gb hggb wb hboxgb hbgb; have HGgb := Aside0.mk hboxgb; have HBgb := Aside0.mk hbgb; have HGEgb := Aside0.mk (show w3.heap.size ≤ gb by rw [hggb]; exact Nat.le_refl _); have gbb0 : wb.cell? ⟨gb, 0, none⟩ = some (.int .i64 0) := (blk_cell hboxgb 0).trans rfl; have gbbz0 : wb.frozen? ⟨gb, 0, none⟩ = false := blk_frozen hboxgb 0; have gbb1 : wb.cell? ⟨gb, 1, none⟩ = some (.string ⟨#[]⟩) := (blk_cell hboxgb 1).trans rfl; have gbbz1 : wb.frozen? ⟨gb, 1, none⟩ = false := blk_frozen hboxgb 1; have gbb2 : wb.cell? ⟨gb, 2, none⟩ = some (.slice none 0 0) := (blk_cell hboxgb 2).trans rfl; have gbbz2 : wb.frozen? ⟨gb, 2, none⟩ = false := blk_frozen hboxgb 2; clear hggb hboxgb hbgb) | ((with_reducible refine gate_store (t := 24) (p := 9) (v := .tmp 61) rfl ?_); refine store_event (w1 := (set3 wb gb (m : Int) (mk pa) (.slice A2 n2 c2))) ?hg rfl ?hN ?hr ?_; (case hg => rfl); (case hN => rfl); (case hr => first | (go_simp; done) | (go_simp; rfl)); intro w4 hww4; have hggb : w4.heap[gb]? = some (.cells #[.int .i64 (m : Int), .string (mk pa), .slice A2 n2 c2] 24 (0, 0)) := (by rw [hww4]; exact set3_blk HGgb.out _ _ _); have hbs : Below w3.heap.size w3 w4 := (by rw [hww4]; exact set3_below HBgb.out HGEgb.out _ _ _); have HXgb := Aside0.mk hggb; have HBw4 := Aside0.mk (below_step HB3.out hbs); have gbs0 : w4.cell? ⟨gb, 0, none⟩ = some (.int .i64 (m : Int)) := (blk_cell hggb 0).trans rfl; have gbsz0 : w4.frozen? ⟨gb, 0, none⟩ = false := blk_frozen hggb 0; have gbs1 : w4.cell? ⟨gb, 1, none⟩ = some (.string (mk pa)) := (blk_cell hggb 1).trans rfl; have gbsz1 : w4.frozen? ⟨gb, 1, none⟩ = false := blk_frozen hggb 1; have gbs2 : w4.cell? ⟨gb, 2, none⟩ = some (.slice A2 n2 c2) := (blk_cell hggb 2).trans rfl; have gbsz2 : w4.frozen? ⟨gb, 2, none⟩ = false := blk_frozen hggb 2; clear hww4 hggb hbs) | ((with_reducible refine gate_callee (f := 8) rfl ?_); refine goesL_ (some 63) rfl rfl Tryd.func8 (by kernel_rfl) rfl #[.agg (cB (m : Int) (mk pa) A2 n2 c2)] rfl (by (try simp only [List.map_toArray, List.map_cons, List.map_nil]); first | done | rfl) ?_; (with_reducible refine (fewBC (m : Int) (mk pa) A2 n2 c2 r _ HN2.out (Kd.C_below HC2.out HBw4.out) hnc2).mono ?_); rintro e w5 ⟨rfl, hb⟩; refine ⟨_, rfl, ?_⟩; rw [hfew]; have HB5 := Aside0.mk (below_step HBw4.out hb); have HG5 := Aside0.mk (blk_below HXgb.out hb); have z0 : w5.cell? ⟨gb, 0, none⟩ = some (.int .i64 (m : Int)) := (blk_cell HG5.out 0).trans rfl; have zz0 : w5.frozen? ⟨gb, 0, none⟩ = false := blk_frozen HG5.out 0; have z1 : w5.cell? ⟨gb, 1, none⟩ = some (.string (mk pa)) := (blk_cell HG5.out 1).trans rfl; have zz1 : w5.frozen? ⟨gb, 1, none⟩ = false := blk_frozen HG5.out 1; have z2 : w5.cell? ⟨gb, 2, none⟩ = some (.slice A2 n2 c2) := (blk_cell HG5.out 2).trans rfl; have zz2 : w5.frozen? ⟨gb, 2, none⟩ = false := blk_frozen HG5.out 2; clear hb) | ((with_reducible refine gate_callee (f := 10) rfl ?_); refine goesL_ (some 68) rfl rfl Tryd.func10 (by kernel_rfl) rfl #[.agg (cB (m : Int) (mk pa) A2 n2 c2)] rfl (by (try simp only [List.map_toArray, List.map_cons, List.map_nil]); first | done | rfl) ?_; (with_reducible refine (encode_walk (m : Int) (mk pa) A2 n2 c2 r _ HN2.out (Kd.C_below HC2.out HB5.out) hnc2 HZ5.out HSQ.out).mono ?_); rintro e w6 ⟨rfl, hb⟩; refine ⟨_, rfl, ?_⟩; rw [HEN.out]; have HB6 := Aside0.mk (below_step HB5.out hb); clear hb) | ((with_reducible refine gate_builtin (b := .append) (xs := #[.const (.slice none 0 0), .tmp 81]) rfl ?_); at_builtin; refine Kd.R_append_rows Kd.string (Rr := fun x cs => cs = [Value.string x]) (w0 := w) w.heap.size rfl (.const (.slice none 0 0)) (.tmp 81) 42 9 (.string ⟨#[]⟩) 16 rfl Tryd.underlying42 (by kernel_rfl) rfl (by decide) (by decide) (.slice none 0 0) [] ((l.take m).map mk) _ m _ (fun _ => True) (fun _ => False) rfl rfl (Kd.R_nil _ _ _ _ _) (C_takeS (Kd.C_below HC.out HB6.out) HN.out m HMN.out) (fun _ _ h => h) (fun _ hk => hk.elim) (fun _ _ => trivial) HB6.out HB6.out.size HZ1.out ?_; intro v7 w7 hr7 hb7 hg7 hat7; rw [List.nil_append] at hr7; have HR7 := Aside0.mk hr7; have HB7 := Aside0.mk hb7; clear hr7 hb7 hg7 hat7) | ((with_reducible refine gate_builtin (b := .append) (xs := #[.tmp 82, .tmp 84]) rfl ?_); at_builtin; refine Kd.R_append_rows Kd.string (Rr := fun x cs => cs = [Value.string x]) (w0 := w) w.heap.size rfl (.tmp 82) (.tmp 84) 42 9 (.string ⟨#[]⟩) 16 rfl Tryd.underlying42 (by kernel_rfl) rfl (by decide) (by decide) v7 ((l.take m).map mk) [mk s] (some ⟨w7.heap.size, 0, none⟩) 1 1 (fun _ => True) (fun _ => False) rfl rfl (Kd.R_below HR7.out (below_alloc (Below.refl _ _) _)) (strs1_C w7 (mk s)) (fun _ _ h => h) (fun _ hk => hk.elim) (fun _ _ => trivial) (below_alloc HB7.out _) (below_alloc HB7.out (.cells #[.string (mk s)] 9)).size HZ2.out ?_; intro v8 w8 hr8 hb8 hg8 hat8; have HB8 := Aside0.mk hb8; rw [← HTK.out] at hr8; obtain ⟨A8, c8, rfl, hc8, hC8⟩ := Kd.R_reads hr8; (rw [HLK.out] at hC8 ⊢); have HC8 := Aside0.mk hC8; clear hr8 hb8 hg8 hat8 hc8 hC8) | ((with_reducible refine gate_callee (f := 20) rfl ?_); refine goesL_ (some 86) rfl rfl Tryd.func20 (by kernel_rfl) rfl #[.slice A8 (m + 1) c8] rfl (by (try simp only [List.map_toArray, List.map_cons, List.map_nil]); first | done | rfl) ?_; (with_reducible refine (chain_walk (l.take m ++ [s]) A8 (m + 1) c8 _ (HT.out.below HB8.out) HLM.out HC8.out HZ3.out HSS.out).mono ?_); rintro e w10 ⟨rfl, hb⟩; refine ⟨_, rfl, ?_⟩; rw [HGR.out]; have HB10 := Aside0.mk (below_step HB8.out hb); clear hb) | ((refine (awake_walk _ (HT.out.below HB10.out)).mono ?_); rintro e w9 ⟨rfl, hb⟩; have HB9 := Aside0.mk (below_step HB10.out hb); clear hb))
            go_ret
            exact ⟨rfl, HB9.out⟩
          · have HEN := Aside0.mk (encF_err hx)
            have hne : ((encF (m : Int) (mk pa) r).2 != 0) = true := bne_iff_ne.2 hx
            have hem : ((mk []).toList == (ByteArray.mk #[]).toList) = true := mkA_eq []
            have hem2 : (mk []).toList = [] := mk_toList []
            generalize (encF (m : Int) (mk pa) r).2 = xe at *
            clear hx
            go_wp2_with (first | ((with_reducible refine gate_callee (f := 20) rfl ?_); refine goesL_ (some 38) rfl rfl Tryd.func20 (by kernel_rfl) rfl #[.slice (some ad) n c] rfl (by (try simp only [List.map_toArray, List.map_cons, List.map_nil]); first | done | rfl) ?_; (with_reducible refine (chain_walk l (some ad) n c _ (HT.out.below HBi.out) HN.out (Kd.C_below HC.out HBi.out) HZ4.out HS6.out).mono ?_); rintro e w1 ⟨rfl, hb⟩; refine ⟨_, rfl, ?_⟩; rw [HCH.out]; have HB1 := Aside0.mk (below_step HBi.out hb); clear hb) | ((with_reducible refine gate_callee (f := 22) rfl ?_); refine goesL_ (some 49) rfl rfl Tryd.func22 (by kernel_rfl) rfl #[] rfl (by (try simp only [List.map_toArray, List.map_cons, List.map_nil]); first | done | rfl) ?_; (with_reducible refine (firstC _).mono ?_); rintro e w2 ⟨rfl, hb⟩; refine ⟨_, rfl, ?_⟩; have HB2 := Aside0.mk (below_step HB1.out hb); have x2 := XS.out _ HB2.out; clear hb) | ((with_reducible refine gate_callee (f := 19) rfl ?_); refine goesL_ (some 57) rfl rfl Tryd.func19 (by kernel_rfl) rfl #[.string (mk t)] rfl (by (try simp only [List.map_toArray, List.map_cons, List.map_nil]); first | done | rfl) ?_; (with_reducible refine (rsum t HTL.out _).mono ?_); rintro e w3 ⟨rfl, hb⟩; refine ⟨_, rfl, ?_⟩; rw [← HPA.out]; have HB3 := Aside0.mk (below_step HB2.out hb); clear hb) | ((with_reducible refine gate_dst (N := 9) rfl ?_); refine box_event ?hg (N := 9) ?hd (cs := #[.int .i64 0, .string ⟨#[]⟩, .slice none 0 0]) (t := 24) ?hr ?_; (case hd => rfl); (case hg => rfl); (case hr => first | (go_simp; done) | (go_simp; rfl)); intro gb hggb wb hboxgb hbgb; have HGgb := Aside0.mk hboxgb; have HBgb := Aside0.mk hbgb; have HGEgb := Aside0.mk (show w3.heap.size ≤ gb by rw [hggb]; exact Nat.le_refl _); have gbb0 : wb.cell? ⟨gb, 0, none⟩ = some (.int .i64 0) := (blk_cell hboxgb 0).trans rfl; have gbbz0 : wb.frozen? ⟨gb, 0, none⟩ = false := blk_frozen hboxgb 0; have gbb1 : wb.cell? ⟨gb, 1, none⟩ = some (.string ⟨#[]⟩) := (blk_cell hboxgb 1).trans rfl; have gbbz1 : wb.frozen? ⟨gb, 1, none⟩ = false := blk_frozen hboxgb 1; have gbb2 : wb.cell? ⟨gb, 2, none⟩ = some (.slice none 0 0) := (blk_cell hboxgb 2).trans rfl; have gbbz2 : wb.frozen? ⟨gb, 2, none⟩ = false := blk_frozen hboxgb 2; clear hggb hboxgb hbgb) | ((with_reducible refine gate_store (t := 24) (p := 9) (v := .tmp 61) rfl ?_); refine store_event (w1 := (set3 wb gb (m : Int) (mk pa) (.slice A2 n2 c2))) ?hg rfl ?hN ?hr ?_; (case hg => rfl); (case hN => rfl); (case hr => first | (go_simp; done) | (go_simp; rfl)); intro w4 hww4; have hggb : w4.heap[gb]? = some (.cells #[.int .i64 (m : Int), .string (mk pa), .slice A2 n2 c2] 24 (0, 0)) := (by rw [hww4]; exact set3_blk HGgb.out _ _ _); have hbs : Below w3.heap.size w3 w4 := (by rw [hww4]; exact set3_below HBgb.out HGEgb.out _ _ _); have HXgb := Aside0.mk hggb; have HBw4 := Aside0.mk (below_step HB3.out hbs); have gbs0 : w4.cell? ⟨gb, 0, none⟩ = some (.int .i64 (m : Int)) := (blk_cell hggb 0).trans rfl; have gbsz0 : w4.frozen? ⟨gb, 0, none⟩ = false := blk_frozen hggb 0; have gbs1 : w4.cell? ⟨gb, 1, none⟩ = some (.string (mk pa)) := (blk_cell hggb 1).trans rfl; have gbsz1 : w4.frozen? ⟨gb, 1, none⟩ = false := blk_frozen hggb 1; have gbs2 : w4.cell? ⟨gb, 2, none⟩ = some (.slice A2 n2 c2) := (blk_cell hggb 2).trans rfl; have gbsz2 : w4.frozen? ⟨gb, 2, none⟩ = false := blk_frozen hggb 2; clear hww4 hggb hbs) | ((with_reducible refine gate_callee (f := 8) rfl ?_); refine goesL_ (some 63) rfl rfl Tryd.func8 (by kernel_rfl) rfl #[.agg (cB (m : Int) (mk pa) A2 n2 c2)] rfl (by (try simp only [List.map_toArray, List.map_cons, List.map_nil]); first | done | rfl) ?_; (with_reducible refine (fewBC (m : Int) (mk pa) A2 n2 c2 r _ HN2.out (Kd.C_below HC2.out HBw4.out) hnc2).mono ?_); rintro e w5 ⟨rfl, hb⟩; refine ⟨_, rfl, ?_⟩; rw [hfew]; have HB5 := Aside0.mk (below_step HBw4.out hb); have HG5 := Aside0.mk (blk_below HXgb.out hb); have z0 : w5.cell? ⟨gb, 0, none⟩ = some (.int .i64 (m : Int)) := (blk_cell HG5.out 0).trans rfl; have zz0 : w5.frozen? ⟨gb, 0, none⟩ = false := blk_frozen HG5.out 0; have z1 : w5.cell? ⟨gb, 1, none⟩ = some (.string (mk pa)) := (blk_cell HG5.out 1).trans rfl; have zz1 : w5.frozen? ⟨gb, 1, none⟩ = false := blk_frozen HG5.out 1; have z2 : w5.cell? ⟨gb, 2, none⟩ = some (.slice A2 n2 c2) := (blk_cell HG5.out 2).trans rfl; have zz2 : w5.frozen? ⟨gb, 2, none⟩ = false := blk_frozen HG5.out 2; clear hb) | ((with_reducible refine gate_callee (f := 10) rfl ?_); refine goesL_ (some 68) rfl rfl Tryd.func10 (by kernel_rfl) rfl #[.agg (cB (m : Int) (mk pa) A2 n2 c2)] rfl (by (try simp only [List.map_toArray, List.map_cons, List.map_nil]); first | done | rfl) ?_; (with_reducible refine (encode_walk (m : Int) (mk pa) A2 n2 c2 r _ HN2.out (Kd.C_below HC2.out HB5.out) hnc2 HZ5.out HSQ.out).mono ?_); rintro e w6 ⟨rfl, hb⟩; refine ⟨_, rfl, ?_⟩; rw [HEN.out]; have HB6 := Aside0.mk (below_step HB5.out hb); clear hb) | ((refine (awake_walk _ (HT.out.below HB6.out)).mono ?_); rintro e w9 ⟨rfl, hb⟩; have HB9 := Aside0.mk (below_step HB6.out hb); clear hb))
            go_ret
            exact ⟨rfl, HB9.out⟩
set_option maxHeartbeats 16000000 in
set_option maxRecDepth 100000 in
theorem BlockGrows_walk (A : Option Addr) (n c : Nat) (l : List (List UInt8)) (A2 : Option Addr) (n2 c2 : Nat) (r : List S53) (w : World) (hT : Tab w) (hn : n = l.length) (hC : Kd.C Kd.string w A n (l.map mk)) (hnc : n ≤ c) (hn2 : n2 = r.length) (hC2 : Kd.C k53 w A2 n2 r) (hnc2 : n2 ≤ c2) :
    Calls Tryd.prog 7 #[.slice A n c, .slice A2 n2 c2] w fun e w' => e = .returned (.bool true) ∧ Below w.heap.size w w' := by
  by_cases hl : 30 < n ∨ 8 < n2
  · exact grows_long A n c l A2 n2 c2 r w hT hn hC hnc hn2 hC2 hnc2 hl
  · exact grows_short A n c l A2 n2 c2 r w hT hn hC hnc hn2 hC2 hnc2 (by omega) (by omega)
end Go.Proofs.YtifpomknkjegeaaDoor.Bk
