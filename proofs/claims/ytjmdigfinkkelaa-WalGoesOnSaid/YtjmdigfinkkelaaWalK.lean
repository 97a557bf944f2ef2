import Derived.Test.YtjmdigfinkkelaaWalI
import Derived.Test.YtjmdigfinkkelaaPAllx1
namespace Go.Proofs.Ytjmdigfinkkelaa.Wal
open Go.RowKit Go.Proofs.Ytjmdigfinkkelaa.PAll Go.Proofs.YtjmdigfinkkelaaW.PrintWords Go.Proofs.YtjmdigfinkkelaaW.PrintLast Go.Proofs.YtjmdigfinkkelaaW.PrintMore SG Go.Proofs.Ytjmdigfinkkelaa.Fun
set_option linter.unusedVariables false
set_option linter.unusedSimpArgs false

/-- One deed that is no crash. -/
def deed (x : S34) (s : List By × Nat) : List By × Nat := if x.f0 = 1 then (s.1, s.1.length) else (appL s.1 x.f1.data.toList, s.2)
def doneF : List S34 → List By × Nat → List By × Nat
  | [], s => s
  | x :: r, s => doneF r (deed x s)
/-- Deeds that are few. -/
def fewP (l : List S34) : Prop := l.length ≤ 40 ∧ ∀ x ∈ l, x.f1.size ≤ 5000

theorem rd34 {l : List S34} {i : Nat} (h : i < l.length) : rd_T34 l (i : Int) = l[i] := by
  unfold rd_T34
  rw [Int.toNat_natCast, List.getD_eq_getElem?_getD, List.getElem?_eq_getElem h, Option.getD_some]

theorem few_l0 (l : List S34) (hl : l.length ≤ 40) (d : Nat) : ∀ (i : Nat), l.length - i = d →
    (sandglasslaw19_few.l0 (d + 1) l (i : Int) = some true ∧ ∀ j, i ≤ j → (h : j < l.length) → l[j].f1.size ≤ 5000) ∨ sandglasslaw19_few.l0 (d + 1) l (i : Int) = some false := by
  induction d with
  | zero =>
    intro i h
    left
    refine ⟨?_, fun j h1 h2 => by omega⟩
    unfold sandglasslaw19_few.l0
    rw [if_neg (by omega)]
  | succ d ih =>
    intro i h
    unfold sandglasslaw19_few.l0
    rw [if_pos (by omega), if_pos (by omega), rd34 (by omega)]
    by_cases hs : ((l[i]'(by omega)).f1.size : Int) > 5000
    · right
      rw [if_pos hs]
    · rw [if_neg hs, w64n _ (by omega)]
      rcases ih (i + 1) (by omega) with ⟨h1, h2⟩ | h1
      · left
        refine ⟨h1, fun j h3 h4 => ?_⟩
        by_cases hj : i = j
        · subst hj; omega
        · exact h2 j (by omega) h4
      · right
        exact h1
theorem few_f (l : List S34) : (sandglasslaw19_few.f (l.length + 1) l = some true ∧ fewP l) ∨ sandglasslaw19_few.f (l.length + 1) l = some false := by
  unfold sandglasslaw19_few.f
  by_cases h : (l.length : Int) > 40
  · right
    rw [if_pos h]
  · rw [if_neg h]
    rcases few_l0 l (by omega) l.length 0 (by omega) with ⟨h1, h2⟩ | h1
    · left
      refine ⟨h1, by omega, fun x hx => ?_⟩
      obtain ⟨j, hj, rfl⟩ := List.getElem_of_mem hx
      exact h2 j (by omega) hj
    · right
      exact h1

set_option maxHeartbeats 8000000 in
set_option maxRecDepth 100000 in
theorem done (A0 : Option Addr) (c0 : Nat) (l : List S34) (w : World) (hr0 : Kd.C k34 w A0 l.length l) (hc0 : l.length ≤ c0) (hf : fewP l) (RA : List By) (RS : Nat) (hR : doneF l ([], 0) = (RA, RS)) :
    Calls Try.prog 20 #[.slice A0 l.length c0] w fun e w' => ∃ a : Nat, e = .returned (.pointer (some ⟨a, 0, none⟩)) ∧ Wq w' w.heap.size (fun k => w.heap.size ≤ k) a RA RS ∧ Below w.heap.size w w' := by
  have HR0 := Aside0.mk hr0
  have HF := Aside0.mk hf
  have H0 := Aside0.mk hR
  clear hr0 hf hR
  go_enter Try.func20, Try.ntmps20
  go_wp2_with (first | ((with_reducible refine gate_callee (f := 10) rfl ?_); refine goesL_ (some 5) rfl rfl Try.func10 (by kernel_rfl) rfl #[] rfl (by (try simp only [List.map_toArray, List.map_cons, List.map_nil]); first | done | rfl) ?_; (with_reducible refine (QNew _).mono ?_); rintro e w1 ⟨a, rfl, L, hb⟩; refine ⟨_, rfl, ?_⟩; have HL1 := Aside0.mk L; have HB1 := Aside0.mk hb; clear L hb))
  go_loopg [4] l.length (fun kq v4 w' => ∃ (i : Nat) (all : List By) (sure : Nat), v4 = .int .i64 (i : Int) ∧ Aside0 (doneF (l.drop i) (all, sure) = (RA, RS)) ∧ Aside0 (i + kq = l.length) ∧ Aside0 (Wq w' w.heap.size (fun k => w.heap.size ≤ k) a all sure) ∧ Aside0 (Below w.heap.size w w'))
  case atStart => exact ⟨0, [], 0, rfl, H0, ⟨by omega⟩, HL1, HB1⟩
  case round =>
    obtain ⟨i, all, sure, rfl, HA, HI, HL, HBw⟩ := hrel
    have hi := HI.out
    have hfl := HF.out.1
    by_cases hat : i < l.length
    · obtain ⟨k1, rfl⟩ : ∃ k1, gk = k1 + 1 := ⟨gk - 1, by omega⟩
      have hlt : decide ((i : Int) < (l.length : Int)) = true := decide_eq_true (by omega)
      obtain ⟨ad, e101, x0, x1, x2⟩ := at_T34 (Kd.C_below HR0.out HBw.out) (i : Int) (by omega) (by omega)
      cases e101
      rw [rd34 hat] at x0 x1 x2
      rw [Int.toNat_natCast] at x0 x1 x2
      have H := HA.out
      rw [List.drop_eq_getElem_cons hat, doneF] at H
      have hsz := HF.out.2 l[i] (List.getElem_mem _)
      have hbs := HBw.out.size
      have HSZ := Aside0.mk hsz
      have HBS := Aside0.mk hbs
      clear HA hsz hbs
      generalize l[i] = x at H x0 x1 x2 HSZ
      by_cases hk : x.f0 = 1
      · have e1 : (x.f0 == 1) = true := by simp [hk]
        unfold deed at H
        rw [if_pos hk] at H
        have HA := Aside0.mk H
        clear H hk HI
        go_wp2_with (first | ((with_reducible refine gate_callee (f := 11) rfl ?_); refine goesL_ (some 19) rfl rfl Try.func11 (by kernel_rfl) rfl #[.pointer (some ⟨a, 0, none⟩)] rfl (by (try simp only [List.map_toArray, List.map_cons, List.map_nil]); first | done | rfl) ?_; (with_reducible refine (QSync HL.out HBS.out).mono ?_); rintro e w2 ⟨rfl, L, hb, _⟩; refine ⟨_, rfl, ?_⟩; have HL2 := Aside0.mk L; have HB2 := Aside0.mk (HBw.out.trans hb); clear L hb))
        go_roundg k1
        case measure => omega
        case rel => exact ⟨i + 1, all, all.length, rfl, HA, ⟨by omega⟩, HL2, HB2⟩
      · have e1 : (x.f0 == 1) = false := by simpa using hk
        unfold deed at H
        rw [if_neg hk] at H
        have HA := Aside0.mk H
        clear H hk HI
        obtain ⟨y, hy⟩ := ex_mk x.f1
        have hyl : y.length ≤ 5000 := by rw [← mk_size, ← hy]; exact HSZ.out
        rw [hy] at x1
        have HY := Aside0.mk hy
        clear hy
        go_wp2_with (first | ((with_reducible refine gate_callee (f := 16) rfl ?_); refine goesL_ (some 26) rfl rfl Try.func16 (by kernel_rfl) rfl #[.pointer (some ⟨a, 0, none⟩), .string (mk y)] rfl (by (try simp only [List.map_toArray, List.map_cons, List.map_nil]); first | done | rfl) ?_; (with_reducible refine (QAppend HL.out HBS.out (fun k hk => Nat.le_trans HBS.out hk) y (by omega)).mono ?_); rintro e w2 ⟨rfl, L, hb, _⟩; refine ⟨_, rfl, ?_⟩; have HL2 := Aside0.mk L; have HB2 := Aside0.mk (HBw.out.trans hb); clear L hb))
        go_roundg k1
        case measure => omega
        case rel =>
          have h1 := HA.out
          rw [HY.out, mk_data] at h1
          exact ⟨i + 1, appL all y, sure, rfl, ⟨h1⟩, ⟨by omega⟩, HL2, HB2⟩
    · obtain rfl : gk = 0 := by omega
      have H := HA.out
      rw [List.drop_eq_nil_of_le (by omega), doneF] at H
      injection H with h1 h2
      subst h1 h2
      have hge : decide ((i : Int) < (l.length : Int)) = false := decide_eq_false (by omega)
      clear HA HI
      go_wp2
      go_ret
      exact ⟨a, rfl, HL.out, HBw.out⟩
end Go.Proofs.Ytjmdigfinkkelaa.Wal
