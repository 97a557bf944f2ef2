import Derived.Test.YtifpomknkjegeaaDoorByt
namespace SG
open Go
abbrev Bs := List UInt8
def text (l : Bs) : Bs := four l.length ++ l
def texts (ls : List Bs) : Bs := (ls.map text).flatten
theorem text_length (l : Bs) : (text l).length = 4 + l.length := by simp [text, four_length]
theorem texts_nil : texts [] = [] := rfl
theorem texts_cons (x : Bs) (r : List Bs) : texts (x :: r) = text x ++ texts r := rfl
theorem texts_append (a b : List Bs) : texts (a ++ b) = texts a ++ texts b := by simp [texts]
def readF : Nat → Bs → Option (List Bs)
 | 0, _ => none
 | f + 1, l => if l.length = 0 then some [] else if l.length < 4 then none else if l.length - 4 < num4 l then none else
   (readF f (l.drop (4 + num4 l))).map ((l.drop 4).take (num4 l) :: ·)
theorem readF_succ (f : Nat) (l : Bs) : readF (f + 1) l = if l.length = 0 then some [] else if l.length < 4 then none else if l.length - 4 < num4 l then none else
   (readF f (l.drop (4 + num4 l))).map ((l.drop 4).take (num4 l) :: ·) := by rw [readF]
theorem readF_more (f : Nat) : ∀ (l : Bs), l.length < f → ∀ g, l.length < g → readF f l = readF g l := by
 induction f with
 | zero => intro l h; omega
 | succ f ih =>
  intro l h g hg
  obtain ⟨g, rfl⟩ : ∃ m, g = m + 1 := ⟨g - 1, by omega⟩
  rw [readF_succ, readF_succ]
  by_cases h0 : l.length = 0
  ·
   rw [if_pos h0, if_pos h0]
  rw [if_neg h0, if_neg h0]
  by_cases h4 : l.length < 4
  ·
   rw [if_pos h4, if_pos h4]
  rw [if_neg h4, if_neg h4]
  by_cases hn : l.length - 4 < num4 l
  ·
   rw [if_pos hn, if_pos hn]
  rw [if_neg hn, if_neg hn, ih (l.drop (4 + num4 l)) (by rw [List.length_drop]; omega) g (by rw [List.length_drop]; omega)]
def readR (l : Bs) : Option (List Bs) := readF (l.length + 1) l
theorem readR_nil : readR [] = some [] := rfl
theorem readR_short {l : Bs} (h0 : l.length ≠ 0) (h4 : l.length < 4) : readR l = none := by
 unfold readR
 rw [readF_succ, if_neg h0, if_pos h4]
theorem readR_less {l : Bs} (h4 : ¬ l.length < 4) (hn : l.length - 4 < num4 l) : readR l = none := by
 unfold readR
 rw [readF_succ, if_neg (by omega), if_neg h4, if_pos hn]
theorem readR_more {l : Bs} (h4 : ¬ l.length < 4) (hn : ¬ l.length - 4 < num4 l) : readR l = (readR (l.drop (4 + num4 l))).map ((l.drop 4).take (num4 l) :: ·) := by
 have := readF_more l.length (l.drop (4 + num4 l)) (by rw [List.length_drop]; omega) ((l.drop (4 + num4 l)).length + 1) (by omega)
 unfold readR
 rw [readF_succ l.length l, if_neg (by omega), if_neg h4, if_neg hn, this]
theorem readR_back (d : Nat) : ∀ (l : Bs) (ls : List Bs), l.length = d → readR l = some ls → texts ls = l := by
 induction d using Nat.strongRecOn with
 | _ d ih =>
  intro l ls hd h
  by_cases h0 : l.length = 0
  ·
   have : l = [] := List.eq_nil_of_length_eq_zero h0
   subst this
   rw [readR_nil] at h
   injection h with h
   subst h
   rfl
  by_cases h4 : l.length < 4
  ·
   rw [readR_short h0 h4] at h
   cases h
  by_cases hn : l.length - 4 < num4 l
  ·
   rw [readR_less h4 hn] at h
   cases h
  rw [readR_more h4 hn] at h
  cases hr : readR (l.drop (4 + num4 l)) with
  | none => rw [hr, Option.map_none] at h; cases h
  | some r =>
   rw [hr, Option.map_some] at h
   injection h with h
   subst h
   have := ih (l.drop (4 + num4 l)).length (by rw [List.length_drop]; omega) _ r rfl hr
   have hl : ((l.drop 4).take (num4 l)).length = num4 l := by rw [List.length_take, List.length_drop]; omega
   have e4 : four (num4 l) = l.take 4 := by rw [← num4_take l 4 (Nat.le_refl _)]; exact four_num4 _ (by rw [List.length_take]; omega)
   rw [texts_cons, this, text, hl, e4, List.append_assoc, ← List.drop_drop, List.take_append_drop, List.take_append_drop]
theorem readR_texts (ls : List Bs) (h : ∀ x ∈ ls, x.length < 4294967296) : readR (texts ls) = some ls := by
 induction ls with
 | nil => rfl
 | cons x r ih =>
  have hx := h x (by simp)
  have hn : num4 (texts (x :: r)) = x.length := by
   rw [texts_cons, text, List.append_assoc]
   exact num4_four _ hx _
  have hl : (texts (x :: r)).length = 4 + x.length + (texts r).length := by rw [texts_cons, List.length_append, text_length]
  have e1 : (texts (x :: r)).drop (4 + x.length) = texts r := by rw [texts_cons]; exact List.drop_left' (text_length x)
  have e2 : ((texts (x :: r)).drop 4).take x.length = x := by
   rw [texts_cons, text, List.append_assoc, List.drop_left' (four_length _)]
   exact List.take_left' rfl
  rw [readR_more (by omega) (by omega), hn, e1, ih (fun y hy => h y (by simp [hy])), e2, Option.map_some]
theorem texts_small (ls : List Bs) : ls.length ≤ (texts ls).length ∧ ∀ x ∈ ls, x.length ≤ (texts ls).length := by
 induction ls with
 | nil => exact ⟨Nat.le_refl _, by simp⟩
 | cons x r ih =>
  rw [texts_cons, List.length_append, text_length]
  refine ⟨by have := ih.1; simp only [List.length_cons]; omega, fun y hy => ?_⟩
  rcases List.mem_cons.1 hy with rfl | hy
  ·
   omega
  ·
   have := ih.2 y hy; omega
theorem readR_small {l : Bs} {ls : List Bs} (h : readR l = some ls) : ls.length ≤ l.length ∧ ∀ x ∈ ls, x.length ≤ l.length := by
 have e := readR_back l.length l ls rfl h
 have := texts_small ls
 rw [e] at this
 exact this
def okC (k e : Int) (n b : Nat) : Prop := ((k = 1 ∧ n = 0 ∧ b = 33) ∨ (k = 2 ∧ 1 ≤ n ∧ n ≤ 16 ∧ b ≤ 4096) ∨ (k = 3 ∧ n = 0 ∧ b = 0)) ∧ 0 ≤ e ∧ e ≤ 63
instance (k e : Int) (n b : Nat) : Decidable (okC k e n b) := by unfold okC; infer_instance
def okW (k f r v : Int) (n : Nat) : Prop := ((k = 1 ∧ -1 ≤ v ∧ v < r ∧ 1 ≤ n) ∨ ((k = 2 ∨ k = 3) ∧ v = 0)) ∧ 1 ≤ f ∧ f ≤ 7 ∧ 0 ≤ r ∧ r < 64 ∧ n ≤ 4096
instance (k f r v : Int) (n : Nat) : Decidable (okW k f r v n) := by unfold okW; infer_instance
def u8 (n : Int) : UInt8 := UInt8.ofNat (n % 256).toNat
theorem u8_toNat {n : Int} (h0 : 0 ≤ n) (h1 : n ≤ 255) : ((u8 n).toNat : Int) = n := by
 unfold u8
 rw [UInt8.toNat_ofNat']
 omega
theorem u8_of (x : UInt8) : u8 (x.toNat : Int) = x := by
 apply UInt8.toNat.inj
 have := x.toNat_lt
 unfold u8
 rw [UInt8.toNat_ofNat']
 omega
theorem byte_nums (n : Int) : strOfNums [n % 256] = mk [u8 n] := rfl
def cmdA (k e : Int) (n b : Bs) : ByteArray × Int := if okC k e n.length b.length then (mk (texts [[u8 k], [u8 e], n, b]), 0) else (mk [], 1)
def wordA (k f r v : Int) (x : Bs) : ByteArray × Int := if okW k f r v x.length then (mk (texts [[u8 k], [u8 f], [u8 r], [u8 (v + 1)], x]), 0) else (mk [], 1)
def b0 (l : Bs) : Int := ((l.getD 0 0).toNat : Int)
def noC : Int × Int × ByteArray × ByteArray × Int := (0, 0, mk [], mk [], 3)
def noW : Int × Int × Int × Int × ByteArray × Int := (0, 0, 0, 0, mk [], 3)
def rcL : List Bs → Int × Int × ByteArray × ByteArray × Int
 | [a, b, n, d] => if a.length = 1 ∧ b.length = 1 ∧ okC (b0 a) (b0 b) n.length d.length then (b0 a, b0 b, mk n, mk d, 0) else noC
 | _ => noC
def rcA (l : Bs) : Int × Int × ByteArray × ByteArray × Int := match readR l with
 | some ls => rcL ls
 | none => noC
def rwL : List Bs → Int × Int × Int × Int × ByteArray × Int
 | [a, b, c, d, x] => if a.length = 1 ∧ b.length = 1 ∧ c.length = 1 ∧ d.length = 1 ∧ okW (b0 a) (b0 b) (b0 c) (b0 d - 1) x.length then (b0 a, b0 b, b0 c, b0 d - 1, mk x, 0) else noW
 | _ => noW
def rwA (l : Bs) : Int × Int × Int × Int × ByteArray × Int := match readR l with
 | some ls => rwL ls
 | none => noW
theorem rcA_some {l : Bs} {ls : List Bs} (h : readR l = some ls) : rcA l = rcL ls := by unfold rcA; rw [h]
theorem rcA_none {l : Bs} (h : readR l = none) : rcA l = noC := by unfold rcA; rw [h]
theorem rwA_some {l : Bs} {ls : List Bs} (h : readR l = some ls) : rwA l = rwL ls := by unfold rwA; rw [h]
theorem rwA_none {l : Bs} (h : readR l = none) : rwA l = noW := by unfold rwA; rw [h]
theorem rcL_4 (a b n d : Bs) : rcL [a, b, n, d] = if a.length = 1 ∧ b.length = 1 ∧ okC (b0 a) (b0 b) n.length d.length then (b0 a, b0 b, mk n, mk d, 0) else noC := by rw [rcL]
theorem rwL_5 (a b c d x : Bs) : rwL [a, b, c, d, x] = if a.length = 1 ∧ b.length = 1 ∧ c.length = 1 ∧ d.length = 1 ∧ okW (b0 a) (b0 b) (b0 c) (b0 d - 1) x.length then (b0 a, b0 b, b0 c, b0 d - 1, mk x, 0) else noW := by rw [rwL]
theorem rcL_no {ls : List Bs} (h : ls.length ≠ 4) : rcL ls = noC := by
 unfold rcL
 split
 ·
  exact absurd rfl h
 ·
  rfl
theorem rwL_no {ls : List Bs} (h : ls.length ≠ 5) : rwL ls = noW := by
 unfold rwL
 split
 ·
  exact absurd rfl h
 ·
  rfl
theorem of_4 {α : Type} {ls : List α} (h : ls.length = 4) : ∃ a b c d, ls = [a, b, c, d] := by
 match ls, h with
 | [a, b, c, d], _ => exact ⟨a, b, c, d, rfl⟩
theorem of_5 {α : Type} {ls : List α} (h : ls.length = 5) : ∃ a b c d e, ls = [a, b, c, d, e] := by
 match ls, h with
 | [a, b, c, d, e], _ => exact ⟨a, b, c, d, e, rfl⟩
theorem b0_u8 {n : Int} (h0 : 0 ≤ n) (h1 : n ≤ 255) : b0 [u8 n] = n := u8_toNat h0 h1
theorem one_of {l : Bs} (h : l.length = 1) : l = [u8 (b0 l)] := by
 match l, h with
 | [x], _ => exact congrArg (· :: []) (u8_of x).symm
theorem one_len (x : UInt8) : [x].length = 1 := rfl
theorem small4 {a b c d : Bs} (ha : a.length < 4294967296) (hb : b.length < 4294967296) (hc : c.length < 4294967296) (hd : d.length < 4294967296) : ∀ x ∈ [a, b, c, d], x.length < 4294967296 := by
 intro x hx
 simp only [List.mem_cons, List.not_mem_nil, or_false] at hx
 rcases hx with rfl | rfl | rfl | rfl <;> assumption
theorem small5 {a b c d e : Bs} (ha : a.length < 4294967296) (hb : b.length < 4294967296) (hc : c.length < 4294967296) (hd : d.length < 4294967296) (he : e.length < 4294967296) : ∀ x ∈ [a, b, c, d, e], x.length < 4294967296 := by
 intro x hx
 simp only [List.mem_cons, List.not_mem_nil, or_false] at hx
 rcases hx with rfl | rfl | rfl | rfl | rfl <;> assumption
theorem one_small (x : UInt8) : [x].length < 4294967296 := by rw [one_len]; decide
theorem okC_bounds {k e : Int} {n b : Nat} (h : okC k e n b) : 0 ≤ k ∧ k ≤ 255 ∧ 0 ≤ e ∧ e ≤ 255 ∧ n < 4294967296 ∧ b < 4294967296 := by
 unfold okC at h
 omega
theorem okW_bounds {k f r v : Int} {n : Nat} (h : okW k f r v n) : (0 ≤ k ∧ k ≤ 255) ∧ (0 ≤ f ∧ f ≤ 255) ∧ (0 ≤ r ∧ r ≤ 255) ∧ (0 ≤ v + 1 ∧ v + 1 ≤ 255) ∧ n < 4294967296 := by
 unfold okW at h
 omega
theorem rcA_cmd (k e : Int) (n b : Bs) (h : okC k e n.length b.length) : rcA (texts [[u8 k], [u8 e], n, b]) = (k, e, mk n, mk b, 0) := by
 obtain ⟨h1, h2, h3, h4, h5, h6⟩ := okC_bounds h
 rw [rcA_some (readR_texts _ (small4 (one_small _) (one_small _) h5 h6)), rcL_4, b0_u8 h1 h2, b0_u8 h3 h4, if_pos ⟨one_len _, one_len _, h⟩]
theorem rcA_back {l : Bs} (h : (rcA l).2.2.2.2 = 0) : ∃ k e n b, rcA l = (k, e, mk n, mk b, 0) ∧ okC k e n.length b.length ∧ texts [[u8 k], [u8 e], n, b] = l := by
 cases hr : readR l with
 | none => rw [rcA_none hr] at h; exact absurd h (by decide)
 | some ls =>
  rw [rcA_some hr] at h ⊢
  by_cases hl : ls.length = 4
  ·
   obtain ⟨a, b, n, d, rfl⟩ := of_4 hl
   rw [rcL_4] at h ⊢
   by_cases hc : a.length = 1 ∧ b.length = 1 ∧ okC (b0 a) (b0 b) n.length d.length
   ·
    refine ⟨b0 a, b0 b, n, d, by rw [if_pos hc], hc.2.2, ?_⟩
    rw [← one_of hc.1, ← one_of hc.2.1]
    exact readR_back _ _ _ rfl hr
   ·
    rw [if_neg hc] at h
    exact absurd h (by decide)
  ·
   rw [rcL_no hl] at h
   exact absurd h (by decide)
theorem rwA_word (k f r v : Int) (x : Bs) (h : okW k f r v x.length) : rwA (texts [[u8 k], [u8 f], [u8 r], [u8 (v + 1)], x]) = (k, f, r, v, mk x, 0) := by
 obtain ⟨h1, h2, h3, h4, h5⟩ := okW_bounds h
 rw [rwA_some (readR_texts _ (small5 (one_small _) (one_small _) (one_small _) (one_small _) h5)), rwL_5, b0_u8 h1.1 h1.2, b0_u8 h2.1 h2.2, b0_u8 h3.1 h3.2, b0_u8 h4.1 h4.2, show v + 1 - 1 = v by omega, if_pos ⟨one_len _, one_len _, one_len _, one_len _, h⟩]
theorem rwA_back {l : Bs} (h : (rwA l).2.2.2.2.2 = 0) : ∃ k f r v x, rwA l = (k, f, r, v, mk x, 0) ∧ okW k f r v x.length ∧ texts [[u8 k], [u8 f], [u8 r], [u8 (v + 1)], x] = l := by
 cases hr : readR l with
 | none => rw [rwA_none hr] at h; exact absurd h (by decide)
 | some ls =>
  rw [rwA_some hr] at h ⊢
  by_cases hl : ls.length = 5
  ·
   obtain ⟨a, b, c, d, x, rfl⟩ := of_5 hl
   rw [rwL_5] at h ⊢
   by_cases hc : a.length = 1 ∧ b.length = 1 ∧ c.length = 1 ∧ d.length = 1 ∧ okW (b0 a) (b0 b) (b0 c) (b0 d - 1) x.length
   ·
    refine ⟨b0 a, b0 b, b0 c, b0 d - 1, x, by rw [if_pos hc], hc.2.2.2.2, ?_⟩
    rw [show b0 d - 1 + 1 = b0 d by omega, ← one_of hc.1, ← one_of hc.2.1, ← one_of hc.2.2.1, ← one_of hc.2.2.2.1]
    exact readR_back _ _ _ rfl hr
   ·
    rw [if_neg hc] at h
    exact absurd h (by decide)
  ·
   rw [rwL_no hl] at h
   exact absurd h (by decide)
end SG
