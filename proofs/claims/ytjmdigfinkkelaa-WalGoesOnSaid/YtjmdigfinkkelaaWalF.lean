import Derived.Test.YtjmdigfinkkelaaWalE
namespace Go.Proofs.Ytjmdigfinkkelaa.Wal
open Go.RowKit Go.Proofs.Ytjmdigfinkkelaa.PAll Go.Proofs.YtjmdigfinkkelaaW.PrintWords Go.Proofs.YtjmdigfinkkelaaW.PrintLast Go.Proofs.YtjmdigfinkkelaaW.PrintMore SG Go.Proofs.Ytjmdigfinkkelaa.Fun

theorem bytesOf_set (l : By) (i : Nat) : (bytesOf (mk l)).set i 0 = bytesOf (mk (l.set i 0)) := by
  simp [bytesOf, mk, List.map_set]
theorem tl_bytes (keep first : Int) (m : Nat) : ∀ (at_ : Nat) (l : By) (e : Nat), ∃ l' : By, (tl keep first m at_ (bytesOf (mk l)) e).1 = bytesOf (mk l') := by
  induction m with
  | zero => intro at_ l e; exact ⟨l, by rw [tl]⟩
  | succ m ih =>
    intro at_ l e
    rw [tl]
    by_cases hk : kp keep ((at_ : Int) / 64 - first) = true
    · rw [if_pos hk]; exact ih _ _ _
    · rw [if_neg hk, bytesOf_set]; exact ih _ _ _
/-- A crash, on bytes. -/
def crB (keep : Int) (l : By) (sy : Nat) : By := (crashL keep (bytesOf (mk l)) sy).map fun i => UInt8.ofNat i.toNat
theorem back_bytes (l : By) : (bytesOf (mk l)).map (fun i => UInt8.ofNat i.toNat) = l := by
  simp [bytesOf, mk, List.map_map, Function.comp_def]
theorem crB_eq (keep : Int) (l : By) (sy : Nat) : crashL keep (bytesOf (mk l)) sy = bytesOf (mk (crB keep l sy)) := by
  obtain ⟨l', h⟩ := tl_bytes keep ((sy : Int) / 64) ((bytesOf (mk l)).length - sy) sy l sy
  unfold crB crashL
  rw [h, bytesOf_take, back_bytes]
theorem crB_spec (keep : Int) (l : By) (sy : Nat) (h : sy ≤ l.length) : sy ≤ (crB keep l sy).length ∧ (crB keep l sy).length ≤ l.length ∧ (crB keep l sy).take sy = l.take sy := by
  have e := crB_eq keep l sy
  obtain ⟨h1, h2, h3, h4⟩ := tl_spec keep ((sy : Int) / 64) ((bytesOf (mk l)).length - sy) sy (bytesOf (mk l)) sy (Nat.le_refl _) (by rw [bytesOf_len]; omega)
  have hl : (crB keep l sy).length = (tl keep ((sy : Int) / 64) ((bytesOf (mk l)).length - sy) sy (bytesOf (mk l)) sy).2 := by
    have := congrArg List.length e
    rw [bytesOf_len] at this
    rw [← this]
    unfold crashL
    rw [List.length_take, h1]
    exact Nat.min_eq_left h3
  have hbl := bytesOf_len l
  refine ⟨by omega, by omega, ?_⟩
  have ht := congrArg (List.take sy) e
  rw [bytesOf_take] at ht
  unfold crashL at ht
  rw [List.take_take, Nat.min_eq_left h2, h4, bytesOf_take] at ht
  rw [← back_bytes ((crB keep l sy).take sy), ← ht, back_bytes]

/-- The records behind a crash. -/
def crL (keep : Int) (all : List By) (sure : Nat) : List By := (pre (crB keep (flat all) (flat (all.take sure)).length)).1

set_option maxRecDepth 100000 in
theorem QCrash {w : World} {B : Nat} {ok : Nat → Prop} {a : Nat} {all : List By} {sure : Nat} (L : Wq w B ok a all sure) (hBw : B ≤ w.heap.size) (hfr : ∀ k, w.heap.size ≤ k → ok k) (keep : Int) :
    Calls Try.prog 13 #[.pointer (some ⟨a, 0, none⟩), .int .u64 keep] w fun e w' => e = .returned (.tuple #[]) ∧ Wq w' B ok a (crL keep all sure) (crL keep all sure).length ∧ Below B w w' ∧ Kept w w' (TW ok w) := by
  have hsy := flat_take_le all sure
  obtain ⟨s1, s2, s3⟩ := crB_spec keep (flat all) (flat (all.take sure)).length hsy
  have hL := L.2.2.1
  have hc := crB_eq keep (flat all) (flat (all.take sure)).length
  obtain ⟨p1, p2, p3⟩ := pre_flat _ (crB keep (flat all) (flat (all.take sure)).length) rfl
  obtain ⟨K, hK⟩ := Ev.rounds (E_Prefix (crB keep (flat all) (flat (all.take sure)).length) (by omega))
  unfold preA at hK
  refine (WCrash L.2.2.2 hBw hfr keep (by rw [bytesOf_len]; exact hsy) (by rw [bytesOf_len]; exact hL) (by rw [hc, bytesOf_len]; omega) K _ _ (by rw [hc, bytesOf_len]; exact p2) (by rw [hc, str_bytesOf]; exact hK)).mono ?_
  rintro e w' ⟨rfl, h1, h2, h3⟩
  rw [hc, bytesOf_take, ← p1, List.length_map] at h1
  have hn : (pre (crB keep (flat all) (flat (all.take sure)).length)).2 = (flat (crL keep all sure)).length := by
    unfold crL
    rw [p1, List.length_take]
    exact (Nat.min_eq_left p2).symm
  rw [hn] at h1
  exact ⟨rfl, ⟨Nat.le_refl _, p3, by rw [← hn]; omega, by rw [List.take_length]; exact h1⟩, h2, h3⟩

/-- What was sure is there, at the front. -/
theorem crL_sure (keep : Int) (all : List By) (sure : Nat) (h : ∀ x ∈ all, x.length ≤ 4096) : ∃ r, crL keep all sure = all.take sure ++ r := by
  obtain ⟨s1, s2, s3⟩ := crB_spec keep (flat all) (flat (all.take sure)).length (flat_take_le all sure)
  have hf : (flat all).take (flat (all.take sure)).length = flat (all.take sure) := by
    have := flat_append (all.take sure) (all.drop sure)
    rw [List.take_append_drop] at this
    rw [this, List.take_left]
  rw [hf] at s3
  have e : crB keep (flat all) (flat (all.take sure)).length = flat (all.take sure) ++ (crB keep (flat all) (flat (all.take sure)).length).drop (flat (all.take sure)).length := by
    conv => lhs; rw [← List.take_append_drop (flat (all.take sure)).length (crB keep (flat all) (flat (all.take sure)).length), s3]
  unfold crL
  rw [e, pre_append _ (fun x hx => h x (List.mem_of_mem_take hx))]
  exact ⟨_, rfl⟩
end Go.Proofs.Ytjmdigfinkkelaa.Wal
