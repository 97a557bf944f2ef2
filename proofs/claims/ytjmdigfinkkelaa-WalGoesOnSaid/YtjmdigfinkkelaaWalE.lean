import Derived.Test.YtjmdigfinkkelaaWalD
import Derived.Test.YtjmdigfinkkelaaTl
import Derived.Test.YtjmdigfinkkelaaRFun
namespace Go.Proofs.Ytjmdigfinkkelaa.Wal
open Go.RowKit Go.Proofs.Ytjmdigfinkkelaa.PAll Go.Proofs.YtjmdigfinkkelaaW.PrintWords Go.Proofs.YtjmdigfinkkelaaW.PrintLast Go.Proofs.YtjmdigfinkkelaaW.PrintMore SG Go.Proofs.Ytjmdigfinkkelaa.Fun

theorem bytesOf_app (a b : By) : bytesOf (mk a) ++ bytesOf (mk b) = bytesOf (mk (a ++ b)) := by simp [bytesOf, mk]
theorem bytesOf_len (a : By) : (bytesOf (mk a)).length = a.length := by simp [bytesOf, mk]
theorem str_bytesOf (a : By) : strOfNums (bytesOf (mk a)) = mk a := by
  rw [nums_mk]
  refine congrArg mk ?_
  simp only [bytesOf, mk_data, List.map_map]
  refine (List.map_congr_left (g := id) fun x _ => ?_).trans (List.map_id a)
  simp
theorem bytesOf_take (a : By) (n : Nat) : (bytesOf (mk a)).take n = bytesOf (mk (a.take n)) := by simp [bytesOf, mk, List.map_take]

theorem flat_count (ls : List By) : 8 * ls.length ≤ (flat ls).length := by
  induction ls with
  | nil => simp
  | cons x r ih => rw [flat_cons, List.length_append, frame_length, List.length_cons]; omega
theorem flat_take_le (ls : List By) (n : Nat) : (flat (ls.take n)).length ≤ (flat ls).length := by
  have h := congrArg List.length (flat_append (ls.take n) (ls.drop n))
  rw [List.take_append_drop, List.length_append] at h
  omega

/-- A log whose records are all, of which sure are. -/
def Wq (w : World) (B : Nat) (ok : Nat → Prop) (a : Nat) (all : List By) (sure : Nat) : Prop :=
  sure ≤ all.length ∧ (∀ x ∈ all, x.length ≤ 4096) ∧ (flat all).length ≤ 65536 ∧ Wl w B ok a (bytesOf (mk (flat all))) ((flat (all.take sure)).length : Int) (all.map mk) (sure : Int)

theorem Wq.below {w w' : World} {B : Nat} {ok : Nat → Prop} {a : Nat} {all : List By} {sure : Nat} (L : Wq w B ok a all sure) (hb : Below w.heap.size w w') : Wq w' B ok a all sure := ⟨L.1, L.2.1, L.2.2.1, L.2.2.2.below hb⟩
theorem Wq.count {w : World} {B : Nat} {ok : Nat → Prop} {a : Nat} {all : List By} {sure : Nat} (L : Wq w B ok a all sure) : (all.map mk).length ≤ 100000 := by
  have h1 := flat_count all
  have h2 := L.2.2.1
  rw [List.length_map]
  omega

theorem QNew (w : World) : Calls Try.prog 10 #[] w fun e w' => ∃ a : Nat, e = .returned (.pointer (some ⟨a, 0, none⟩)) ∧ Wq w' w.heap.size (fun k => w.heap.size ≤ k) a [] 0 ∧ Below w.heap.size w w' := by
  refine (WNew w).mono ?_
  rintro e w' ⟨a, rfl, h1, h2⟩
  exact ⟨a, rfl, ⟨Nat.le_refl _, by simp, by simp [flat_nil], h1⟩, h2⟩

theorem QSync {w : World} {B : Nat} {ok : Nat → Prop} {a : Nat} {all : List By} {sure : Nat} (L : Wq w B ok a all sure) (hBw : B ≤ w.heap.size) : Calls Try.prog 11 #[.pointer (some ⟨a, 0, none⟩)] w fun e w' => e = .returned (.tuple #[]) ∧ Wq w' B ok a all all.length ∧ Below B w w' ∧ Kept w w' (TW ok w) := by
  refine (WSync L.2.2.2 hBw).mono ?_
  rintro e w' ⟨rfl, h1, h2, h3⟩
  rw [bytesOf_len, List.length_map] at h1
  exact ⟨rfl, ⟨Nat.le_refl _, L.2.1, L.2.2.1, by rw [List.take_length]; exact h1⟩, h2, h3⟩

theorem QSure {w : World} {B : Nat} {ok : Nat → Prop} {a : Nat} {all : List By} {sure : Nat} (L : Wq w B ok a all sure) : Calls Try.prog 19 #[.pointer (some ⟨a, 0, none⟩)] w fun e w' => e = .returned (.int .i64 (sure : Int)) ∧ w' = w := WSure L.2.2.2
theorem QAll {w : World} {B : Nat} {ok : Nat → Prop} {a : Nat} {all : List By} {sure : Nat} (L : Wq w B ok a all sure) : Calls Try.prog 18 #[.pointer (some ⟨a, 0, none⟩)] w fun e w' => ∃ v', e = .returned v' ∧ Kd.string.R 9 w' w.heap.size (fun k => w.heap.size ≤ k) v' (all.map mk) ∧ Below w.heap.size w w' := WAll L.2.2.2 L.count

/-- What an append does: the answer, and the records then. -/
def appE (all : List By) (s : By) : Int := if 4096 < s.length then 2 else if (flat all).length + (8 + s.length) ≤ 65536 then 0 else 7
def appL (all : List By) (s : By) : List By := if appE all s = 0 then all ++ [s] else all

theorem QAppend {w : World} {B : Nat} {ok : Nat → Prop} {a : Nat} {all : List By} {sure : Nat} (L : Wq w B ok a all sure) (hBw : B ≤ w.heap.size) (hfr : ∀ k, w.heap.size ≤ k → ok k) (s : By) (hs : s.length ≤ 140737488351232) :
    Calls Try.prog 16 #[.pointer (some ⟨a, 0, none⟩), .string (mk s)] w fun e w' => e = .returned (.int .i64 (appE all s)) ∧ Wq w' B ok a (appL all s) sure ∧ Below B w w' ∧ Kept w w' (TW ok w) := by
  obtain ⟨K, hK⟩ := Ev.rounds (E_Frame s hs)
  unfold frameA at hK
  by_cases h1 : 4096 < s.length
  · rw [if_pos h1] at hK
    have e1 : appE all s = 2 := by unfold appE; rw [if_pos h1]
    have e2 : appL all s = all := by unfold appL; rw [e1, if_neg (by decide)]
    rw [e1, e2]
    refine (WAppendErr a K _ _ 2 hK (by decide)).mono ?_
    rintro e w' ⟨rfl, hb⟩
    exact ⟨rfl, L.below hb, hb.mono hBw, Kept.of_below hb _⟩
  rw [if_neg h1] at hK
  by_cases h2 : (flat all).length + (8 + s.length) ≤ 65536
  · have e1 : appE all s = 0 := by unfold appE; rw [if_neg h1, if_pos h2]
    have e2 : appL all s = all ++ [s] := by unfold appL; rw [e1, if_pos rfl]
    rw [e1, e2]
    refine (WAppend L.2.2.2 hBw hfr L.count K _ _ hK (by rw [bytesOf_len, mk_size, frame_length]; omega)).mono ?_
    rintro e w' ⟨rfl, h3, h4, h5⟩
    have hf : flat (all ++ [s]) = flat all ++ frame s := by rw [flat_append, flat_cons, flat_nil, List.append_nil]
    rw [bytesOf_app, ← hf] at h3
    refine ⟨rfl, ⟨by rw [List.length_append]; exact Nat.le_trans L.1 (Nat.le_add_right _ _), ?_, by rw [hf, List.length_append, frame_length]; exact h2, ?_⟩, h4, h5⟩
    · intro x hx
      rcases List.mem_append.1 hx with hx | hx
      · exact L.2.1 x hx
      · rw [List.mem_singleton.1 hx]; omega
    · rw [List.take_append_of_le_length L.1, List.map_append]
      exact h3
  · have e1 : appE all s = 7 := by unfold appE; rw [if_neg h1, if_neg h2]
    have e2 : appL all s = all := by unfold appL; rw [e1, if_neg (by decide)]
    rw [e1, e2]
    refine (WAppendFull L.2.2.2 K _ _ hK (by rw [bytesOf_len]; exact L.2.2.1) (by rw [bytesOf_len, mk_size, frame_length]; exact h2)).mono ?_
    rintro e w' ⟨rfl, hb⟩
    exact ⟨rfl, L.below hb, hb.mono hBw, Kept.of_below hb _⟩
end Go.Proofs.Ytjmdigfinkkelaa.Wal
