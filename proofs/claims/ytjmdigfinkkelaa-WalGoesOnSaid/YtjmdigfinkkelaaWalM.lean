import Derived.Test.YtjmdigfinkkelaaWalL
import Derived.Test.YtjmdigfinkkelaaPlain
namespace Go.Proofs.Ytjmdigfinkkelaa.Wal
open Go.RowKit Go.ChangeShapes Go.WideShapes Go.Proofs.Ytjmdigfinkkelaa.PAll Go.Proofs.YtjmdigfinkkelaaW.PrintWords Go.Proofs.YtjmdigfinkkelaaW.PrintLast Go.Proofs.YtjmdigfinkkelaaW.PrintMore SG Go.Proofs.Ytjmdigfinkkelaa.Fun
set_option linter.unusedVariables false

/-- A deed from its cells. -/
def toS : List Value → S34
  | [.int _ a, .string b, .int _ c] => ⟨a, b, c⟩
  | _ => z34
/-- Deeds that come in. -/
theorem deeds_arg {H : Type} {enc : TypeId × Value → H} {W : World} {base : Nat} {spare : Nat → Bool} {held : Bool} {a : Option Addr} {len cap : Nat} {d : DataW H} {ps : List MemPlace}
    (h : DataW.Trod enc Try.prog W base spare held 22 (.slice a len cap) d ps) : ∃ l : List S34, len = l.length ∧ Kd.C k34 W a l.length l ∧ l.length ≤ cap := by
  obtain ⟨L, rfl, hf, hc, hm, hr⟩ := plain_slice (.agg [.int .i64, .str, .int .u64]) Try.underlying22 (e := 34) (by kernel_rfl) (by kernel_rfl) h
  refine ⟨L.map toS, (List.length_map _).symm, ⟨rfl, ?_, fun hn => ?_⟩, by rw [List.length_map]; exact hc⟩
  · rw [List.length_map]
    unfold maxLen at hm
    omega
  · rw [List.length_map] at hn
    obtain ⟨ad, e, hcell⟩ := hr hn
    refine ⟨ad, e, fun j p hj => ?_⟩
    rw [List.getElem?_map, Option.map_eq_some_iff] at hj
    obtain ⟨c, hc, rfl⟩ := hj
    obtain ⟨x1, y1, rfl, ⟨n1, rfl, _⟩, x2, y2, rfl, ⟨n2, rfl, _⟩, x3, y3, rfl, ⟨n3, rfl, _⟩, rfl⟩ := hf c (List.mem_of_getElem? hc)
    exact ⟨_, rfl, k34_mk W ⟨n1, n2, n3⟩, fun i u hu => hcell j _ hc i u hu⟩

theorem WalSure_walk (A0 : Option Addr) (c0 : Nat) (l : List S34) (keep : Int) (w : World) (hr0 : Kd.C k34 w A0 l.length l) (hc0 : l.length ≤ c0) (hk : (Lit.int .u64 keep).wf = true) :
    Calls Try.prog 5 #[.slice A0 l.length c0, .int .u64 keep] w fun e w' => e = .returned (.bool true) ∧ Below w.heap.size w w' := by
  rcases few_f l with ⟨h1, h2⟩ | h1
  · exact WalSure_many A0 c0 l keep w hr0 hc0 h1 h2 _ _ rfl
  · exact WalSure_few A0 c0 l keep w hr0 hc0 h1
end Go.Proofs.Ytjmdigfinkkelaa.Wal
