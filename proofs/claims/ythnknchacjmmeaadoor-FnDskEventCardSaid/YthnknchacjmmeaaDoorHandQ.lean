/- impl.DskEvent: what the walks share; the readers pass, lost and made by the print. -/
import Derived.Test.YthnknchacjmmeaaDoorHandO
import Derived.Test.YthnknchacjmmeaaDoorPe
namespace Go.Proofs.YthnknchacjmmeaaDoor
open Go.RowKit Go.Proofs.YthnknchacjmmeaaDoorW.PrintWords Go.Proofs.YthnknchacjmmeaaDoorW.PrintLast Go.Proofs.YthnknchacjmmeaaDoorW.PrintMore
set_option linter.unusedVariables false
set_option linter.unusedSimpArgs false
theorem split_words_any (s : ByteArray) (m : Int) (w : World) (h : ByteArray) (t : List ByteArray) (hs : s.size ≤ 80) (hm : w.cell? ⟨1, 0, none⟩ = some (.int .i64 m)) (hw : words s = h :: t) :
    Calls Tryd.prog 40 #[.string s, .string ⟨#[32]⟩] w fun e w' => ∃ g, e = .returned (.slice (some ⟨g, 0, none⟩) (t.length + 1) (t.length + 1)) ∧ w'.cell? ⟨g, 0, none⟩ = some (.string h) ∧
      Kd.C Kd.string w' (if t = [] then some ⟨g, 0, none⟩ else some ⟨g, 0 + 1, none⟩) t.length t ∧ Below w.heap.size w w' := by
  refine (split_any s m w hs hm).mono ?_
  rintro e w' ⟨g, rfl, hC, hb⟩
  rw [hw] at hC
  simp only [List.length_cons] at hC
  obtain ⟨ad', e1, hc⟩ := Kd.at_string hC 0 (by omega) (by omega)
  cases e1
  have hc0 : w'.cell? ((⟨g, 0, none⟩ : Addr).add 0) = some (.string h) := by simpa [rdOf] using hc
  rw [add_plain] at hc0
  have hd := Kd.C_drop (m := 1) (c := t.length + 1) (xs := h :: t) hC (by simp) (by simp)
  refine ⟨g, by rw [hw]; rfl, hc0, ?_, hb⟩
  simp only [List.drop_succ_cons, List.drop_zero] at hd
  by_cases h1 : t = []
  · rw [if_pos h1]; rw [if_pos (by rw [h1]; rfl)] at hd; exact hd
  · have : t.length ≠ 0 := fun e => h1 (List.eq_nil_of_length_eq_zero e)
    rw [if_neg h1]; rw [if_neg (by omega)] at hd
    have e2 : ((some (⟨g, 0, none⟩ : Addr)).map fun x => x.add (1 * Kd.string.sz)) = some ⟨g, 0 + 1, none⟩ := congrArg some (add_plain g 1)
    rw [e2] at hd
    exact hd
theorem putEv_row {w : World} {b base : Nat} {k a n v : Int} {u : Value} {k' a' n' v' : Int} {V : Value} {bs : List Int} (h : w.heap[b]? = some (.cells (evC k' a' n' v') 32 (0, 0))) (hV : Kd.R (Kd.int .u8) 5 w base (fun _ => True) V bs) :
    Kd.R (Kd.int .u8) 5 (putEv w b k a n v u) base (fun _ => True) V bs := by
  have ht : ∀ q, q ∈ 5 :: (Kd.int .u8).E → q ≠ 32 := by
    intro q hq
    have h5 : q ∈ [5] := hq
    simp at h5
    omega
  have h1 := blk_put h 0 (.int .i64 k) rfl
  have h2 := blk_put h1 1 (.int .i64 a) rfl
  have h3 := blk_put h2 2 (.int .i64 n) rfl
  have h4 := blk_put h3 3 (.int .i64 v) rfl
  exact Kd.R_set (Kd.R_set (Kd.R_set (Kd.R_set (Kd.R_set hV h ht _ _) h1 ht _ _) h2 ht _ _) h3 ht _ _) h4 ht _ _
open PFnExactDskEvent
def rdPass (l : List ByteArray) : Six := (1, 0, 0, 0, [], ((l.length : Int) == 0))
def rdLost (l : List ByteArray) : Six := (1, 0, 1, 0, [], ((l.length : Int) == 0))
theorem dskPass_any (A : Option Addr) (c : Nat) (l : List ByteArray) (w : World) (hr : Kd.C Kd.string w A l.length l) (hc : l.length ≤ c) (hl : l.length ≤ 1000) :
    Calls Tryd.prog 32 #[.slice A l.length c] w fun e w' => EvPost (rdPass l) w e w' := impl_dskPass.calls A c l _ _ _ _ _ _ w hr hc rfl
theorem dskLost_any (A : Option Addr) (c : Nat) (l : List ByteArray) (w : World) (hr : Kd.C Kd.string w A l.length l) (hc : l.length ≤ c) (hl : l.length ≤ 1000) :
    Calls Tryd.prog 33 #[.slice A l.length c] w fun e w' => EvPost (rdLost l) w e w' := impl_dskLost.calls A c l _ _ _ _ _ _ w hr hc rfl
/-- The number of a digit to the base 16. -/
def hexDig (c : Int) : Option Int := if 48 ≤ c ∧ c ≤ 57 then some (c - 48) else if 97 ≤ c ∧ c ≤ 102 then some (c - 87) else none
def pairsAt (s : ByteArray) : Nat → Nat → List Int → List Int × Bool
  | 0, _, acc => (acc, true)
  | b + 1, i, acc => if i < s.size then (match hexDig (bt s i), hexDig (bt s ((i : Int) + 1)) with | some h, some l => pairsAt s b (i + 2) (acc ++ [h * 16 + l]) | _, _ => ([], false)) else (acc, true)
def hexPairs (s : ByteArray) : List Int × Bool := if 128 < s.size ∨ s.size % 2 = 1 then ([], false) else pairsAt s s.size 0 []
def rdMade (l : List ByteArray) : Six := if l.length = 1 then (1, 0, 4, 0, (hexPairs (l.getD 0 ByteArray.empty)).1, (hexPairs (l.getD 0 ByteArray.empty)).2) else none6
end Go.Proofs.YthnknchacjmmeaaDoor
