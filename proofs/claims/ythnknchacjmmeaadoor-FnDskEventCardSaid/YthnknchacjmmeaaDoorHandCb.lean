/- The event of a line with three words more behind it is none; the event of "fall 2". -/
import Derived.Test.YthnknchacjmmeaaDoorHandY
namespace Go.Proofs.YthnknchacjmmeaaDoor
open Go.RowKit Go.Proofs.YthnknchacjmmeaaDoorW.PrintWords Go.Proofs.YthnknchacjmmeaaDoorW.PrintLast Go.Proofs.YthnknchacjmmeaaDoorW.PrintMore
set_option linter.unusedVariables false
set_option linter.unusedSimpArgs false
def more3 : ByteArray := ⟨#[32, 49, 32, 49, 32, 49]⟩
theorem wordsL_more : ∀ l : List UInt8, wordsL (l ++ [32, 49, 32, 49, 32, 49]) = wordsL l ++ [[49], [49], [49]]
  | [] => rfl
  | b :: l => by
    have ih := wordsL_more l
    rw [List.cons_append]
    unfold wordsL
    split
    · rw [ih]; rfl
    · rw [ih]
      obtain ⟨h, t, e⟩ := wordsL_cons l
      rw [e]
      rfl
theorem words_more (s : ByteArray) : words (s ++ more3) = words s ++ [⟨#[49]⟩, ⟨#[49]⟩, ⟨#[49]⟩] := by
  unfold words
  have e : (s ++ more3).data.toList = s.data.toList ++ [32, 49, 32, 49, 32, 49] := by
    rw [ByteArray.data_append]
    simp [more3]
  rw [e, wordsL_more, List.map_append]
  rfl
theorem isN_long (t : List ByteArray) (c : Nat) (h : c < t.length) : isN t c = false := by
  unfold isN
  rw [decide_eq_false (by omega)]
  simp
theorem ok6_false (x : Six) (h : x.2.2.2.2.2 = false) : (ok6 x).2.2.2.2.2 = false := by
  unfold ok6
  rw [if_neg (by rw [h]; decide)]
  rfl
theorem more_false (s : ByteArray) : (evSays (s ++ more3)).2.2.2.2.2 = false := by
  unfold evSays
  split
  · rfl
  · rw [words_more]
    obtain ⟨h, t, e⟩ := words_cons s
    rw [e, List.cons_append]
    simp only [evList, evWords]
    have hl : 2 < (t ++ [⟨#[49]⟩, ⟨#[49]⟩, ⟨#[49]⟩] : List ByteArray).length := by simp
    generalize (t ++ [⟨#[49]⟩, ⟨#[49]⟩, ⟨#[49]⟩] : List ByteArray) = q at *
    have h0 : ((q.length : Int) == 0) = false := by rw [beq_eq_false_iff_ne]; omega
    have n1 := isN_long q 1 (by omega)
    have n2 := isN_long q 2 hl
    have a1 : (rdPass q).2.2.2.2.2 = false := h0
    have a2 : (rdLost q).2.2.2.2.2 = false := h0
    have a3 : (rdBent q).2.2.2.2.2 = false := by unfold rdBent; rw [n2]; rfl
    have a4 : (rdEarlier q).2.2.2.2.2 = false := by unfold rdEarlier; rw [n1]; rfl
    have a5 : (rdFall q).2.2.2.2.2 = false := by unfold rdFall; rw [n1]; rfl
    have a6 : (rdRise q).2.2.2.2.2 = false := by unfold rdRise; rw [n1]; rfl
    have a7 : (rdInput q).2.2.2.2.2 = false := by unfold rdInput; rw [n2]; rfl
    have a8 : (rdMade q).2.2.2.2.2 = false := by unfold rdMade; rw [if_neg (by omega)]; rfl
    repeat' split
    all_goals first | exact ok6_false _ a1 | exact ok6_false _ a2 | exact ok6_false _ a3 | exact ok6_false _ a4 | exact ok6_false _ a5 | exact ok6_false _ a6 | exact ok6_false _ a7 | exact ok6_false _ a8 | rfl
theorem fall2 : evSays ⟨#[102, 97, 108, 108, 32, 50]⟩ = (2, 2, 0, 0, [], true) := by decide +kernel
end Go.Proofs.YthnknchacjmmeaaDoor
