/- strings.Split at one blank, as words; the plain law of the words. -/
import Derived.Test.YthnknchacjmmeaaDoorHandN
import Derived.Test.YthnknchacjmmeaaDoorShelfB
namespace Go.Proofs.YthnknchacjmmeaaDoor
open Go.RowKit Go.Proofs.YthnknchacjmmeaaDoorW.PrintWords Go.Proofs.YthnknchacjmmeaaDoorW.PrintLast Go.Proofs.YthnknchacjmmeaaDoorW.PrintMore
set_option linter.unusedVariables false
set_option linter.unusedSimpArgs false
/-- Bytes in front of the first word. -/
def glue (w : List UInt8) : List (List UInt8) → List (List UInt8)
  | [] => [w]
  | x :: xs => (w ++ x) :: xs
def wordsL : List UInt8 → List (List UInt8)
  | [] => [[]]
  | b :: r => if b = 32 then [] :: wordsL r else glue [b] (wordsL r)
theorem wordsL_cons (l : List UInt8) : ∃ h t, wordsL l = h :: t := by
  cases l with
  | nil => exact ⟨_, _, rfl⟩
  | cons b r =>
    unfold wordsL
    split
    · exact ⟨_, _, rfl⟩
    · cases wordsL r with
      | nil => exact ⟨_, _, rfl⟩
      | cons x xs => exact ⟨_, _, rfl⟩
theorem index_blank (b : UInt8) (l : List UInt8) : Lib.index (b :: l) [32] = if b = 32 then 0 else if Lib.index l [32] = -1 then -1 else Lib.index l [32] + 1 := by
  show (if [32].isPrefixOf (b :: l) then (0 : Int) else if Lib.index l [32] == -1 then -1 else Lib.index l [32] + 1) = _
  by_cases h : b = 32
  · subst h; simp [List.isPrefixOf]
  · have h' : ¬ (32 = b) := fun e => h e.symm
    simp [List.isPrefixOf, h, h']
theorem split_words : ∀ l : List UInt8, Lib.split l [32] = wordsL l
  | [] => rfl
  | b :: l => by
    have ih := split_words l
    have hi := index_blank b l
    unfold wordsL
    by_cases h : b = 32
    · rw [if_pos h] at hi ⊢
      have hc := Lib.count_hit (s := b :: l) (sub := [32]) (i := 0) (by decide) hi
      simp only [List.length_cons, List.length_nil, Nat.zero_add, List.drop_succ_cons, List.drop_zero] at hc
      rw [← ih]
      unfold Lib.split
      rw [hc, Nat.add_comm 1]
      conv => lhs; unfold Lib.splitK
      rw [hi]
      simp
    · rw [if_neg h] at hi ⊢
      rcases Lib.index_spec l [32] with ⟨h1, _⟩ | ⟨i, h1, _, _, _⟩
      · rw [if_pos h1] at hi
        rw [← ih]
        unfold Lib.split
        rw [Lib.count_miss hi, Lib.count_miss h1]
        rfl
      · rw [if_neg (by omega), h1] at hi
        have hi' : Lib.index (b :: l) [32] = ((i + 1 : Nat) : Int) := by rw [hi]; rfl
        have hc := Lib.count_hit (s := b :: l) (sub := [32]) (i := i + 1) (by decide) hi'
        have hc2 := Lib.count_hit (s := l) (sub := [32]) (i := i) (by decide) h1
        rw [← ih]
        unfold Lib.split
        rw [hc, hc2, Nat.add_comm 1, Nat.add_comm 1]
        conv => lhs; unfold Lib.splitK
        conv => rhs; unfold Lib.splitK
        rw [hi', h1]
        have e1 : ((((i + 1 : Nat) : Int) == -1) = true) = False := by simp; omega
        have e2 : (((i : Int) == -1) = true) = False := by simp
        simp only [e1, e2, if_false, glue]
        simp [List.length_cons]
def words (s : ByteArray) : List ByteArray := (wordsL s.data.toList).map fun l => ⟨l.toArray⟩
theorem words_split (s : ByteArray) : Lib.splitB ⟨#[32]⟩ 0 (Lib.countB s ⟨#[32]⟩) s = words s := by
  have h := Lib.splitB_data ⟨#[32]⟩ 0 (Lib.countB s ⟨#[32]⟩) s
  have e : Lib.splitK (⟨#[32]⟩ : ByteArray).data.toList 0 (Lib.countB s ⟨#[32]⟩) s.data.toList = wordsL s.data.toList := split_words s.data.toList
  rw [e] at h
  unfold words
  rw [← h, List.map_map]
  conv => lhs; rw [← List.map_id (Lib.splitB ⟨#[32]⟩ 0 (Lib.countB s ⟨#[32]⟩) s)]
  apply List.map_congr_left
  intro x _
  obtain ⟨⟨x⟩⟩ := x
  rfl
theorem glue_len (w : List UInt8) (l : List UInt8) : (glue w (wordsL l)).length = (wordsL l).length := by
  obtain ⟨h, t, e⟩ := wordsL_cons l
  rw [e]
  rfl
theorem wordsL_count : ∀ l : List UInt8, (wordsL l).length = Lib.count l [32] + 1
  | [] => rfl
  | b :: l => by
    have ih := wordsL_count l
    have hi := index_blank b l
    unfold wordsL
    by_cases h : b = 32
    · rw [if_pos h] at hi ⊢
      have hc := Lib.count_hit (s := b :: l) (sub := [32]) (i := 0) (by decide) hi
      simp only [List.length_cons, List.length_nil, Nat.zero_add, List.drop_succ_cons, List.drop_zero] at hc
      rw [List.length_cons, ih, hc]
      omega
    · rw [if_neg h] at hi ⊢
      rw [glue_len, ih]
      rcases Lib.index_spec l [32] with ⟨h1, _⟩ | ⟨i, h1, _, _, _⟩
      · rw [if_pos h1] at hi
        rw [Lib.count_miss hi, Lib.count_miss h1]
      · rw [if_neg (by omega), h1] at hi
        have hi' : Lib.index (b :: l) [32] = ((i + 1 : Nat) : Int) := by rw [hi]; rfl
        have hc := Lib.count_hit (s := b :: l) (sub := [32]) (i := i + 1) (by decide) hi'
        have hc2 := Lib.count_hit (s := l) (sub := [32]) (i := i) (by decide) h1
        rw [hc, hc2]
        simp
theorem words_len (s : ByteArray) : (words s).length = Lib.countB s ⟨#[32]⟩ + 1 := by
  unfold words
  rw [List.length_map]
  exact wordsL_count s.data.toList
theorem words_cons (s : ByteArray) : ∃ h t, words s = h :: t := by
  obtain ⟨h, t, e⟩ := wordsL_cons s.data.toList
  exact ⟨_, _, by unfold words; rw [e]; rfl⟩
theorem wordsL_len : ∀ l : List UInt8, (wordsL l).length ≤ l.length + 1
  | [] => by simp [wordsL]
  | b :: l => by
    have := wordsL_len l
    unfold wordsL
    split
    · simp; omega
    · cases h : wordsL l with
      | nil => simp [glue]
      | cons x xs => rw [h] at this; simp [glue] at *; omega
theorem words_le (s : ByteArray) : (words s).length ≤ s.size + 1 := by
  have := wordsL_len s.data.toList
  unfold words
  rw [List.length_map, Lib.size_eq]
  exact this
theorem split_any (s : ByteArray) (m : Int) (w : World) (hs : s.size ≤ 80) (hm : w.cell? ⟨1, 0, none⟩ = some (.int .i64 m)) :
    Calls Tryd.prog 40 #[.string s, .string ⟨#[32]⟩] w fun e w' => ∃ g, e = .returned (.slice (some ⟨g, 0, none⟩) (words s).length (words s).length) ∧ Kd.C Kd.string w' (some ⟨g, 0, none⟩) (words s).length (words s) ∧ Below w.heap.size w w' := by
  refine (Tryd.strings_Split s ⟨#[32]⟩ m w (by omega) hm (by decide)).mono ?_
  rintro e w' ⟨rfl, rfl⟩
  have hl := words_len s
  have hle := words_le s
  rw [words_split, ← hl]
  refine ⟨_, rfl, ?_, (Below.refl _ _).alloc (Nat.le_refl _) _⟩
  refine Kd.C_of_reads (d := ByteArray.empty) (h1 := fun _ => rfl) ⟨rfl, by omega, fun hn => ⟨_, rfl, fun j hj => ?_⟩⟩
  have e : (⟨w.heap.size, 0, none⟩ : Addr).add j = ⟨w.heap.size, j, none⟩ := add_plain _ _
  rw [e]
  refine cell_of_heap (blk_new w _) ?_
  simp [List.getD_eq_getElem?_getD, List.getElem?_eq_getElem hj]
end Go.Proofs.YthnknchacjmmeaaDoor
