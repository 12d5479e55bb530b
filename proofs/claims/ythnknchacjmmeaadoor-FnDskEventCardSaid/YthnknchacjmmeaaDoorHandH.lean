/- impl.txtNumber's contract: what a word is as a number (-1: it is none). -/
import Derived.Test.YthnknchacjmmeaaDoorPFnExactDskEventx0
import Derived.LoopTactic
import Derived.Laws.RangeAny
import Derived.Lib.OthersKept
import Derived.Lib.Hide
import Derived.Lib.Strings
namespace Go.Proofs.YthnknchacjmmeaaDoor
open Go.RowKit Go.Proofs.YthnknchacjmmeaaDoorW.PrintWords Go.Proofs.YthnknchacjmmeaaDoorW.PrintLast Go.Proofs.YthnknchacjmmeaaDoorW.PrintMore
set_option linter.unusedVariables false
set_option linter.unusedSimpArgs false
def numAt (s : ByteArray) : Nat → Nat → Int → Int
  | 0, _, n => n
  | b + 1, pos, n => if 48 ≤ bt s pos ∧ bt s pos ≤ 57 then numAt s b (pos + 1) (n * 10 + (bt s pos - 48)) else -1
def wordNum (s : ByteArray) : Int :=
  if s.size = 0 ∨ 10 < s.size ∨ (bt s 0 = 48 ∧ 1 < s.size) then -1 else numAt s s.size 0 0
theorem width_pos (s : ByteArray) (pos : Nat) (h : pos < s.size) : 1 ≤ (Utf8.decode s pos).2 := by
  by_cases ha : (s[pos]'h).toNat < 128
  · rw [decode_ascii s pos h ha]
    exact Nat.le_refl _
  · exact (decode_high s pos h (by omega)).2
theorem decode_bt (s : ByteArray) (pos : Nat) (h : pos < s.size) : (((Utf8.decode s pos).1 : Int) = bt s pos ∧ bt s pos < 128 ∧ (Utf8.decode s pos).2 = 1) ∨ (128 ≤ (Utf8.decode s pos).1 ∧ 128 ≤ bt s pos) := by
  have e : bt s pos = ((s[pos]'h).toNat : Int) := by simp [bt, h]
  by_cases ha : (s[pos]'h).toNat < 128
  · left
    rw [decode_ascii s pos h ha, e]
    exact ⟨rfl, by omega, rfl⟩
  · right
    exact ⟨(decode_high s pos h (by omega)).1, by omega⟩
theorem numAt_low (s : ByteArray) : ∀ (b pos : Nat) (n : Int), 0 ≤ n → -1 ≤ numAt s b pos n
  | 0, _, n, h => by simp only [numAt]; omega
  | b + 1, pos, n, h => by
    simp only [numAt]
    split
    · exact numAt_low s b _ _ (by omega)
    · omega
def ten : Nat → Int
  | 0 => 1
  | n + 1 => 10 * ten n
theorem ten_mono : ∀ n, 1 ≤ ten n ∧ ten n ≤ ten (n + 1)
  | 0 => by decide
  | n + 1 => by
    have ⟨h1, h2⟩ := ten_mono n
    simp only [ten] at *
    omega
theorem ten_le (n : Nat) (h : n ≤ 9) : ten n ≤ 1000000000 := by
  have : ∀ k, ten (9 - k) ≤ ten 9 := by
    intro k
    induction k with
    | zero => exact Int.le_refl _
    | succ k ih =>
      by_cases hk : k < 9
      · have := (ten_mono (9 - (k + 1))).2
        rw [show 9 - (k + 1) + 1 = 9 - k by omega] at this
        omega
      · rw [show 9 - (k + 1) = 9 - k by omega]; exact ih
  have h9 : ten 9 = 1000000000 := by decide
  have := this (9 - n)
  rw [show 9 - (9 - n) = n by omega] at this
  omega
def numRet (x : Int) : Value := if x < 0 then .tuple #[.int .i64 0, .bool false] else .tuple #[.int .i64 x, .bool true]
theorem numRet_neg {x : Int} (h : x < 0) : numRet x = .tuple #[.int .i64 0, .bool false] := if_pos h
theorem numRet_pos {x : Int} (h : 0 ≤ x) : numRet x = .tuple #[.int .i64 x, .bool true] := if_neg (by omega)
set_option maxHeartbeats 1000000 in
set_option maxRecDepth 100000 in
theorem txtNumber_loop (s : ByteArray) (w : World) (h1 : 0 < s.size) (h2 : s.size ≤ 10) (h3 : ¬ (bt s 0 = 48 ∧ 1 < s.size)) :
    Calls Tryd.prog 85 #[.string s] w fun e w' => e = .returned (numRet (numAt s s.size 0 0)) ∧ Below w.heap.size w w' := by
  have he : s.toList.isEmpty = false := by
    have : s.toList.length = s.size := by rw [Lib.toList_data, ← Lib.size_eq]
    cases h : s.toList with
    | nil => rw [h] at this; simp at this; omega
    | cons a l => rfl
  have hd1 : decide (10 < s.size) = false := decide_eq_false (by omega)
  have hlow := numAt_low s s.size 0 0 (by omega)
  have hd1i : decide (10 < (s.size : Int)) = false := decide_eq_false (by omega)
  have hx0 : ((s[0]'h1).toNat : Int) = bt s 0 := bt_at s 0 h1
  have hor : (((s[0]'h1).toNat : Int) == 48) = false ∨ (((s[0]'h1).toNat : Int) == 48) = true ∧ decide (1 < s.size) = false ∧ decide (1 < (s.size : Int)) = false := by
    rw [hx0]
    by_cases h0 : bt s 0 = 48
    · exact .inr ⟨by rw [h0]; rfl, decide_eq_false (fun h => h3 ⟨h0, h⟩), decide_eq_false (fun h => h3 ⟨h0, by omega⟩)⟩
    · exact .inl (by rw [beq_eq_false_iff_ne]; exact h0)
  clear hx0
  rcases hor with hd3 | ⟨hd3, hd2, hd2i⟩
  all_goals
    go_enter Tryd.func85, Tryd.ntmps85
    go_wp2
    go_loopw [4] (fun n w' => ∃ (pos : Nat) (acc : Int), w' = w.iter s pos ∧ n = .int .i64 acc ∧ pos ≤ s.size ∧ numAt s (s.size - pos) pos acc = numAt s s.size 0 0 ∧ 0 ≤ acc ∧ acc < ten pos) (fun _ w' => s.size - w'.iterPos w.heap.size)
    case atStart => exact ⟨0, 0, rfl, rfl, by omega, rfl, by omega, by decide⟩
    case round =>
      obtain ⟨pos, acc, rfl, rfl, hps, hn, ha0, ha1⟩ := hrel
      by_cases hp : pos < s.size
      · have hnx : ∀ ty, (Instr.next (.pointer (some ⟨w.heap.size, 0, none⟩)) true ty).run Tryd.prog (w.iter s pos) = _ := fun ty => run_next_any w s pos ty hp
        have hwd := decode_bt s pos hp
        have hpow : acc < 1000000000 := Int.lt_of_lt_of_le ha1 (ten_le pos (by omega))
        have hE : numAt s (s.size - pos) pos acc = if 48 ≤ bt s pos ∧ bt s pos ≤ 57 then numAt s (s.size - (pos + 1)) (pos + 1) (acc * 10 + (bt s pos - 48)) else -1 := by
          rw [show s.size - pos = (s.size - (pos + 1)) + 1 by omega]
          rfl
        have hbd : Below w.heap.size w (w.iter s (pos + (Utf8.decode s pos).2)) := (Below.refl _ _).alloc (Nat.le_refl _) _
        have hbt := bt_range s pos
        clear h3 hps
        generalize (Utf8.decode s pos).1 = d at *
        generalize (Utf8.decode s pos).2 = wd at *
        by_cases hdig : 48 ≤ bt s pos ∧ bt s pos ≤ 57
        · rw [if_pos hdig] at hE
          obtain ⟨rfl⟩ : wd = 1 := by rcases hwd with h | h <;> omega
          have e : (d : Int) = bt s pos := by rcases hwd with h | h <;> omega
          rw [← e] at hE hdig
          have f1 : decide ((d : Int) < 48) = false := decide_eq_false (by omega)
          have f2 : decide (57 < (d : Int)) = false := decide_eq_false (by omega)
          go_wp2
          go_roundw
          case rel =>
            refine ⟨pos + 1, _, rfl, rfl, by omega, ?_, by omega, ?_⟩
            · rw [← hn, hE, e]
            · show _ < 10 * ten pos
              omega
          case measure =>
            simp
            omega
        · rw [if_neg hdig] at hE
          have hneg : numAt s s.size 0 0 < 0 := by rw [← hn, hE]; decide
          by_cases f : (d : Int) < 48
          · have f1 : decide ((d : Int) < 48) = true := decide_eq_true f
            go_wp2
            go_ret2
            exact ⟨by rw [numRet_neg hneg]; rfl, hbd⟩
          · have f1 : decide ((d : Int) < 48) = false := decide_eq_false f
            have f2 : decide (57 < (d : Int)) = true := decide_eq_true (by rcases hwd with h | h <;> omega)
            go_wp2
            go_ret2
            exact ⟨by rw [numRet_neg hneg]; rfl, hbd⟩
      · have hnx : ∀ ty, (Instr.next (.pointer (some ⟨w.heap.size, 0, none⟩)) true ty).run Tryd.prog (w.iter s pos) = _ := fun ty => run_next_end w s pos ty hp
        go_wp2
        go_ret2
        have e : s.size - pos = 0 := by omega
        rw [e] at hn
        simp only [numAt] at hn
        exact ⟨by rw [← hn, numRet_pos ha0]; rfl, (Below.refl _ _).alloc (Nat.le_refl _) _⟩
set_option maxHeartbeats 1000000 in
set_option maxRecDepth 100000 in
theorem txtNumber_any (s : ByteArray) (w : World) :
    Calls Tryd.prog 85 #[.string s] w fun e w' => e = .returned (numRet (wordNum s)) ∧ Below w.heap.size w w' := by
  by_cases hw : s.size = 0 ∨ 10 < s.size ∨ (bt s 0 = 48 ∧ 1 < s.size)
  · have hneg : wordNum s < 0 := by unfold wordNum; rw [if_pos hw]; decide
    by_cases c1 : s.size = 0
    · have he : s.toList.isEmpty = true := by
        have : s.toList.length = s.size := by rw [Lib.toList_data, ← Lib.size_eq]
        cases h : s.toList with
        | nil => rfl
        | cons a l => rw [h] at this; simp at this; omega
      go_enter Tryd.func85, Tryd.ntmps85
      go_wp2
      go_ret2
      exact ⟨by rw [numRet_neg hneg]; rfl, Below.refl _ _⟩
    · have h1 : 0 < s.size := by omega
      have he : s.toList.isEmpty = false := by
        have : s.toList.length = s.size := by rw [Lib.toList_data, ← Lib.size_eq]
        cases h : s.toList with
        | nil => rw [h] at this; simp at this; omega
        | cons a l => rfl
      by_cases c2 : 10 < s.size
      · have hd1 : decide (10 < s.size) = true := decide_eq_true c2
        have hd1i : decide (10 < (s.size : Int)) = true := decide_eq_true (by omega)
        go_enter Tryd.func85, Tryd.ntmps85
        go_wp2
        go_ret2
        exact ⟨by rw [numRet_neg hneg]; rfl, Below.refl _ _⟩
      · have c3 : bt s 0 = 48 ∧ 1 < s.size := by omega
        have hx0 : ((s[0]'h1).toNat : Int) = bt s 0 := bt_at s 0 h1
        have hd3 : (((s[0]'h1).toNat : Int) == 48) = true := by rw [hx0, c3.1]; rfl
        have hd1 : decide (10 < s.size) = false := decide_eq_false c2
        have hd1i : decide (10 < (s.size : Int)) = false := decide_eq_false (by omega)
        have hd2 : decide (1 < s.size) = true := decide_eq_true c3.2
        have hd2i : decide (1 < (s.size : Int)) = true := decide_eq_true (by omega)
        clear hx0
        go_enter Tryd.func85, Tryd.ntmps85
        go_wp2
        go_ret2
        exact ⟨by rw [numRet_neg hneg]; rfl, Below.refl _ _⟩
  · have h := txtNumber_loop s w (by omega) (by omega) (by omega)
    have e : wordNum s = numAt s s.size 0 0 := by unfold wordNum; rw [if_neg hw]
    rw [e]
    exact h
end Go.Proofs.YthnknchacjmmeaaDoor
