/- The plain law of spec.DrawDskEvent: it answers, and its line is short. -/
import Derived.Test.YthnknchacjmmeaaDoorHandCa
import Derived.Test.YthnknchacjmmeaaDoorPi
namespace Go.Proofs.YthnknchacjmmeaaDoor
open Go.RowKit Go.Proofs.YthnknchacjmmeaaDoorW.PrintWords Go.Proofs.YthnknchacjmmeaaDoorW.PrintLast Go.Proofs.YthnknchacjmmeaaDoorW.PrintMore
open PFnDskEvent
set_option linter.unusedVariables false
set_option linter.unusedSimpArgs false
def digSize (o : Option ByteArray) : Bool := match o with | some r => decide (r.size ≤ 3) | none => false
theorem digits_all : ∀ n : Fin 256, digSize (spec_l5Digits.f 6 (n.val : Int)) = true := by decide +kernel
theorem digits_ge (n : Int) (h0 : 0 ≤ n) (h1 : n < 256) (K : Nat) (hK : 6 ≤ K) : ∃ r, spec_l5Digits.f K n = some r ∧ r.size ≤ 3 := by
  have h := digits_all ⟨n.toNat, by omega⟩
  have e : ((n.toNat : Nat) : Int) = n := by omega
  simp only [e] at h
  cases hr : spec_l5Digits.f 6 n with
  | none => rw [hr] at h; cases h
  | some r =>
    rw [hr] at h
    obtain ⟨j, rfl⟩ : ∃ j, K = 6 + j := ⟨K - 6, by omega⟩
    exact ⟨r, LeO.add (f := fun k => spec_l5Digits.f k n) (fun k => spec_l5Digits.mono n k) hr j, by simpa [digSize] using h⟩
theorem extract_size (s : ByteArray) (a b : Nat) : (s.extract a b).size ≤ s.size := by
  rw [ByteArray.size_extract]
  omega
theorem bent_ok (xs : List Int) (hx : Byt xs) (hl : xs.length ≤ 2000) (i : Int) (h0 : 0 ≤ i) (h1 : i ≤ 60000) (s : ByteArray) (hs : s.size ≤ 5000) (K : Nat) (hK : 1 ≤ K) :
    ∃ r j, spec_l30Bent.f K xs i s = some (r, j) ∧ r.size ≤ s.size + 1 := by
  unfold spec_l30Bent.f
  have e1 : wrap64 ((s.size : Int) + 1) = (s.size : Int) + 1 := w64 _ (by omega)
  rw [e1]
  obtain ⟨p, hp, p0, p1⟩ := pick_ge xs hx hl i h0 (by omega) ((s.size : Int) + 1) (by omega) K hK
  obtain ⟨c, hc, c0, c1⟩ := pick_ge xs hx hl (i + 1) (by omega) (by omega) 256 (by omega) K hK
  obtain ⟨d, hd, d0, d1⟩ := pick_ge xs hx hl (i + 1 + 1) (by omega) (by omega) 7 (by omega) K hK
  obtain ⟨q, hq, q0, q1⟩ := pick_ge xs hx hl (i + 1 + 1 + 1) (by omega) (by omega) 3 (by omega) K hK
  obtain ⟨z, hz, z0, z1⟩ := pick_ge xs hx hl (i + 1 + 1 + 1 + 1) (by omega) (by omega) 2 (by omega) K hK
  rw [hp, Option.bind_some]
  dsimp only
  rw [hc, Option.bind_some, Option.bind_some]
  dsimp only
  rw [hd, Option.bind_some]
  dsimp only
  rw [if_pos d0, if_pos (by exact d1), Option.bind_some, hq, Option.bind_some]
  dsimp only
  rw [size_one]
  have x1 := extract_size s 0 p.toNat
  have x2 := extract_size s p.toNat s.size
  have x3 : (s.extract 0 p.toNat).size = p.toNat := by rw [ByteArray.size_extract]; omega
  have x4 : (s.extract p.toNat s.size).size = s.size - p.toNat := by rw [ByteArray.size_extract]; omega
  by_cases hq0 : q = 0
  · rw [if_pos hq0, if_pos p0, if_pos (by omega), if_pos (by omega), ByteArray.size_append, size_one, if_pos (by omega)]
    exact ⟨_, _, rfl, by rw [ByteArray.size_append, ByteArray.size_append, size_one]; omega⟩
  · rw [if_neg hq0]
    by_cases hps : p = (s.size : Int)
    · rw [if_pos hps, if_pos (by omega)]
      exact ⟨_, _, rfl, by rw [ByteArray.size_append, size_one]; omega⟩
    · rw [if_neg hps, hz, Option.bind_some]
      dsimp only
      have e2 : wrap64 (p + 1) = p + 1 := w64 _ (by omega)
      have x5 := extract_size s (p + 1).toNat s.size
      have x6 : (s.extract (p + 1).toNat s.size).size = s.size - (p + 1).toNat := by rw [ByteArray.size_extract]; omega
      rw [e2]
      have g1 : p ≤ (s.size : Int) := by omega
      have g2 : 0 ≤ p + 1 := by omega
      have g3 : p + 1 ≤ (s.size : Int) := by omega
      by_cases hz0 : z = 0
      · rw [if_pos hz0, if_pos p0, if_pos g1, if_pos g2, if_pos g3, if_pos (by omega)]
        exact ⟨_, _, rfl, by rw [ByteArray.size_append]; omega⟩
      · rw [if_neg hz0, if_pos p0, if_pos g1, if_pos (by omega), if_pos g2, if_pos g3, ByteArray.size_append, size_one, if_pos (by omega)]
        exact ⟨_, _, rfl, by rw [ByteArray.size_append, ByteArray.size_append, size_one]; omega⟩
theorem j2_ok (xs : List Int) (hx : Byt xs) (hl : xs.length ≤ 2000) (i : Int) (h0 : 0 ≤ i) (h1 : i ≤ 50000) (s : ByteArray) (hs : s.size ≤ 3000) (K : Nat) (hK : 3 ≤ K) :
    ∃ r j, spec_l34Line.j2 K s xs i = some (r, j) ∧ r.size ≤ s.size + 1 := by
  obtain ⟨k, rfl⟩ : ∃ k, K = k + 1 := ⟨K - 1, by omega⟩
  obtain ⟨p, hp, p0, p1⟩ := pick_ge xs hx hl i h0 (by omega) 6 (by omega) k (by omega)
  simp only [spec_l34Line.j2, hp, Option.bind_some]
  by_cases h : p = 0
  · obtain ⟨r, j, hr, hrs⟩ := bent_ok xs hx hl (i + 1) (by omega) (by omega) s (by omega) k (by omega)
    rw [if_pos h, hr, Option.bind_some]
    exact ⟨r, j, rfl, hrs⟩
  · rw [if_neg h]
    exact ⟨s, _, rfl, by omega⟩
theorem one_blank : (⟨#[32]⟩ : ByteArray).size = 1 := rfl
theorem j1_ok (xs : List Int) (hx : Byt xs) (hl : xs.length ≤ 2000) (i : Int) (h0 : 0 ≤ i) (h1 : i ≤ 40000) (s t : ByteArray) (hs : s.size ≤ 100) (b : Bool) (K : Nat) (hK : 700 ≤ K) :
    ∃ r j, spec_l34Line.j1 K s t b xs i = some (r, j) ∧ r.size ≤ 2000 := by
  obtain ⟨k, rfl⟩ : ∃ k, K = k + 1 := ⟨K - 1, by omega⟩
  simp only [spec_l34Line.j1]
  cases b with
  | true =>
    obtain ⟨p, hp, p0, p1⟩ := pick_ge xs hx hl i h0 (by omega) 4 (by omega) k (by omega)
    obtain ⟨d, hd, hds⟩ := digits_ge p p0 (by omega) k (by omega)
    simp only [if_true, hp, hd, Option.bind_some]
    rw [if_pos (by omega), ByteArray.size_append, one_blank, if_pos (by omega)]
    obtain ⟨r, j, hr, hrs⟩ := j2_ok xs hx hl (i + 1) (by omega) (by omega) ((s ++ (⟨#[32]⟩ : ByteArray)) ++ d) (by rw [ByteArray.size_append, ByteArray.size_append, one_blank]; omega) k (by omega)
    exact ⟨r, j, hr, by rw [ByteArray.size_append, ByteArray.size_append, one_blank] at hrs; omega⟩
  | false =>
    simp only [Bool.false_eq_true, if_false]
    by_cases h : t.toList = ([109, 97, 100, 101] : List UInt8)
    · obtain ⟨p, hp, p0, p1⟩ := pick_ge xs hx hl i h0 (by omega) 3 (by omega) k (by omega)
      have hn : 0 ≤ rd [24, 0, 3] p ∧ rd [24, 0, 3] p ≤ 24 := by
        have : p = 0 ∨ p = 1 ∨ p = 2 := by omega
        rcases this with rfl | rfl | rfl <;> decide
      obtain ⟨bs, hb, hbb, hbl⟩ := bytes_ok xs hx hl (i + 1) (by omega) (by omega) (rd [24, 0, 3] p) hn.1 (by omega) k (by omega)
      obtain ⟨d, hd, hds⟩ := l20B_ok bs hbb (by omega) k (by omega)
      rw [if_pos h, if_pos (by omega), Option.bind_some, hp, Option.bind_some]
      dsimp only
      rw [if_pos p0, if_pos (by exact p1), hb, Option.bind_some]
      dsimp only
      rw [hd, Option.bind_some, ByteArray.size_append, one_blank, if_pos (by omega)]
      obtain ⟨r, j, hr, hrs⟩ := j2_ok xs hx hl (i + 1 + rd [24, 0, 3] p) (by omega) (by omega) ((s ++ (⟨#[32]⟩ : ByteArray)) ++ d) (by rw [ByteArray.size_append, ByteArray.size_append, one_blank]; omega) k (by omega)
      exact ⟨r, j, hr, by rw [ByteArray.size_append, ByteArray.size_append, one_blank] at hrs; omega⟩
    · rw [if_neg h]
      obtain ⟨r, j, hr, hrs⟩ := j2_ok xs hx hl i h0 (by omega) s (by omega) k (by omega)
      exact ⟨r, j, hr, by omega⟩
theorem j0_ok (xs : List Int) (hx : Byt xs) (hl : xs.length ≤ 2000) (i : Int) (h0 : 0 ≤ i) (h1 : i ≤ 30000) (s t : ByteArray) (hs : s.size ≤ 100) (b : Bool) (K : Nat) (hK : 800 ≤ K) :
    ∃ r j, spec_l34Line.j0 K s t b xs i = some (r, j) ∧ r.size ≤ 2000 := by
  obtain ⟨k, rfl⟩ : ∃ k, K = k + 1 := ⟨K - 1, by omega⟩
  simp only [spec_l34Line.j0]
  cases b with
  | true =>
    obtain ⟨p, hp, p0, p1⟩ := pick_ge xs hx hl i h0 (by omega) 5 (by omega) k (by omega)
    obtain ⟨d, hd, hds⟩ := digits_ge p p0 (by omega) k (by omega)
    obtain ⟨q, hq, q0, q1⟩ := pick_ge xs hx hl (i + 1) (by omega) (by omega) 256 (by omega) k (by omega)
    obtain ⟨e, he, hes⟩ := digits_ge q q0 q1 k (by omega)
    simp only [if_true, hp, hd, hq, he, Option.bind_some, ByteArray.size_append, one_blank]
    rw [if_pos (by omega), if_pos (by omega), if_pos (by omega), if_pos (by omega)]
    obtain ⟨r, j, hr, hrs⟩ := j2_ok xs hx hl (i + 1 + 1) (by omega) (by omega) ((((s ++ (⟨#[32]⟩ : ByteArray)) ++ d) ++ (⟨#[32]⟩ : ByteArray)) ++ e) (by simp only [ByteArray.size_append, one_blank]; omega) k (by omega)
    exact ⟨r, j, hr, by simp only [ByteArray.size_append, one_blank] at hrs; omega⟩
  | false =>
    simp only [Bool.false_eq_true, if_false]
    repeat' split
    all_goals exact j1_ok xs hx hl i h0 (by omega) s t hs _ k (by omega)
def tableL : List ByteArray := [(⟨#[112, 97, 115, 115]⟩ : ByteArray), (⟨#[112, 97, 115, 115]⟩ : ByteArray), (⟨#[112, 97, 115, 115]⟩ : ByteArray), (⟨#[112, 97, 115, 115]⟩ : ByteArray), (⟨#[108, 111, 115, 116]⟩ : ByteArray), (⟨#[98, 101, 110, 116]⟩ : ByteArray), (⟨#[101, 97, 114, 108, 105, 101, 114]⟩ : ByteArray), (⟨#[102, 97, 108, 108]⟩ : ByteArray), (⟨#[114, 105, 115, 101]⟩ : ByteArray), (⟨#[105, 110, 112, 117, 116]⟩ : ByteArray), (⟨#[105, 110, 112, 117, 116]⟩ : ByteArray), (⟨#[109, 97, 100, 101]⟩ : ByteArray)]
theorem table_small : ∀ j : Fin 12, (rdOf ByteArray.empty tableL (j.val : Int)).size ≤ 100 := by decide +kernel
theorem line_ok (xs : List Int) (hx : Byt xs) (hl : xs.length ≤ 2000) (i : Int) (h0 : 0 ≤ i) (h1 : i ≤ 20000) (K : Nat) (hK : 900 ≤ K) :
    ∃ r j, spec_l34Line.f K xs i = some (r, j) ∧ r.size ≤ 2000 := by
  have e : spec_l34Line.f K xs i = (some tableL).bind fun y275 => ((spec_l30Rd_pick.f K xs i (y275.length : Int)).bind fun bt278 => (if 0 ≤ bt278.1 then (if bt278.1 < (y275.length : Int) then (if (rdOf ByteArray.empty y275 bt278.1).toList = ([98, 101, 110, 116] : List UInt8) then (spec_l34Line.j0 K (rdOf ByteArray.empty y275 bt278.1) (rdOf ByteArray.empty y275 bt278.1) ((rdOf ByteArray.empty y275 bt278.1).toList == ([98, 101, 110, 116] : List UInt8)) xs bt278.2) else (spec_l34Line.j0 K (rdOf ByteArray.empty y275 bt278.1) (rdOf ByteArray.empty y275 bt278.1) ((rdOf ByteArray.empty y275 bt278.1).toList == ([105, 110, 112, 117, 116] : List UInt8)) xs bt278.2)) else (none)) else (none))) := rfl
  have h12 : ((tableL.length : Nat) : Int) = 12 := rfl
  obtain ⟨p, hp, p0, p1⟩ := pick_ge xs hx hl i h0 (by omega) 12 (by omega) K (by omega)
  have hsz : (rdOf ByteArray.empty tableL p).size ≤ 100 := by
    have := table_small ⟨p.toNat, by omega⟩
    have e2 : ((p.toNat : Nat) : Int) = p := by omega
    simp only [e2] at this
    exact this
  rw [e, Option.bind_some, h12, hp, Option.bind_some]
  dsimp only
  rw [if_pos p0, if_pos p1]
  split
  all_goals exact j0_ok xs hx hl (i + 1) (by omega) (by omega) _ _ hsz _ K (by omega)
theorem draw_ok (l : List Int) (hx : Byt l) : ∃ r, spec_DrawDskEvent.f 1000 l = some r ∧ r.size ≤ 3000 := by
  obtain ⟨xs, ho, hxs, hl⟩ := open_ok l hx
  obtain ⟨p, hp, p0, p1⟩ := pick_ge xs hxs hl 0 (by omega) (by omega) 20 (by omega) 1000 (by omega)
  unfold spec_DrawDskEvent.f
  rw [ho, Option.bind_some]
  dsimp only
  rw [hp, Option.bind_some]
  dsimp only
  by_cases h : p = 0
  · obtain ⟨q, hq, q0, q1⟩ := pick_ge xs hxs hl (0 + 1) (by omega) (by omega) 3 (by omega) 1000 (by omega)
    have e1 : wrap64 (32 + q) = 32 + q := w64 _ (by omega)
    obtain ⟨bs, hb, hbb, hbl⟩ := bytes_ok xs hxs hl (0 + 1 + 1) (by omega) (by omega) (32 + q) (by omega) (by omega) 1000 (by omega)
    obtain ⟨d, hd, hds⟩ := l20B_ok bs hbb (by omega) 1000 (by omega)
    rw [if_pos h, hq, Option.bind_some]
    dsimp only
    rw [e1, hb, Option.bind_some]
    dsimp only
    rw [hd, Option.bind_some, if_pos (by omega)]
    refine ⟨_, rfl, ?_⟩
    rw [ByteArray.size_append]
    have : (⟨#[109, 97, 100, 101, 32]⟩ : ByteArray).size = 5 := rfl
    omega
  · obtain ⟨r, j, hr, hrs⟩ := line_ok xs hxs hl (0 + 1) (by omega) (by omega) 1000 (by omega)
    rw [if_neg h, hr, Option.bind_some]
    exact ⟨r, rfl, by omega⟩
end Go.Proofs.YthnknchacjmmeaaDoor
