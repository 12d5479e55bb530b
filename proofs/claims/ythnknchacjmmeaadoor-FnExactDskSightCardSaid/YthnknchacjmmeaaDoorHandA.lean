import Derived.Test.YthnknchacjmmeaaDoorPFnExactDskSightx0
import Derived.WalkLawsBesides
import Derived.WalkSpells
import Derived.Outline
namespace Go.Proofs.YthnknchacjmmeaaDoor
open Go.RowKit Go.Proofs.YthnknchacjmmeaaDoorW.PrintWords Go.Proofs.YthnknchacjmmeaaDoorW.PrintLast Go.Proofs.YthnknchacjmmeaaDoorW.PrintMore
set_option linter.unusedVariables false
set_option linter.unusedSimpArgs false

set_option maxHeartbeats 1000000 in
set_option maxRecDepth 100000 in
theorem celByKind_way (k wy : Int) (A : Option Addr) (n c : Nat) (w : World) (h1 : 1 ≤ k) (h2 : k ≤ 4) :
    Calls Tryd.prog 50 #[.agg #[.int .i64 k, .int .i64 wy, .slice A n c]] w fun e w' => e = .returned (.iface 67 (.agg #[.int .i64 wy, .slice A n c])) ∧ Below w.heap.size w w' := by
  go_enter Tryd.func50, Tryd.ntmps50
  go_wp2
  go_ret
  exact ⟨rfl, (Below.refl _ _).alloc (Nat.le_refl _) _⟩
set_option maxHeartbeats 1000000 in
set_option maxRecDepth 100000 in
theorem celByKind_none (k wy : Int) (A : Option Addr) (n c : Nat) (w : World) (h1 : 5 ≤ k) (h2 : k ≤ 10) :
    Calls Tryd.prog 50 #[.agg #[.int .i64 k, .int .i64 wy, .slice A n c]] w fun e w' => e = .returned (.iface 69 (.agg #[.int .i64 wy, .slice A n c])) ∧ Below w.heap.size w w' := by
  have h3 : ¬ k ≤ 4 := by omega
  go_enter Tryd.func50, Tryd.ntmps50
  go_wp2
  go_ret
  exact ⟨rfl, (Below.refl _ _).alloc (Nat.le_refl _) _⟩
set_option maxHeartbeats 1000000 in
set_option maxRecDepth 100000 in
theorem celByKind_nil (k wy : Int) (A : Option Addr) (n c : Nat) (w : World) (h : k < 1 ∨ 10 < k) :
    Calls Tryd.prog 50 #[.agg #[.int .i64 k, .int .i64 wy, .slice A n c]] w fun e w' => e = .returned .nilIface ∧ Below w.heap.size w w' := by
  rcases h with h | h
  · have h3 : ¬ 1 ≤ k := by omega
    have h4 : ¬ 5 ≤ k := by omega
    go_enter Tryd.func50, Tryd.ntmps50
    go_wp2
    go_ret
    exact ⟨rfl, (Below.refl _ _).alloc (Nat.le_refl _) _⟩
  · have h3 : ¬ k ≤ 4 := by omega
    have h4 : ¬ k ≤ 10 := by omega
    go_enter Tryd.func50, Tryd.ntmps50
    go_wp2
    go_ret
    exact ⟨rfl, (Below.refl _ _).alloc (Nat.le_refl _) _⟩

theorem meth67 (wy : Int) (A : Option Addr) (n c : Nat) (w : World) : (method 233 67 (.agg #[.int .i64 wy, .slice A n c]) "loop.example/casemate/impl.bytes").run Tryd.prog w = .ok (110, .agg #[.int .i64 wy, .slice A n c]) w := by kernel_rfl
theorem meth69 (wy : Int) (A : Option Addr) (n c : Nat) (w : World) : (method 233 69 (.agg #[.int .i64 wy, .slice A n c]) "loop.example/casemate/impl.bytes").run Tryd.prog w = .ok (111, .agg #[.int .i64 wy, .slice A n c]) w := by kernel_rfl
set_option maxHeartbeats 1000000 in
theorem bytes67 (wy : Int) (A : Option Addr) (n c : Nat) (w : World) :
    Calls Tryd.prog 110 #[.agg #[.int .i64 wy, .slice A n c]] w fun e w' => e = .returned (.slice A n c) ∧ Below w.heap.size w w' := by
  go_enter Tryd.func110, Tryd.ntmps110
  go_wp2
  go_ret
  exact ⟨rfl, (Below.refl _ _).alloc (Nat.le_refl _) _⟩
set_option maxHeartbeats 1000000 in
theorem bytes69 (wy : Int) (A : Option Addr) (n c : Nat) (w : World) :
    Calls Tryd.prog 111 #[.agg #[.int .i64 wy, .slice A n c]] w fun e w' => e = .returned (.slice A n c) ∧ Below w.heap.size w w' := by
  go_enter Tryd.func111, Tryd.ntmps111
  go_wp2
  go_ret
  exact ⟨rfl, (Below.refl _ _).alloc (Nat.le_refl _) _⟩
set_option maxHeartbeats 1000000 in
theorem bytMessage (A : Option Addr) (n c : Nat) (w : World) :
    Calls Tryd.prog 51 #[.slice A n c] w fun e w' => e = .returned (.bool (decide ((n : Int) ≤ 8))) ∧ w' = w := by
  go_enter Tryd.func51, Tryd.ntmps51
  go_wp2
  go_ret
  exact ⟨rfl, rfl⟩
theorem ta67_67 (v : Value) (w : World) : (Instr.typeAssert (.iface 67 v) 63 67 true).run Tryd.prog w = .ok (.tuple #[v, .bool true]) w := by kernel_rfl
theorem ta69_69 (v : Value) (w : World) : (Instr.typeAssert (.iface 69 v) 63 69 true).run Tryd.prog w = .ok (.tuple #[v, .bool true]) w := by kernel_rfl
theorem ta69_67 (v : Value) (w : World) : (Instr.typeAssert (.iface 69 v) 63 67 true).run Tryd.prog w = .ok (.tuple #[.agg #[.int .i64 0, .slice none 0 0], .bool false]) w := by kernel_rfl
def okv (k wy : Int) (n : Nat) : Bool := decide (1 ≤ k ∧ k ≤ 4 ∧ n ≤ 8 ∧ 0 ≤ wy ∧ wy ≤ 9) || decide (5 ≤ k ∧ k ≤ 10 ∧ n ≤ 8 ∧ wy = 0)
theorem okv_true {k wy : Int} {n : Nat} (h : (1 ≤ k ∧ k ≤ 4 ∧ n ≤ 8 ∧ 0 ≤ wy ∧ wy ≤ 9) ∨ (5 ≤ k ∧ k ≤ 10 ∧ n ≤ 8 ∧ wy = 0)) : okv k wy n = true := by
  unfold okv
  rcases h with h | h
  · rw [decide_eq_true h]; rfl
  · rw [decide_eq_true h, Bool.or_true]
theorem okv_false {k wy : Int} {n : Nat} (h : ¬ (1 ≤ k ∧ k ≤ 4 ∧ n ≤ 8 ∧ 0 ≤ wy ∧ wy ≤ 9)) (h' : ¬ (5 ≤ k ∧ k ≤ 10 ∧ n ≤ 8 ∧ wy = 0)) : okv k wy n = false := by
  unfold okv
  rw [decide_eq_false h, decide_eq_false h']; rfl
def impl_CelSightOk.f (k wy : Int) (l : List Int) : Option Bool := some (okv k wy l.length)
theorem bel3 {w w1 w2 : World} {o : Obj} (h : Below (w.alloc o).heap.size (w.alloc o) w1) (h2 : Below w1.heap.size w1 w2) : Below w.heap.size w w2 := by
  have s : w.heap.size ≤ (w.alloc o).heap.size := by simp
  exact (((Below.refl _ _).alloc (Nat.le_refl _) o).trans (h.mono s)).trans (h2.mono (Nat.le_trans s h.size))
set_option maxHeartbeats 1000000 in
set_option maxRecDepth 100000 in
theorem impl_CelSightOk.calls (a0_0 : Int) (a0_1 : Int) (A0_2 : Option Addr) (c0_2 : Nat) (l0_2 : List Int) (r : Bool) (w : World) (hr0_2 : Kd.C (Kd.int .u8) w A0_2 l0_2.length l0_2) (hc0_2 : l0_2.length ≤ c0_2) (h : impl_CelSightOk.f a0_0 a0_1 l0_2 = some r) :
    Calls Tryd.prog 23 #[.agg #[.int .i64 a0_0, .int .i64 a0_1, .slice A0_2 l0_2.length c0_2]] w fun e w' => e = .returned (.bool r) ∧ Below w.heap.size w w' := by
  clear hr0_2 hc0_2
  have hr := Option.some.inj h
  clear h
  generalize l0_2.length = n at *
  have m67 := meth67
  have m69 := meth69
  have t1 := ta67_67
  have t2 := ta69_69
  have t3 := ta69_67
  by_cases k1 : 1 ≤ a0_0 ∧ a0_0 ≤ 4
  · obtain ⟨k1, k2⟩ := k1
    by_cases hn : (n : Int) ≤ 8
    · have hd : decide ((n : Int) ≤ 8) = true := by simpa using hn
      by_cases w1 : 0 ≤ a0_1
      · by_cases w2 : a0_1 ≤ 9
        · obtain rfl : r = true := by rw [← hr]; exact okv_true (by omega)
          clear hr
          go_enter Tryd.func23, Tryd.ntmps23
          go_wp2_with (first | (go_at_call 50; refine (celByKind_way _ _ _ _ _ _ k1 k2).mono ?_; rintro e w1 ⟨rfl, hb⟩) | (go_at_call 110; refine (bytes67 _ _ _ _ _).mono ?_; rintro e w2 ⟨rfl, hb2⟩) | (go_at_call 111; refine (bytes69 _ _ _ _ _).mono ?_; rintro e w2 ⟨rfl, hb2⟩) | (go_at_call 51; refine (bytMessage _ _ _ _).mono ?_; rintro e w3 ⟨rfl, rfl⟩))
          go_ret
          exact ⟨rfl, (bel3 hb hb2).alloc (bel3 hb hb2).size _⟩
        · obtain rfl : r = false := by rw [← hr]; exact okv_false (by omega) (by omega)
          have w2' := decide_eq_false w2
          clear hr
          go_enter Tryd.func23, Tryd.ntmps23
          go_wp2_with (first | (go_at_call 50; refine (celByKind_way _ _ _ _ _ _ k1 k2).mono ?_; rintro e w1 ⟨rfl, hb⟩) | (go_at_call 110; refine (bytes67 _ _ _ _ _).mono ?_; rintro e w2 ⟨rfl, hb2⟩) | (go_at_call 111; refine (bytes69 _ _ _ _ _).mono ?_; rintro e w2 ⟨rfl, hb2⟩) | (go_at_call 51; refine (bytMessage _ _ _ _).mono ?_; rintro e w3 ⟨rfl, rfl⟩))
          go_ret
          exact ⟨rfl, (bel3 hb hb2).alloc (bel3 hb hb2).size _⟩
      · obtain rfl : r = false := by rw [← hr]; exact okv_false (by omega) (by omega)
        clear hr
        go_enter Tryd.func23, Tryd.ntmps23
        go_wp2_with (first | (go_at_call 50; refine (celByKind_way _ _ _ _ _ _ k1 k2).mono ?_; rintro e w1 ⟨rfl, hb⟩) | (go_at_call 110; refine (bytes67 _ _ _ _ _).mono ?_; rintro e w2 ⟨rfl, hb2⟩) | (go_at_call 111; refine (bytes69 _ _ _ _ _).mono ?_; rintro e w2 ⟨rfl, hb2⟩) | (go_at_call 51; refine (bytMessage _ _ _ _).mono ?_; rintro e w3 ⟨rfl, rfl⟩))
        go_ret
        exact ⟨rfl, (bel3 hb hb2).alloc (bel3 hb hb2).size _⟩
    · have hd : decide ((n : Int) ≤ 8) = false := by simpa using hn
      obtain rfl : r = false := by rw [← hr]; exact okv_false (by omega) (by omega)
      clear hr
      go_enter Tryd.func23, Tryd.ntmps23
      go_wp2_with (first | (go_at_call 50; refine (celByKind_way _ _ _ _ _ _ k1 k2).mono ?_; rintro e w1 ⟨rfl, hb⟩) | (go_at_call 110; refine (bytes67 _ _ _ _ _).mono ?_; rintro e w2 ⟨rfl, hb2⟩) | (go_at_call 111; refine (bytes69 _ _ _ _ _).mono ?_; rintro e w2 ⟨rfl, hb2⟩) | (go_at_call 51; refine (bytMessage _ _ _ _).mono ?_; rintro e w3 ⟨rfl, rfl⟩))
      go_ret
      exact ⟨rfl, bel3 hb hb2⟩
  · by_cases k2 : 5 ≤ a0_0 ∧ a0_0 ≤ 10
    · have e1 : ¬ (1 ≤ a0_0 ∧ a0_0 ≤ 4) := by omega
      clear k1
      obtain ⟨k1, k2⟩ := k2
      by_cases hn : (n : Int) ≤ 8
      · have hd : decide ((n : Int) ≤ 8) = true := by simpa using hn
        by_cases w1 : a0_1 = 0
        · obtain rfl : r = true := by rw [← hr]; exact okv_true (by omega)
          have hz : (a0_1 == 0) = true := by simpa using w1
          clear hr e1 w1
          go_enter Tryd.func23, Tryd.ntmps23
          go_wp2_with (first | (go_at_call 50; refine (celByKind_none _ _ _ _ _ _ k1 k2).mono ?_; rintro e w1 ⟨rfl, hb⟩) | (go_at_call 110; refine (bytes67 _ _ _ _ _).mono ?_; rintro e w2 ⟨rfl, hb2⟩) | (go_at_call 111; refine (bytes69 _ _ _ _ _).mono ?_; rintro e w2 ⟨rfl, hb2⟩) | (go_at_call 51; refine (bytMessage _ _ _ _).mono ?_; rintro e w3 ⟨rfl, rfl⟩))
          go_ret
          exact ⟨rfl, ((bel3 hb hb2).alloc (bel3 hb hb2).size _).alloc (by simp; have := (bel3 hb hb2).size; omega) _⟩
        · obtain rfl : r = false := by rw [← hr]; exact okv_false (by omega) (by omega)
          have hz : (a0_1 == 0) = false := by simpa using w1
          clear hr e1 w1
          go_enter Tryd.func23, Tryd.ntmps23
          go_wp2_with (first | (go_at_call 50; refine (celByKind_none _ _ _ _ _ _ k1 k2).mono ?_; rintro e w1 ⟨rfl, hb⟩) | (go_at_call 110; refine (bytes67 _ _ _ _ _).mono ?_; rintro e w2 ⟨rfl, hb2⟩) | (go_at_call 111; refine (bytes69 _ _ _ _ _).mono ?_; rintro e w2 ⟨rfl, hb2⟩) | (go_at_call 51; refine (bytMessage _ _ _ _).mono ?_; rintro e w3 ⟨rfl, rfl⟩))
          go_ret
          exact ⟨rfl, ((bel3 hb hb2).alloc (bel3 hb hb2).size _).alloc (by simp; have := (bel3 hb hb2).size; omega) _⟩
      · have hd : decide ((n : Int) ≤ 8) = false := by simpa using hn
        obtain rfl : r = false := by rw [← hr]; exact okv_false (by omega) (by omega)
        clear hr e1
        go_enter Tryd.func23, Tryd.ntmps23
        go_wp2_with (first | (go_at_call 50; refine (celByKind_none _ _ _ _ _ _ k1 k2).mono ?_; rintro e w1 ⟨rfl, hb⟩) | (go_at_call 110; refine (bytes67 _ _ _ _ _).mono ?_; rintro e w2 ⟨rfl, hb2⟩) | (go_at_call 111; refine (bytes69 _ _ _ _ _).mono ?_; rintro e w2 ⟨rfl, hb2⟩) | (go_at_call 51; refine (bytMessage _ _ _ _).mono ?_; rintro e w3 ⟨rfl, rfl⟩))
        go_ret
        exact ⟨rfl, bel3 hb hb2⟩
    · obtain rfl : r = false := by rw [← hr]; exact okv_false (by omega) (by omega)
      clear hr
      go_enter Tryd.func23, Tryd.ntmps23
      go_wp2_with (first | (go_at_call 50; refine (celByKind_nil _ _ _ _ _ _ (by omega)).mono ?_; rintro e w1 ⟨rfl, hb⟩) | (go_at_call 110; refine (bytes67 _ _ _ _ _).mono ?_; rintro e w2 ⟨rfl, hb2⟩) | (go_at_call 111; refine (bytes69 _ _ _ _ _).mono ?_; rintro e w2 ⟨rfl, hb2⟩) | (go_at_call 51; refine (bytMessage _ _ _ _).mono ?_; rintro e w3 ⟨rfl, rfl⟩))
      go_ret
      exact ⟨rfl, ((Below.refl _ _).alloc (Nat.le_refl _) _).trans (hb.mono (by simp))⟩
end Go.Proofs.YthnknchacjmmeaaDoor
