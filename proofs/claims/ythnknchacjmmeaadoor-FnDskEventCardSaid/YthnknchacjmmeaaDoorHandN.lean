/- The map of impl.DskEvent: eight names, eight readers. -/
import Derived.Test.YthnknchacjmmeaaDoorHandM
import Derived.WideMake
namespace Go.Proofs.YthnknchacjmmeaaDoor
open Go.RowKit Go.Proofs.YthnknchacjmmeaaDoorW.PrintWords Go.Proofs.YthnknchacjmmeaaDoorW.PrintLast Go.Proofs.YthnknchacjmmeaaDoorW.PrintMore
set_option linter.unusedVariables false
set_option linter.unusedSimpArgs false
theorem bbeq (a b : ByteArray) : (a == b) = decide (a = b) := by
  obtain ⟨x⟩ := a
  obtain ⟨y⟩ := b
  show (x == y) = _
  by_cases h : x = y
  · subst h; simp
  · simp [h]
def wPass : ByteArray := ⟨#[112, 97, 115, 115]⟩
def wLost : ByteArray := ⟨#[108, 111, 115, 116]⟩
def wBent : ByteArray := ⟨#[98, 101, 110, 116]⟩
def wEarlier : ByteArray := ⟨#[101, 97, 114, 108, 105, 101, 114]⟩
def wMade : ByteArray := ⟨#[109, 97, 100, 101]⟩
def wFall : ByteArray := ⟨#[102, 97, 108, 108]⟩
def wRise : ByteArray := ⟨#[114, 105, 115, 101]⟩
def wInput : ByteArray := ⟨#[105, 110, 112, 117, 116]⟩
def es0 : Array MapEntry := #[]
def es1 : Array MapEntry := #[{ key := .string (⟨#[112, 97, 115, 115]⟩ : ByteArray), val := .func (.func 32) #[] #[], born := 0 }]
def es2 : Array MapEntry := #[{ key := .string (⟨#[112, 97, 115, 115]⟩ : ByteArray), val := .func (.func 32) #[] #[], born := 0 }, { key := .string (⟨#[108, 111, 115, 116]⟩ : ByteArray), val := .func (.func 33) #[] #[], born := 1 }]
def es3 : Array MapEntry := #[{ key := .string (⟨#[112, 97, 115, 115]⟩ : ByteArray), val := .func (.func 32) #[] #[], born := 0 }, { key := .string (⟨#[108, 111, 115, 116]⟩ : ByteArray), val := .func (.func 33) #[] #[], born := 1 }, { key := .string (⟨#[98, 101, 110, 116]⟩ : ByteArray), val := .func (.func 34) #[] #[], born := 2 }]
def es4 : Array MapEntry := #[{ key := .string (⟨#[112, 97, 115, 115]⟩ : ByteArray), val := .func (.func 32) #[] #[], born := 0 }, { key := .string (⟨#[108, 111, 115, 116]⟩ : ByteArray), val := .func (.func 33) #[] #[], born := 1 }, { key := .string (⟨#[98, 101, 110, 116]⟩ : ByteArray), val := .func (.func 34) #[] #[], born := 2 }, { key := .string (⟨#[101, 97, 114, 108, 105, 101, 114]⟩ : ByteArray), val := .func (.func 35) #[] #[], born := 3 }]
def es5 : Array MapEntry := #[{ key := .string (⟨#[112, 97, 115, 115]⟩ : ByteArray), val := .func (.func 32) #[] #[], born := 0 }, { key := .string (⟨#[108, 111, 115, 116]⟩ : ByteArray), val := .func (.func 33) #[] #[], born := 1 }, { key := .string (⟨#[98, 101, 110, 116]⟩ : ByteArray), val := .func (.func 34) #[] #[], born := 2 }, { key := .string (⟨#[101, 97, 114, 108, 105, 101, 114]⟩ : ByteArray), val := .func (.func 35) #[] #[], born := 3 }, { key := .string (⟨#[109, 97, 100, 101]⟩ : ByteArray), val := .func (.func 36) #[] #[], born := 4 }]
def es6 : Array MapEntry := #[{ key := .string (⟨#[112, 97, 115, 115]⟩ : ByteArray), val := .func (.func 32) #[] #[], born := 0 }, { key := .string (⟨#[108, 111, 115, 116]⟩ : ByteArray), val := .func (.func 33) #[] #[], born := 1 }, { key := .string (⟨#[98, 101, 110, 116]⟩ : ByteArray), val := .func (.func 34) #[] #[], born := 2 }, { key := .string (⟨#[101, 97, 114, 108, 105, 101, 114]⟩ : ByteArray), val := .func (.func 35) #[] #[], born := 3 }, { key := .string (⟨#[109, 97, 100, 101]⟩ : ByteArray), val := .func (.func 36) #[] #[], born := 4 }, { key := .string (⟨#[102, 97, 108, 108]⟩ : ByteArray), val := .func (.func 37) #[] #[], born := 5 }]
def es7 : Array MapEntry := #[{ key := .string (⟨#[112, 97, 115, 115]⟩ : ByteArray), val := .func (.func 32) #[] #[], born := 0 }, { key := .string (⟨#[108, 111, 115, 116]⟩ : ByteArray), val := .func (.func 33) #[] #[], born := 1 }, { key := .string (⟨#[98, 101, 110, 116]⟩ : ByteArray), val := .func (.func 34) #[] #[], born := 2 }, { key := .string (⟨#[101, 97, 114, 108, 105, 101, 114]⟩ : ByteArray), val := .func (.func 35) #[] #[], born := 3 }, { key := .string (⟨#[109, 97, 100, 101]⟩ : ByteArray), val := .func (.func 36) #[] #[], born := 4 }, { key := .string (⟨#[102, 97, 108, 108]⟩ : ByteArray), val := .func (.func 37) #[] #[], born := 5 }, { key := .string (⟨#[114, 105, 115, 101]⟩ : ByteArray), val := .func (.func 38) #[] #[], born := 6 }]
def es8 : Array MapEntry := #[{ key := .string (⟨#[112, 97, 115, 115]⟩ : ByteArray), val := .func (.func 32) #[] #[], born := 0 }, { key := .string (⟨#[108, 111, 115, 116]⟩ : ByteArray), val := .func (.func 33) #[] #[], born := 1 }, { key := .string (⟨#[98, 101, 110, 116]⟩ : ByteArray), val := .func (.func 34) #[] #[], born := 2 }, { key := .string (⟨#[101, 97, 114, 108, 105, 101, 114]⟩ : ByteArray), val := .func (.func 35) #[] #[], born := 3 }, { key := .string (⟨#[109, 97, 100, 101]⟩ : ByteArray), val := .func (.func 36) #[] #[], born := 4 }, { key := .string (⟨#[102, 97, 108, 108]⟩ : ByteArray), val := .func (.func 37) #[] #[], born := 5 }, { key := .string (⟨#[114, 105, 115, 101]⟩ : ByteArray), val := .func (.func 38) #[] #[], born := 6 }, { key := .string (⟨#[105, 110, 112, 117, 116]⟩ : ByteArray), val := .func (.func 39) #[] #[], born := 7 }]
theorem setIf_push (w : World) (o o' : Obj) : ({ w.alloc o with heap := (w.alloc o).heap.setIfInBounds w.heap.size o' } : World) = w.alloc o' := by
  show ({ w.alloc o with heap := (w.heap.push o).setIfInBounds w.heap.size o' } : World) = { w.alloc o' with heap := w.heap.push o' }
  have e : (w.heap.push o).setIfInBounds w.heap.size o' = w.heap.push o' := by
    apply Array.ext_getElem?
    intro i
    rw [Array.getElem?_setIfInBounds, Array.getElem?_push, Array.getElem?_push]
    by_cases hi : i = w.heap.size
    · subst hi; simp
    · rw [if_neg (Ne.symm hi), if_neg hi, if_neg hi]
  rw [e]
  rfl
theorem run_ins (w : World) (es : Array MapEntry) (c : Nat) (s : ByteArray) (val : Value) (hf : Instr.findNow .string (.string s) es.toList 0 = some none) :
    (Instr.mapUpdate 52 (.map (some w.heap.size)) (.string s) val).run Tryd.prog (w.alloc (.map es c)) = .ok () (w.alloc (.map (es.push { key := .string s, val := val, born := c }) (c + 1))) := by
  have hb : (w.alloc (.map es c)).heap[w.heap.size]? = some (.map es c) := blk_new w _
  have hc : (Instr.checkKey false 10000 9 (.string s)).run Tryd.prog (w.alloc (.map es c)) = .ok () (w.alloc (.map es c)) := MapKept.run_checkKey (k := .string s) Tryd.underlying9 (by simp [MapKept.IsKey]) false 9999
  have h := setIf_push w (.map es c) (.map (es.push { key := .string s, val := val, born := c }) (c + 1))
  simp only [Instr.mapUpdate, run_underlying Tryd.underlying52, MapKept.run_getObj_map hb, hc, MapKept.run_findKey Tryd.underlying9 hf, MapKept.run_setObj_map _ hb, Result.andThen, Sem.run_bind, h]
theorem run_look (w : World) (b c : Nat) (es : Array MapEntry) (s : ByteArray) (hb : w.heap[b]? = some (.map es c)) (r : Option (Nat × Value)) (hf : Instr.findNow .string (.string s) es.toList 0 = some r) (hne : es.isEmpty = false) :
    (Instr.lookup 52 (.map (some b)) (.string s) true).run Tryd.prog w = .ok (.tuple #[(r.map (·.2)).getD .nilFunc, .bool r.isSome]) w := by
  have hc : (Instr.checkKey es.isEmpty 10000 9 (.string s)).run Tryd.prog w = .ok () w := MapKept.run_checkKey (k := .string s) Tryd.underlying9 (by simp [MapKept.IsKey]) _ 9999
  have hz : (zeroValue 51).run Tryd.prog w = .ok .nilFunc w := by kernel_rfl
  cases r with
  | none => simp [Instr.lookup, run_underlying Tryd.underlying52, MapKept.run_getObj_map hb, hc, MapKept.run_findKey Tryd.underlying9 hf, hz, Result.andThen]
  | some x => simp [Instr.lookup, run_underlying Tryd.underlying52, MapKept.run_getObj_map hb, hc, MapKept.run_findKey Tryd.underlying9 hf, hz, Result.andThen]
theorem ins0 (w : World) : (Instr.mapUpdate 52 (.map (some w.heap.size)) (.string ⟨#[112, 97, 115, 115]⟩) (.func (.func 32) #[] #[])).run Tryd.prog (w.alloc (.map #[] 0)) = .ok () (w.alloc (.map es1 1)) := run_ins w es0 0 _ _ (by kernel_rfl)
theorem ins1 (w : World) : (Instr.mapUpdate 52 (.map (some w.heap.size)) (.string ⟨#[108, 111, 115, 116]⟩) (.func (.func 33) #[] #[])).run Tryd.prog (w.alloc (.map es1 1)) = .ok () (w.alloc (.map es2 2)) := run_ins w es1 1 _ _ (by kernel_rfl)
theorem ins2 (w : World) : (Instr.mapUpdate 52 (.map (some w.heap.size)) (.string ⟨#[98, 101, 110, 116]⟩) (.func (.func 34) #[] #[])).run Tryd.prog (w.alloc (.map es2 2)) = .ok () (w.alloc (.map es3 3)) := run_ins w es2 2 _ _ (by kernel_rfl)
theorem ins3 (w : World) : (Instr.mapUpdate 52 (.map (some w.heap.size)) (.string ⟨#[101, 97, 114, 108, 105, 101, 114]⟩) (.func (.func 35) #[] #[])).run Tryd.prog (w.alloc (.map es3 3)) = .ok () (w.alloc (.map es4 4)) := run_ins w es3 3 _ _ (by kernel_rfl)
theorem ins4 (w : World) : (Instr.mapUpdate 52 (.map (some w.heap.size)) (.string ⟨#[109, 97, 100, 101]⟩) (.func (.func 36) #[] #[])).run Tryd.prog (w.alloc (.map es4 4)) = .ok () (w.alloc (.map es5 5)) := run_ins w es4 4 _ _ (by kernel_rfl)
theorem ins5 (w : World) : (Instr.mapUpdate 52 (.map (some w.heap.size)) (.string ⟨#[102, 97, 108, 108]⟩) (.func (.func 37) #[] #[])).run Tryd.prog (w.alloc (.map es5 5)) = .ok () (w.alloc (.map es6 6)) := run_ins w es5 5 _ _ (by kernel_rfl)
theorem ins6 (w : World) : (Instr.mapUpdate 52 (.map (some w.heap.size)) (.string ⟨#[114, 105, 115, 101]⟩) (.func (.func 38) #[] #[])).run Tryd.prog (w.alloc (.map es6 6)) = .ok () (w.alloc (.map es7 7)) := run_ins w es6 6 _ _ (by kernel_rfl)
theorem ins7 (w : World) : (Instr.mapUpdate 52 (.map (some w.heap.size)) (.string ⟨#[105, 110, 112, 117, 116]⟩) (.func (.func 39) #[] #[])).run Tryd.prog (w.alloc (.map es7 7)) = .ok () (w.alloc (.map es8 8)) := run_ins w es7 7 _ _ (by kernel_rfl)
theorem find8 (s : ByteArray) : Instr.findNow .string (.string s) es8.toList 0 = if s = wPass then some (some (0, .func (.func 32) #[] #[])) else if s = wLost then some (some (1, .func (.func 33) #[] #[])) else if s = wBent then some (some (2, .func (.func 34) #[] #[])) else if s = wEarlier then some (some (3, .func (.func 35) #[] #[])) else if s = wMade then some (some (4, .func (.func 36) #[] #[])) else if s = wFall then some (some (5, .func (.func 37) #[] #[])) else if s = wRise then some (some (6, .func (.func 38) #[] #[])) else if s = wInput then some (some (7, .func (.func 39) #[] #[])) else some none := by
  simp only [es8, Instr.findNow, Instr.sameNow, bbeq, wPass, wLost, wBent, wEarlier, wMade, wFall, wRise, wInput]
  repeat' split
  all_goals simp_all
end Go.Proofs.YthnknchacjmmeaaDoor
