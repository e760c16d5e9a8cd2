/- What the walks ask of a world, and what a call that only makes memory gives back. -/
import Derived.Test.YtiaocdbgcjnceaaDoorShelf
import Derived.Test.YtiaocdbgcjnceaaDoorChecked
import Derived.WalkKit
import Derived.WalkLawsBesides
import Derived.Lib.Hide
import Derived.Deep.Light
namespace Go.Proofs.YtiaocdbgcjnceaaDoor
open Go.RowKit

/-- The library's variables that the code reads, as they are laid. -/
structure Ok (w : World) : Prop where
  tabs : Lib.Utf8Tabs 0 1 w
  max : ∃ m, w.cell? ⟨2, 0, none⟩ = some (.int .i64 m)

/-- Nothing that was there in w0 has turned. -/
def Bel (w0 w : World) : Prop := Below w0.heap.size w0 w
theorem Bel.refl (w : World) : Bel w w := Below.refl _ _
theorem Bel.step {w0 w w1 : World} (h : Bel w0 w) (k : Below w.heap.size w w1) : Bel w0 w1 := Below.trans h (k.mono (Below.size h))
theorem Bel.alloc {w0 w : World} (h : Bel w0 w) (o : Obj) : Bel w0 (w.alloc o) := Below.alloc h (Below.size h) o
theorem Bel.drew {w0 w : World} (h : Bel w0 w) : Bel w0 w.drew := Below.drew h
theorem Bel.drewN {w0 w : World} (h : Bel w0 w) (n : Nat) : Bel w0 (w.drewN n) := below_drewN h n
theorem Bel.setCell {w0 w : World} (h : Bel w0 w) {p : Addr} (hp : w0.heap.size ≤ p.block) (v : Value) : Bel w0 (w.setCell p v) := Below.setCell h hp v

theorem lt_of_cell {w : World} {b o : Nat} {v : Value} (h : w.cell? ⟨b, o, none⟩ = some v) : b < w.heap.size := by
  refine Decidable.byContradiction fun hb => ?_
  simp [World.cell?, Array.getElem?_eq_none (by omega : w.heap.size ≤ b)] at h
theorem Ok.bel {w0 w : World} (h : Ok w0) (hb : Bel w0 w) : Ok w := by
  refine ⟨Utf8Tabs_below h.tabs hb, ?_⟩
  obtain ⟨m, hm⟩ := h.max
  exact ⟨m, (Below.cell hb (by exact lt_of_cell hm)).trans hm⟩

/-- A CALL THAT RETURNS v, AND ONLY MAKES MEMORY. -/
def Gives (f : Nat) (args : Array Value) (v : Value) : Prop :=
  ∀ w0 w, Ok w0 → Bel w0 w → Calls Tryd.prog f args w fun e w' => e = .returned v ∧ Bel w0 w'
theorem Gives.on {f : Nat} {args : Array Value} {v : Value} (h : Gives f args v) (w0 w : World) (hok : Ok w0) (hb : Bel w0 w) : Calls Tryd.prog f args w fun e w' => e = .returned v ∧ Bel w0 w' := h w0 w hok hb
theorem Gives.of {f : Nat} {args : Array Value} {v : Value} (h : ∀ w, Ok w → Calls Tryd.prog f args w fun e w' => e = .returned v ∧ Bel w w') : Gives f args v :=
  fun _ w hok hb => (h w (hok.bel hb)).mono fun _ _ ⟨he, hw⟩ => ⟨he, hb.step hw⟩
/-- From a contract that leaves the world alone. -/
theorem Gives.same {f : Nat} {args : Array Value} {v : Value} (h : ∀ w, Ok w → Calls Tryd.prog f args w fun e w' => e = .returned v ∧ w' = w) : Gives f args v :=
  fun _ w hok hb => (h w (hok.bel hb)).mono fun _ _ ⟨he, hw⟩ => ⟨he, hw ▸ hb⟩
theorem Gives.below {f : Nat} {args : Array Value} {v : Value} (h : ∀ w, Ok w → Calls Tryd.prog f args w fun e w' => e = .returned v ∧ Below w.heap.size w w') : Gives f args v := Gives.of h

/-! ### the library's functions -/
theorem Join_none (a : Option Addr) (c : Nat) (sep : ByteArray) : Gives 31 #[.slice a 0 c, .string sep] (.string ⟨#[]⟩) :=
  Gives.same fun w _ => Tryd.strings_Join_none a c sep w
theorem CutPrefix (s p : ByteArray) : Gives 32 #[.string s, .string p] (.tuple #[.string ⟨(Lib.trimPrefix s.data.toList p.data.toList).toArray⟩, .bool (Lib.hasPrefix s.data.toList p.data.toList)]) :=
  Gives.same fun w _ => Tryd.strings_CutPrefix s p w
theorem CutSuffix (s p : ByteArray) (hs : s.size ≤ 9223372036854775807) : Gives 34 #[.string s, .string p] (.tuple #[.string ⟨(Lib.trimSuffix s.data.toList p.data.toList).toArray⟩, .bool (Lib.hasSuffix s.data.toList p.data.toList)]) :=
  Gives.same fun w _ => Tryd.strings_CutSuffix s p w hs
theorem HasPrefix (s p : ByteArray) : Gives 33 #[.string s, .string p] (.bool (Lib.hasPrefix s.data.toList p.data.toList)) :=
  Gives.same fun w _ => Tryd.strings_HasPrefix s p w
theorem Contains (s sub : ByteArray) (hs : s.size < 4294967281) : Gives 50 #[.string s, .string sub] (.bool (Lib.contains s.data.toList sub.data.toList)) :=
  Gives.same fun w hok => by obtain ⟨m, hm⟩ := hok.max; exact Tryd.strings_Contains s sub m w hs hm
theorem DecodeRuneInString (s : ByteArray) : Gives 49 #[.string s] (.tuple #[.int .i32 (Lib.decodeGo s).1, .int .i64 (Lib.decodeGo s).2]) :=
  Gives.below fun w hok => Tryd.utf8_DecodeRuneInString s w hok.tabs

/-! ### package buf -/
theorem buf_Rune (c : Int) : Gives 41 #[.int .i32 c] (.string (Utf8.encode c)) := by
  intro w0 w hok hb
  go_enter Tryd.func41, Tryd.ntmps41
  go_wp2
  go_ret
  exact ⟨rfl, hb⟩

/-- buf.Decode: (0, 0) of the empty text, else the model's own. -/
def decB (s : ByteArray) : Nat × Nat := if s.size = 0 then (0, 0) else Utf8.decode s 0
theorem buf_Decode (s : ByteArray) : Gives 36 #[.string s] (.tuple #[.int .i32 (decB s).1, .int .i64 (decB s).2]) := by
  intro w0 w hok hb
  by_cases h : s.toList = []
  · have h0 : s.size = 0 := by rw [Lib.size_eq, ← Lib.toList_data, h]; rfl
    rw [decB, if_pos h0]
    clear h0
    go_enter Tryd.func36, Tryd.ntmps36
    go_wp2
    go_ret2
    exact ⟨rfl, hb⟩
  · have h0 : ¬ s.size = 0 := fun e => h (by rw [Lib.toList_data]; exact List.length_eq_zero_iff.1 (by rw [← Lib.size_eq]; exact e))
    have e : decB s = Lib.decodeGo s := by rw [decB, Lib.decodeGo, if_neg h0, if_neg h0]
    rw [e]
    have h2 : s.toList.isEmpty = false := by simpa using h
    clear h0 e
    go_enter Tryd.func36, Tryd.ntmps36
    go_wp2_with (go_at_call 49; refine (DecodeRuneInString _ w0 _ hok hb).mono ?_; rintro e w1 ⟨rfl, hb1⟩)
    go_ret2
    exact ⟨rfl, hb1⟩
end Go.Proofs.YtiaocdbgcjnceaaDoor
