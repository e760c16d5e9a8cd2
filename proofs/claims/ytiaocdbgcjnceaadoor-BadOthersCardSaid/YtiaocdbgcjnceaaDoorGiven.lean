/- Contracts proved by hand, in the print's own form. -/
import Derived.Test.YtiaocdbgcjnceaaDoorReadB
import Derived.Test.YtiaocdbgcjnceaaDoorWWords
namespace Go.Proofs.YtiaocdbgcjnceaaDoor
open Go.RowKit Go.Proofs.YtiaocdbgcjnceaaDoorW.PrintWords

theorem Ok.later {w w' : World} (h : Ok w) (hb : Below w.heap.size w w') : Ok w' := h.bel hb
theorem Ok.drewN {w : World} (h : Ok w) (n : Nat) : Ok (w.drewN n) := h.bel ((Bel.refl w).drewN n)

/-- From 'Gives' to the print's form. -/
theorem Gives.made {f : Nat} {args : Array Value} {v : Value} (h : Gives f args v) {w : World} (hok : Ok w) : Calls Tryd.prog f args w fun e w' => e = .returned v ∧ Below w.heap.size w w' := h w w hok (Bel.refl w)

def buf_Rune.f (a0 : Int) : Option ByteArray := some (T (enc a0))
theorem buf_Rune.calls (a0 : Int) (r : ByteArray) (w : World) (h : buf_Rune.f a0 = some r) : Calls Tryd.prog 41 #[.int .i32 a0] w fun e w' => e = .returned (.string r) ∧ Drawn0 w w' := by
  obtain rfl := Option.some.inj h
  have e : T (enc a0) = Utf8.encode a0 := (encode_enc a0).symm
  rw [e]
  go_enter Tryd.func41, Tryd.ntmps41
  go_wp2
  go_ret
  exact ⟨rfl, Drawn0.refl _⟩

theorem cell_of_C {w : World} {A : Option Addr} {xs : List ByteArray} (h : Kd.C Kd.string w A xs.length xs) (h0 : 0 < xs.length) :
    ∃ b o, A = some ⟨b, o, none⟩ ∧ ∀ (j : Nat) x, xs[j]? = some x → w.cell? ⟨b, o + j, none⟩ = some (.string x) := by
  obtain ⟨⟨b, o, sp⟩, hA, hc⟩ := Kd.at_string h 0 (by omega) (by omega)
  have hsp : sp = none := by
    cases sp with
    | none => rfl
    | some z => simp [Addr.add, World.cell?] at hc; split at hc <;> simp at hc
  subst hsp
  refine ⟨b, o, hA, fun j x hj => ?_⟩
  have hlt : j < xs.length := by
    refine Decidable.byContradiction fun e => ?_
    rw [List.getElem?_eq_none (by omega)] at hj; cases hj
  obtain ⟨ad, hA2, hc2⟩ := Kd.at_string h (j : Int) (by omega) (by omega)
  rw [hA] at hA2
  obtain rfl := (Option.some.inj hA2).symm
  rw [show rdOf ByteArray.empty xs (j : Int) = x by simp [rdOf, List.getD, hj]] at hc2
  rw [Int.toNat_natCast, Addr.add_lit] at hc2
  exact hc2

def strings_Join.f (l0 : List ByteArray) (a1 : ByteArray) : Option ByteArray :=
  if l0.length ≤ 140737488355328 ∧ (Lib.join (l0.map fun x => x.data.toList) a1.data.toList).length ≤ 140737488355328 then some (T (Lib.join (l0.map fun x => x.data.toList) a1.data.toList)) else none
theorem strings_Join.calls (A0 : Option Addr) (c0 : Nat) (l0 : List ByteArray) (a1 : ByteArray) (r : ByteArray) (w : World) (hr0 : Kd.C Kd.string w A0 l0.length l0) (hc0 : l0.length ≤ c0) (h : strings_Join.f l0 a1 = some r) :
    Calls Tryd.prog 31 #[.slice A0 l0.length c0, .string a1] w fun e w' => e = .returned (.string r) ∧ Below w.heap.size w w' := by
  unfold strings_Join.f at h
  split at h
  · rename_i hs
    obtain rfl := Option.some.inj h
    cases l0 with
    | nil => exact (Tryd.strings_Join_none A0 c0 a1 w).mono fun e w' ⟨he, hw⟩ => ⟨he, hw ▸ Below.refl _ _⟩
    | cons x l =>
      obtain ⟨b, o, rfl, hc⟩ := cell_of_C hr0 (by simp)
      exact Tryd.strings_Join b o c0 (x :: l) a1 w hc (lt_of_cell (hc 0 x rfl)) hs.1 hc0 hs.2
  · cases h

def strings_CutPrefix.f (a0 a1 : ByteArray) : Option (ByteArray × Bool) := some (T (Lib.trimPrefix a0.data.toList a1.data.toList), Lib.hasPrefix a0.data.toList a1.data.toList)
theorem strings_CutPrefix.calls (a0 : ByteArray) (a1 : ByteArray) (r1 : ByteArray) (r2 : Bool) (w : World) (h : strings_CutPrefix.f a0 a1 = some (r1, r2)) :
    Calls Tryd.prog 32 #[.string a0, .string a1] w fun e w' => e = .returned (.tuple #[.string r1, .bool r2]) ∧ Drawn0 w w' := by
  simp only [strings_CutPrefix.f, Option.some.injEq, Prod.mk.injEq] at h
  obtain ⟨rfl, rfl⟩ := h
  exact (Tryd.strings_CutPrefix a0 a1 w).mono fun e w' ⟨he, hw⟩ => ⟨he, hw ▸ Drawn0.refl _⟩
def strings_CutSuffix.f (a0 a1 : ByteArray) : Option (ByteArray × Bool) := if a0.size ≤ 140737488355328 then some (T (Lib.trimSuffix a0.data.toList a1.data.toList), Lib.hasSuffix a0.data.toList a1.data.toList) else none
theorem strings_CutSuffix.calls (a0 : ByteArray) (a1 : ByteArray) (r1 : ByteArray) (r2 : Bool) (w : World) (h : strings_CutSuffix.f a0 a1 = some (r1, r2)) :
    Calls Tryd.prog 34 #[.string a0, .string a1] w fun e w' => e = .returned (.tuple #[.string r1, .bool r2]) ∧ Drawn0 w w' := by
  unfold strings_CutSuffix.f at h
  split at h
  · simp only [Option.some.injEq, Prod.mk.injEq] at h
    obtain ⟨rfl, rfl⟩ := h
    exact (Tryd.strings_CutSuffix a0 a1 w (by omega)).mono fun e w' ⟨he, hw⟩ => ⟨he, hw ▸ Drawn0.refl _⟩
  · cases h
def strings_HasPrefix.f (a0 a1 : ByteArray) : Option Bool := some (Lib.hasPrefix a0.data.toList a1.data.toList)
theorem strings_HasPrefix.calls (a0 : ByteArray) (a1 : ByteArray) (r : Bool) (w : World) (h : strings_HasPrefix.f a0 a1 = some r) :
    Calls Tryd.prog 33 #[.string a0, .string a1] w fun e w' => e = .returned (.bool r) ∧ Drawn0 w w' := by
  obtain rfl := Option.some.inj h
  exact (Tryd.strings_HasPrefix a0 a1 w).mono fun e w' ⟨he, hw⟩ => ⟨he, hw ▸ Drawn0.refl _⟩
def strings_Contains.f (a0 a1 : ByteArray) : Option Bool := if a0.size < 4294967281 then some (Lib.contains a0.data.toList a1.data.toList) else none
theorem strings_Contains.calls (a0 : ByteArray) (a1 : ByteArray) (r : Bool) (w : World) (hOK : Ok w) (h : strings_Contains.f a0 a1 = some r) :
    Calls Tryd.prog 50 #[.string a0, .string a1] w fun e w' => e = .returned (.bool r) ∧ Drawn0 w w' := by
  unfold strings_Contains.f at h
  split at h
  · rename_i hs
    obtain rfl := Option.some.inj h
    obtain ⟨m, hm⟩ := hOK.max
    exact (Tryd.strings_Contains a0 a1 m w hs hm).mono fun e w' ⟨he, hw⟩ => ⟨he, hw ▸ Drawn0.refl _⟩
  · cases h
def buf_Decode.f (a0 : ByteArray) : Option (Int × Int) := some ((decB a0).1, (decB a0).2)
theorem buf_Decode.calls (a0 : ByteArray) (r1 : Int) (r2 : Int) (w : World) (hOK : Ok w) (h : buf_Decode.f a0 = some (r1, r2)) :
    Calls Tryd.prog 36 #[.string a0] w fun e w' => e = .returned (.tuple #[.int .i32 r1, .int .i64 r2]) ∧ Below w.heap.size w w' := by
  simp only [buf_Decode.f, Option.some.injEq, Prod.mk.injEq] at h
  obtain ⟨rfl, rfl⟩ := h
  exact (buf_Decode a0).made hOK
def bad_Read.f (a0 : ByteArray) : Option (Int × Int × ByteArray) := if a0.size ≤ 100000 then some (readB a0) else none
theorem bad_Read.calls (a0 : ByteArray) (r1 : Int) (r2 : Int) (r3 : ByteArray) (w : World) (hOK : Ok w) (h : bad_Read.f a0 = some (r1, r2, r3)) :
    Calls Tryd.prog 14 #[.string a0] w fun e w' => e = .returned (.tuple #[.int .i64 r1, .int .i32 r2, .string r3]) ∧ Below w.heap.size w w' := by
  unfold bad_Read.f at h
  split at h
  · rename_i hs
    have e := Option.some.inj h
    have := (Read a0 hs).made hOK
    rw [e] at this
    exact this
  · cases h

def bad_Nil.f (a0 : Int) : Option ByteArray := some (wrapB (enc a0) [60, 110, 105, 108, 62])
theorem bad_Nil.calls (a0 : Int) (r : ByteArray) (w : World) (hOK : Ok w) (h : bad_Nil.f a0 = some r) : Calls Tryd.prog 22 #[.int .i32 a0] w fun e w' => e = .returned (.string r) ∧ Below w.heap.size w w' := by
  obtain rfl := Option.some.inj h
  exact (Nil a0).made hOK

def bad_Missing.f (a0 : Int) : Option ByteArray := some (wrapB (enc a0) [77, 73, 83, 83, 73, 78, 71])
theorem bad_Missing.calls (a0 : Int) (r : ByteArray) (w : World) (hOK : Ok w) (h : bad_Missing.f a0 = some r) : Calls Tryd.prog 24 #[.int .i32 a0] w fun e w' => e = .returned (.string r) ∧ Below w.heap.size w w' := by
  obtain rfl := Option.some.inj h
  exact (Missing a0).made hOK

def bad_Index.f (a0 : Int) : Option ByteArray := some (wrapB (enc a0) [66, 65, 68, 73, 78, 68, 69, 88])
theorem bad_Index.calls (a0 : Int) (r : ByteArray) (w : World) (hOK : Ok w) (h : bad_Index.f a0 = some r) : Calls Tryd.prog 26 #[.int .i32 a0] w fun e w' => e = .returned (.string r) ∧ Below w.heap.size w w' := by
  obtain rfl := Option.some.inj h
  exact (Index a0).made hOK

def bad_Open.f : Option ByteArray := some (wrapB [] [78, 79, 86, 69, 82, 66])
theorem bad_Open.calls (r : ByteArray) (w : World) (hOK : Ok w) (h : bad_Open.f = some r) : Calls Tryd.prog 17 #[] w fun e w' => e = .returned (.string r) ∧ Below w.heap.size w w' := by
  obtain rfl := Option.some.inj h
  exact Open.made hOK

def bad_Width.f : Option ByteArray := some (wrapB [] [66, 65, 68, 87, 73, 68, 84, 72])
theorem bad_Width.calls (r : ByteArray) (w : World) (hOK : Ok w) (h : bad_Width.f = some r) : Calls Tryd.prog 18 #[] w fun e w' => e = .returned (.string r) ∧ Below w.heap.size w w' := by
  obtain rfl := Option.some.inj h
  exact Width.made hOK

def bad_Prec.f : Option ByteArray := some (wrapB [] [66, 65, 68, 80, 82, 69, 67])
theorem bad_Prec.calls (r : ByteArray) (w : World) (hOK : Ok w) (h : bad_Prec.f = some r) : Calls Tryd.prog 19 #[] w fun e w' => e = .returned (.string r) ∧ Below w.heap.size w w' := by
  obtain rfl := Option.some.inj h
  exact Prec.made hOK

def bad_Depth.f : Option ByteArray := some (wrapB [] [68, 69, 80, 84, 72])
theorem bad_Depth.calls (r : ByteArray) (w : World) (hOK : Ok w) (h : bad_Depth.f = some r) : Calls Tryd.prog 20 #[] w fun e w' => e = .returned (.string r) ∧ Below w.heap.size w w' := by
  obtain rfl := Option.some.inj h
  exact Depth.made hOK

def bad_Verb.f (a0 : Int) (a1 a2 : ByteArray) : Option ByteArray := if a1.size ≤ 100000 ∧ a2.size ≤ 100000 then some (wrapB (enc a0) (a1.data.toList ++ (61 :: a2.data.toList))) else none
theorem bad_Verb.calls (a0 : Int) (a1 : ByteArray) (a2 : ByteArray) (r : ByteArray) (w : World) (hOK : Ok w) (h : bad_Verb.f a0 a1 a2 = some r) : Calls Tryd.prog 16 #[.int .i32 a0, .string a1, .string a2] w fun e w' => e = .returned (.string r) ∧ Below w.heap.size w w' := by
  unfold bad_Verb.f at h
  split at h
  · rename_i hs
    obtain rfl := Option.some.inj h
    exact (Verb a0 a1 a2 hs.1 hs.2).made hOK
  · cases h

def bad_Panic.f (a0 : Int) (a1 a2 : ByteArray) : Option ByteArray := if a1.size ≤ 100000 ∧ a2.size ≤ 100000 then some (wrapB (enc a0) ([80, 65, 78, 73, 67, 61] ++ (a1.data.toList ++ ([32, 109, 101, 116, 104, 111, 100, 58, 32] ++ a2.data.toList)))) else none
theorem bad_Panic.calls (a0 : Int) (a1 : ByteArray) (a2 : ByteArray) (r : ByteArray) (w : World) (hOK : Ok w) (h : bad_Panic.f a0 a1 a2 = some r) : Calls Tryd.prog 28 #[.int .i32 a0, .string a1, .string a2] w fun e w' => e = .returned (.string r) ∧ Below w.heap.size w w' := by
  unfold bad_Panic.f at h
  split at h
  · rename_i hs
    obtain rfl := Option.some.inj h
    exact (Panic a0 a1 a2 hs.1 hs.2).made hOK
  · cases h

def bad_inside.f (a0 : ByteArray) (l1 : List ByteArray) : Option ByteArray :=
  if a0.size ≤ 100 ∧ l1.length ≤ 1000 ∧ (Lib.join (l1.map fun x => x.data.toList) []).length ≤ 1000000 ∧ l1 ≠ [] then some (wrapB a0.data.toList (Lib.join (l1.map fun x => x.data.toList) [])) else none
theorem bad_inside.calls (a0 : ByteArray) (A1 : Option Addr) (c1 : Nat) (l1 : List ByteArray) (r : ByteArray) (w : World) (hOK : Ok w) (hr1 : Kd.C Kd.string w A1 l1.length l1) (hc1 : l1.length ≤ c1) (h : bad_inside.f a0 l1 = some r) :
    Calls Tryd.prog 30 #[.string a0, .slice A1 l1.length c1] w fun e w' => e = .returned (.string r) ∧ Below w.heap.size w w' := by
  unfold bad_inside.f at h
  split at h
  · rename_i hs
    obtain rfl := Option.some.inj h
    obtain ⟨b, o, rfl, hc⟩ := cell_of_C hr1 (List.length_pos_iff.2 hs.2.2.2)
    cases l1 with
    | nil => exact absurd rfl hs.2.2.2
    | cons x l => exact inside w w hOK (Bel.refl w) a0 b o c1 (x :: l) hc (lt_of_cell (hc 0 x rfl)) hs.2.1 hc1 hs.1 hs.2.2.1
  · cases h
end Go.Proofs.YtiaocdbgcjnceaaDoor
