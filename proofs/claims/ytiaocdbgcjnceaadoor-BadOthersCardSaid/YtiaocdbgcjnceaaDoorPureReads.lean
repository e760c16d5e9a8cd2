/- BadReads as printed answers true. -/
import Derived.Test.YtiaocdbgcjnceaaDoorReadM
import Derived.Test.YtiaocdbgcjnceaaDoorPGReadx
namespace Go.Proofs.YtiaocdbgcjnceaaDoor
open Go.RowKit Go.Proofs.YtiaocdbgcjnceaaDoorW.PrintWords

theorem cut_f (a : ByteArray) : ∃ b, PGBad.platenlaw10_cut.f a = some b ∧ b.size ≤ 1000 := by
  unfold PGBad.platenlaw10_cut.f
  by_cases h : (a.size : Int) > 1000
  · rw [if_pos h, if_pos (by omega), if_pos (by omega)]
    exact ⟨_, rfl, by rw [Lib.size_eq, Lib.extract_data]; simp; omega⟩
  · rw [if_neg h]
    exact ⟨a, rfl, by omega⟩

theorem lives_10 : PGBad.platenlaw10_lives.f 10 = some true := by decide +kernel
theorem lives_f (k : Nat) : PGBad.platenlaw10_lives.f (k + 10) = some true :=
  at_rounds (fun k => PGBad.platenlaw10_lives.mono k) (Nat.le_add_left 10 k) lives_10

theorem reads_pure (a : ByteArray) : PGRead.platenlaw10_BadReads.f 2000 a = some true := by
  obtain ⟨b, hb, hs⟩ := cut_f a
  unfold PGRead.platenlaw10_BadReads.f
  rw [hb]
  simp only [Option.bind_some]
  rw [show bad_Read.f b = some (readB b) by unfold bad_Read.f; rw [if_pos (by omega)], ref_read b hs]
  simp only [Option.bind_some, if_true]
  exact congrArg (fun o : Option Bool => o.bind fun t => some t) (lives_f 1990)

theorem lawReads.lawC (a : ByteArray) (W : World) (hok : Ok W) (_h : a.size ≤ 140737488351232) : Calls Tryd.prog 4 #[.string a] W fun e w' => e = .returned (.bool true) ∧ Below W.heap.size W w' :=
  PGRead.platenlaw10_BadReads.calls 2000 a true W ⟨hok⟩ (reads_pure a)
end Go.Proofs.YtiaocdbgcjnceaaDoor
