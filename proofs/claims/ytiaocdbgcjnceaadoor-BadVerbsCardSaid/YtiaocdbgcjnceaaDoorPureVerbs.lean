/- BadVerbs as printed answers true. -/
import Derived.Test.YtiaocdbgcjnceaaDoorPureReads
import Derived.Test.YtiaocdbgcjnceaaDoorPGVerbx
namespace Go.Proofs.YtiaocdbgcjnceaaDoor
open Go.RowKit Go.Proofs.YtiaocdbgcjnceaaDoorW.PrintWords

theorem encT_size (c : Int) : (T (enc c)).size ≤ 4 := by rw [T_size]; exact (enc_length c).2
theorem mk_size (l : Array UInt8) : (ByteArray.mk l).size = l.size := rfl
theorem refVerb (k : Nat) (c : Int) (a b : ByteArray) (ha : a.size ≤ 1000) (hb : b.size ≤ 1000) :
    PGVerb.platenref10_Verb.f (k + 1) c a b = some (wrapB (enc c) (a.data.toList ++ (61 :: b.data.toList))) := by
  unfold PGVerb.platenref10_Verb.f
  rw [rune_f]
  simp only [Option.bind_some, ByteArray.size_append, mk_size, List.size_toArray, List.length_cons, List.length_nil]
  have := enc_length c
  rw [if_pos (by omega), if_pos (by omega), if_pos (by omega), if_pos (by omega), if_pos (by omega), if_pos (by omega)]
  exact congrArg some (bytes_ext (by simp [wrapB, Joins.data_append]))
theorem refNil (k : Nat) (c : Int) : PGVerb.platenref10_Nil.f (k + 1) c = some (wrapB (enc c) [60, 110, 105, 108, 62]) := by
  unfold PGVerb.platenref10_Nil.f
  rw [rune_f]
  simp only [Option.bind_some, ByteArray.size_append, mk_size, List.size_toArray, List.length_cons, List.length_nil]
  have := enc_length c
  rw [if_pos (by omega), if_pos (by omega)]
  exact congrArg some (bytes_ext (by simp [wrapB, Joins.data_append]))
theorem refMissing (k : Nat) (c : Int) : PGVerb.platenref10_Missing.f (k + 1) c = some (wrapB (enc c) [77, 73, 83, 83, 73, 78, 71]) := by
  unfold PGVerb.platenref10_Missing.f
  rw [rune_f]
  simp only [Option.bind_some, ByteArray.size_append, mk_size, List.size_toArray, List.length_cons, List.length_nil]
  have := enc_length c
  rw [if_pos (by omega), if_pos (by omega)]
  exact congrArg some (bytes_ext (by simp [wrapB, Joins.data_append]))
theorem refIndex (k : Nat) (c : Int) : PGVerb.platenref10_Index.f (k + 1) c = some (wrapB (enc c) [66, 65, 68, 73, 78, 68, 69, 88]) := by
  unfold PGVerb.platenref10_Index.f
  rw [rune_f]
  simp only [Option.bind_some, ByteArray.size_append, mk_size, List.size_toArray, List.length_cons, List.length_nil]
  have := enc_length c
  rw [if_pos (by omega), if_pos (by omega)]
  exact congrArg some (bytes_ext (by simp [wrapB, Joins.data_append]))
theorem refPanic (k : Nat) (c : Int) (a b : ByteArray) (ha : a.size ≤ 1000) (hb : b.size ≤ 1000) :
    PGVerb.platenref10_Panic.f (k + 1) c a b = some (wrapB (enc c) ([80, 65, 78, 73, 67, 61] ++ (a.data.toList ++ ([32, 109, 101, 116, 104, 111, 100, 58, 32] ++ b.data.toList)))) := by
  unfold PGVerb.platenref10_Panic.f
  rw [rune_f]
  simp only [Option.bind_some, ByteArray.size_append, mk_size, List.size_toArray, List.length_cons, List.length_nil]
  have := enc_length c
  rw [if_pos (by omega), if_pos (by omega), if_pos (by omega), if_pos (by omega), if_pos (by omega), if_pos (by omega)]
  exact congrArg some (bytes_ext (by simp [wrapB, Joins.data_append]))

theorem verbs_pure (c : Int) (x y : ByteArray) : PGVerb.platenlaw10_BadVerbs.f 200 c x y = some true := by
  obtain ⟨a, ha, hsa⟩ := cut_f x
  obtain ⟨b, hb, hsb⟩ := cut_f y
  unfold PGVerb.platenlaw10_BadVerbs.f
  rw [ha, hb]
  simp only [Option.bind_some]
  have e1 : bad_Verb.f c a b = some (wrapB (enc c) (a.data.toList ++ (61 :: b.data.toList))) := by unfold bad_Verb.f; rw [if_pos ⟨by omega, by omega⟩]
  have e2 : bad_Panic.f c a b = some (wrapB (enc c) ([80, 65, 78, 73, 67, 61] ++ (a.data.toList ++ ([32, 109, 101, 116, 104, 111, 100, 58, 32] ++ b.data.toList)))) := by unfold bad_Panic.f; rw [if_pos ⟨by omega, by omega⟩]
  rw [e1, e2, refVerb 199 c a b hsa hsb, refNil 199 c, refMissing 199 c, refIndex 199 c, refPanic 199 c a b hsa hsb]
  simp only [Option.bind_some, if_true, bad_Nil.f, bad_Missing.f, bad_Index.f]
  exact congrArg (fun o : Option Bool => o.bind fun t => some t) (lives_f 190)

theorem lawBadVerbs.lawC (c : Int) (a b : ByteArray) (W : World) (hok : Ok W) (_h : (Lit.int .i32 c).wf = true) (_h1 : a.size ≤ 140737488351232) (_h2 : b.size ≤ 140737488351232) :
    Calls Tryd.prog 7 #[.int .i32 c, .string a, .string b] W fun e w' => e = .returned (.bool true) ∧ Below W.heap.size W w' :=
  PGVerb.platenlaw10_BadVerbs.calls 200 c a b true W ⟨hok⟩ (verbs_pure c a b)
end Go.Proofs.YtiaocdbgcjnceaaDoor
