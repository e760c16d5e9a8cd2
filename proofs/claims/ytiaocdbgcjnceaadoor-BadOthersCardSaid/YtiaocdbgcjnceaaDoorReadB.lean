/- bad.Read answers readB. -/
import Derived.Test.YtiaocdbgcjnceaaDoorRead
namespace Go.Proofs.YtiaocdbgcjnceaaDoor
open Go.RowKit Go.Proofs.YtiaocdbgcjnceaaDoorW.PrintWords

/-- What bad.Read answers. -/
def readB (s : ByteArray) : Int × Int × ByteArray :=
  readV (Lib.hasPrefix s.data.toList [37, 33]) (Lib.hasPrefix (Lib.trimPrefix s.data.toList [37, 33]) [40])
    (Lib.hasPrefix (Lib.trimPrefix (Lib.trimPrefix s.data.toList [37, 33]) [40]) [40])
    (Lib.hasSuffix (Lib.trimPrefix (Lib.trimPrefix s.data.toList [37, 33]) [40]) [41])
    (Lib.hasPrefix ((Lib.trimPrefix s.data.toList [37, 33]).drop (decB (T (Lib.trimPrefix s.data.toList [37, 33]))).2) [40])
    (Lib.hasSuffix (Lib.trimPrefix ((Lib.trimPrefix s.data.toList [37, 33]).drop (decB (T (Lib.trimPrefix s.data.toList [37, 33]))).2) [40]) [41])
    (bareL (Lib.trimSuffix (Lib.trimPrefix (Lib.trimPrefix s.data.toList [37, 33]) [40]) [41]))
    (verbedL (Lib.trimSuffix (Lib.trimPrefix ((Lib.trimPrefix s.data.toList [37, 33]).drop (decB (T (Lib.trimPrefix s.data.toList [37, 33]))).2) [40]) [41]))
    (decB (T (Lib.trimPrefix s.data.toList [37, 33]))).1 (decB (T (Lib.trimPrefix s.data.toList [37, 33]))).2
    (T (Lib.trimSuffix (Lib.trimPrefix (Lib.trimPrefix s.data.toList [37, 33]) [40]) [41]))
    (T (Lib.trimSuffix (Lib.trimPrefix ((Lib.trimPrefix s.data.toList [37, 33]).drop (decB (T (Lib.trimPrefix s.data.toList [37, 33]))).2) [40]) [41]))

theorem Read (s : ByteArray) (hs : s.size ≤ 100000) : Gives 14 #[.string s] (.tuple #[.int .i64 (readB s).1, .int .i32 (readB s).2.1, .string (readB s).2.2]) := by
  intro w0 w hok hb
  have l1 := trimP_le s.data.toList [37, 33]
  rw [Lib.size_eq] at hs
  unfold readB
  have C1 := CutPrefix s ⟨#[37, 33]⟩
  simp only [] at C1
  generalize Lib.trimPrefix s.data.toList [37, 33] = rest at *
  have l2 := trimP_le rest [40]
  have l3 := trimP_le (rest.drop (decB (T rest)).2) [40]
  have l4 : (rest.drop (decB (T rest)).2).length ≤ rest.length := by simp
  have l5 := trimS_le (Lib.trimPrefix (rest.drop (decB (T rest)).2) [40]) [41]
  have hn := decB_le (T rest)
  have ex : ((T rest).extract (decB (T rest)).2 (T rest).size).data.toList = rest.drop (decB (T rest)).2 := Lib.extract_to_end _ _
  have C7 := CutPrefix ((T rest).extract (decB (T rest)).2 (T rest).size) ⟨#[40]⟩
  rw [ex] at C7
  refine read_core s (T rest) (T (Lib.trimPrefix rest [40])) _ (T (Lib.trimPrefix (rest.drop (decB (T rest)).2) [40])) _ _ _ _ _ _ _ _ _ _ _ hn (Lib.hid C1) (Lib.hid (CutPrefix _ _)) (Lib.hid (HasPrefix _ _)) (Lib.hid (CutSuffix _ _ ?_)) (Lib.hid (bare _)) (Lib.hid (buf_Decode _)) (Lib.hid C7) (Lib.hid (CutSuffix _ _ ?_)) (Lib.hid (verbed _ ?_)) w0 w hok hb
  all_goals first | (rw [T_size]; omega) | (rw [T_size]; exact Nat.le_trans l5 (by omega))
end Go.Proofs.YtiaocdbgcjnceaaDoor
