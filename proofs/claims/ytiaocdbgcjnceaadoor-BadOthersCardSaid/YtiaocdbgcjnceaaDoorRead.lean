/- bad.Read: what it reads. -/
import Derived.Test.YtiaocdbgcjnceaaDoorBad
namespace Go.Proofs.YtiaocdbgcjnceaaDoor
open Go.RowKit Go.Proofs.YtiaocdbgcjnceaaDoorW.PrintWords

def bareL (l : List UInt8) : Int :=
  if l = [78, 79, 86, 69, 82, 66] then 6 else if l = [66, 65, 68, 87, 73, 68, 84, 72] then 7 else if l = [66, 65, 68, 80, 82, 69, 67] then 8 else if l = [68, 69, 80, 84, 72] then 9
  else if Lib.hasPrefix l [69, 88, 84, 82, 65, 32] then 10 else 0
theorem bare (s : ByteArray) : Gives 35 #[.string s] (.int .i64 (bareL s.data.toList)) := by
  intro w0 w hok hb
  rw [← Lib.toList_data]
  obtain ⟨l, hl⟩ : ∃ l, l = bareL s.toList := ⟨_, rfl⟩
  have HL := Lib.hid hl
  rw [← hl]
  clear hl
  go_enter Tryd.func35, Tryd.ntmps35
  go_wp2_with (go_at_call 33; refine (HasPrefix _ _ w0 _ hok hb).mono ?_; rintro e w1 ⟨rfl, hb1⟩)
  all_goals
    go_ret
    exact ⟨by rw [HL.out]; simp_all [bareL, Lib.toList_data], by assumption⟩

def verbedL (l : List UInt8) : Int :=
  if l = [77, 73, 83, 83, 73, 78, 71] then 3 else if l = [66, 65, 68, 73, 78, 68, 69, 88] then 4 else if l = [60, 110, 105, 108, 62] then 2
  else if Lib.hasPrefix l [80, 65, 78, 73, 67, 61] ∧ Lib.contains l [32, 109, 101, 116, 104, 111, 100, 58, 32] then 5 else if Lib.contains l [61] then 1 else 0
theorem verbed (s : ByteArray) (hs : s.size ≤ 100000) : Gives 37 #[.string s] (.int .i64 (verbedL s.data.toList)) := by
  intro w0 w hok hb
  rw [← Lib.toList_data]
  obtain ⟨l, hl⟩ : ∃ l, l = verbedL s.toList := ⟨_, rfl⟩
  have HL := Lib.hid hl
  rw [← hl]
  clear hl
  go_enter Tryd.func37, Tryd.ntmps37
  go_wp2_with (first | (go_at_call 33; refine (HasPrefix _ _ w0 _ hok (by assumption)).mono ?_; rintro e w1 ⟨rfl, hb1⟩) | (go_at_call 50; refine (Contains _ _ (by omega) w0 _ hok (by assumption)).mono ?_; rintro e w2 ⟨rfl, hb2⟩))
  all_goals
    go_ret
    exact ⟨by rw [HL.out]; simp_all [verbedL, Lib.toList_data], by assumption⟩

/-- A text of a list. -/
abbrev T (l : List UInt8) : ByteArray := ⟨l.toArray⟩
theorem T_size (l : List UInt8) : (T l).size = l.length := by rw [Lib.size_eq]
theorem trimP_le (l p : List UInt8) : (Lib.trimPrefix l p).length ≤ l.length := by unfold Lib.trimPrefix; split <;> simp
theorem trimS_le (l p : List UInt8) : (Lib.trimSuffix l p).length ≤ l.length := by unfold Lib.trimSuffix; split <;> simp

/-- Each width is within the text. -/
theorem decB_le (s : ByteArray) : (decB s).2 ≤ s.size := by
  unfold decB
  split
  · simp
  · rename_i h
    rw [Lib.decode_at]
    unfold Lib.decodeN
    repeat' split
    all_goals simp only []
    all_goals omega

/-- What Read is, told by what its calls give. -/
def readV (h1 h2 h3 h4 h5 h6 : Bool) (k1 k2 c : Int) (n : Nat) (in2 in4 : ByteArray) : Int × Int × ByteArray :=
  if h1 = false then (0, 0, ⟨#[]⟩)
  else if h2 = true ∧ h3 = false then (if h4 = true ∧ k1 ≠ 0 then (k1, 0, in2) else (0, 0, ⟨#[]⟩))
  else if n = 0 ∨ (c = 65533 ∧ (n : Int) = 1) then (0, 0, ⟨#[]⟩)
  else if h5 = true ∧ h6 = true ∧ k2 ≠ 0 then (k2, c, in4) else (0, 0, ⟨#[]⟩)

set_option maxHeartbeats 1000000 in
theorem read_core (s rest in1 in2 in3 in4 : ByteArray) (h1 h2 h3 h4 h5 h6 : Bool) (k1 k2 c : Int) (n : Nat) (hn : n ≤ rest.size)
    (C1 : Hid (Gives 32 #[.string s, .string ⟨#[37, 33]⟩] (.tuple #[.string rest, .bool h1])))
    (C2 : Hid (Gives 32 #[.string rest, .string ⟨#[40]⟩] (.tuple #[.string in1, .bool h2])))
    (C3 : Hid (Gives 33 #[.string in1, .string ⟨#[40]⟩] (.bool h3)))
    (C4 : Hid (Gives 34 #[.string in1, .string ⟨#[41]⟩] (.tuple #[.string in2, .bool h4])))
    (C5 : Hid (Gives 35 #[.string in2] (.int .i64 k1)))
    (C6 : Hid (Gives 36 #[.string rest] (.tuple #[.int .i32 c, .int .i64 n])))
    (C7 : Hid (Gives 32 #[.string (rest.extract n rest.size), .string ⟨#[40]⟩] (.tuple #[.string in3, .bool h5])))
    (C8 : Hid (Gives 34 #[.string in3, .string ⟨#[41]⟩] (.tuple #[.string in4, .bool h6])))
    (C9 : Hid (Gives 37 #[.string in4] (.int .i64 k2)))
    (w0 w : World) (hok : Ok w0) (hb : Bel w0 w) : Calls Tryd.prog 14 #[.string s] w fun e w' => e = .returned (.tuple #[.int .i64 (readV h1 h2 h3 h4 h5 h6 k1 k2 c n in2 in4).1, .int .i32 (readV h1 h2 h3 h4 h5 h6 k1 k2 c n in2 in4).2.1, .string (readV h1 h2 h3 h4 h5 h6 k1 k2 c n in2 in4).2.2]) ∧ Bel w0 w' := by
  obtain ⟨R, hR⟩ : ∃ R, R = readV h1 h2 h3 h4 h5 h6 k1 k2 c n in2 in4 := ⟨_, rfl⟩
  rw [← hR]
  have HR := Lib.hid hR
  clear hR
  go_enter Tryd.func14, Tryd.ntmps14
  go_wp2_with (first
    | (go_at_call 32; (first
      | ((with_reducible refine (C1.out.on w0 _ hok (by assumption)).mono ?_); rintro e w1 ⟨rfl, hb1⟩)
      | ((with_reducible refine (C2.out.on w0 _ hok (by assumption)).mono ?_); rintro e w1 ⟨rfl, hb1⟩)
      | ((with_reducible refine (C7.out.on w0 _ hok (by assumption)).mono ?_); rintro e w1 ⟨rfl, hb1⟩)))
    | (go_at_call 33; (with_reducible refine (C3.out.on w0 _ hok (by assumption)).mono ?_); rintro e w1 ⟨rfl, hb1⟩)
    | (go_at_call 34; (first
      | ((with_reducible refine (C4.out.on w0 _ hok (by assumption)).mono ?_); rintro e w1 ⟨rfl, hb1⟩)
      | ((with_reducible refine (C8.out.on w0 _ hok (by assumption)).mono ?_); rintro e w1 ⟨rfl, hb1⟩)))
    | (go_at_call 35; (with_reducible refine (C5.out.on w0 _ hok (by assumption)).mono ?_); rintro e w1 ⟨rfl, hb1⟩)
    | (go_at_call 36; (with_reducible refine (C6.out.on w0 _ hok (by assumption)).mono ?_); rintro e w1 ⟨rfl, hb1⟩)
    | (go_at_call 37; (with_reducible refine (C9.out.on w0 _ hok (by assumption)).mono ?_); rintro e w1 ⟨rfl, hb1⟩))
  all_goals
    go_ret3
    refine ⟨?_, by assumption⟩
    rw [HR.out]
    clear HR C1 C2 C3 C4 C5 C6 C7 C8 C9 hok
    go_light
    simp_all [readV]

end Go.Proofs.YtiaocdbgcjnceaaDoor
