/- The reference's Read, as printed, answers readB. -/
import Derived.Test.YtiaocdbgcjnceaaDoorReadB
import Derived.Test.YtiaocdbgcjnceaaDoorPGBadx
import Derived.Test.YtiaocdbgcjnceaaDoorUtf
namespace Go.Proofs.YtiaocdbgcjnceaaDoor
open Go.RowKit Go.Proofs.YtiaocdbgcjnceaaDoorW.PrintWords Go.Proofs.YtiaocdbgcjnceaaDoor.PGBad

theorem isPrefix_take (a p : List UInt8) : p.isPrefixOf a = (decide (p.length ≤ a.length) && (a.take p.length == p)) := by
  rw [Bool.eq_iff_iff]
  simp only [List.isPrefixOf_iff_prefix, Bool.and_eq_true, decide_eq_true_eq, beq_iff_eq]
  constructor
  · intro h; exact ⟨h.length_le, (List.prefix_iff_eq_take.1 h).symm⟩
  · intro h; exact List.prefix_iff_eq_take.2 h.2.symm

theorem begins_f (a b : ByteArray) : platenref10_begins.f a b = some (Lib.hasPrefix a.data.toList b.data.toList) := by
  unfold platenref10_begins.f Lib.hasPrefix
  rw [isPrefix_take]
  by_cases h : (a.size : Int) ≥ b.size
  · rw [if_pos h, if_pos (by omega), if_pos (by omega)]
    rw [decide_eq_true (by rw [← Lib.size_eq, ← Lib.size_eq]; omega)]
    simp only [Lib.toList_data, Lib.extract_data, Int.toNat_natCast, List.drop_zero, Nat.sub_zero, Bool.true_and]
    rw [Lib.size_eq b]
  · rw [if_neg h, decide_eq_false (by rw [← Lib.size_eq, ← Lib.size_eq]; omega)]
    rfl

theorem index_ge (l sub : List UInt8) : -1 ≤ Lib.index l sub := by
  induction l with
  | nil => unfold Lib.index; split <;> omega
  | cons b l ih =>
    unfold Lib.index
    split
    · omega
    · split
      · omega
      · omega
theorem contains_nil (sub : List UInt8) : Lib.contains [] sub = sub.isEmpty := by
  unfold Lib.contains Lib.index
  by_cases h : sub.isEmpty = true <;> simp [h]
theorem contains_cons (b : UInt8) (l sub : List UInt8) : Lib.contains (b :: l) sub = (sub.isPrefixOf (b :: l) || Lib.contains l sub) := by
  have := index_ge l sub
  unfold Lib.contains
  conv => lhs; unfold Lib.index
  by_cases h : sub.isPrefixOf (b :: l) = true
  · simp [h]
  · simp only [h]
    by_cases h2 : Lib.index l sub = -1
    · simp [h2]
    · have : 0 ≤ Lib.index l sub := by omega
      simp [h2]
      omega
theorem has_l0 (a b : ByteArray) (ha : a.size ≤ 100000) : ∀ (d k i : Nat), i + d = a.size → d + 1 < k → platenref10_has.l0 k a b (i : Int) = some (Lib.contains (a.data.toList.drop i) b.data.toList)
  | 0, k, i, hi, hk => by
    obtain ⟨k, rfl⟩ : ∃ m, k = m + 2 := ⟨k - 2, by omega⟩
    simp only [platenref10_has.l0]
    rw [if_pos (by omega), if_pos (by omega), begins_f]
    simp only [Option.bind_some, Int.toNat_natCast, Lib.extract_to_end]
    have e : a.data.toList.drop i = [] := by rw [List.drop_eq_nil_iff, ← Lib.size_eq]; omega
    rw [e, contains_nil]
    unfold Lib.hasPrefix
    cases hb : b.data.toList with
    | nil => simp
    | cons x y =>
      rw [wrap64_id (by omega) (by omega), if_neg (by simp), if_neg (by omega)]
      rfl
  | d + 1, k, i, hi, hk => by
    obtain ⟨k, rfl⟩ : ∃ m, k = m + 1 := ⟨k - 1, by omega⟩
    have ih := has_l0 a b ha d k (i + 1) (by omega) (by omega)
    simp only [platenref10_has.l0]
    rw [if_pos (by omega), if_pos (by omega), begins_f, wrap64_id (by omega) (by omega)]
    simp only [Option.bind_some, Int.toNat_natCast, Lib.extract_to_end]
    have hl : i < a.data.toList.length := by rw [← Lib.size_eq]; omega
    rw [List.drop_eq_getElem_cons hl, contains_cons]
    unfold Lib.hasPrefix
    by_cases h : b.data.toList.isPrefixOf (a.data.toList[i] :: List.drop (i + 1) a.data.toList) = true
    · rw [if_pos h, h]; rfl
    · rw [if_neg h]
      simp only [h, Bool.false_or]
      exact ih
theorem has_f (k : Nat) (a b : ByteArray) (ha : a.size ≤ 100000) (hk : a.size + 1 < k) : platenref10_has.f k a b = some (Lib.contains a.data.toList b.data.toList) :=
  has_l0 a b ha a.size k 0 (by omega) hk


/-! ### texts that end in ')' -/
theorem hasSuffix_one (l : List UInt8) (c : UInt8) : Lib.hasSuffix l [c] = (l.getLast? == some c) := by
  unfold Lib.hasSuffix
  rw [Bool.eq_iff_iff]
  simp only [List.isSuffixOf_iff_suffix, beq_iff_eq]
  constructor
  · rintro ⟨m, rfl⟩; simp
  · intro h
    obtain ⟨m, rfl⟩ := List.getLast?_eq_some_iff.1 h
    exact ⟨m, rfl⟩
theorem hasSuffix_snoc (m : List UInt8) (c : UInt8) : Lib.hasSuffix (m ++ [c]) [c] = true := by rw [hasSuffix_one]; simp
theorem trimSuffix_snoc (m : List UInt8) (c : UInt8) : Lib.trimSuffix (m ++ [c]) [c] = m := by
  unfold Lib.trimSuffix; rw [hasSuffix_snoc]; simp
theorem hasPrefix_cons (a b : UInt8) (l : List UInt8) : Lib.hasPrefix (a :: l) [b] = (b == a) := by simp [Lib.hasPrefix, List.isPrefixOf]
theorem hasPrefix_nil (b : UInt8) : Lib.hasPrefix [] [b] = false := rfl
theorem trimPrefix_nil (b : UInt8) : Lib.trimPrefix [] [b] = [] := rfl
theorem trimPrefix_cons (b : UInt8) (l : List UInt8) : Lib.trimPrefix (b :: l) [b] = l := by unfold Lib.trimPrefix; rw [hasPrefix_cons]; simp
theorem trimPrefix_last (l : List UInt8) (b c : UInt8) (h : l.getLast? ≠ some c) : (Lib.trimPrefix l [b]).getLast? ≠ some c := by
  unfold Lib.trimPrefix
  split
  · rename_i hp
    cases l with
    | nil => simp
    | cons a l =>
      cases l with
      | nil => simp
      | cons d l => simpa using h
  · exact h
theorem drop_last (l : List UInt8) (n : Nat) (c : UInt8) (h : l.getLast? ≠ some c) : (l.drop n).getLast? ≠ some c := by
  rw [List.getLast?_drop]
  split
  · simp
  · exact h

/-- What Read is behind the sign's two bytes. -/
def readR (rest : List UInt8) : Int × Int × ByteArray :=
  readV true (Lib.hasPrefix rest [40]) (Lib.hasPrefix (Lib.trimPrefix rest [40]) [40]) (Lib.hasSuffix (Lib.trimPrefix rest [40]) [41])
    (Lib.hasPrefix (rest.drop (decB (T rest)).2) [40]) (Lib.hasSuffix (Lib.trimPrefix (rest.drop (decB (T rest)).2) [40]) [41])
    (bareL (Lib.trimSuffix (Lib.trimPrefix rest [40]) [41])) (verbedL (Lib.trimSuffix (Lib.trimPrefix (rest.drop (decB (T rest)).2) [40]) [41]))
    (decB (T rest)).1 (decB (T rest)).2 (T (Lib.trimSuffix (Lib.trimPrefix rest [40]) [41])) (T (Lib.trimSuffix (Lib.trimPrefix (rest.drop (decB (T rest)).2) [40]) [41]))

theorem readR_last (rest : List UInt8) (h : rest.getLast? ≠ some 41) : readR rest = (0, 0, ⟨#[]⟩) := by
  have a : Lib.hasSuffix (Lib.trimPrefix rest [40]) [41] = false := by rw [hasSuffix_one]; simpa using trimPrefix_last rest 40 41 h
  have b : Lib.hasSuffix (Lib.trimPrefix (rest.drop (decB (T rest)).2) [40]) [41] = false := by rw [hasSuffix_one]; simpa using trimPrefix_last _ 40 41 (drop_last rest _ 41 h)
  unfold readR readV
  rw [a, b]
  simp
theorem decB_width (rest : List UInt8) (h : rest ≠ []) : 1 ≤ (decB (T rest)).2 := by
  unfold decB
  have hs : 0 < (T rest).size := by rw [T_size]; exact List.length_pos_iff.2 h
  rw [if_neg (by omega)]
  exact Lib.decode_width_pos _ 0 hs
theorem readR_short (rest : List UInt8) (h : rest.length ≤ 1) : readR rest = (0, 0, ⟨#[]⟩) := by
  match rest, h with
  | [], _ => simp [readR, readV, hasPrefix_nil, trimPrefix_nil, decB, T_size, Lib.hasSuffix]
  | [x], _ =>
    have hw := decB_width [x] (by simp)
    have hd : [x].drop (decB (T [x])).2 = [] := by rw [List.drop_eq_nil_iff]; simpa using hw
    unfold readR readV
    rw [hd, hasPrefix_nil, hasPrefix_cons]
    by_cases hx : x = 40
    · subst hx; rw [trimPrefix_cons]; simp [hasPrefix_nil, Lib.hasSuffix]
    · have : ((40 : UInt8) == x) = false := by simpa using fun e => hx e.symm
      rw [this]; simp
theorem readB_noSign (s : ByteArray) (h : Lib.hasPrefix s.data.toList [37, 33] = false) : readB s = (0, 0, ⟨#[]⟩) := by
  unfold readB readV
  rw [if_pos h]
theorem readB_sign (s : ByteArray) (rest : List UInt8) (h : s.data.toList = 37 :: 33 :: rest) : readB s = readR rest := by
  have a : Lib.hasPrefix s.data.toList [37, 33] = true := by rw [h]; simp [Lib.hasPrefix]
  have b : Lib.trimPrefix s.data.toList [37, 33] = rest := by unfold Lib.trimPrefix; rw [a, h]; rfl
  unfold readB readR
  rw [b, a]

/-! ### the reference's Read -/
theorem ref_list (k : Nat) (inn : ByteArray) :
    platenref10_Read.l0 (k + 5) inn [⟨#[78, 79, 86, 69, 82, 66]⟩, ⟨#[66, 65, 68, 87, 73, 68, 84, 72]⟩, ⟨#[66, 65, 68, 80, 82, 69, 67]⟩, ⟨#[68, 69, 80, 84, 72]⟩] 4 0 =
      some (if bareL inn.data.toList = 0 then (0, 0, ⟨#[]⟩) else (bareL inn.data.toList, 0, inn)) := by
  simp only [platenref10_Read.l0]
  simp [rdOf, begins_f, Lib.toList_data, wrap64]
  unfold bareL
  repeat' split
  all_goals simp_all

theorem bt_list (s : ByteArray) (i : Nat) : bt s (i : Int) = ((s.data.toList.getD i 0).toNat : Int) := by rw [bt_get, Lib.getD_get!']

theorem ref_j4 (k : Nat) (c : Int) (inn : ByteArray) (b : Bool) (hs : inn.size ≤ 1000) :
    platenref10_Read.j4 (k + 1010) c inn b = some (if b = true then (5, c, inn) else if Lib.contains inn.data.toList [61] = true then (1, c, inn) else (0, 0, ⟨#[]⟩)) := by
  simp only [platenref10_Read.j4]
  rw [has_f _ _ _ (by omega) (by omega)]
  simp only [Option.bind_some]
  repeat' split
  all_goals simp_all

def finalV (c : Int) (inn : ByteArray) : Int × Int × ByteArray := if verbedL inn.data.toList = 0 then (0, 0, ⟨#[]⟩) else (verbedL inn.data.toList, c, inn)
theorem ref_j3 (k : Nat) (s : ByteArray) (c : Int) (n w : Nat) (hn : n = s.size) (hs : s.size ≤ 1000) (hw : 3 + w ≤ n - 1) :
    platenref10_Read.j3 (k + 1011) s (n : Int) c (w : Int) false = some (finalV c (s.extract (3 + w) (n - 1))) := by
  simp only [platenref10_Read.j3]
  rw [wrap64_id (x := 3 + (w : Int)) (by omega) (by omega), wrap64_id (x := (n : Int) - 1) (by omega) (by omega)]
  rw [show ((3 : Int) + (w : Int)).toNat = 3 + w by omega, show ((n : Int) - 1).toNat = n - 1 by omega]
  have hsz : (s.extract (3 + w) (n - 1)).size ≤ 1000 := by rw [Lib.size_eq, Lib.extract_data]; simp; omega
  generalize s.extract (3 + w) (n - 1) = inn at *
  rw [if_neg (by simp), if_pos (by omega), if_pos (by omega), if_pos (by omega), begins_f, has_f _ _ _ (by omega) (by omega)]
  simp only [Option.bind_some, ref_j4 _ _ _ _ hsz, Lib.toList_data]
  unfold finalV verbedL
  by_cases a1 : inn.data.toList = [77, 73, 83, 83, 73, 78, 71]
  · simp [a1]
  by_cases a2 : inn.data.toList = [66, 65, 68, 73, 78, 68, 69, 88]
  · simp [a2]
  by_cases a3 : inn.data.toList = [60, 110, 105, 108, 62]
  · simp [a3]
  simp only [if_neg a1, if_neg a2, if_neg a3]
  by_cases a4 : Lib.hasPrefix inn.data.toList [80, 65, 78, 73, 67, 61] = true
  · by_cases a5 : Lib.contains inn.data.toList [32, 109, 101, 116, 104, 111, 100, 58, 32] = true
    · simp [a4, a5]
    · by_cases a6 : Lib.contains inn.data.toList [61] = true
      · simp [a4, a5, a6]
      · simp [a4, a5, a6]
  · by_cases a6 : Lib.contains inn.data.toList [61] = true
    · simp [a4, a6]
    · simp [a4, a6]


end Go.Proofs.YtiaocdbgcjnceaaDoor
