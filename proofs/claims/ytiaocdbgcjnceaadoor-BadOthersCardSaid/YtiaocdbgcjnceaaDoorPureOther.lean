/- BadOthers as printed answers true. -/
import Derived.Test.YtiaocdbgcjnceaaDoorPureReads
import Derived.Test.YtiaocdbgcjnceaaDoorPGOtherx
namespace Go.Proofs.YtiaocdbgcjnceaaDoor
open Go.RowKit Go.Proofs.YtiaocdbgcjnceaaDoorW.PrintWords

theorem readV_none (h1 h2 h3 h4 h5 h6 : Bool) (k1 k2 c : Int) (n : Nat) (a b : ByteArray) (h : (readV h1 h2 h3 h4 h5 h6 k1 k2 c n a b).1 = 0) : readV h1 h2 h3 h4 h5 h6 k1 k2 c n a b = (0, 0, ⟨#[]⟩) := by
  unfold readV at h ⊢
  by_cases a1 : h1 = false
  · rw [if_pos a1]
  rw [if_neg a1] at h ⊢
  by_cases a2 : h2 = true ∧ h3 = false
  · rw [if_pos a2] at h ⊢
    by_cases a3 : h4 = true ∧ k1 ≠ 0
    · rw [if_pos a3] at h; exact absurd h a3.2
    · rw [if_neg a3]
  rw [if_neg a2] at h ⊢
  by_cases a4 : n = 0 ∨ (c = 65533 ∧ (n : Int) = 1)
  · rw [if_pos a4]
  rw [if_neg a4] at h ⊢
  by_cases a5 : h5 = true ∧ h6 = true ∧ k2 ≠ 0
  · rw [if_pos a5] at h; exact absurd h a5.2.2
  · rw [if_neg a5]
theorem readB_none (s : ByteArray) (h : (readB s).1 = 0) : readB s = (0, 0, ⟨#[]⟩) := readV_none _ _ _ _ _ _ _ _ _ _ _ _ h
/-- What is read as something ends with a bracket. -/
theorem readB_last (s : ByteArray) (h : (readB s).1 ≠ 0) : s.data.toList.getLast? = some 41 := by
  refine Decidable.byContradiction fun hl => h ?_
  by_cases hp : Lib.hasPrefix s.data.toList [37, 33] = true
  · obtain ⟨rest, hr⟩ : ∃ rest, s.data.toList = 37 :: 33 :: rest := by
      unfold Lib.hasPrefix at hp
      obtain ⟨t, ht⟩ := List.isPrefixOf_iff_prefix.1 hp
      exact ⟨t, ht.symm⟩
    rw [readB_sign s rest hr, readR_last rest (by
      intro e
      refine hl ?_
      rw [hr]
      cases rest with
      | nil => simp at e
      | cons a l => simpa using e)]
  · rw [readB_noSign s (by simpa using hp)]
theorem readB_x (s : ByteArray) : readB ((⟨#[120]⟩ : ByteArray) ++ s) = (0, 0, ⟨#[]⟩) := by
  refine readB_noSign _ ?_
  rw [Joins.data_append]
  rfl

theorem others_pure (c : Int) (x : ByteArray) (n : Int) (hn : -9223372036854775808 ≤ n ∧ n ≤ 9223372036854775807) : PGOther.platenlaw10_BadOthers.f 200 c x n = some true := by
  obtain ⟨a, ha, hsa⟩ := cut_f x
  unfold PGOther.platenlaw10_BadOthers.f
  rw [ha]
  simp only [Option.bind_some]
  have e1 : bad_Verb.f c ⟨#[84]⟩ a = some (wrapB (enc c) (([84] : List UInt8) ++ (61 :: a.data.toList))) := by unfold bad_Verb.f; rw [if_pos ⟨by decide, by omega⟩]
  rw [e1]
  simp only [Option.bind_some]
  have hs0 : 1 ≤ (wrapB (enc c) (([84] : List UInt8) ++ (61 :: a.data.toList))).size := by rw [Lib.size_eq]; simp [wrapB]
  have hs1 : (wrapB (enc c) (([84] : List UInt8) ++ (61 :: a.data.toList))).size ≤ 2000 := by
    rw [Lib.size_eq] at hsa ⊢; have := enc_length c; simp [wrapB] at hsa ⊢; omega
  generalize wrapB (enc c) (([84] : List UInt8) ++ (61 :: a.data.toList)) = s at *
  have e2 : bad_Read.f ((⟨#[120]⟩ : ByteArray) ++ s) = some (0, 0, ⟨#[]⟩) := by
    unfold bad_Read.f
    rw [if_pos (by rw [ByteArray.size_append]; have : (ByteArray.mk #[120]).size = 1 := rfl; omega), readB_x]
  rw [if_pos (by omega), e2]
  simp only [Option.bind_some]
  rw [wrap64_id (x := (s.size : Int) - 1) (by omega) (by omega)]
  obtain ⟨m, hm, hm2⟩ : ∃ m : Nat, mx 0 (mn n ((s.size : Int) - 1)) = (m : Int) ∧ m ≤ s.size := by
    refine ⟨(mx 0 (mn n ((s.size : Int) - 1))).toNat, ?_, ?_⟩
    · unfold mx mn; (repeat' split) <;> omega
    · unfold mx mn; (repeat' split) <;> omega
  rw [hm]
  rw [if_pos (by omega), if_pos (by omega)]
  have e3 : bad_Read.f (s.extract 0 (m : Int).toNat) = some (readB (s.extract 0 m)) := by
    unfold bad_Read.f
    rw [Int.toNat_natCast, if_pos (by rw [Lib.size_eq, Lib.extract_data]; simp; omega)]
  rw [e3]
  simp only [Option.bind_some]
  have hl := lives_f 190
  by_cases h0 : (readB (s.extract 0 m)).1 = 0
  · have := readB_none _ h0
    rw [this]
    simp [hl, Lib.toList_data]
  · rw [if_neg h0]
    have hlast := readB_last _ h0
    rw [Lib.extract_data] at hlast
    simp only [List.drop_zero, Nat.sub_zero] at hlast
    have hm0 : 1 ≤ m := by
      refine Decidable.byContradiction fun e => ?_
      obtain rfl : m = 0 := by omega
      simp at hlast
    rw [if_neg (by omega), wrap64_id (x := (m : Int) - 1) (by omega) (by omega), if_pos (by omega), if_pos (by omega)]
    have hb : bt s ((m : Int) - 1) = 41 := by
      rw [show (m : Int) - 1 = ((m - 1 : Nat) : Int) by omega, bt_list]
      have hmm : m ≤ s.data.toList.length := by rw [← Lib.size_eq]; exact hm2
      rw [List.getLast?_take] at hlast
      rw [if_neg (by omega)] at hlast
      have hlt : m - 1 < s.data.toList.length := by omega
      rw [List.getElem?_eq_getElem hlt] at hlast
      rw [List.getD_eq_getElem?_getD, List.getElem?_eq_getElem hlt]
      simp only [Option.getD_some]
      have : s.data.toList[m - 1] = 41 := by simpa using hlast
      rw [this]; rfl
    rw [if_pos hb]
    simp [hl, Lib.toList_data]

theorem lawBadOthers.lawC (c : Int) (a : ByteArray) (n : Int) (W : World) (hok : Ok W) (_h : (Lit.int .i32 c).wf = true) (_h1 : a.size ≤ 140737488351232) (h2 : (Lit.int .i64 n).wf = true) :
    Calls Tryd.prog 5 #[.int .i32 c, .string a, .int .i64 n] W fun e w' => e = .returned (.bool true) ∧ Below W.heap.size W w' :=
  PGOther.platenlaw10_BadOthers.calls 200 c a n true W ⟨hok⟩ (others_pure c a n (by simpa [Lit.wf, IntKind.min, IntKind.max, IntKind.signed, IntKind.bits] using h2))
end Go.Proofs.YtiaocdbgcjnceaaDoor
