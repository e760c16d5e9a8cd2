/- The reference's Read answers what bad.Read answers: the main road. -/
import Derived.Test.YtiaocdbgcjnceaaDoorReadF
namespace Go.Proofs.YtiaocdbgcjnceaaDoor
open Go.RowKit Go.Proofs.YtiaocdbgcjnceaaDoorW.PrintWords Go.Proofs.YtiaocdbgcjnceaaDoor.PGBad

theorem byte_ne {y : UInt8} (h : ¬ y = 40) : ((y.toNat : Int) != 40) = true := by
  rw [bne_iff_ne]; intro e; exact h (UInt8.toNat_inj.1 (by simpa using (by omega : y.toNat = 40)))
theorem none_V (h2 h3 h4 h5 h6 : Bool) (k1 k2 c : Int) (n : Nat) (a b : ByteArray) (hh : (h2 = true ∧ h3 = false) = False) (h : n = 0 ∨ (c = 65533 ∧ (n : Int) = 1) ∨ h5 = false ∨ h6 = false ∨ k2 = 0) :
    readV true h2 h3 h4 h5 h6 k1 k2 c n a b = (0, 0, ⟨#[]⟩) := by
  unfold readV
  rw [if_neg (by simp), if_neg (by rw [hh]; simp)]
  by_cases e : n = 0 ∨ (c = 65533 ∧ (n : Int) = 1)
  · rw [if_pos e]
  · rw [if_neg e, if_neg]
    rintro ⟨e5, e6, e7⟩
    rcases h with h | h | h | h | h
    · exact e (.inl h)
    · exact e (.inr h)
    · rw [h] at e5; cases e5
    · rw [h] at e6; cases e6
    · exact e7 h

theorem some_V (h2 h3 h4 : Bool) (k1 k2 c : Int) (n : Nat) (a b : ByteArray) (hh : (h2 = true ∧ h3 = false) = False) (h : ¬ (n = 0 ∨ (c = 65533 ∧ (n : Int) = 1))) :
    readV true h2 h3 h4 true true k1 k2 c n a b = if k2 = 0 then (0, 0, ⟨#[]⟩) else (k2, c, b) := by
  unfold readV
  rw [if_neg (by simp), if_neg (by rw [hh]; simp), if_neg h]
  by_cases e : k2 = 0 <;> simp [e]
theorem bare_V (h5 h6 : Bool) (k1 k2 c : Int) (n : Nat) (a b : ByteArray) : readV true true false true h5 h6 k1 k2 c n a b = if k1 = 0 then (0, 0, ⟨#[]⟩) else (k1, 0, a) := by
  unfold readV
  by_cases e : k1 = 0 <;> simp [e]
theorem drop_snoc (m : List UInt8) (x : UInt8) (k : Nat) (h1 : 1 ≤ k) (h2 : k ≤ m.length + 1) : (x :: (m ++ [41])).drop k = m.drop (k - 1) ++ [41] := by
  obtain ⟨k, rfl⟩ : ∃ j, k = j + 1 := ⟨k - 1, by omega⟩
  simp only [List.drop_succ_cons, Nat.add_sub_cancel]
  rw [List.drop_append_of_le_length (by omega)]

set_option maxRecDepth 100000 in
set_option maxHeartbeats 1000000 in
/-- A text of at least four bytes that begins with the sign and ends with a bracket. -/
theorem ref_main (k : Nat) (s : ByteArray) (x : UInt8) (m : List UInt8) (h : s.data.toList = 37 :: 33 :: x :: (m ++ [41])) (hs : s.size ≤ 1000) :
    platenref10_Read.j0 (k + 2000) s (s.size : Int) false = some (readR (x :: (m ++ [41]))) := by
  have hl : s.size = m.length + 4 := by rw [Lib.size_eq, h]; simp
  have b2 : bt s 2 = (x.toNat : Int) := by have := bt_list s 2; rw [h] at this; exact this
  have b3 : bt s 3 = (((m ++ [41]).getD 0 0).toNat : Int) := by have := bt_list s 3; rw [h] at this; exact this
  have w1 : wrap64 ((s.size : Int) - 1) = (s.size : Int) - 1 := wrap64_id (by omega) (by omega)
  -- the road of the decoded verb
  have road : (Lib.hasPrefix (x :: (m ++ [41])) [40] = true ∧ Lib.hasPrefix (Lib.trimPrefix (x :: (m ++ [41])) [40]) [40] = false) = False →
      platenref10_Read.j1 (k + 1999) s (s.size : Int) false = some (readR (x :: (m ++ [41]))) := by
    intro hh
    simp only [platenref10_Read.j1]
    rw [if_neg (by simp), if_pos (by omega)]
    have hd : (s.extract 2 s.size) = T (x :: (m ++ [41])) := bytes_ext (by rw [Lib.extract_to_end, h]; rfl)
    rw [hd, show k + 1998 = (k + 1968) + 30 from rfl, decode_f _ _ (by rw [T_size]; simp)]
    simp only [Option.bind_some]
    have hW := decB_width (x :: (m ++ [41])) (by simp)
    have hle := decB_le (T (x :: (m ++ [41])))
    rw [T_size] at hle
    simp only [List.length_cons, List.length_append, List.length_nil] at hle
    have hdec : Utf8.decode (T (x :: (m ++ [41]))) 0 = decB (T (x :: (m ++ [41]))) := by
      unfold decB; rw [if_neg (by rw [T_size]; simp)]
    rw [hdec]
    have hR : readR (x :: (m ++ [41])) = readV true (Lib.hasPrefix (x :: (m ++ [41])) [40]) (Lib.hasPrefix (Lib.trimPrefix (x :: (m ++ [41])) [40]) [40]) (Lib.hasSuffix (Lib.trimPrefix (x :: (m ++ [41])) [40]) [41])
      (Lib.hasPrefix ((x :: (m ++ [41])).drop (decB (T (x :: (m ++ [41])))).2) [40]) (Lib.hasSuffix (Lib.trimPrefix ((x :: (m ++ [41])).drop (decB (T (x :: (m ++ [41])))).2) [40]) [41])
      (bareL (Lib.trimSuffix (Lib.trimPrefix (x :: (m ++ [41])) [40]) [41])) (verbedL (Lib.trimSuffix (Lib.trimPrefix ((x :: (m ++ [41])).drop (decB (T (x :: (m ++ [41])))).2) [40]) [41]))
      (decB (T (x :: (m ++ [41])))).1 (decB (T (x :: (m ++ [41])))).2 (T (Lib.trimSuffix (Lib.trimPrefix (x :: (m ++ [41])) [40]) [41])) (T (Lib.trimSuffix (Lib.trimPrefix ((x :: (m ++ [41])).drop (decB (T (x :: (m ++ [41])))).2) [40]) [41])) := rfl
    generalize decB (T (x :: (m ++ [41]))) = p at *
    obtain ⟨c, w⟩ := p
    simp only [] at hW hle hR ⊢
    have j3t : ∀ (a b : Int), platenref10_Read.j3 (k + 1998) s (s.size : Int) a b true = some (0, 0, ⟨#[]⟩) := fun a b => by simp [platenref10_Read.j3]
    by_cases hbad : (c, w) = (65533, 1)
    · rw [decide_eq_true hbad, if_pos rfl, j3t, hR, none_V _ _ _ _ _ _ _ _ _ _ _ hh]
      right; left
      simp only [Prod.mk.injEq] at hbad
      omega
    rw [decide_eq_false hbad, if_neg (by simp)]
    have w2 : wrap64 (2 + (w : Int)) = 2 + (w : Int) := wrap64_id (by omega) (by omega)
    have w3 : wrap64 (2 + (w : Int) + 1) = 2 + (w : Int) + 1 := wrap64_id (by omega) (by omega)
    rw [w2, w3, w1]
    by_cases hlong : m.length < w
    · rw [if_pos (by omega), j3t, hR, none_V _ _ _ _ _ _ _ _ _ _ _ hh]
      right; right; left
      by_cases hall : w = m.length + 2
      · rw [show (x :: (m ++ [41])).drop w = [] by rw [List.drop_eq_nil_iff]; simp; omega]; rfl
      · rw [drop_snoc m x w hW (by omega), show w - 1 = m.length by omega, List.drop_length]; rfl
    · rw [if_neg (by omega), if_pos (by omega), if_pos (by omega)]
      have hd2 := drop_snoc m x w hW (by omega)
      have hm : m.drop (w - 1) = m.getD (w - 1) 0 :: m.drop w := by
        have hlt : w - 1 < m.length := by omega
        rw [List.drop_eq_getElem_cons hlt, show w - 1 + 1 = w by omega]
        congr 1
        simp [List.getD, hlt]
      have hb : bt s (2 + (w : Int)) = ((m.getD (w - 1) 0).toNat : Int) := by
        have := bt_list s (2 + w)
        rw [h] at this
        rw [show ((2 + w : Nat) : Int) = 2 + (w : Int) by omega] at this
        rw [this]
        obtain ⟨j, rfl⟩ : ∃ j, w = j + 1 := ⟨w - 1, by omega⟩
        have hj : j < m.length := by omega
        rw [show 2 + (j + 1) = j + 1 + 1 + 1 by omega]
        simp [List.getD, hj, List.getElem?_append_left hj]
      rw [hb]
      rw [hm] at hd2
      generalize m.getD (w - 1) 0 = y at *
      by_cases hy : y = 40
      · subst hy
        rw [show (((40 : UInt8).toNat : Int) != 40) = false by decide]
        rw [show k + 1998 = (k + 987) + 1011 from rfl, ref_j3 _ s c s.size w rfl hs (by omega)]
        rw [hR, hd2]
        have e3 : Lib.trimPrefix (40 :: List.drop w m ++ [41]) [40] = List.drop w m ++ [41] := trimPrefix_cons _ _
        rw [e3, trimSuffix_snoc, hasSuffix_snoc]
        have e5 : Lib.hasPrefix (40 :: List.drop w m ++ [41]) [40] = true := by rw [List.cons_append, hasPrefix_cons]; rfl
        rw [e5]
        have e6 : (s.extract (3 + w) (s.size - 1)) = T (List.drop w m) := bytes_ext (by
          rw [Lib.extract_data, h, hl]
          rw [show 3 + w = w + 1 + 1 + 1 by omega]
          simp only [List.drop_succ_cons]
          rw [List.drop_append_of_le_length (by omega), show m.length + 4 - 1 - (w + 1 + 1 + 1) = (List.drop w m).length by simp]
          simp)
        rw [e6]
        rw [some_V _ _ _ _ _ _ _ _ _ hh (by rintro (e | ⟨e1, e2⟩) <;> simp at hbad <;> omega)]
        unfold finalV
        rfl
      · rw [show ((y.toNat : Int) != 40) = true by
          rw [bne_iff_ne]; intro e; exact hy (UInt8.toNat_inj.1 (by simpa using (by omega : y.toNat = 40)))]
        rw [j3t, hR, none_V _ _ _ _ _ _ _ _ _ _ _ hh]
        right; right; left
        rw [hd2, List.cons_append, hasPrefix_cons]
        simpa using fun e => hy e.symm
  simp only [platenref10_Read.j0]
  rw [if_neg (by simp), if_pos (by omega), b2]
  by_cases hx : x = 40
  · subst hx
    rw [if_pos (by decide), if_pos (by omega), b3]
    have hp : Lib.hasPrefix (m ++ [41]) [40] = ((m ++ [41]).getD 0 0 == 40) := by
      cases m with
      | nil => rfl
      | cons a m => rw [List.cons_append, hasPrefix_cons]; exact BEq.comm
    by_cases hy : (m ++ [41]).getD 0 0 = 40
    · rw [hy, show (((40 : UInt8).toNat : Int) != 40) = false by decide]
      exact road (by rw [trimPrefix_cons, hp, hy]; simp)
    · rw [byte_ne hy]
      simp only [platenref10_Read.j1]
      rw [if_pos trivial, w1, if_pos (by omega), if_pos (by omega)]
      simp only [Option.bind_some]
      rw [show ((s.size : Int) - 1).toNat = s.size - 1 by omega, show k + 1998 = (k + 1993) + 5 from rfl]
      have e6 : (s.extract 3 (s.size - 1)) = T m := bytes_ext (by
        rw [Lib.extract_data, h, hl]
        simp only [List.drop_succ_cons, List.drop_zero]
        rw [show m.length + 4 - 1 - 3 = m.length by omega]
        simp)
      rw [e6]
      have e7 := ref_list (k + 1993) (T m)
      refine e7.trans ?_
      have hR : readR (40 :: (m ++ [41])) = readV true (Lib.hasPrefix (40 :: (m ++ [41])) [40]) (Lib.hasPrefix (Lib.trimPrefix (40 :: (m ++ [41])) [40]) [40]) (Lib.hasSuffix (Lib.trimPrefix (40 :: (m ++ [41])) [40]) [41]) _ _ (bareL (Lib.trimSuffix (Lib.trimPrefix (40 :: (m ++ [41])) [40]) [41])) _ _ _ (T (Lib.trimSuffix (Lib.trimPrefix (40 :: (m ++ [41])) [40]) [41])) _ := rfl
      have hy2 : ((m ++ [41]).getD 0 (0 : UInt8) == (40 : UInt8)) = false := beq_eq_false_iff_ne.2 hy
      rw [hR, hasPrefix_cons, trimPrefix_cons, hp, hasSuffix_snoc, trimSuffix_snoc, hy2]
      rw [show ((40 : UInt8) == 40) = true from rfl, bare_V]
  · rw [if_neg (by intro e; exact hx (UInt8.toNat_inj.1 (by simpa using (by omega : x.toNat = 40))))]
    exact road (by rw [hasPrefix_cons]; simpa using fun e => absurd e.symm hx)

set_option maxRecDepth 100000 in
/-- THE REFERENCE's Read, of a text of at most 1000 bytes. -/
theorem ref_read (s : ByteArray) (hs : s.size ≤ 1000) : platenref10_Read.f 2000 s = some (readB s) := by
  unfold platenref10_Read.f
  have j0t : platenref10_Read.j0 2000 s (s.size : Int) true = some (0, 0, ⟨#[]⟩) := by simp [platenref10_Read.j0]
  have w1 : wrap64 ((s.size : Int) - 1) = (s.size : Int) - 1 := wrap64_id (by omega) (by omega)
  by_cases hp : Lib.hasPrefix s.data.toList [37, 33] = true
  · obtain ⟨rest, hr⟩ : ∃ rest, s.data.toList = 37 :: 33 :: rest := by
      unfold Lib.hasPrefix at hp
      obtain ⟨t, ht⟩ := List.isPrefixOf_iff_prefix.1 hp
      exact ⟨t, ht.symm⟩
    have hl : s.size = rest.length + 2 := by rw [Lib.size_eq, hr]; simp
    rw [readB_sign s rest hr]
    by_cases h4 : (s.size : Int) < 4
    · rw [if_pos h4, j0t, readR_short rest (by omega)]
    · rw [if_neg h4, begins_f]
      simp only [Option.bind_some]
      rw [hp, if_pos rfl, w1, if_pos (by omega), if_pos (by omega)]
      have hb : bt s ((s.size : Int) - 1) = ((s.data.toList.getD (s.size - 1) 0).toNat : Int) := by
        rw [← bt_list, show ((s.size - 1 : Nat) : Int) = (s.size : Int) - 1 by omega]
      rw [hb]
      have hlast : rest.getLast? = some (s.data.toList.getD (s.size - 1) 0) := by
        rw [hr, hl, List.getLast?_eq_getElem?]
        obtain ⟨j, hj⟩ : ∃ j, rest.length = j + 1 := ⟨rest.length - 1, by omega⟩
        rw [hj]
        have : j < rest.length := by omega
        simp [List.getD, this]
      generalize s.data.toList.getD (s.size - 1) 0 = z at *
      by_cases hz : z = 41
      · subst hz
        rw [show ((((41 : UInt8).toNat : Nat) : Int) != 41) = false by decide]
        obtain ⟨m0, hm0⟩ := List.getLast?_eq_some_iff.1 hlast
        match m0, hm0 with
        | [], hm0 => rw [hm0] at hl; simp at hl; omega
        | x :: m, hm0 =>
          rw [hm0]
          exact ref_main 0 s x m (by rw [hr, hm0]; rfl) hs
      · rw [show ((z.toNat : Int) != 41) = true by
          rw [bne_iff_ne]; intro e; exact hz (UInt8.toNat_inj.1 (by simpa using (by omega : z.toNat = 41)))]
        rw [j0t, readR_last rest (by rw [hlast]; intro e; exact hz (Option.some.inj e))]
  · have hp' : Lib.hasPrefix s.data.toList [37, 33] = false := by simpa using hp
    rw [readB_noSign s hp', begins_f, hp']
    simp only [Option.bind_some]
    split
    · exact j0t
    · exact j0t
end Go.Proofs.YtiaocdbgcjnceaaDoor
