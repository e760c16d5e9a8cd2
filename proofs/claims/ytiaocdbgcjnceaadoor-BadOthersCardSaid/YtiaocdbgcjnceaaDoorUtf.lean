/- The reference's Rune and Decode, as printed, are the model's own encode and decode. -/
import Derived.Test.YtiaocdbgcjnceaaDoorPGBadx
import Derived.Test.YtiaocdbgcjnceaaDoorEnc
import Derived.Lib.DecodeN
import Derived.Lib.RuneCountTail
namespace Go.Proofs.YtiaocdbgcjnceaaDoor
open Go.RowKit Go.Proofs.YtiaocdbgcjnceaaDoorW.PrintWords Go.Proofs.YtiaocdbgcjnceaaDoor.PGBad

theorem point_f (c : Int) : platenref01_Point.f c = some (Utf8.valid c) := by
  unfold platenref01_Point.f Utf8.valid
  repeat' split
  all_goals (rw [Option.some.injEq, Bool.eq_iff_iff]; simp; try omega)

theorem rune_j0 (k : Nat) (n : Nat) (hn : n ≤ 0x10ffff) : platenref01_Rune.j0 (k + 1) (n : Int) = some ⟨(encN n).toArray⟩ := by
  have w0 : wrap64 (n : Int) = n := wrap64_id (by omega) (by omega)
  have w1 : Int.tdiv (n : Int) 64 = ((n / 64 : Nat) : Int) := by rw [Int.tdiv_eq_ediv_of_nonneg (by omega)]; omega
  have w2 : Int.tdiv (n : Int) 4096 = ((n / 4096 : Nat) : Int) := by rw [Int.tdiv_eq_ediv_of_nonneg (by omega)]; omega
  have w3 : Int.tdiv (n : Int) 262144 = ((n / 262144 : Nat) : Int) := by rw [Int.tdiv_eq_ediv_of_nonneg (by omega)]; omega
  have m : ∀ a : Nat, Int.tmod (a : Int) 64 = ((a % 64 : Nat) : Int) := fun a => by rw [Int.tmod_eq_emod_of_nonneg (by omega)]; omega
  have w : ∀ a : Nat, a ≤ 0x110000 → wrap64 (a : Int) = a := fun a ha => wrap64_id (by omega) (by omega)
  have e : ∀ (A : Int) (a b : Nat), A = (a : Int) → a < 256 → b ≤ 0x110000 → a + b < 256 → ((wrap64 (A + (b : Int))) % 256).toNat = a + b := fun A a b hA ha hb hab => by
    subst hA; rw [wrap64_id (by omega) (by omega)]; omega
  unfold platenref01_Rune.j0 encN
  simp only [w0, w1, w2, w3, m]
  rw [w (n / 64) (by omega), w (n / 4096) (by omega), w (n / 262144) (by omega)]
  simp only [m]
  by_cases h1 : n < 128
  · rw [if_pos (by omega), if_pos h1]
    simp only [strOfNums, List.map_cons, List.map_nil]
    rw [show (((n : Int) % 256).toNat) = n by omega]
  rw [if_neg (by omega), if_neg h1]
  by_cases h2 : n < 2048
  · rw [if_pos (by omega), if_pos h2]
    simp only [strOfNums, List.map_cons, List.map_nil]
    rw [e 192 192 (n / 64) rfl (by omega) (by omega) (by omega), e 128 128 (n % 64) rfl (by omega) (by omega) (by omega)]
  rw [if_neg (by omega), if_neg h2]
  by_cases h3 : n < 65536
  · rw [if_pos (by omega), if_pos h3]
    simp only [strOfNums, List.map_cons, List.map_nil]
    rw [e 224 224 (n / 4096) rfl (by omega) (by omega) (by omega), e 128 128 (n / 64 % 64) rfl (by omega) (by omega) (by omega), e 128 128 (n % 64) rfl (by omega) (by omega) (by omega)]
  rw [if_neg (by omega), if_neg h3]
  simp only [strOfNums, List.map_cons, List.map_nil]
  rw [e 240 240 (n / 262144) rfl (by omega) (by omega) (by omega), e 128 128 (n / 4096 % 64) rfl (by omega) (by omega) (by omega), e 128 128 (n / 64 % 64) rfl (by omega) (by omega) (by omega), e 128 128 (n % 64) rfl (by omega) (by omega) (by omega)]

theorem rune_f (k : Nat) (c : Int) : platenref01_Rune.f (k + 1) c = some ⟨(enc c).toArray⟩ := by
  unfold platenref01_Rune.f enc
  rw [point_f]
  simp only [Option.bind_some]
  by_cases h : Utf8.valid c = true
  · rw [if_pos h, if_pos h]
    obtain ⟨n, rfl⟩ : ∃ n : Nat, c = n := ⟨c.toNat, by simp [Utf8.valid] at h; omega⟩
    rw [rune_j0 k n (by simp [Utf8.valid] at h; omega)]
    simp
  · rw [if_neg h, if_neg h]
    exact rune_j0 k 65533 (by omega)


theorem ofNat_eq (x : Nat) (u : UInt8) : UInt8.ofNat x = u ↔ x % 256 = u.toNat := by
  constructor
  · rintro rfl; simp
  · intro h; exact UInt8.toNat_inj.1 (by simpa using h)

theorem valid_nat (c : Nat) : Utf8.valid (c : Int) = true ↔ (c < 55296 ∨ (57344 ≤ c ∧ c ≤ 1114111)) := by
  simp [Utf8.valid]; omega

section tries
variable (u0 u1 u2 u3 : UInt8)
theorem try1 : (Utf8.valid ((u0.toNat : Nat) : Int) = true ∧ encN u0.toNat = [u0]) ↔ u0.toNat < 128 := by
  have h0 := u0.toNat_lt
  rw [valid_nat]; unfold encN
  by_cases c : u0.toNat < 128
  · simp [c]; omega
  · simp [c]
    intro _
    repeat' split
    all_goals simp
theorem try2 : (Utf8.valid ((64 * (u0.toNat % 32) + u1.toNat % 64 : Nat) : Int) = true ∧ encN (64 * (u0.toNat % 32) + u1.toNat % 64) = [u0, u1]) ↔
    (u0.toNat / 32 = 6 ∧ u1.toNat / 64 = 2 ∧ 128 ≤ u0.toNat % 32 * 64 + u1.toNat % 64) := by
  have h0 := u0.toNat_lt; have h1 := u1.toNat_lt
  rw [valid_nat]; unfold encN
  by_cases c1 : 64 * (u0.toNat % 32) + u1.toNat % 64 < 128
  · simp [c1]; omega
  by_cases c2 : 64 * (u0.toNat % 32) + u1.toNat % 64 < 2048
  · simp only [if_neg c1, if_pos c2, List.cons.injEq, ofNat_eq, and_true]; omega
  · omega
theorem try3 : (Utf8.valid ((64 * (64 * (u0.toNat % 16) + u1.toNat % 64) + u2.toNat % 64 : Nat) : Int) = true ∧ encN (64 * (64 * (u0.toNat % 16) + u1.toNat % 64) + u2.toNat % 64) = [u0, u1, u2]) ↔
    (u0.toNat / 16 = 14 ∧ u1.toNat / 64 = 2 ∧ u2.toNat / 64 = 2 ∧ 2048 ≤ u0.toNat % 16 * 4096 + u1.toNat % 64 * 64 + u2.toNat % 64 ∧ (u0.toNat % 16 * 4096 + u1.toNat % 64 * 64 + u2.toNat % 64 < 55296 ∨ (57344 ≤ u0.toNat % 16 * 4096 + u1.toNat % 64 * 64 + u2.toNat % 64 ∧ u0.toNat % 16 * 4096 + u1.toNat % 64 * 64 + u2.toNat % 64 ≤ 1114111))) := by
  have h0 := u0.toNat_lt; have h1 := u1.toNat_lt; have h2 := u2.toNat_lt
  rw [valid_nat]; unfold encN
  generalize hc : 64 * (64 * (u0.toNat % 16) + u1.toNat % 64) + u2.toNat % 64 = c
  by_cases c1 : c < 128
  · simp [c1]; omega
  by_cases c2 : c < 2048
  · simp [c1, c2]; omega
  by_cases c3 : c < 65536
  · simp only [if_neg c1, if_neg c2, if_pos c3, List.cons.injEq, ofNat_eq, and_true]; omega
  · omega
set_option maxHeartbeats 1000000 in
theorem try4 : (Utf8.valid ((64 * (64 * (64 * (u0.toNat % 8) + u1.toNat % 64) + u2.toNat % 64) + u3.toNat % 64 : Nat) : Int) = true ∧ encN (64 * (64 * (64 * (u0.toNat % 8) + u1.toNat % 64) + u2.toNat % 64) + u3.toNat % 64) = [u0, u1, u2, u3]) ↔
    (u0.toNat / 8 = 30 ∧ u1.toNat / 64 = 2 ∧ u2.toNat / 64 = 2 ∧ u3.toNat / 64 = 2 ∧ 65536 ≤ u0.toNat % 8 * 262144 + u1.toNat % 64 * 4096 + u2.toNat % 64 * 64 + u3.toNat % 64 ∧ u0.toNat % 8 * 262144 + u1.toNat % 64 * 4096 + u2.toNat % 64 * 64 + u3.toNat % 64 ≤ 1114111) := by
  have h0 := u0.toNat_lt; have h1 := u1.toNat_lt; have h2 := u2.toNat_lt; have h3 := u3.toNat_lt
  rw [valid_nat]; unfold encN
  generalize hc : 64 * (64 * (64 * (u0.toNat % 8) + u1.toNat % 64) + u2.toNat % 64) + u3.toNat % 64 = c
  by_cases c1 : c < 128
  · simp [c1]; omega
  by_cases c2 : c < 2048
  · simp [c1, c2]; omega
  by_cases c3 : c < 65536
  · simp [c1, c2, c3]; omega
  · simp only [if_neg c1, if_neg c2, if_neg c3, List.cons.injEq, ofNat_eq, and_true]; omega
end tries

/-! ### the reference's tries, one after the other -/
theorem bt_get (s : ByteArray) (i : Nat) : bt s (i : Int) = ((s.get! i).toNat : Int) := by
  rw [← Lib.getD_get!']
  unfold bt
  simp only [Int.toNat_natCast]
  split
  · rename_i h; simp [List.getD, h]; rfl
  · rename_i h; simp [List.getD, h]

set_option maxRecDepth 100000 in
/-- One try's end. -/
theorem try_end (k : Nat) (s : ByteArray) (n c : Nat) (hn : n ≤ s.size) (hn4 : n ≤ 4) (hc : c < 2147483648) :
    platenref01_Decode.l1 (k + 2) s (n : Int) (c : Int) (n : Int) =
      if Utf8.valid (c : Int) = true ∧ encN c = s.data.toList.take n then some ((c : Int), (n : Int), false) else platenref01_Decode.l0 (k + 1) s ((n + 1 : Nat) : Int) := by
  simp only [platenref01_Decode.l1]
  rw [if_neg (by omega), wrap32_id (by omega) (by omega), point_f, rune_f]
  simp only [Option.bind_some]
  rw [wrap64_id (x := (n : Int) + 1) (by omega) (by omega)]
  by_cases v : Utf8.valid (c : Int) = true
  · rw [if_pos v, if_pos (show (0 : Int) ≤ n by omega), if_pos (show (n : Int) ≤ s.size by omega)]
    have e : (enc (c : Int)) = encN c := by simp [enc, v]
    simp only [v, true_and, e, Lib.toList_data, Lib.extract_data, Int.toNat_natCast, List.drop_zero, Nat.sub_zero]
    rfl
  · rw [if_neg v, if_neg (fun h => v h.1)]
    rfl

theorem bt_lt (s : ByteArray) (i : Nat) : (s.get! i).toNat < 256 := (s.get! i).toNat_lt

/-- One more byte of a try. -/
theorem try_step (k : Nat) (s : ByteArray) (n i c : Nat) (hn : n ≤ s.size) (hn4 : n ≤ 4) (hi : i < n) (hc : c < 20000000) :
    platenref01_Decode.l1 (k + 1) s (n : Int) (c : Int) (i : Int) = platenref01_Decode.l1 k s (n : Int) ((64 * c + (s.get! i).toNat % 64 : Nat) : Int) ((i + 1 : Nat) : Int) := by
  have hb := bt_lt s i
  simp only [platenref01_Decode.l1]
  rw [if_pos (by omega), if_pos (by omega), if_pos (by omega), bt_get, wrap64_id (x := ((s.get! i).toNat : Int)) (by omega) (by omega),
    wrap64_id (x := 64 * (c : Int)) (by omega) (by omega), Int.tmod_eq_emod_of_nonneg (by omega), wrap64_id (x := 64 * (c : Int) + _) (by omega) (by omega), wrap64_id (x := (i : Int) + 1) (by omega) (by omega)]
  congr 1

theorem take_1 (s : ByteArray) (h : 1 ≤ s.size) : s.data.toList.take 1 = [s.get! 0] := by
  rw [Lib.size_eq] at h
  simp only [← Lib.getD_get!']
  match s.data.toList, h with
  | a :: l, _ => rfl
theorem take_2 (s : ByteArray) (h : 2 ≤ s.size) : s.data.toList.take 2 = [s.get! 0, s.get! 1] := by
  rw [Lib.size_eq] at h
  simp only [← Lib.getD_get!']
  match s.data.toList, h with
  | a :: b :: l, _ => rfl
theorem take_3 (s : ByteArray) (h : 3 ≤ s.size) : s.data.toList.take 3 = [s.get! 0, s.get! 1, s.get! 2] := by
  rw [Lib.size_eq] at h
  simp only [← Lib.getD_get!']
  match s.data.toList, h with
  | a :: b :: c :: l, _ => rfl
theorem take_4 (s : ByteArray) (h : 4 ≤ s.size) : s.data.toList.take 4 = [s.get! 0, s.get! 1, s.get! 2, s.get! 3] := by
  rw [Lib.size_eq] at h
  simp only [← Lib.getD_get!']
  match s.data.toList, h with
  | a :: b :: c :: d :: l, _ => rfl

theorem dec_end (k : Nat) (s : ByteArray) (n : Nat) (hn : 4 < n ∨ s.size < n) : platenref01_Decode.l0 (k + 2) s (n : Int) = some (65533, 1, true) := by
  simp only [platenref01_Decode.l0, platenref01_Decode.j1]
  by_cases h : (n : Int) ≤ 4
  · rw [if_pos h, decide_eq_false (by omega)]; simp
  · rw [if_neg h]; simp

theorem dec_lead (s : ByteArray) (m : Nat) (hm : 0 < m): Int.tmod (wrap64 (bt s 0)) m = (((s.get! 0).toNat % m : Nat) : Int) := by
  have hb := bt_lt s 0
  have := bt_get s 0
  simp only [Int.natCast_zero] at this
  rw [this, wrap64_id (by omega) (by omega), Int.tmod_eq_emod_of_nonneg (by omega)]
  rfl
theorem dec_lead1 (s : ByteArray) : wrap64 (bt s 0) = (((s.get! 0).toNat : Nat) : Int) := by
  have hb := bt_lt s 0
  have := bt_get s 0
  simp only [Int.natCast_zero] at this
  rw [this, wrap64_id (by omega) (by omega)]

theorem dec_1 (k : Nat) (s : ByteArray) (h : 1 ≤ s.size) :
    platenref01_Decode.l0 (k + 5) s 1 = if (s.get! 0).toNat < 128 then some (((s.get! 0).toNat : Int), 1, false) else platenref01_Decode.l0 (k + 1) s 2 := by
  have e := try_end k s 1 (s.get! 0).toNat h (by omega) (by have := bt_lt s 0; omega)
  rw [take_1 s h] at e
  simp only [propext (try1 (s.get! 0))] at e
  rw [show platenref01_Decode.l0 (k + 5) s 1 = platenref01_Decode.l1 (k + 2) s 1 (wrap64 (bt s 0)) 1 by
    simp only [platenref01_Decode.l0, platenref01_Decode.j1, platenref01_Decode.j2]
    rw [if_pos (by omega), if_pos (by simp; omega), if_pos (by omega), if_neg (by omega), if_neg (by omega), if_neg (by omega)], dec_lead1]
  exact e
theorem dec_2 (k : Nat) (s : ByteArray) (h : 2 ≤ s.size) :
    platenref01_Decode.l0 (k + 6) s 2 = if (s.get! 0).toNat / 32 = 6 ∧ (s.get! 1).toNat / 64 = 2 ∧ 128 ≤ (s.get! 0).toNat % 32 * 64 + (s.get! 1).toNat % 64 then some (((64 * ((s.get! 0).toNat % 32) + (s.get! 1).toNat % 64 : Nat) : Int), 2, false) else platenref01_Decode.l0 (k + 1) s 3 := by
  have e := try_end k s 2 (64 * ((s.get! 0).toNat % 32) + (s.get! 1).toNat % 64) h (by omega) (by omega)
  rw [take_2 s h] at e
  simp only [propext (try2 (s.get! 0) (s.get! 1))] at e
  rw [show platenref01_Decode.l0 (k + 6) s 2 = platenref01_Decode.l1 (k + 3) s 2 (Int.tmod (wrap64 (bt s 0)) 32) 1 by
    simp only [platenref01_Decode.l0, platenref01_Decode.j1, platenref01_Decode.j2]
    rw [if_pos (by omega), if_pos (by simp; omega), if_pos (by omega), if_pos trivial], show Int.tmod (wrap64 (bt s 0)) 32 = _ from dec_lead s 32 (by omega)]
  rw [show platenref01_Decode.l1 (k + 3) s 2 (((s.get! 0).toNat % 32 : Nat) : Int) 1 = platenref01_Decode.l1 (k + 2) s ((2 : Nat) : Int) ((64 * ((s.get! 0).toNat % 32) + (s.get! 1).toNat % 64 : Nat) : Int) ((2 : Nat) : Int)
    from try_step (k + 2) s 2 1 _ h (by omega) (by omega) (by omega)]
  exact e
theorem dec_3 (k : Nat) (s : ByteArray) (h : 3 ≤ s.size) :
    platenref01_Decode.l0 (k + 7) s 3 = if (s.get! 0).toNat / 16 = 14 ∧ (s.get! 1).toNat / 64 = 2 ∧ (s.get! 2).toNat / 64 = 2 ∧ 2048 ≤ (s.get! 0).toNat % 16 * 4096 + (s.get! 1).toNat % 64 * 64 + (s.get! 2).toNat % 64 ∧ ((s.get! 0).toNat % 16 * 4096 + (s.get! 1).toNat % 64 * 64 + (s.get! 2).toNat % 64 < 55296 ∨ (57344 ≤ (s.get! 0).toNat % 16 * 4096 + (s.get! 1).toNat % 64 * 64 + (s.get! 2).toNat % 64 ∧ (s.get! 0).toNat % 16 * 4096 + (s.get! 1).toNat % 64 * 64 + (s.get! 2).toNat % 64 ≤ 1114111)) then some (((64 * (64 * ((s.get! 0).toNat % 16) + (s.get! 1).toNat % 64) + (s.get! 2).toNat % 64 : Nat) : Int), 3, false) else platenref01_Decode.l0 (k + 1) s 4 := by
  have e := try_end k s 3 (64 * (64 * ((s.get! 0).toNat % 16) + (s.get! 1).toNat % 64) + (s.get! 2).toNat % 64) h (by omega) (by omega)
  rw [take_3 s h] at e
  simp only [propext (try3 (s.get! 0) (s.get! 1) (s.get! 2))] at e
  rw [show platenref01_Decode.l0 (k + 7) s 3 = platenref01_Decode.l1 (k + 4) s 3 (Int.tmod (wrap64 (bt s 0)) 16) 1 by
    simp only [platenref01_Decode.l0, platenref01_Decode.j1, platenref01_Decode.j2]
    rw [if_pos (by omega), if_pos (by simp; omega), if_pos (by omega), if_neg (by omega), if_pos trivial], show Int.tmod (wrap64 (bt s 0)) 16 = _ from dec_lead s 16 (by omega)]
  rw [show platenref01_Decode.l1 (k + 4) s 3 (((s.get! 0).toNat % 16 : Nat) : Int) 1 = platenref01_Decode.l1 (k + 3) s ((3 : Nat) : Int) ((64 * ((s.get! 0).toNat % 16) + (s.get! 1).toNat % 64 : Nat) : Int) ((2 : Nat) : Int)
    from try_step (k + 3) s 3 1 _ h (by omega) (by omega) (by omega)]
  rw [try_step (k + 2) s 3 2 _ h (by omega) (by omega) (by omega)]
  exact e
theorem dec_4 (k : Nat) (s : ByteArray) (h : 4 ≤ s.size) :
    platenref01_Decode.l0 (k + 8) s 4 = if (s.get! 0).toNat / 8 = 30 ∧ (s.get! 1).toNat / 64 = 2 ∧ (s.get! 2).toNat / 64 = 2 ∧ (s.get! 3).toNat / 64 = 2 ∧ 65536 ≤ (s.get! 0).toNat % 8 * 262144 + (s.get! 1).toNat % 64 * 4096 + (s.get! 2).toNat % 64 * 64 + (s.get! 3).toNat % 64 ∧ (s.get! 0).toNat % 8 * 262144 + (s.get! 1).toNat % 64 * 4096 + (s.get! 2).toNat % 64 * 64 + (s.get! 3).toNat % 64 ≤ 1114111 then some (((64 * (64 * (64 * ((s.get! 0).toNat % 8) + (s.get! 1).toNat % 64) + (s.get! 2).toNat % 64) + (s.get! 3).toNat % 64 : Nat) : Int), 4, false) else platenref01_Decode.l0 (k + 1) s 5 := by
  have e := try_end k s 4 (64 * (64 * (64 * ((s.get! 0).toNat % 8) + (s.get! 1).toNat % 64) + (s.get! 2).toNat % 64) + (s.get! 3).toNat % 64) h (by omega) (by omega)
  rw [take_4 s h] at e
  simp only [propext (try4 (s.get! 0) (s.get! 1) (s.get! 2) (s.get! 3))] at e
  rw [show platenref01_Decode.l0 (k + 8) s 4 = platenref01_Decode.l1 (k + 5) s 4 (Int.tmod (wrap64 (bt s 0)) 8) 1 by
    simp only [platenref01_Decode.l0, platenref01_Decode.j1, platenref01_Decode.j2]
    rw [if_pos (by omega), if_pos (by simp; omega), if_pos (by omega), if_neg (by omega), if_neg (by omega), if_pos trivial], show Int.tmod (wrap64 (bt s 0)) 8 = _ from dec_lead s 8 (by omega)]
  rw [show platenref01_Decode.l1 (k + 5) s 4 (((s.get! 0).toNat % 8 : Nat) : Int) 1 = platenref01_Decode.l1 (k + 4) s ((4 : Nat) : Int) ((64 * ((s.get! 0).toNat % 8) + (s.get! 1).toNat % 64 : Nat) : Int) ((2 : Nat) : Int)
    from try_step (k + 4) s 4 1 _ h (by omega) (by omega) (by omega)]
  rw [try_step (k + 3) s 4 2 _ h (by omega) (by omega) (by omega), try_step (k + 2) s 4 3 _ h (by omega) (by omega) (by omega)]
  exact e

set_option maxRecDepth 100000 in
set_option maxHeartbeats 4000000 in
/-- THE REFERENCE's Decode IS THE MODEL's. -/
theorem decode_f (k : Nat) (s : ByteArray) (h : s.size ≠ 0) :
    platenref01_Decode.f (k + 30) s = some (((Utf8.decode s 0).1 : Int), ((Utf8.decode s 0).2 : Int), decide (Utf8.decode s 0 = (65533, 1))) := by
  unfold platenref01_Decode.f
  rw [if_neg (by rw [Lib.toList_data]; intro e; exact h (by rw [Lib.size_eq, e]; rfl))]
  rw [Lib.decode_at]
  simp only [Nat.zero_add, Nat.sub_zero]
  rw [dec_1 (k + 25) s (by omega)]
  have hb0 := bt_lt s 0; have hb1 := bt_lt s 1; have hb2 := bt_lt s 2; have hb3 := bt_lt s 3
  have E5 : platenref01_Decode.l0 (k + 8) s 5 = some (65533, 1, true) := dec_end (k + 6) s 5 (by omega)
  have E4 : s.size < 4 → platenref01_Decode.l0 (k + 15) s 4 = some (65533, 1, true) := fun h => dec_end (k + 13) s 4 (by omega)
  have E3 : s.size < 3 → platenref01_Decode.l0 (k + 21) s 3 = some (65533, 1, true) := fun h => dec_end (k + 19) s 3 (by omega)
  have E2 : s.size < 2 → platenref01_Decode.l0 (k + 26) s 2 = some (65533, 1, true) := fun h => dec_end (k + 24) s 2 (by omega)
  have D4 := fun h => dec_4 (k + 7) s h
  have D3 := fun h => dec_3 (k + 14) s h
  have D2 := fun h => dec_2 (k + 20) s h
  generalize (s.get! 0).toNat = b0 at *; generalize (s.get! 1).toNat = b1 at *; generalize (s.get! 2).toNat = b2 at *; generalize (s.get! 3).toNat = b3 at *
  rw [E5] at D4
  generalize hr : Lib.decodeN s.size b0 b1 b2 b3 = r
  have key : ∀ c n : Nat, Lib.decodeN s.size b0 b1 b2 b3 = (c, n) → (some ((c : Int), (n : Int), decide (c = 65533 ∧ n = 1)) : Option (Int × Int × Bool)) = some ((r.1 : Int), (r.2 : Int), decide (r = (65533, 1))) := by
    intro c n e
    rw [hr] at e
    subst e
    simp
  have keyF : ∀ c n : Nat, Lib.decodeN s.size b0 b1 b2 b3 = (c, n) → ¬ (c = 65533 ∧ n = 1) → (some ((c : Int), (n : Int), false) : Option (Int × Int × Bool)) = some ((r.1 : Int), (r.2 : Int), decide (r = (65533, 1))) := by
    intro c n e hne
    rw [← key c n e, decide_eq_false hne]
  have bad : Lib.decodeN s.size b0 b1 b2 b3 = (65533, 1) → (some (65533, 1, true) : Option (Int × Int × Bool)) = some ((r.1 : Int), (r.2 : Int), decide (r = (65533, 1))) := by
    intro e
    rw [← key 65533 1 e]; simp
  clear key hr
  by_cases a1 : b0 < 128
  · rw [if_pos a1]
    exact keyF b0 1 (by unfold Lib.decodeN; rw [if_pos a1]) (by omega)
  rw [if_neg a1]
  by_cases s2 : s.size < 2
  · rw [E2 s2]
    exact bad (by unfold Lib.decodeN; repeat' split
                  all_goals first | rfl | (exfalso; omega))
  rw [D2 (by omega)]
  by_cases a2 : b0 / 32 = 6 ∧ b1 / 64 = 2 ∧ 128 ≤ b0 % 32 * 64 + b1 % 64
  · rw [if_pos a2]
    exact keyF _ 2 (by unfold Lib.decodeN; repeat' split
                       all_goals first | (exfalso; omega) | (apply Prod.ext <;> simp only <;> omega)) (by omega)
  rw [if_neg a2]
  by_cases s3 : s.size < 3
  · rw [E3 s3]
    exact bad (by unfold Lib.decodeN; repeat' split
                  all_goals first | rfl | (exfalso; omega))
  rw [D3 (by omega)]
  by_cases a3 : b0 / 16 = 14 ∧ b1 / 64 = 2 ∧ b2 / 64 = 2 ∧ 2048 ≤ b0 % 16 * 4096 + b1 % 64 * 64 + b2 % 64 ∧ (b0 % 16 * 4096 + b1 % 64 * 64 + b2 % 64 < 55296 ∨ (57344 ≤ b0 % 16 * 4096 + b1 % 64 * 64 + b2 % 64 ∧ b0 % 16 * 4096 + b1 % 64 * 64 + b2 % 64 ≤ 1114111))
  · rw [if_pos a3]
    exact keyF _ 3 (by unfold Lib.decodeN; repeat' split
                       all_goals first | (exfalso; omega) | (apply Prod.ext <;> simp only <;> omega)) (by omega)
  rw [if_neg a3]
  by_cases s4 : s.size < 4
  · rw [E4 s4]
    exact bad (by unfold Lib.decodeN; repeat' split
                  all_goals first | rfl | (exfalso; omega))
  rw [D4 (by omega)]
  by_cases a4 : b0 / 8 = 30 ∧ b1 / 64 = 2 ∧ b2 / 64 = 2 ∧ b3 / 64 = 2 ∧ 65536 ≤ b0 % 8 * 262144 + b1 % 64 * 4096 + b2 % 64 * 64 + b3 % 64 ∧ b0 % 8 * 262144 + b1 % 64 * 4096 + b2 % 64 * 64 + b3 % 64 ≤ 1114111
  · rw [if_pos a4]
    exact keyF _ 4 (by unfold Lib.decodeN; repeat' split
                       all_goals first | (exfalso; omega) | (apply Prod.ext <;> simp only <;> omega)) (by omega)
  rw [if_neg a4]
  exact bad (by unfold Lib.decodeN; repeat' split
                all_goals first | rfl | (exfalso; omega))
end Go.Proofs.YtiaocdbgcjnceaaDoor
