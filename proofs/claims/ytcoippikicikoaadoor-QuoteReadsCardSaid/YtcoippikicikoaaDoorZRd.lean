/- Part of the proof of lawQuoteReads.card: texts merged by this session's bundle.py. -/
import Derived.Test.YtcoippikicikoaaDoorProg
import Derived.Below
import Derived.Deep.Draws
import Derived.Deep.AppendLies
import Derived.Maps.AppendAt
import Derived.OwnWalk
import Derived.Laws.BytesArg
import Derived.Laws.MakeOwn
import Derived.Laws.OwnMore
import Derived.Deep.OwnRows
import Derived.Tactics
import Derived.Lib.ConvBytes
import Derived.Laws.Slices
import Derived.WalkKit
import Derived.KernelRfl
import Derived.RowKit3
import Derived.Deep.LoopGhost
import Derived.Deep.QuietTactic
import Derived.BigQuiet
import Derived.WideLaws
import Derived.Deep.DeepCutAuto
import Derived.Deep.CutBlock
import Derived.Deep.RegionHeld3
import Derived.Laws.Rows
import Derived.Lib.AppendStr
import Derived.ArgAppend
import Derived.Laws.IdiomCopy
import Derived.OrdersHeld
import Derived.Laws.BitsLemmas
import Derived.RowKit
import Derived.Test.YtcoippikicikoaaDoorZRc
namespace Go.Proofs.YtcoippikicikoaaDoor
open Go.RowKit Go.Proofs.YtcoippikicikoaaDoorW.PrintWords Go.Proofs.YtcoippikicikoaaDoorW.PrintMore Go.Proofs.YtcoippikicikoaaDoor.PQRef
open Go.Proofs.YtcoippikicikoaaDoor.PQPut (quote_put.f quote_escape.f)
def plainP (c : Nat) : Bool := decide ((32 ≤ c ∧ c ≤ 126) ∨ (161 ≤ c ∧ c ≤ 55295 ∧ c ≠ 173) ∨ (57344 ≤ c ∧ c ≤ 65532) ∨ (65536 ≤ c ∧ c ≤ 1114111))
theorem plain_f (k : Nat) (c : Nat) : quote_Plain.f (k + 2) (c : Int) = some (plainP c) := by
  unfold quote_Plain.f
  simp only [quote_Plain.j0, quote_Plain.j1, decide_eq_true_eq, Bool.false_eq_true, if_false]
  repeat' split
  all_goals (rw [Option.some.injEq, Bool.eq_iff_iff]; simp [plainP]; try omega)
theorem rplain_f (c : Nat) : platenref02_Plain.f (c : Int) = some (plainP c) := by
  unfold platenref02_Plain.f
  repeat' split
  all_goals (rw [Option.some.injEq, Bool.eq_iff_iff]; simp [plainP]; try omega)
def lettr (d : Nat) : UInt8 := lettersL.getD d 0
def putL (c q : Nat) (asc : Bool) : List UInt8 :=
  if c = q ∨ c = 92 then [92, UInt8.ofNat c]
  else if 7 ≤ c ∧ c ≤ 13 then [92, lettr (c - 7)]
  else if (32 ≤ c ∧ c ≤ 126) ∨ (asc = false ∧ plainP c = true) then enc c
  else if c < 128 then [92, 120] ++ hexL 2 c
  else if c ≤ 65535 then [92, 117] ++ hexL 4 c
  else [92, 85] ++ hexL 8 c
theorem letters_bt (d : Nat) (h : d < 7) : bt (⟨#[97, 98, 116, 110, 118, 102, 114]⟩ : ByteArray) (d : Int) = ((lettr d).toNat : Int) := by
  have : ∀ d : Fin 7, bt (⟨#[97, 98, 116, 110, 118, 102, 114]⟩ : ByteArray) ((d.val : Nat) : Int) = ((lettr d.val).toNat : Int) := by decide
  exact this ⟨d, h⟩
theorem plain_valid (c : Nat) (h : (32 ≤ c ∧ c ≤ 126) ∨ plainP c = true) : Utf8.valid (c : Int) = true := by
  rw [valid_nat]
  simp only [plainP, decide_eq_true_eq] at h
  omega
theorem or192 (x : Nat) (h : x < 32) : Go.bits .or .u8 192 (x : Int) = ((192 + x : Nat) : Int) := by
  rw [u8_or192 _ (by omega) (by omega)]; omega
theorem or224 (x : Nat) (h : x < 16) : Go.bits .or .u8 224 (x : Int) = ((224 + x : Nat) : Int) := by
  rw [u8_or224 _ (by omega) (by omega)]; omega
theorem or240 (x : Nat) (h : x < 8) : Go.bits .or .u8 240 (x : Int) = ((240 + x : Nat) : Int) := by
  rw [u8_or240 _ (by omega) (by omega)]; omega
theorem ofNat_toNat (x : Nat) (h : x < 256) : ((UInt8.ofNat x).toNat : Int) = (x : Int) := by
  rw [UInt8.toNat_ofNat']; omega
theorem nonascii_f (k : Nat) (c : Nat) (hc : 128 ≤ c) (hv : Utf8.valid (c : Int) = true) (l : List Int) (hl : l.length ≤ 10000000000) : PQPut.utf8_appendRuneNonASCII.f (k + 1) l (c : Int) = some (l ++ ints (encN c)) := by
  rw [valid_nat] at hv
  have em : ((c : Int)) % 4294967296 = (c : Int) := by omega
  have e6 : ∀ n : Nat, ((c : Int) / (n : Int)) = ((c / n : Nat) : Int) := fun n => rfl
  have ed : ∀ x n : Nat, x < 256 → ((x : Int)) % 256 = (x : Int) := fun x n h => by omega
  unfold PQPut.utf8_appendRuneNonASCII.f
  rw [em]
  unfold encN ints
  by_cases h2 : c < 2048
  · rw [if_pos (by omega), if_neg (by omega), if_pos h2]
    have a1 : Go.bits .or .u8 192 ((c : Int) / 64 % 256) = ((192 + c / 64 : Nat) : Int) := by
      rw [show (c : Int) / 64 % 256 = ((c / 64 : Nat) : Int) by omega]; exact or192 _ (by omega)
    rw [a1]
    simp only [Option.bind_some, List.length_cons, List.length_nil, List.map_cons, List.map_nil]
    rw [if_pos (by omega), ofNat_toNat _ (by omega), ofNat_toNat _ (by omega)]
    rfl
  rw [if_neg (show ¬ (c : Int) ≤ 2047 by omega), if_neg (show ¬ c < 128 by omega), if_neg h2]
  have J : ∀ b, b = decide (c < 65536) → PQPut.utf8_appendRuneNonASCII.j0 (k + 1) l (c : Int) (c : Int) b = some (l ++ List.map (fun x : UInt8 => (x.toNat : Int)) (if c < 65536 then [UInt8.ofNat (224 + c / 4096), UInt8.ofNat (128 + c / 64 % 64), UInt8.ofNat (128 + c % 64)] else [UInt8.ofNat (240 + c / 262144), UInt8.ofNat (128 + c / 4096 % 64), UInt8.ofNat (128 + c / 64 % 64), UInt8.ofNat (128 + c % 64)])) := by
    rintro b rfl
    simp only [PQPut.utf8_appendRuneNonASCII.j0]
    by_cases h3 : c < 65536
    · rw [if_pos (by simpa using h3), if_pos h3]
      have a1 : Go.bits .or .u8 224 ((c : Int) / 4096 % 256) = ((224 + c / 4096 : Nat) : Int) := by
        rw [show (c : Int) / 4096 % 256 = ((c / 4096 : Nat) : Int) by omega]; exact or224 _ (by omega)
      rw [a1]
      simp only [Option.bind_some, List.length_cons, List.length_nil, List.map_cons, List.map_nil]
      rw [if_pos (by omega), ofNat_toNat _ (by omega), ofNat_toNat _ (by omega), ofNat_toNat _ (by omega)]
      rfl
    · rw [if_neg (by simpa using h3), if_pos (by omega), if_pos (by omega), if_neg h3]
      have a1 : Go.bits .or .u8 240 ((c : Int) / 262144 % 256) = ((240 + c / 262144 : Nat) : Int) := by
        rw [show (c : Int) / 262144 % 256 = ((c / 262144 : Nat) : Int) by omega]; exact or240 _ (by omega)
      rw [a1]
      simp only [Option.bind_some, List.length_cons, List.length_nil, List.map_cons, List.map_nil]
      rw [if_pos (by omega), ofNat_toNat _ (by omega), ofNat_toNat _ (by omega), ofNat_toNat _ (by omega), ofNat_toNat _ (by omega)]
      rfl
  by_cases h4 : c < 55296
  · rw [if_pos (by omega)]; exact J _ (by rw [decide_eq_true (by omega), decide_eq_true (by omega)])
  · rw [if_neg (by omega), if_pos (by omega)]
    exact J _ (by by_cases h : c < 65536 <;> simp <;> omega)
theorem append_f (k : Nat) (c : Nat) (hv : Utf8.valid (c : Int) = true) (l : List Int) (hl : l.length ≤ 10000000000) : PQPut.utf8_AppendRune.f (k + 1) l (c : Int) = some (l ++ ints (enc (c : Int))) := by
  have ee : enc (c : Int) = encN c := by unfold enc; rw [if_pos hv, Int.toNat_natCast]
  rw [ee]
  unfold PQPut.utf8_AppendRune.f
  by_cases h : c < 128
  · have hv' := (valid_nat c).1 hv
    rw [if_pos (by omega), if_pos (by omega)]
    unfold encN ints
    rw [if_pos h]
    simp only [List.map_cons, List.map_nil]
    rw [ofNat_toNat _ (by omega), show (c : Int) % 256 = (c : Int) by omega]
  · have hv' := (valid_nat c).1 hv
    rw [if_neg (by omega), nonascii_f k c (by omega) hv l hl]
    rfl
theorem put_f (c q : Nat) (asc : Bool) (hc : c ≤ 1114111) (l : List Int) (hl : l.length ≤ 10000000) : quote_put.f 100 l (c : Int) (q : Int) asc = some (l ++ ints (putL c q asc)) := by
  have hput : ∀ k, 20 ≤ k → ∀ b, b = decide (c = q ∨ c = 92) → PQPut.quote_put.j0 k l (c : Int) asc b = some (l ++ ints (putL c q asc)) := by
    rintro k hk b rfl
    obtain ⟨k, rfl⟩ : ∃ k', k = k' + 4 := ⟨k - 4, by omega⟩
    unfold putL
    simp only [PQPut.quote_put.j0]
    by_cases h1 : c = q ∨ c = 92
    · rw [if_pos (decide_eq_true h1), if_pos h1]
      simp only [Option.bind_some, List.length_cons, List.length_nil]
      rw [if_pos (by omega)]
      simp only [ints, List.map_cons, List.map_nil]
      rw [show (((UInt8.ofNat c).toNat : Nat) : Int) = (c : Int) % 256 by rw [UInt8.toNat_ofNat']; omega]
      rfl
    rw [if_neg (by rw [decide_eq_false h1]; decide), if_neg h1]
    have hj1 : PQPut.quote_put.j1 (k + 3) l (c : Int) asc (decide (7 ≤ c ∧ c ≤ 13)) = some (l ++ ints (if 7 ≤ c ∧ c ≤ 13 then [92, lettr (c - 7)]
      else if (32 ≤ c ∧ c ≤ 126) ∨ (asc = false ∧ plainP c = true) then enc c
      else if c < 128 then [92, 120] ++ hexL 2 c
      else if c ≤ 65535 then [92, 117] ++ hexL 4 c
      else [92, 85] ++ hexL 8 c)) := by
      simp only [PQPut.quote_put.j1]
      by_cases h2 : 7 ≤ c ∧ c ≤ 13
      · rw [if_pos (decide_eq_true h2), if_pos h2, wrap32_id (by omega) (by omega), if_pos (by omega), if_pos (by omega)]
        rw [show (c : Int) - 7 = ((c - 7 : Nat) : Int) by omega, letters_bt _ (by omega)]
        simp only [Option.bind_some, List.length_cons, List.length_nil]
        rw [if_pos (by omega)]
        rfl
      rw [if_neg (by rw [decide_eq_false h2]; decide), if_neg h2]
      have hj3 : PQPut.quote_put.j3 (k + 1) l (c : Int) (decide ((32 ≤ c ∧ c ≤ 126) ∨ (asc = false ∧ plainP c = true))) = some (l ++ ints (if (32 ≤ c ∧ c ≤ 126) ∨ (asc = false ∧ plainP c = true) then enc c
        else if c < 128 then [92, 120] ++ hexL 2 c
        else if c ≤ 65535 then [92, 117] ++ hexL 4 c
        else [92, 85] ++ hexL 8 c)) := by
        simp only [PQPut.quote_put.j3]
        by_cases h3 : (32 ≤ c ∧ c ≤ 126) ∨ (asc = false ∧ plainP c = true)
        · rw [if_pos (decide_eq_true h3), if_pos h3]
          obtain ⟨k, rfl⟩ : ∃ k', k = k' + 1 := ⟨k - 1, by omega⟩
          rw [append_f k c (plain_valid c (h3.imp id (fun h => h.2))) l (by omega)]
          rfl
        rw [if_neg (by rw [decide_eq_false h3]; decide), if_neg h3]
        by_cases h4 : c < 128
        · rw [if_pos (by omega), if_pos h4, show (120 : Int) = ((120 : Nat) : Int) from rfl, show (2 : Int) = ((2 : Nat) : Int) from rfl, escape_f k (by omega) c 120 2 hc l (by omega) (by omega) (by omega)]
          rfl
        rw [if_neg (by omega), if_neg h4]
        by_cases h5 : c ≤ 65535
        · rw [if_pos (by omega), if_pos h5, show (117 : Int) = ((117 : Nat) : Int) from rfl, show (4 : Int) = ((4 : Nat) : Int) from rfl, escape_f k (by omega) c 117 4 hc l (by omega) (by omega) (by omega)]
          rfl
        · rw [if_neg (by omega), if_neg h5, show (85 : Int) = ((85 : Nat) : Int) from rfl, show (8 : Int) = ((8 : Nat) : Int) from rfl, escape_f k (by omega) c 85 8 hc l (by omega) (by omega) (by omega)]
          rfl
      rw [← hj3]
      have hj2 : ∀ b, b = decide (32 ≤ c ∧ c ≤ 126) → PQPut.quote_put.j2 (k + 2) l (c : Int) asc b = PQPut.quote_put.j3 (k + 1) l (c : Int) (decide ((32 ≤ c ∧ c ≤ 126) ∨ (asc = false ∧ plainP c = true))) := by
        rintro b rfl
        simp only [PQPut.quote_put.j2]
        by_cases h6 : 32 ≤ c ∧ c ≤ 126
        · rw [if_pos (decide_eq_true h6), decide_eq_true h6, decide_eq_true (.inl h6)]
        rw [if_neg (by rw [decide_eq_false h6]; decide)]
        cases asc with
        | true => rw [if_pos rfl, decide_eq_false (by rintro (h | h); exact h6 h; cases h.1)]
        | false =>
          rw [if_neg (by decide)]
          obtain ⟨k, rfl⟩ : ∃ k', k = k' + 1 := ⟨k - 1, by omega⟩
          rw [plain_f k c]
          simp only [Option.bind_some]
          congr 1
          rw [Bool.eq_iff_iff, decide_eq_true_eq]
          simp [h6]
      by_cases h7 : c < 127
      · rw [if_pos (by omega)]
        exact hj2 _ (by rw [Bool.eq_iff_iff, decide_eq_true_eq, decide_eq_true_eq]; omega)
      · rw [if_neg (by omega)]
        exact hj2 _ (by rw [eq_comm, decide_eq_false_iff_not]; omega)
    rw [← hj1]
    by_cases h8 : 7 ≤ c
    · rw [if_pos (by omega)]
      congr 1
      rw [Bool.eq_iff_iff, decide_eq_true_eq, decide_eq_true_eq]; omega
    · rw [if_neg (by omega)]
      congr 1
      rw [eq_comm, decide_eq_false_iff_not]; omega
  unfold quote_put.f
  by_cases h0 : c = q
  · rw [if_pos (by omega)]
    exact hput 100 (by omega) _ (by rw [decide_eq_true (.inl h0)])
  · rw [if_neg (by omega)]
    exact hput 100 (by omega) _ (by rw [Bool.eq_iff_iff, decide_eq_true_eq, beq_iff_eq]; omega)
end Go.Proofs.YtcoippikicikoaaDoor
namespace Go.Proofs.YtcoippikicikoaaDoor
open Go.RowKit Go.Proofs.YtcoippikicikoaaDoorW.PrintWords Go.Proofs.YtcoippikicikoaaDoorW.PrintMore Go.Proofs.YtcoippikicikoaaDoor.PQRef
theorem digit_f (d : Nat) (h : d < 16) : platenref02_Digit.f (d : Int) false = some (T [hxd d]) := by
  have e : ∀ d : Fin 16, (([48, 49, 50, 51, 52, 53, 54, 55, 56, 57, 97, 98, 99, 100, 101, 102] : List UInt8).drop d.val).take 1 = [hxd d.val] := by decide
  unfold platenref02_Digit.f
  rw [if_neg (by decide), if_pos (by omega), wrap64_id (by omega) (by omega), if_pos (by omega), if_pos (by omega)]
  congr 1
  refine bytes_ext ?_
  rw [ByteArray.data_extract, Array.toList_extract]
  simp only [List.extract_eq_take_drop]
  rw [show ((d : Int) + 1).toNat - (d : Int).toNat = 1 by omega, Int.toNat_natCast]
  exact e ⟨d, h⟩
theorem T_append (a b : List UInt8) : T a ++ T b = T (a ++ b) := bytes_ext (by rw [Joins.data_append])
theorem small1 (i : Nat) (h : i ≤ 8) : 1 + i ≤ 9223372036854775807 := by omega
theorem small2 (a b n : Nat) (ha : a = 2) (hb : b = n) (h : n ≤ 8) : a + b ≤ 9223372036854775807 := by omega
theorem str2 (a b : Int) : (strOfNums [a, b]).size = 2 := rfl
theorem digits_l0 (c w : Nat) (hc : c ≤ 1114111) (hw : w ≤ 8) : ∀ (m k i : Nat), i + m = w → m + 1 ≤ k → platenref02_Digits.l0 k ((c / 16 ^ i : Nat) : Int) (w : Int) (T (hexL i c)) (i : Int) = some (T (hexL w c)) := by
  intro m
  induction m with
  | zero =>
    intro k i him hk
    obtain ⟨k, rfl⟩ : ∃ k', k = k' + 1 := ⟨k - 1, by omega⟩
    simp only [platenref02_Digits.l0]
    rw [if_neg (by omega), show i = w by omega]
  | succ m ih =>
    intro k i him hk
    obtain ⟨k, rfl⟩ : ∃ k', k = k' + 1 := ⟨k - 1, by omega⟩
    have hle : c / 16 ^ i ≤ c := Nat.div_le_self _ _
    have e1 : Int.tmod ((c / 16 ^ i : Nat) : Int) 16 = ((c / 16 ^ i % 16 : Nat) : Int) := by
      generalize c / 16 ^ i = q at hle ⊢
      rw [Int.tmod_eq_emod_of_nonneg (by omega)]; omega
    have e2 : wrap64 (Int.tdiv ((c / 16 ^ i : Nat) : Int) 16) = ((c / 16 ^ (i + 1) : Nat) : Int) := by
      rw [Nat.pow_succ, ← Nat.div_div_eq_div_mul]
      generalize c / 16 ^ i = q at hle ⊢
      rw [Int.tdiv_eq_ediv_of_nonneg (by omega), wrap64_id (by omega) (by omega)]
      omega
    have e3 : wrap64 ((i : Int) + 1) = ((i + 1 : Nat) : Int) := by rw [wrap64_id (by omega) (by omega)]; omega
    have e4 : T [hxd (c / 16 ^ i % 16)] ++ T (hexL i c) = T (hexL (i + 1) c) := by rw [T_append]; rfl
    simp only [platenref02_Digits.l0]
    rw [if_pos (by omega), e1, digit_f _ (by omega)]
    simp only [Option.bind_some]
    have s1 : (T [hxd (c / 16 ^ i % 16)]).size = 1 := T_size _
    have s2 : (T (hexL i c)).size = i := by rw [T_size, hexL_length]
    have s3 : (T [hxd (c / 16 ^ i % 16)]).size + (T (hexL i c)).size ≤ 9223372036854775807 := by rw [s1, s2]; exact small1 i (by clear e1 e2 e3 e4 hle s1 s2 ih; omega)
    rw [if_pos s3, e2, e3, e4]
    exact ih k (i + 1) (by omega) (by omega)
theorem digits_f (k c w : Nat) (hk : 9 ≤ k) (hc : c ≤ 1114111) (hw : w ≤ 8) : platenref02_Digits.f k (c : Int) (w : Int) = some (T (hexL w c)) := by
  have := digits_l0 c w hc hw w k 0 (Nat.zero_add w) (by omega)
  have e0 : T (hexL 0 c) = (⟨#[]⟩ : ByteArray) := rfl
  rw [Nat.pow_zero, Nat.div_one, e0, show ((0 : Nat) : Int) = 0 from rfl] at this
  unfold platenref02_Digits.f
  exact this
theorem esc_T (a : Int) (b : UInt8) (l : List UInt8) (h : strOfNums [92, a] = T [92, b]) : strOfNums [92, a] ++ T l = T ([92, b] ++ l) := by
  rw [h, T_append]
theorem In_j2 (k c : Nat) (asc : Bool) (hc : c ≤ 1114111) (hk : 16 ≤ k) (b : Bool) (hb : b = decide ((32 ≤ c ∧ c ≤ 126) ∨ (asc = false ∧ plainP c = true))) : platenref02_In.j2 (k + 2) (c : Int) (c : Int) b = some (T (if (32 ≤ c ∧ c ≤ 126) ∨ (asc = false ∧ plainP c = true) then enc c
        else if c < 128 then [92, 120] ++ hexL 2 c
        else if c ≤ 65535 then [92, 117] ++ hexL 4 c
        else [92, 85] ++ hexL 8 c)) := by
  subst hb
  simp only [platenref02_In.j2]
  by_cases h3 : (32 ≤ c ∧ c ≤ 126) ∨ (asc = false ∧ plainP c = true)
  · rw [if_pos (decide_eq_true h3), if_pos h3, rune_f k c]
    rfl
  rw [if_neg (by rw [decide_eq_false h3]; decide), if_neg h3]
  have sz : ∀ a b n, n ≤ 8 → (strOfNums [a, b]).size + (T (hexL n c)).size ≤ 9223372036854775807 := fun a b n hn => by
    have h2 : (T (hexL n c)).size = n := by rw [T_size, hexL_length]
    exact small2 _ _ n (str2 a b) h2 hn
  by_cases h4 : c < 128
  · have := digits_f (k + 1) c 2 (by omega) hc (by omega)
    rw [if_pos (by omega), if_pos h4, show (2 : Int) = ((2 : Nat) : Int) from rfl, Option.bind_some, this, Option.bind_some, if_pos (sz _ _ 2 (by omega)), esc_T 120 120 _ (strOfNums_ints [92, 120])]
  rw [if_neg (by omega), if_neg h4]
  by_cases h5 : c ≤ 65535
  · have := digits_f (k + 1) c 4 (by omega) hc (by omega)
    rw [if_pos (by omega), if_pos h5, show (4 : Int) = ((4 : Nat) : Int) from rfl, Option.bind_some, this, Option.bind_some, if_pos (sz _ _ 4 (by omega)), esc_T 117 117 _ (strOfNums_ints [92, 117])]
  · have := digits_f (k + 1) c 8 (by omega) hc (by omega)
    rw [if_neg (by omega), if_neg h5, show (8 : Int) = ((8 : Nat) : Int) from rfl, Option.bind_some, this, Option.bind_some, if_pos (sz _ _ 8 (by omega)), esc_T 85 85 _ (strOfNums_ints [92, 85])]
theorem In_f (K c q : Nat) (asc : Bool) (hc : c ≤ 1114111) (hq : q ≤ 255) (hK : 20 ≤ K) : platenref02_In.f K (c : Int) (q : Int) asc = some (T (putL c q asc)) := by
  have wc : wrap64 (c : Int) = (c : Int) := wrap64_id (by omega) (by omega)
  have wq : wrap64 (q : Int) = (q : Int) := wrap64_id (by omega) (by omega)
  have hput : ∀ k, 20 ≤ k → ∀ b, b = decide (c = q ∨ c = 92) → platenref02_In.j0 k (c : Int) asc (c : Int) b = some (T (putL c q asc)) := by
    rintro k hk b rfl
    obtain ⟨k, rfl⟩ : ∃ k', k = k' + 4 := ⟨k - 4, by omega⟩
    unfold putL
    simp only [platenref02_In.j0]
    by_cases h1 : c = q ∨ c = 92
    · rw [if_pos (decide_eq_true h1), if_pos h1]
      have : ([92, (c : Int) % 256] : List Int) = ints [92, UInt8.ofNat c] := by
        simp only [ints, List.map_cons, List.map_nil]
        rw [show (((UInt8.ofNat c).toNat : Nat) : Int) = (c : Int) % 256 by rw [UInt8.toNat_ofNat']; omega]
        rfl
      rw [this, strOfNums_ints]
    rw [if_neg (by rw [decide_eq_false h1]; decide), if_neg h1]
    have hj1 : platenref02_In.j1 (k + 3) (c : Int) asc (c : Int) (decide (7 ≤ c ∧ c ≤ 13)) = some (T (if 7 ≤ c ∧ c ≤ 13 then [92, lettr (c - 7)]
      else if (32 ≤ c ∧ c ≤ 126) ∨ (asc = false ∧ plainP c = true) then enc c
      else if c < 128 then [92, 120] ++ hexL 2 c
      else if c ≤ 65535 then [92, 117] ++ hexL 4 c
      else [92, 85] ++ hexL 8 c)) := by
      simp only [platenref02_In.j1]
      by_cases h2 : 7 ≤ c ∧ c ≤ 13
      · rw [if_pos (decide_eq_true h2), if_pos h2, wrap64_id (by omega) (by omega), if_pos (by omega), if_pos (by omega)]
        rw [show (c : Int) - 7 = ((c - 7 : Nat) : Int) by omega, letters_bt _ (by omega)]
        have := strOfNums_ints [92, lettr (c - 7)]
        exact congrArg some this
      rw [if_neg (by rw [decide_eq_false h2]; decide), if_neg h2]
      have hj3 := In_j2 k c asc hc (by omega)
      rw [rplain_f c]
      simp only [Option.bind_some]
      by_cases h6 : plainP c = true
      · rw [if_pos h6]
        cases asc with
        | true =>
          rw [if_pos rfl]
          refine hj3 _ ?_
          rw [Bool.eq_iff_iff, decide_eq_true_eq, decide_eq_true_eq]
          simp only [plainP, decide_eq_true_eq] at h6
          simp
          omega
        | false =>
          rw [if_neg (by decide)]
          refine hj3 _ ?_
          rw [eq_comm, decide_eq_true_eq]
          exact .inr ⟨rfl, h6⟩
      · rw [if_neg h6]
        refine hj3 _ ?_
        rw [eq_comm, decide_eq_false_iff_not]
        simp only [plainP, decide_eq_true_eq] at h6 ⊢
        intro h
        omega
    rw [← hj1]
    by_cases h8 : 7 ≤ c
    · rw [if_pos (by omega)]
      congr 1
      rw [Bool.eq_iff_iff, decide_eq_true_eq, decide_eq_true_eq]; omega
    · rw [if_neg (by omega)]
      congr 1
      rw [eq_comm, decide_eq_false_iff_not]; omega
  unfold platenref02_In.f
  rw [wc, wq]
  by_cases h0 : c = q
  · rw [if_pos (by omega)]
    exact hput K hK _ (by rw [decide_eq_true (.inl h0)])
  · rw [if_neg (by omega)]
    exact hput K hK _ (by rw [Bool.eq_iff_iff, decide_eq_true_eq, beq_iff_eq]; omega)
end Go.Proofs.YtcoippikicikoaaDoor
namespace Go.Proofs.YtcoippikicikoaaDoor.PQGen
open Go.RowKit Go.Proofs.YtcoippikicikoaaDoorW.PrintWords Go.Proofs.YtcoippikicikoaaDoorW.PrintLast Go.Proofs.YtcoippikicikoaaDoorW.PrintMore
attribute [local go_sem] max2_int min2_int max_two min_two
set_option linter.unusedVariables false
set_option linter.unusedSimpArgs false
def errW : Option Int → Value
 | none => .nilIface
 | some c => .iface 0 (.int .i64 c)
theorem errW_none : errW none = .nilIface := rfl
theorem errW_some (c : Int) : errW (some c) = .iface 0 (.int .i64 c) := rfl
theorem info5 : (Tryd.prog.info? 5).map (fun i => (i.zero, i.size, i.bytes)) = some (some (.int .u8 0), 1, 1) := by kernel_rfl
end Go.Proofs.YtcoippikicikoaaDoor.PQGen
namespace Go.Proofs.YtcoippikicikoaaDoor.PQGen
open Go.RowKit Go.Proofs.YtcoippikicikoaaDoorW.PrintWords Go.Proofs.YtcoippikicikoaaDoorW.PrintLast Go.Proofs.YtcoippikicikoaaDoorW.PrintMore
attribute [local go_sem] max2_int min2_int max_two min_two
set_option linter.unusedVariables false
set_option linter.unusedSimpArgs false
def buf_Fill.f (a0 : Int) (a1 : Int) : Option (ByteArray) := (strings_Repeat.f (strOfNums (([a0] : List Int))) (mx 0 (mn a1 1000))).bind fun t104 => (some t104)
set_option maxHeartbeats 8000000 in
set_option maxRecDepth 100000 in
theorem buf_Fill.calls (a0 : Int) (a1 : Int) (r : ByteArray) (w : World) (h : buf_Fill.f a0 a1 = some r) :
 Calls Tryd.prog 50 #[.int .u8 a0, .int .i64 a1] w fun e w' => e = .returned (.string r) ∧ Below w.heap.size w w' := by
 have HB := Aside0.mk (Below.refl w.heap.size w)
 have H : ((strings_Repeat.f (strOfNums (([a0] : List Int))) (mx 0 (mn a1 1000))).bind fun t104 => (some t104)) = some r := h
 clear h
 obtain ⟨y101, hy101⟩ : ∃ y_ : List Int, y_ = (([a0] : List Int)) := ⟨_, rfl⟩
 replace H : ((strings_Repeat.f (strOfNums y101) (mx 0 (mn a1 1000))).bind fun t104 => (some t104)) = some r := by first | (rw [hy101]; with_reducible exact H) | (have H2_ := (Option.bind_some _ _).symm.trans H; rw [hy101]; with_reducible exact H2_) | (have H2_ := (Option.bind_some _ _).symm.trans H; with_reducible exact H2_) | with_reducible exact H | (rw [hy101]; exact H) | exact H
 have Ny101 := Aside0.mk hy101
 clear hy101
 obtain ⟨ji3, hji3⟩ : ∃ j_ : Int, (mn a1 1000) = j_ := ⟨_, rfl⟩
 replace H : ((strings_Repeat.f (strOfNums y101) (mx 0 (ji3))).bind fun t104 => (some t104)) = some r := by first | (rw [hji3] at H; exact H) | (simp only [hji3] at H ⊢; exact H)
 (try (have hji3h : ji3 ≤ 1000 := by (rw [← hji3]; unfold mn; (repeat' split) <;> omega)))
 (try (have hji3g : ji3 ≤ 64 := by omega))
 have hji3_ : (if 1000 < a1 then 1000 else a1) = ji3 := hji3
 obtain ⟨ji4, hji4⟩ : ∃ j_ : Int, (mx 0 (ji3)) = j_ := ⟨_, rfl⟩
 replace H : ((strings_Repeat.f (strOfNums y101) (ji4)).bind fun t104 => (some t104)) = some r := by first | (rw [hji4] at H; exact H) | (simp only [hji4] at H ⊢; exact H)
 have hji4_ : (if 0 < (ji3) then (ji3) else 0) = ji4 := hji4
 replace H := Option.bind_eq_some_iff.mp H
 obtain ⟨t104, A50, H⟩ := H
 replace H : (some t104) = some r := H
 have A5 := Aside0.mk A50
 clear A50
 obtain rfl := Option.some.inj H
 go_enter Tryd.func50, Tryd.ntmps50
 go_wp2_with (first | ((with_reducible refine gate_dst (N := 6) rfl ?_); refine Kd.R_lit (Kd.int .u8) _ 5 ?hg (N := 6) ?hd (xs := ([a0] : List Int)) (inner := [.int .u8 a0]) (ok := fun _ => True) (okp := fun _ => True) ?hr ?hp (fun _ hk => hk) trivial (Below.refl _ _) (Nat.le_refl _) (by simp) ?_; (case hd => rfl); (case hg => rfl); (case hr => first | (go_simp; done) | (go_simp; rfl)); (case hp => exact (Reps.one (show Kd.M (Kd.int .u8) _ _ _ a0 [.int .u8 a0] from rfl) (Reps.none _ _))); intro v102 w6 ho7 hb hg_ hnew_; clear hg_ hnew_; (first | rw [← Ny101.out] at ho7 | (simp only [Int.reduceToNat] at ho7; rw [← Ny101.out] at ho7)); have n0_ := Aside0.mk (Kd.R_lower ho7 (below_size (by repeat (first | (with_reducible first | exact HB.out | apply below_alloc | apply pw_below_drewN | apply below_drew1) | exact HB.out)))); have n1_ := Aside0.mk (below_step (by repeat (first | (with_reducible first | exact HB.out | apply below_alloc | apply pw_below_drewN | apply below_drew1) | exact HB.out)) hb); clear HB; have HO103 := n0_; have HB := n1_; clear n0_ n1_; clear hb ho7; have hcv8 := own_string (P := Tryd.prog) Tryd.underlying44 Tryd.underlying5 Tryd.underlying9 (Kd.own_of_R HO103.out)) | ((with_reducible refine gate_callee (f := 60) rfl ?_); refine goesL_ (some 11) rfl rfl Tryd.func60 (by kernel_rfl) rfl #[.string (strOfNums y101), .int .i64 ji4] rfl (by (try simp only [List.map_toArray, List.map_cons, List.map_nil]); first | done | (simp only [hji4]; rfl) | rfl | (simp only [List.length_drop, List.length_take]; rfl)) ?_; (with_reducible refine (strings_Repeat.calls (strOfNums y101) ji4 t104 _ A5.out).mono ?_); rintro e w9 ⟨rfl, hb⟩; refine ⟨_, rfl, ?_⟩; have n0_ := Aside0.mk (Kd.R_below (by (with_reducible repeat (first | apply Kd.R_alloc | apply Kd.R_drewN | apply Kd.R_drew)); exact HO103.out) hb); have n1_ := Aside0.mk (below_step (by repeat (first | (with_reducible first | exact HB.out | apply below_alloc | apply pw_below_drewN | apply below_drew1) | exact HB.out)) hb); clear HO103; clear HB; have HO103 := n0_; have HB := n1_; clear n0_ n1_; (try clear hb); (try clear hb2); (try clear hk); (try clear hi)))
 go_ret
 exact ⟨by first | rfl | (simp [errW_none, errW_some] <;> rfl) | (simp only [← hji3, ← hji4]; first | rfl | (simp [errW_none, errW_some] <;> rfl)) | (simp [*, errW_none, errW_some] <;> rfl), by repeat (first | (with_reducible first | exact HB.out | apply below_alloc | apply pw_below_drewN | apply below_drew1) | exact HB.out)⟩
def buf_Pad.f (a0 : ByteArray) (a1_0 : Bool) (a1_1 : Bool) (a1_2 : Bool) (a1_3 : Bool) (a1_4 : Bool) (a1_5 : Int) (a1_6 : Int) (a1_7 : Int) : Option (ByteArray) := (buf_Count.f a0).bind fun t106 => (if (wrap64 ((mx 0 (mn a1_5 1000)) - t106)) ≤ 0 then (some a0) else (if a1_1 = true then ((buf_Fill.f 32 (wrap64 ((mx 0 (mn a1_5 1000)) - t106))).bind fun t107 => (if a0.size + t107.size ≤ 9223372036854775807 then (some (a0 ++ t107)) else (none))) else (if a1_4 = true then ((buf_Fill.f 48 (wrap64 ((mx 0 (mn a1_5 1000)) - t106))).bind fun t108 => (if t108.size + a0.size ≤ 9223372036854775807 then (some (t108 ++ a0)) else (none))) else ((buf_Fill.f 32 (wrap64 ((mx 0 (mn a1_5 1000)) - t106))).bind fun t109 => (if t109.size + a0.size ≤ 9223372036854775807 then (some (t109 ++ a0)) else (none))))))
def buf_Pad.T1 : Bool × List (List Nat × List Nat) := (true, [([], []), ([0], [0]), ([1], [1]), ([2], [2]), ([], []), ([4], [4]), ([3, 5], [3, 5]), ([6, 5, 0, 1, 2, 3, 4, 5, 6], [6])])
def buf_Pad.B1 : List Nat := [0, 1, 3, 7, 0, 16, 63, 127]
theorem buf_Pad.tab1 : rtab .any (opsOf Tryd.f32 1) = buf_Pad.T1 := by kernel_rfl
theorem buf_Pad.bits1 : waitsOk buf_Pad.T1.2 buf_Pad.B1 = true := by kernel_rfl
set_option maxHeartbeats 8000000 in
set_option maxRecDepth 100000 in
theorem buf_Pad.calls (a0 : ByteArray) (a1_0 : Bool) (a1_1 : Bool) (a1_2 : Bool) (a1_3 : Bool) (a1_4 : Bool) (a1_5 : Int) (a1_6 : Int) (a1_7 : Int) (r : ByteArray) (w : World) (h : buf_Pad.f a0 a1_0 a1_1 a1_2 a1_3 a1_4 a1_5 a1_6 a1_7 = some r) :
 Calls Tryd.prog 32 #[.string a0, .agg #[.bool a1_0, .bool a1_1, .bool a1_2, .bool a1_3, .bool a1_4, .int .i64 a1_5, .int .i64 a1_6, .int .i32 a1_7]] w fun e w' => e = .returned (.string r) ∧ Below w.heap.size w w' := by
 have hu28 := Tryd.underlying28
 have HB := Aside0.mk (Below.refl w.heap.size w)
 have H : ((buf_Count.f a0).bind fun t106 => (if (wrap64 ((mx 0 (mn a1_5 1000)) - t106)) ≤ 0 then (some a0) else (if a1_1 = true then ((buf_Fill.f 32 (wrap64 ((mx 0 (mn a1_5 1000)) - t106))).bind fun t107 => (if a0.size + t107.size ≤ 9223372036854775807 then (some (a0 ++ t107)) else (none))) else (if a1_4 = true then ((buf_Fill.f 48 (wrap64 ((mx 0 (mn a1_5 1000)) - t106))).bind fun t108 => (if t108.size + a0.size ≤ 9223372036854775807 then (some (t108 ++ a0)) else (none))) else ((buf_Fill.f 32 (wrap64 ((mx 0 (mn a1_5 1000)) - t106))).bind fun t109 => (if t109.size + a0.size ≤ 9223372036854775807 then (some (t109 ++ a0)) else (none))))))) = some r := h
 clear h
 obtain ⟨ji3, hji3⟩ : ∃ j_ : Int, (mn a1_5 1000) = j_ := ⟨_, rfl⟩
 replace H : ((buf_Count.f a0).bind fun t106 => (if (wrap64 ((mx 0 (ji3)) - t106)) ≤ 0 then (some a0) else (if a1_1 = true then ((buf_Fill.f 32 (wrap64 ((mx 0 (ji3)) - t106))).bind fun t107 => (if a0.size + t107.size ≤ 9223372036854775807 then (some (a0 ++ t107)) else (none))) else (if a1_4 = true then ((buf_Fill.f 48 (wrap64 ((mx 0 (ji3)) - t106))).bind fun t108 => (if t108.size + a0.size ≤ 9223372036854775807 then (some (t108 ++ a0)) else (none))) else ((buf_Fill.f 32 (wrap64 ((mx 0 (ji3)) - t106))).bind fun t109 => (if t109.size + a0.size ≤ 9223372036854775807 then (some (t109 ++ a0)) else (none))))))) = some r := by first | (rw [hji3] at H; exact H) | (simp only [hji3] at H ⊢; exact H)
 (try (have hji3h : ji3 ≤ 1000 := by (rw [← hji3]; unfold mn; (repeat' split) <;> omega)))
 (try (have hji3g : ji3 ≤ 64 := by omega))
 have hji3_ : (if 1000 < a1_5 then 1000 else a1_5) = ji3 := hji3
 obtain ⟨ji4, hji4⟩ : ∃ j_ : Int, (mx 0 (ji3)) = j_ := ⟨_, rfl⟩
 replace H : ((buf_Count.f a0).bind fun t106 => (if (wrap64 ((ji4) - t106)) ≤ 0 then (some a0) else (if a1_1 = true then ((buf_Fill.f 32 (wrap64 ((ji4) - t106))).bind fun t107 => (if a0.size + t107.size ≤ 9223372036854775807 then (some (a0 ++ t107)) else (none))) else (if a1_4 = true then ((buf_Fill.f 48 (wrap64 ((ji4) - t106))).bind fun t108 => (if t108.size + a0.size ≤ 9223372036854775807 then (some (t108 ++ a0)) else (none))) else ((buf_Fill.f 32 (wrap64 ((ji4) - t106))).bind fun t109 => (if t109.size + a0.size ≤ 9223372036854775807 then (some (t109 ++ a0)) else (none))))))) = some r := by first | (rw [hji4] at H; exact H) | (simp only [hji4] at H ⊢; exact H)
 have hji4_ : (if 0 < (ji3) then (ji3) else 0) = ji4 := hji4
 replace H := Option.bind_eq_some_iff.mp H
 obtain ⟨t106, A50, H⟩ := H
 replace H : (if (wrap64 ((ji4) - t106)) ≤ 0 then (some a0) else (if a1_1 = true then ((buf_Fill.f 32 (wrap64 ((ji4) - t106))).bind fun t107 => (if a0.size + t107.size ≤ 9223372036854775807 then (some (a0 ++ t107)) else (none))) else (if a1_4 = true then ((buf_Fill.f 48 (wrap64 ((ji4) - t106))).bind fun t108 => (if t108.size + a0.size ≤ 9223372036854775807 then (some (t108 ++ a0)) else (none))) else ((buf_Fill.f 32 (wrap64 ((ji4) - t106))).bind fun t109 => (if t109.size + a0.size ≤ 9223372036854775807 then (some (t109 ++ a0)) else (none)))))) = some r := H
 have A5 := Aside0.mk A50
 clear A50
 by_cases c6 : (wrap64 ((ji4) - t106)) ≤ 0
 ·
  rw [if_pos c6] at H
  have c6b0 : decide ((wrap64 ((ji4) - t106)) ≤ 0) = true := decide_eq_true c6
  clear c6
  obtain rfl := Option.some.inj H
  go_enter Tryd.func32, Tryd.ntmps32
  try go_wp2_with (first | ((with_reducible refine gate_dst (N := 3) rfl ?_); refine box_event ?hg (N := 3) ?hd (cs := #[.bool a1_0, .bool a1_1, .bool a1_2, .bool a1_3, .bool a1_4, .int .i64 a1_5, .int .i64 a1_6, .int .i32 a1_7]) (t := 28) ?hr ?_; (case hd => rfl); (case hg => rfl); (case hr => first | (go_simp; done) | (go_simp; rfl)); intro gb105 hg w7 hbox hb; have n0_ := Aside0.mk (below_step (by repeat (first | (with_reducible first | exact HB.out | apply below_alloc | apply pw_below_drewN | apply below_drew1) | exact HB.out)) hb); have n1_ := Aside0.mk (hbox); have n2_ := Aside0.mk ((by rw [hg]; exact (below_size (by repeat (first | (with_reducible first | exact HB.out | apply below_alloc | apply pw_below_drewN | apply below_drew1) | exact HB.out))) : w.heap.size ≤ gb105)); have n3_ := Aside0.mk ((by rw [hg]; exact (below_size (by repeat (first | (with_reducible first | exact HB.out | apply below_alloc | apply pw_below_drewN | apply below_drew1) | exact HB.out))) : w.heap.size ≤ gb105)); clear HB; have HB := n0_; have BK105 := n1_; have GW105 := n2_; have GE105 := n3_; clear n0_ n1_ n2_ n3_; clear hb hbox hg))
  have n0_ := Aside0.mk (blk_drew BK105.out)
  have n1_ := Aside0.mk (below_drew1 HB.out)
  clear BK105
  clear HB
  have BK105 := n0_
  have HB := n1_
  clear n0_ n1_
  refine start_ (n := 8) (S := fun w' => w'.cell? ⟨gb105, 0, none⟩ = some (.bool a1_0) ∧ w'.cell? ⟨gb105, 1, none⟩ = some (.bool a1_1) ∧ w'.cell? ⟨gb105, 2, none⟩ = some (.bool a1_2) ∧ w'.cell? ⟨gb105, 3, none⟩ = some (.bool a1_3) ∧ w'.cell? ⟨gb105, 4, none⟩ = some (.bool a1_4) ∧ w'.cell? ⟨gb105, 5, none⟩ = some (.int .i64 a1_5) ∧ w'.cell? ⟨gb105, 6, none⟩ = some (.int .i64 a1_6) ∧ w'.cell? ⟨gb105, 7, none⟩ = some (.int .i32 a1_7)) (ds := []) #[false, false, false, false, false, false, false, false] (by kernel_rfl) rfl rfl ⟨(blk_cell BK105.out 0).trans rfl, (blk_cell BK105.out 1).trans rfl, (blk_cell BK105.out 2).trans rfl, (blk_cell BK105.out 3).trans rfl, (blk_cell BK105.out 4).trans rfl, (blk_cell BK105.out 5).trans rfl, (blk_cell BK105.out 6).trans rfl, (blk_cell BK105.out 7).trans rfl⟩ (fun hHeld => ?_); refine with_tabW buf_Pad.tab1 buf_Pad.bits1 (fun HT_ HW_ => ?_)
  generalize w7.drew = w8 at BK105 HB hHeld ⊢
  refine pure_ (i := 0) (N := some 6) (v := ?_) (a' := ?_) #[true, false, false, false, false, false, false, false] rfl rfl (any_of HT_.out (by kernel_rfl)) (fun _ _ _ h => h) (Or.inl ⟨by rfl, ?_⟩) ?_ ?_
  rotate_left
  ·
   intro w'
   go_simp
   with_reducible rfl
  rotate_left
  ·
   simp only [Act.put, List.setIfInBounds_toArray, List.set_cons_zero, List.set_cons_succ, i64_w, i32_w]
   rfl
  refine pure_ (i := 4) (N := some 10) (v := ?_) (a' := ?_) #[true, false, false, false, true, false, false, false] rfl rfl (any_of HT_.out (by kernel_rfl)) (fun _ _ _ h => h) (Or.inl ⟨by rfl, ?_⟩) ?_ ?_
  rotate_left
  ·
   intro w'
   go_simp
   with_reducible rfl
  rotate_left
  ·
   simp only [Act.put, List.setIfInBounds_toArray, List.set_cons_zero, List.set_cons_succ, i64_w, i32_w]
   rfl
  refine take_ (i := 1) (N := some 7) (v := ?_) (a' := ?_) #[true, true, false, false, true, false, false, false] rfl rfl (take_ofW HT_.out HW_.out (by kernel_rfl)) (fun _ _ _ h => h) (Or.inl ⟨by rfl, ?_⟩) hHeld ?_ ?_
  rotate_left
  ·
   rintro w' ⟨s0, s1, s2, s3, s4, s5, s6, s7⟩
   go_simp
   with_reducible rfl
  rotate_left
  ·
   simp only [Act.put, List.setIfInBounds_toArray, List.set_cons_zero, List.set_cons_succ, i64_w, i32_w]
   rfl
  refine pure_ (i := 2) (N := some 8) (v := ?_) (a' := ?_) #[true, true, true, false, true, false, false, false] rfl rfl (any_of HT_.out (by kernel_rfl)) (fun _ _ _ h => h) (Or.inl ⟨by rfl, ?_⟩) ?_ ?_
  rotate_left
  ·
   intro w'
   go_simp
   with_reducible rfl
  rotate_left
  ·
   simp only [Act.put, List.setIfInBounds_toArray, List.set_cons_zero, List.set_cons_succ, i64_w, i32_w]
   rfl
  refine pure_ (i := 3) (N := some 9) (v := ?_) (a' := ?_) #[true, true, true, true, true, false, false, false] rfl rfl (any_of HT_.out (by kernel_rfl)) (fun _ _ _ h => h) (Or.inl ⟨by rfl, ?_⟩) ?_ ?_
  rotate_left
  ·
   intro w'
   go_simp
   with_reducible rfl
  rotate_left
  ·
   simp only [Act.put, List.setIfInBounds_toArray, List.set_cons_zero, List.set_cons_succ, i64_w, i32_w]
   rfl
  refine one_ (i := 5) (N := some 11) #[true, true, true, true, true, true, false, false] rfl rfl (one_of HT_.out (by kernel_rfl)) (by decide) (fun K hK => ?_)
  refine goes_ Tryd.func21 (by kernel_rfl) rfl #[.string a0] (by rfl) rfl rfl (by (try simp only [List.map_toArray, List.map_cons, List.map_nil]); first | done | rfl | (simp only [List.length_drop, List.length_take]; rfl)) ?_
  with_reducible refine (buf_Count.calls a0 t106 _ A5.out).mono ?_
  rintro e w9 ⟨rfl, hb⟩
  refine ⟨_, rfl, ?_⟩
  have n0_ := Aside0.mk (blk_below (g := gb105) (o := .cells #[.bool a1_0, .bool a1_1, .bool a1_2, .bool a1_3, .bool a1_4, .int .i64 a1_5, .int .i64 a1_6, .int .i32 a1_7] 28 (0, 0)) (by (with_reducible repeat (first | refine blk_drewN ?_ _ | refine blk_drew ?_ | refine blk_alloc ?_ _)); exact BK105.out) hb)
  have n1_ := Aside0.mk (below_step (by repeat (first | (with_reducible first | exact HB.out | apply below_alloc | apply pw_below_drewN | apply below_drew1 | refine below_set ?_ GE105.out) | exact HB.out)) hb)
  clear BK105
  clear HB
  have BK105 := n0_
  have HB := n1_
  clear n0_ n1_
  (try clear hb)
  (try clear hb2)
  (try clear hk)
  (try clear hi)
  refine hK.out _ _ ⟨(blk_cell BK105.out 0).trans rfl, (blk_cell BK105.out 1).trans rfl, (blk_cell BK105.out 2).trans rfl, (blk_cell BK105.out 3).trans rfl, (blk_cell BK105.out 4).trans rfl, (blk_cell BK105.out 5).trans rfl, (blk_cell BK105.out 6).trans rfl, (blk_cell BK105.out 7).trans rfl⟩ (fun hHeld => ?_)
  clear hK K
  refine norm_ (a' := ?_) ?_ ?_
  rotate_left
  ·
   show Act.put _ (some 11) _ = _
   simp only [Act.put, List.setIfInBounds_toArray, List.set_cons_zero, List.set_cons_succ, i64_w, i32_w]
   rfl
  refine pure_ (i := 6) (N := some 12) (v := ?_) (a' := ?_) #[true, true, true, true, true, true, true, false] rfl rfl (any_of HT_.out (by kernel_rfl)) (fun _ _ _ h => h) (Or.inl ⟨by rfl, ?_⟩) ?_ ?_
  rotate_left
  ·
   intro w'
   go_simp
   with_reducible rfl
  rotate_left
  ·
   simp only [Act.put, List.setIfInBounds_toArray, List.set_cons_zero, List.set_cons_succ, i64_w, i32_w]
   rfl
  refine pure_ (i := 7) (N := some 5) (v := ?_) (a' := ?_) #[true, true, true, true, true, true, true, true] rfl rfl (any_of HT_.out (by kernel_rfl)) (fun _ _ _ h => h) (Or.inl ⟨by rfl, ?_⟩) ?_ ?_
  rotate_left
  ·
   intro w'
   go_simp
   with_reducible rfl
  rotate_left
  ·
   simp only [Act.put, List.setIfInBounds_toArray, List.set_cons_zero, List.set_cons_succ, i64_w, i32_w]
   rfl
  refine done_ (done_of HT_.out (by kernel_rfl)) ?_
  try go_wp2
  go_ret
  exact ⟨by first | rfl | (simp [errW_none, errW_some] <;> rfl) | (simp only [← hji3, ← hji4]; first | rfl | (simp [errW_none, errW_some] <;> rfl)) | (simp [*, errW_none, errW_some] <;> rfl), by repeat (first | (with_reducible first | exact HB.out | apply below_alloc | apply pw_below_drewN | apply below_drew1 | refine below_set ?_ GE105.out) | exact HB.out)⟩
 ·
  rw [if_neg c6] at H
  have c6b0 : decide ((wrap64 ((ji4) - t106)) ≤ 0) = false := decide_eq_false c6
  clear c6
  by_cases c10 : a1_1 = true
  ·
   subst c10
   have H1 : ((buf_Fill.f 32 (wrap64 ((ji4) - t106))).bind fun t107 => (if a0.size + t107.size ≤ 9223372036854775807 then (some (a0 ++ t107)) else (none))) = some r := by rw [if_pos rfl] at H; exact H
   clear H
   have H := H1
   clear H1
   replace H := Option.bind_eq_some_iff.mp H
   obtain ⟨t107, A110, H⟩ := H
   replace H : (if a0.size + t107.size ≤ 9223372036854775807 then (some (a0 ++ t107)) else (none)) = some r := H
   have A11 := Aside0.mk A110
   clear A110
   by_cases c12 : a0.size + t107.size ≤ 9223372036854775807
   ·
    rw [if_pos c12] at H
    have c12b0 := eq_true c12
    have c12b1 : decide (a0.size + t107.size ≤ 9223372036854775807) = true := decide_eq_true c12
    try have c12b2 : (9223372036854775807 < a0.size + t107.size) = False := eq_false (Nat.not_lt.2 c12)
    obtain rfl := Option.some.inj H
    go_enter Tryd.func32, Tryd.ntmps32
    try go_wp2_with (first | ((with_reducible refine gate_dst (N := 3) rfl ?_); refine box_event ?hg (N := 3) ?hd (cs := #[.bool a1_0, .bool true, .bool a1_2, .bool a1_3, .bool a1_4, .int .i64 a1_5, .int .i64 a1_6, .int .i32 a1_7]) (t := 28) ?hr ?_; (case hd => rfl); (case hg => rfl); (case hr => first | (go_simp; done) | (go_simp; rfl)); intro gb105 hg w13 hbox hb; have n0_ := Aside0.mk (below_step (by repeat (first | (with_reducible first | exact HB.out | apply below_alloc | apply pw_below_drewN | apply below_drew1) | exact HB.out)) hb); have n1_ := Aside0.mk (hbox); have n2_ := Aside0.mk ((by rw [hg]; exact (below_size (by repeat (first | (with_reducible first | exact HB.out | apply below_alloc | apply pw_below_drewN | apply below_drew1) | exact HB.out))) : w.heap.size ≤ gb105)); have n3_ := Aside0.mk ((by rw [hg]; exact (below_size (by repeat (first | (with_reducible first | exact HB.out | apply below_alloc | apply pw_below_drewN | apply below_drew1) | exact HB.out))) : w.heap.size ≤ gb105)); clear HB; have HB := n0_; have BK105 := n1_; have GW105 := n2_; have GE105 := n3_; clear n0_ n1_ n2_ n3_; clear hb hbox hg))
    have n0_ := Aside0.mk (blk_drew BK105.out)
    have n1_ := Aside0.mk (below_drew1 HB.out)
    clear BK105
    clear HB
    have BK105 := n0_
    have HB := n1_
    clear n0_ n1_
    refine start_ (n := 8) (S := fun w' => w'.cell? ⟨gb105, 0, none⟩ = some (.bool a1_0) ∧ w'.cell? ⟨gb105, 1, none⟩ = some (.bool true) ∧ w'.cell? ⟨gb105, 2, none⟩ = some (.bool a1_2) ∧ w'.cell? ⟨gb105, 3, none⟩ = some (.bool a1_3) ∧ w'.cell? ⟨gb105, 4, none⟩ = some (.bool a1_4) ∧ w'.cell? ⟨gb105, 5, none⟩ = some (.int .i64 a1_5) ∧ w'.cell? ⟨gb105, 6, none⟩ = some (.int .i64 a1_6) ∧ w'.cell? ⟨gb105, 7, none⟩ = some (.int .i32 a1_7)) (ds := []) #[false, false, false, false, false, false, false, false] (by kernel_rfl) rfl rfl ⟨(blk_cell BK105.out 0).trans rfl, (blk_cell BK105.out 1).trans rfl, (blk_cell BK105.out 2).trans rfl, (blk_cell BK105.out 3).trans rfl, (blk_cell BK105.out 4).trans rfl, (blk_cell BK105.out 5).trans rfl, (blk_cell BK105.out 6).trans rfl, (blk_cell BK105.out 7).trans rfl⟩ (fun hHeld => ?_); refine with_tabW buf_Pad.tab1 buf_Pad.bits1 (fun HT_ HW_ => ?_)
    generalize w13.drew = w14 at BK105 HB hHeld ⊢
    refine pure_ (i := 0) (N := some 6) (v := ?_) (a' := ?_) #[true, false, false, false, false, false, false, false] rfl rfl (any_of HT_.out (by kernel_rfl)) (fun _ _ _ h => h) (Or.inl ⟨by rfl, ?_⟩) ?_ ?_
    rotate_left
    ·
     intro w'
     go_simp
     with_reducible rfl
    rotate_left
    ·
     simp only [Act.put, List.setIfInBounds_toArray, List.set_cons_zero, List.set_cons_succ, i64_w, i32_w]
     rfl
    refine pure_ (i := 4) (N := some 10) (v := ?_) (a' := ?_) #[true, false, false, false, true, false, false, false] rfl rfl (any_of HT_.out (by kernel_rfl)) (fun _ _ _ h => h) (Or.inl ⟨by rfl, ?_⟩) ?_ ?_
    rotate_left
    ·
     intro w'
     go_simp
     with_reducible rfl
    rotate_left
    ·
     simp only [Act.put, List.setIfInBounds_toArray, List.set_cons_zero, List.set_cons_succ, i64_w, i32_w]
     rfl
    refine take_ (i := 1) (N := some 7) (v := ?_) (a' := ?_) #[true, true, false, false, true, false, false, false] rfl rfl (take_ofW HT_.out HW_.out (by kernel_rfl)) (fun _ _ _ h => h) (Or.inl ⟨by rfl, ?_⟩) hHeld ?_ ?_
    rotate_left
    ·
     rintro w' ⟨s0, s1, s2, s3, s4, s5, s6, s7⟩
     go_simp
     with_reducible rfl
    rotate_left
    ·
     simp only [Act.put, List.setIfInBounds_toArray, List.set_cons_zero, List.set_cons_succ, i64_w, i32_w]
     rfl
    refine pure_ (i := 2) (N := some 8) (v := ?_) (a' := ?_) #[true, true, true, false, true, false, false, false] rfl rfl (any_of HT_.out (by kernel_rfl)) (fun _ _ _ h => h) (Or.inl ⟨by rfl, ?_⟩) ?_ ?_
    rotate_left
    ·
     intro w'
     go_simp
     with_reducible rfl
    rotate_left
    ·
     simp only [Act.put, List.setIfInBounds_toArray, List.set_cons_zero, List.set_cons_succ, i64_w, i32_w]
     rfl
    refine pure_ (i := 3) (N := some 9) (v := ?_) (a' := ?_) #[true, true, true, true, true, false, false, false] rfl rfl (any_of HT_.out (by kernel_rfl)) (fun _ _ _ h => h) (Or.inl ⟨by rfl, ?_⟩) ?_ ?_
    rotate_left
    ·
     intro w'
     go_simp
     with_reducible rfl
    rotate_left
    ·
     simp only [Act.put, List.setIfInBounds_toArray, List.set_cons_zero, List.set_cons_succ, i64_w, i32_w]
     rfl
    refine one_ (i := 5) (N := some 11) #[true, true, true, true, true, true, false, false] rfl rfl (one_of HT_.out (by kernel_rfl)) (by decide) (fun K hK => ?_)
    refine goes_ Tryd.func21 (by kernel_rfl) rfl #[.string a0] (by rfl) rfl rfl (by (try simp only [List.map_toArray, List.map_cons, List.map_nil]); first | done | rfl | (simp only [List.length_drop, List.length_take]; rfl)) ?_
    with_reducible refine (buf_Count.calls a0 t106 _ A5.out).mono ?_
    rintro e w15 ⟨rfl, hb⟩
    refine ⟨_, rfl, ?_⟩
    have n0_ := Aside0.mk (blk_below (g := gb105) (o := .cells #[.bool a1_0, .bool true, .bool a1_2, .bool a1_3, .bool a1_4, .int .i64 a1_5, .int .i64 a1_6, .int .i32 a1_7] 28 (0, 0)) (by (with_reducible repeat (first | refine blk_drewN ?_ _ | refine blk_drew ?_ | refine blk_alloc ?_ _)); exact BK105.out) hb)
    have n1_ := Aside0.mk (below_step (by repeat (first | (with_reducible first | exact HB.out | apply below_alloc | apply pw_below_drewN | apply below_drew1 | refine below_set ?_ GE105.out) | exact HB.out)) hb)
    clear BK105
    clear HB
    have BK105 := n0_
    have HB := n1_
    clear n0_ n1_
    (try clear hb)
    (try clear hb2)
    (try clear hk)
    (try clear hi)
    refine hK.out _ _ ⟨(blk_cell BK105.out 0).trans rfl, (blk_cell BK105.out 1).trans rfl, (blk_cell BK105.out 2).trans rfl, (blk_cell BK105.out 3).trans rfl, (blk_cell BK105.out 4).trans rfl, (blk_cell BK105.out 5).trans rfl, (blk_cell BK105.out 6).trans rfl, (blk_cell BK105.out 7).trans rfl⟩ (fun hHeld => ?_)
    clear hK K
    refine norm_ (a' := ?_) ?_ ?_
    rotate_left
    ·
     show Act.put _ (some 11) _ = _
     simp only [Act.put, List.setIfInBounds_toArray, List.set_cons_zero, List.set_cons_succ, i64_w, i32_w]
     rfl
    refine pure_ (i := 6) (N := some 12) (v := ?_) (a' := ?_) #[true, true, true, true, true, true, true, false] rfl rfl (any_of HT_.out (by kernel_rfl)) (fun _ _ _ h => h) (Or.inl ⟨by rfl, ?_⟩) ?_ ?_
    rotate_left
    ·
     intro w'
     go_simp
     with_reducible rfl
    rotate_left
    ·
     simp only [Act.put, List.setIfInBounds_toArray, List.set_cons_zero, List.set_cons_succ, i64_w, i32_w]
     rfl
    refine pure_ (i := 7) (N := some 5) (v := ?_) (a' := ?_) #[true, true, true, true, true, true, true, true] rfl rfl (any_of HT_.out (by kernel_rfl)) (fun _ _ _ h => h) (Or.inl ⟨by rfl, ?_⟩) ?_ ?_
    rotate_left
    ·
     intro w'
     go_simp
     with_reducible rfl
    rotate_left
    ·
     simp only [Act.put, List.setIfInBounds_toArray, List.set_cons_zero, List.set_cons_succ, i64_w, i32_w]
     rfl
    refine done_ (done_of HT_.out (by kernel_rfl)) ?_
    have hcz16_0 : w15.cell? ⟨gb105, 0, none⟩ = some (.bool a1_0) := (blk_cell BK105.out 0).trans rfl
    have hcz16_1 : w15.cell? ⟨gb105, 1, none⟩ = some (.bool true) := (blk_cell BK105.out 1).trans rfl
    have hcz16_2 : w15.cell? ⟨gb105, 2, none⟩ = some (.bool a1_2) := (blk_cell BK105.out 2).trans rfl
    have hcz16_3 : w15.cell? ⟨gb105, 3, none⟩ = some (.bool a1_3) := (blk_cell BK105.out 3).trans rfl
    have hcz16_4 : w15.cell? ⟨gb105, 4, none⟩ = some (.bool a1_4) := (blk_cell BK105.out 4).trans rfl
    have hcz16_5 : w15.cell? ⟨gb105, 5, none⟩ = some (.int .i64 a1_5) := (blk_cell BK105.out 5).trans rfl
    have hcz16_6 : w15.cell? ⟨gb105, 6, none⟩ = some (.int .i64 a1_6) := (blk_cell BK105.out 6).trans rfl
    have hcz16_7 : w15.cell? ⟨gb105, 7, none⟩ = some (.int .i32 a1_7) := (blk_cell BK105.out 7).trans rfl
    have hfz16_0 := blk_frozen BK105.out 0
    have hfz16_1 := blk_frozen BK105.out 1
    have hfz16_2 := blk_frozen BK105.out 2
    have hfz16_3 := blk_frozen BK105.out 3
    have hfz16_4 := blk_frozen BK105.out 4
    have hfz16_5 := blk_frozen BK105.out 5
    have hfz16_6 := blk_frozen BK105.out 6
    have hfz16_7 := blk_frozen BK105.out 7
    try go_wp2_with (first | ((with_reducible refine gate_callee (f := 50) rfl ?_); refine goesL_ (some 22) rfl rfl Tryd.func50 (by kernel_rfl) rfl #[.int .u8 32, .int .i64 (wrap64 ((ji4) - t106))] rfl (by (try simp only [List.map_toArray, List.map_cons, List.map_nil]); first | done | (simp only [hji4]; rfl) | rfl | (simp only [List.length_drop, List.length_take]; rfl)) ?_; (first | (with_reducible refine (buf_Fill.calls 32 (wrap64 ((ji4) - t106)) t107 _ A11.out).mono ?_) | (simp only [i64_w]; (with_reducible refine (buf_Fill.calls 32 (wrap64 ((ji4) - t106)) t107 _ A11.out).mono ?_))); rintro e w17 ⟨rfl, hb⟩; refine ⟨_, rfl, ?_⟩; have n0_ := Aside0.mk (blk_below (g := gb105) (o := .cells #[.bool a1_0, .bool true, .bool a1_2, .bool a1_3, .bool a1_4, .int .i64 a1_5, .int .i64 a1_6, .int .i32 a1_7] 28 (0, 0)) (by (with_reducible repeat (first | refine blk_drewN ?_ _ | refine blk_drew ?_ | refine blk_alloc ?_ _)); exact BK105.out) hb); have n1_ := Aside0.mk (below_step (by repeat (first | (with_reducible first | exact HB.out | apply below_alloc | apply pw_below_drewN | apply below_drew1 | refine below_set ?_ GE105.out) | exact HB.out)) hb); clear BK105; clear HB; have BK105 := n0_; have HB := n1_; clear n0_ n1_; (try clear hb); (try clear hb2); (try clear hk); (try clear hi)))
    go_ret
    exact ⟨by first | rfl | (simp [errW_none, errW_some] <;> rfl) | (simp only [← hji3, ← hji4]; first | rfl | (simp [errW_none, errW_some] <;> rfl)) | (simp [*, errW_none, errW_some] <;> rfl), by repeat (first | (with_reducible first | exact HB.out | apply below_alloc | apply pw_below_drewN | apply below_drew1 | refine below_set ?_ GE105.out) | exact HB.out)⟩
   ·
    rw [if_neg c12] at H
    exact absurd H (by simp)
  ·
   replace c10 := Bool.eq_false_iff.mpr c10
   subst c10
   have H1 : (if a1_4 = true then ((buf_Fill.f 48 (wrap64 ((ji4) - t106))).bind fun t108 => (if t108.size + a0.size ≤ 9223372036854775807 then (some (t108 ++ a0)) else (none))) else ((buf_Fill.f 32 (wrap64 ((ji4) - t106))).bind fun t109 => (if t109.size + a0.size ≤ 9223372036854775807 then (some (t109 ++ a0)) else (none)))) = some r := by rw [if_neg (show ¬ (false = true) by decide)] at H; exact H
   clear H
   have H := H1
   clear H1
   by_cases c18 : a1_4 = true
   ·
    subst c18
    have H1 : ((buf_Fill.f 48 (wrap64 ((ji4) - t106))).bind fun t108 => (if t108.size + a0.size ≤ 9223372036854775807 then (some (t108 ++ a0)) else (none))) = some r := by rw [if_pos rfl] at H; exact H
    clear H
    have H := H1
    clear H1
    replace H := Option.bind_eq_some_iff.mp H
    obtain ⟨t108, A190, H⟩ := H
    replace H : (if t108.size + a0.size ≤ 9223372036854775807 then (some (t108 ++ a0)) else (none)) = some r := H
    have A19 := Aside0.mk A190
    clear A190
    by_cases c20 : t108.size + a0.size ≤ 9223372036854775807
    ·
     rw [if_pos c20] at H
     have c20b0 := eq_true c20
     have c20b1 : decide (t108.size + a0.size ≤ 9223372036854775807) = true := decide_eq_true c20
     try have c20b2 : (9223372036854775807 < t108.size + a0.size) = False := eq_false (Nat.not_lt.2 c20)
     obtain rfl := Option.some.inj H
     go_enter Tryd.func32, Tryd.ntmps32
     try go_wp2_with (first | ((with_reducible refine gate_dst (N := 3) rfl ?_); refine box_event ?hg (N := 3) ?hd (cs := #[.bool a1_0, .bool false, .bool a1_2, .bool a1_3, .bool true, .int .i64 a1_5, .int .i64 a1_6, .int .i32 a1_7]) (t := 28) ?hr ?_; (case hd => rfl); (case hg => rfl); (case hr => first | (go_simp; done) | (go_simp; rfl)); intro gb105 hg w21 hbox hb; have n0_ := Aside0.mk (below_step (by repeat (first | (with_reducible first | exact HB.out | apply below_alloc | apply pw_below_drewN | apply below_drew1) | exact HB.out)) hb); have n1_ := Aside0.mk (hbox); have n2_ := Aside0.mk ((by rw [hg]; exact (below_size (by repeat (first | (with_reducible first | exact HB.out | apply below_alloc | apply pw_below_drewN | apply below_drew1) | exact HB.out))) : w.heap.size ≤ gb105)); have n3_ := Aside0.mk ((by rw [hg]; exact (below_size (by repeat (first | (with_reducible first | exact HB.out | apply below_alloc | apply pw_below_drewN | apply below_drew1) | exact HB.out))) : w.heap.size ≤ gb105)); clear HB; have HB := n0_; have BK105 := n1_; have GW105 := n2_; have GE105 := n3_; clear n0_ n1_ n2_ n3_; clear hb hbox hg))
     have n0_ := Aside0.mk (blk_drew BK105.out)
     have n1_ := Aside0.mk (below_drew1 HB.out)
     clear BK105
     clear HB
     have BK105 := n0_
     have HB := n1_
     clear n0_ n1_
     refine start_ (n := 8) (S := fun w' => w'.cell? ⟨gb105, 0, none⟩ = some (.bool a1_0) ∧ w'.cell? ⟨gb105, 1, none⟩ = some (.bool false) ∧ w'.cell? ⟨gb105, 2, none⟩ = some (.bool a1_2) ∧ w'.cell? ⟨gb105, 3, none⟩ = some (.bool a1_3) ∧ w'.cell? ⟨gb105, 4, none⟩ = some (.bool true) ∧ w'.cell? ⟨gb105, 5, none⟩ = some (.int .i64 a1_5) ∧ w'.cell? ⟨gb105, 6, none⟩ = some (.int .i64 a1_6) ∧ w'.cell? ⟨gb105, 7, none⟩ = some (.int .i32 a1_7)) (ds := []) #[false, false, false, false, false, false, false, false] (by kernel_rfl) rfl rfl ⟨(blk_cell BK105.out 0).trans rfl, (blk_cell BK105.out 1).trans rfl, (blk_cell BK105.out 2).trans rfl, (blk_cell BK105.out 3).trans rfl, (blk_cell BK105.out 4).trans rfl, (blk_cell BK105.out 5).trans rfl, (blk_cell BK105.out 6).trans rfl, (blk_cell BK105.out 7).trans rfl⟩ (fun hHeld => ?_); refine with_tabW buf_Pad.tab1 buf_Pad.bits1 (fun HT_ HW_ => ?_)
     generalize w21.drew = w22 at BK105 HB hHeld ⊢
     refine pure_ (i := 0) (N := some 6) (v := ?_) (a' := ?_) #[true, false, false, false, false, false, false, false] rfl rfl (any_of HT_.out (by kernel_rfl)) (fun _ _ _ h => h) (Or.inl ⟨by rfl, ?_⟩) ?_ ?_
     rotate_left
     ·
      intro w'
      go_simp
      with_reducible rfl
     rotate_left
     ·
      simp only [Act.put, List.setIfInBounds_toArray, List.set_cons_zero, List.set_cons_succ, i64_w, i32_w]
      rfl
     refine pure_ (i := 4) (N := some 10) (v := ?_) (a' := ?_) #[true, false, false, false, true, false, false, false] rfl rfl (any_of HT_.out (by kernel_rfl)) (fun _ _ _ h => h) (Or.inl ⟨by rfl, ?_⟩) ?_ ?_
     rotate_left
     ·
      intro w'
      go_simp
      with_reducible rfl
     rotate_left
     ·
      simp only [Act.put, List.setIfInBounds_toArray, List.set_cons_zero, List.set_cons_succ, i64_w, i32_w]
      rfl
     refine take_ (i := 1) (N := some 7) (v := ?_) (a' := ?_) #[true, true, false, false, true, false, false, false] rfl rfl (take_ofW HT_.out HW_.out (by kernel_rfl)) (fun _ _ _ h => h) (Or.inl ⟨by rfl, ?_⟩) hHeld ?_ ?_
     rotate_left
     ·
      rintro w' ⟨s0, s1, s2, s3, s4, s5, s6, s7⟩
      go_simp
      with_reducible rfl
     rotate_left
     ·
      simp only [Act.put, List.setIfInBounds_toArray, List.set_cons_zero, List.set_cons_succ, i64_w, i32_w]
      rfl
     refine pure_ (i := 2) (N := some 8) (v := ?_) (a' := ?_) #[true, true, true, false, true, false, false, false] rfl rfl (any_of HT_.out (by kernel_rfl)) (fun _ _ _ h => h) (Or.inl ⟨by rfl, ?_⟩) ?_ ?_
     rotate_left
     ·
      intro w'
      go_simp
      with_reducible rfl
     rotate_left
     ·
      simp only [Act.put, List.setIfInBounds_toArray, List.set_cons_zero, List.set_cons_succ, i64_w, i32_w]
      rfl
     refine pure_ (i := 3) (N := some 9) (v := ?_) (a' := ?_) #[true, true, true, true, true, false, false, false] rfl rfl (any_of HT_.out (by kernel_rfl)) (fun _ _ _ h => h) (Or.inl ⟨by rfl, ?_⟩) ?_ ?_
     rotate_left
     ·
      intro w'
      go_simp
      with_reducible rfl
     rotate_left
     ·
      simp only [Act.put, List.setIfInBounds_toArray, List.set_cons_zero, List.set_cons_succ, i64_w, i32_w]
      rfl
     refine one_ (i := 5) (N := some 11) #[true, true, true, true, true, true, false, false] rfl rfl (one_of HT_.out (by kernel_rfl)) (by decide) (fun K hK => ?_)
     refine goes_ Tryd.func21 (by kernel_rfl) rfl #[.string a0] (by rfl) rfl rfl (by (try simp only [List.map_toArray, List.map_cons, List.map_nil]); first | done | rfl | (simp only [List.length_drop, List.length_take]; rfl)) ?_
     with_reducible refine (buf_Count.calls a0 t106 _ A5.out).mono ?_
     rintro e w23 ⟨rfl, hb⟩
     refine ⟨_, rfl, ?_⟩
     have n0_ := Aside0.mk (blk_below (g := gb105) (o := .cells #[.bool a1_0, .bool false, .bool a1_2, .bool a1_3, .bool true, .int .i64 a1_5, .int .i64 a1_6, .int .i32 a1_7] 28 (0, 0)) (by (with_reducible repeat (first | refine blk_drewN ?_ _ | refine blk_drew ?_ | refine blk_alloc ?_ _)); exact BK105.out) hb)
     have n1_ := Aside0.mk (below_step (by repeat (first | (with_reducible first | exact HB.out | apply below_alloc | apply pw_below_drewN | apply below_drew1 | refine below_set ?_ GE105.out) | exact HB.out)) hb)
     clear BK105
     clear HB
     have BK105 := n0_
     have HB := n1_
     clear n0_ n1_
     (try clear hb)
     (try clear hb2)
     (try clear hk)
     (try clear hi)
     refine hK.out _ _ ⟨(blk_cell BK105.out 0).trans rfl, (blk_cell BK105.out 1).trans rfl, (blk_cell BK105.out 2).trans rfl, (blk_cell BK105.out 3).trans rfl, (blk_cell BK105.out 4).trans rfl, (blk_cell BK105.out 5).trans rfl, (blk_cell BK105.out 6).trans rfl, (blk_cell BK105.out 7).trans rfl⟩ (fun hHeld => ?_)
     clear hK K
     refine norm_ (a' := ?_) ?_ ?_
     rotate_left
     ·
      show Act.put _ (some 11) _ = _
      simp only [Act.put, List.setIfInBounds_toArray, List.set_cons_zero, List.set_cons_succ, i64_w, i32_w]
      rfl
     refine pure_ (i := 6) (N := some 12) (v := ?_) (a' := ?_) #[true, true, true, true, true, true, true, false] rfl rfl (any_of HT_.out (by kernel_rfl)) (fun _ _ _ h => h) (Or.inl ⟨by rfl, ?_⟩) ?_ ?_
     rotate_left
     ·
      intro w'
      go_simp
      with_reducible rfl
     rotate_left
     ·
      simp only [Act.put, List.setIfInBounds_toArray, List.set_cons_zero, List.set_cons_succ, i64_w, i32_w]
      rfl
     refine pure_ (i := 7) (N := some 5) (v := ?_) (a' := ?_) #[true, true, true, true, true, true, true, true] rfl rfl (any_of HT_.out (by kernel_rfl)) (fun _ _ _ h => h) (Or.inl ⟨by rfl, ?_⟩) ?_ ?_
     rotate_left
     ·
      intro w'
      go_simp
      with_reducible rfl
     rotate_left
     ·
      simp only [Act.put, List.setIfInBounds_toArray, List.set_cons_zero, List.set_cons_succ, i64_w, i32_w]
      rfl
     refine done_ (done_of HT_.out (by kernel_rfl)) ?_
     have hcz24_0 : w23.cell? ⟨gb105, 0, none⟩ = some (.bool a1_0) := (blk_cell BK105.out 0).trans rfl
     have hcz24_1 : w23.cell? ⟨gb105, 1, none⟩ = some (.bool false) := (blk_cell BK105.out 1).trans rfl
     have hcz24_2 : w23.cell? ⟨gb105, 2, none⟩ = some (.bool a1_2) := (blk_cell BK105.out 2).trans rfl
     have hcz24_3 : w23.cell? ⟨gb105, 3, none⟩ = some (.bool a1_3) := (blk_cell BK105.out 3).trans rfl
     have hcz24_4 : w23.cell? ⟨gb105, 4, none⟩ = some (.bool true) := (blk_cell BK105.out 4).trans rfl
     have hcz24_5 : w23.cell? ⟨gb105, 5, none⟩ = some (.int .i64 a1_5) := (blk_cell BK105.out 5).trans rfl
     have hcz24_6 : w23.cell? ⟨gb105, 6, none⟩ = some (.int .i64 a1_6) := (blk_cell BK105.out 6).trans rfl
     have hcz24_7 : w23.cell? ⟨gb105, 7, none⟩ = some (.int .i32 a1_7) := (blk_cell BK105.out 7).trans rfl
     have hfz24_0 := blk_frozen BK105.out 0
     have hfz24_1 := blk_frozen BK105.out 1
     have hfz24_2 := blk_frozen BK105.out 2
     have hfz24_3 := blk_frozen BK105.out 3
     have hfz24_4 := blk_frozen BK105.out 4
     have hfz24_5 := blk_frozen BK105.out 5
     have hfz24_6 := blk_frozen BK105.out 6
     have hfz24_7 := blk_frozen BK105.out 7
     try go_wp2_with (first | ((with_reducible refine gate_callee (f := 50) rfl ?_); refine goesL_ (some 28) rfl rfl Tryd.func50 (by kernel_rfl) rfl #[.int .u8 48, .int .i64 (wrap64 ((ji4) - t106))] rfl (by (try simp only [List.map_toArray, List.map_cons, List.map_nil]); first | done | (simp only [hji4]; rfl) | rfl | (simp only [List.length_drop, List.length_take]; rfl)) ?_; (first | (with_reducible refine (buf_Fill.calls 48 (wrap64 ((ji4) - t106)) t108 _ A19.out).mono ?_) | (simp only [i64_w]; (with_reducible refine (buf_Fill.calls 48 (wrap64 ((ji4) - t106)) t108 _ A19.out).mono ?_))); rintro e w25 ⟨rfl, hb⟩; refine ⟨_, rfl, ?_⟩; have n0_ := Aside0.mk (blk_below (g := gb105) (o := .cells #[.bool a1_0, .bool false, .bool a1_2, .bool a1_3, .bool true, .int .i64 a1_5, .int .i64 a1_6, .int .i32 a1_7] 28 (0, 0)) (by (with_reducible repeat (first | refine blk_drewN ?_ _ | refine blk_drew ?_ | refine blk_alloc ?_ _)); exact BK105.out) hb); have n1_ := Aside0.mk (below_step (by repeat (first | (with_reducible first | exact HB.out | apply below_alloc | apply pw_below_drewN | apply below_drew1 | refine below_set ?_ GE105.out) | exact HB.out)) hb); clear BK105; clear HB; have BK105 := n0_; have HB := n1_; clear n0_ n1_; (try clear hb); (try clear hb2); (try clear hk); (try clear hi)))
     go_ret
     exact ⟨by first | rfl | (simp [errW_none, errW_some] <;> rfl) | (simp only [← hji3, ← hji4]; first | rfl | (simp [errW_none, errW_some] <;> rfl)) | (simp [*, errW_none, errW_some] <;> rfl), by repeat (first | (with_reducible first | exact HB.out | apply below_alloc | apply pw_below_drewN | apply below_drew1 | refine below_set ?_ GE105.out) | exact HB.out)⟩
    ·
     rw [if_neg c20] at H
     exact absurd H (by simp)
   ·
    replace c18 := Bool.eq_false_iff.mpr c18
    subst c18
    have H1 : ((buf_Fill.f 32 (wrap64 ((ji4) - t106))).bind fun t109 => (if t109.size + a0.size ≤ 9223372036854775807 then (some (t109 ++ a0)) else (none))) = some r := by rw [if_neg (show ¬ (false = true) by decide)] at H; exact H
    clear H
    have H := H1
    clear H1
    replace H := Option.bind_eq_some_iff.mp H
    obtain ⟨t109, A260, H⟩ := H
    replace H : (if t109.size + a0.size ≤ 9223372036854775807 then (some (t109 ++ a0)) else (none)) = some r := H
    have A26 := Aside0.mk A260
    clear A260
    by_cases c27 : t109.size + a0.size ≤ 9223372036854775807
    ·
     rw [if_pos c27] at H
     have c27b0 := eq_true c27
     have c27b1 : decide (t109.size + a0.size ≤ 9223372036854775807) = true := decide_eq_true c27
     try have c27b2 : (9223372036854775807 < t109.size + a0.size) = False := eq_false (Nat.not_lt.2 c27)
     obtain rfl := Option.some.inj H
     go_enter Tryd.func32, Tryd.ntmps32
     try go_wp2_with (first | ((with_reducible refine gate_dst (N := 3) rfl ?_); refine box_event ?hg (N := 3) ?hd (cs := #[.bool a1_0, .bool false, .bool a1_2, .bool a1_3, .bool false, .int .i64 a1_5, .int .i64 a1_6, .int .i32 a1_7]) (t := 28) ?hr ?_; (case hd => rfl); (case hg => rfl); (case hr => first | (go_simp; done) | (go_simp; rfl)); intro gb105 hg w28 hbox hb; have n0_ := Aside0.mk (below_step (by repeat (first | (with_reducible first | exact HB.out | apply below_alloc | apply pw_below_drewN | apply below_drew1) | exact HB.out)) hb); have n1_ := Aside0.mk (hbox); have n2_ := Aside0.mk ((by rw [hg]; exact (below_size (by repeat (first | (with_reducible first | exact HB.out | apply below_alloc | apply pw_below_drewN | apply below_drew1) | exact HB.out))) : w.heap.size ≤ gb105)); have n3_ := Aside0.mk ((by rw [hg]; exact (below_size (by repeat (first | (with_reducible first | exact HB.out | apply below_alloc | apply pw_below_drewN | apply below_drew1) | exact HB.out))) : w.heap.size ≤ gb105)); clear HB; have HB := n0_; have BK105 := n1_; have GW105 := n2_; have GE105 := n3_; clear n0_ n1_ n2_ n3_; clear hb hbox hg))
     have n0_ := Aside0.mk (blk_drew BK105.out)
     have n1_ := Aside0.mk (below_drew1 HB.out)
     clear BK105
     clear HB
     have BK105 := n0_
     have HB := n1_
     clear n0_ n1_
     refine start_ (n := 8) (S := fun w' => w'.cell? ⟨gb105, 0, none⟩ = some (.bool a1_0) ∧ w'.cell? ⟨gb105, 1, none⟩ = some (.bool false) ∧ w'.cell? ⟨gb105, 2, none⟩ = some (.bool a1_2) ∧ w'.cell? ⟨gb105, 3, none⟩ = some (.bool a1_3) ∧ w'.cell? ⟨gb105, 4, none⟩ = some (.bool false) ∧ w'.cell? ⟨gb105, 5, none⟩ = some (.int .i64 a1_5) ∧ w'.cell? ⟨gb105, 6, none⟩ = some (.int .i64 a1_6) ∧ w'.cell? ⟨gb105, 7, none⟩ = some (.int .i32 a1_7)) (ds := []) #[false, false, false, false, false, false, false, false] (by kernel_rfl) rfl rfl ⟨(blk_cell BK105.out 0).trans rfl, (blk_cell BK105.out 1).trans rfl, (blk_cell BK105.out 2).trans rfl, (blk_cell BK105.out 3).trans rfl, (blk_cell BK105.out 4).trans rfl, (blk_cell BK105.out 5).trans rfl, (blk_cell BK105.out 6).trans rfl, (blk_cell BK105.out 7).trans rfl⟩ (fun hHeld => ?_); refine with_tabW buf_Pad.tab1 buf_Pad.bits1 (fun HT_ HW_ => ?_)
     generalize w28.drew = w29 at BK105 HB hHeld ⊢
     refine pure_ (i := 0) (N := some 6) (v := ?_) (a' := ?_) #[true, false, false, false, false, false, false, false] rfl rfl (any_of HT_.out (by kernel_rfl)) (fun _ _ _ h => h) (Or.inl ⟨by rfl, ?_⟩) ?_ ?_
     rotate_left
     ·
      intro w'
      go_simp
      with_reducible rfl
     rotate_left
     ·
      simp only [Act.put, List.setIfInBounds_toArray, List.set_cons_zero, List.set_cons_succ, i64_w, i32_w]
      rfl
     refine pure_ (i := 4) (N := some 10) (v := ?_) (a' := ?_) #[true, false, false, false, true, false, false, false] rfl rfl (any_of HT_.out (by kernel_rfl)) (fun _ _ _ h => h) (Or.inl ⟨by rfl, ?_⟩) ?_ ?_
     rotate_left
     ·
      intro w'
      go_simp
      with_reducible rfl
     rotate_left
     ·
      simp only [Act.put, List.setIfInBounds_toArray, List.set_cons_zero, List.set_cons_succ, i64_w, i32_w]
      rfl
     refine take_ (i := 1) (N := some 7) (v := ?_) (a' := ?_) #[true, true, false, false, true, false, false, false] rfl rfl (take_ofW HT_.out HW_.out (by kernel_rfl)) (fun _ _ _ h => h) (Or.inl ⟨by rfl, ?_⟩) hHeld ?_ ?_
     rotate_left
     ·
      rintro w' ⟨s0, s1, s2, s3, s4, s5, s6, s7⟩
      go_simp
      with_reducible rfl
     rotate_left
     ·
      simp only [Act.put, List.setIfInBounds_toArray, List.set_cons_zero, List.set_cons_succ, i64_w, i32_w]
      rfl
     refine pure_ (i := 2) (N := some 8) (v := ?_) (a' := ?_) #[true, true, true, false, true, false, false, false] rfl rfl (any_of HT_.out (by kernel_rfl)) (fun _ _ _ h => h) (Or.inl ⟨by rfl, ?_⟩) ?_ ?_
     rotate_left
     ·
      intro w'
      go_simp
      with_reducible rfl
     rotate_left
     ·
      simp only [Act.put, List.setIfInBounds_toArray, List.set_cons_zero, List.set_cons_succ, i64_w, i32_w]
      rfl
     refine pure_ (i := 3) (N := some 9) (v := ?_) (a' := ?_) #[true, true, true, true, true, false, false, false] rfl rfl (any_of HT_.out (by kernel_rfl)) (fun _ _ _ h => h) (Or.inl ⟨by rfl, ?_⟩) ?_ ?_
     rotate_left
     ·
      intro w'
      go_simp
      with_reducible rfl
     rotate_left
     ·
      simp only [Act.put, List.setIfInBounds_toArray, List.set_cons_zero, List.set_cons_succ, i64_w, i32_w]
      rfl
     refine one_ (i := 5) (N := some 11) #[true, true, true, true, true, true, false, false] rfl rfl (one_of HT_.out (by kernel_rfl)) (by decide) (fun K hK => ?_)
     refine goes_ Tryd.func21 (by kernel_rfl) rfl #[.string a0] (by rfl) rfl rfl (by (try simp only [List.map_toArray, List.map_cons, List.map_nil]); first | done | rfl | (simp only [List.length_drop, List.length_take]; rfl)) ?_
     with_reducible refine (buf_Count.calls a0 t106 _ A5.out).mono ?_
     rintro e w30 ⟨rfl, hb⟩
     refine ⟨_, rfl, ?_⟩
     have n0_ := Aside0.mk (blk_below (g := gb105) (o := .cells #[.bool a1_0, .bool false, .bool a1_2, .bool a1_3, .bool false, .int .i64 a1_5, .int .i64 a1_6, .int .i32 a1_7] 28 (0, 0)) (by (with_reducible repeat (first | refine blk_drewN ?_ _ | refine blk_drew ?_ | refine blk_alloc ?_ _)); exact BK105.out) hb)
     have n1_ := Aside0.mk (below_step (by repeat (first | (with_reducible first | exact HB.out | apply below_alloc | apply pw_below_drewN | apply below_drew1 | refine below_set ?_ GE105.out) | exact HB.out)) hb)
     clear BK105
     clear HB
     have BK105 := n0_
     have HB := n1_
     clear n0_ n1_
     (try clear hb)
     (try clear hb2)
     (try clear hk)
     (try clear hi)
     refine hK.out _ _ ⟨(blk_cell BK105.out 0).trans rfl, (blk_cell BK105.out 1).trans rfl, (blk_cell BK105.out 2).trans rfl, (blk_cell BK105.out 3).trans rfl, (blk_cell BK105.out 4).trans rfl, (blk_cell BK105.out 5).trans rfl, (blk_cell BK105.out 6).trans rfl, (blk_cell BK105.out 7).trans rfl⟩ (fun hHeld => ?_)
     clear hK K
     refine norm_ (a' := ?_) ?_ ?_
     rotate_left
     ·
      show Act.put _ (some 11) _ = _
      simp only [Act.put, List.setIfInBounds_toArray, List.set_cons_zero, List.set_cons_succ, i64_w, i32_w]
      rfl
     refine pure_ (i := 6) (N := some 12) (v := ?_) (a' := ?_) #[true, true, true, true, true, true, true, false] rfl rfl (any_of HT_.out (by kernel_rfl)) (fun _ _ _ h => h) (Or.inl ⟨by rfl, ?_⟩) ?_ ?_
     rotate_left
     ·
      intro w'
      go_simp
      with_reducible rfl
     rotate_left
     ·
      simp only [Act.put, List.setIfInBounds_toArray, List.set_cons_zero, List.set_cons_succ, i64_w, i32_w]
      rfl
     refine pure_ (i := 7) (N := some 5) (v := ?_) (a' := ?_) #[true, true, true, true, true, true, true, true] rfl rfl (any_of HT_.out (by kernel_rfl)) (fun _ _ _ h => h) (Or.inl ⟨by rfl, ?_⟩) ?_ ?_
     rotate_left
     ·
      intro w'
      go_simp
      with_reducible rfl
     rotate_left
     ·
      simp only [Act.put, List.setIfInBounds_toArray, List.set_cons_zero, List.set_cons_succ, i64_w, i32_w]
      rfl
     refine done_ (done_of HT_.out (by kernel_rfl)) ?_
     have hcz31_0 : w30.cell? ⟨gb105, 0, none⟩ = some (.bool a1_0) := (blk_cell BK105.out 0).trans rfl
     have hcz31_1 : w30.cell? ⟨gb105, 1, none⟩ = some (.bool false) := (blk_cell BK105.out 1).trans rfl
     have hcz31_2 : w30.cell? ⟨gb105, 2, none⟩ = some (.bool a1_2) := (blk_cell BK105.out 2).trans rfl
     have hcz31_3 : w30.cell? ⟨gb105, 3, none⟩ = some (.bool a1_3) := (blk_cell BK105.out 3).trans rfl
     have hcz31_4 : w30.cell? ⟨gb105, 4, none⟩ = some (.bool false) := (blk_cell BK105.out 4).trans rfl
     have hcz31_5 : w30.cell? ⟨gb105, 5, none⟩ = some (.int .i64 a1_5) := (blk_cell BK105.out 5).trans rfl
     have hcz31_6 : w30.cell? ⟨gb105, 6, none⟩ = some (.int .i64 a1_6) := (blk_cell BK105.out 6).trans rfl
     have hcz31_7 : w30.cell? ⟨gb105, 7, none⟩ = some (.int .i32 a1_7) := (blk_cell BK105.out 7).trans rfl
     have hfz31_0 := blk_frozen BK105.out 0
     have hfz31_1 := blk_frozen BK105.out 1
     have hfz31_2 := blk_frozen BK105.out 2
     have hfz31_3 := blk_frozen BK105.out 3
     have hfz31_4 := blk_frozen BK105.out 4
     have hfz31_5 := blk_frozen BK105.out 5
     have hfz31_6 := blk_frozen BK105.out 6
     have hfz31_7 := blk_frozen BK105.out 7
     try go_wp2_with (first | ((with_reducible refine gate_callee (f := 50) rfl ?_); refine goesL_ (some 32) rfl rfl Tryd.func50 (by kernel_rfl) rfl #[.int .u8 32, .int .i64 (wrap64 ((ji4) - t106))] rfl (by (try simp only [List.map_toArray, List.map_cons, List.map_nil]); first | done | (simp only [hji4]; rfl) | rfl | (simp only [List.length_drop, List.length_take]; rfl)) ?_; (first | (with_reducible refine (buf_Fill.calls 32 (wrap64 ((ji4) - t106)) t109 _ A26.out).mono ?_) | (simp only [i64_w]; (with_reducible refine (buf_Fill.calls 32 (wrap64 ((ji4) - t106)) t109 _ A26.out).mono ?_))); rintro e w32 ⟨rfl, hb⟩; refine ⟨_, rfl, ?_⟩; have n0_ := Aside0.mk (blk_below (g := gb105) (o := .cells #[.bool a1_0, .bool false, .bool a1_2, .bool a1_3, .bool false, .int .i64 a1_5, .int .i64 a1_6, .int .i32 a1_7] 28 (0, 0)) (by (with_reducible repeat (first | refine blk_drewN ?_ _ | refine blk_drew ?_ | refine blk_alloc ?_ _)); exact BK105.out) hb); have n1_ := Aside0.mk (below_step (by repeat (first | (with_reducible first | exact HB.out | apply below_alloc | apply pw_below_drewN | apply below_drew1 | refine below_set ?_ GE105.out) | exact HB.out)) hb); clear BK105; clear HB; have BK105 := n0_; have HB := n1_; clear n0_ n1_; (try clear hb); (try clear hb2); (try clear hk); (try clear hi)))
     go_ret
     exact ⟨by first | rfl | (simp [errW_none, errW_some] <;> rfl) | (simp only [← hji3, ← hji4]; first | rfl | (simp [errW_none, errW_some] <;> rfl)) | (simp [*, errW_none, errW_some] <;> rfl), by repeat (first | (with_reducible first | exact HB.out | apply below_alloc | apply pw_below_drewN | apply below_drew1 | refine below_set ?_ GE105.out) | exact HB.out)⟩
    ·
     rw [if_neg c27] at H
     exact absurd H (by simp)
end Go.Proofs.YtcoippikicikoaaDoor.PQGen
