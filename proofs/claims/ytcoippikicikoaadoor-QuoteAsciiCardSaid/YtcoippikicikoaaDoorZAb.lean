/- Part of the proof of lawQuoteAscii.card: texts merged by this session's bundle.py. -/
import Derived.Shelf.Unicode.ValidAny
import Derived.Test.YtcoippikicikoaaDoorProg
import Derived.Below
import Derived.Deep.Draws
import Derived.Deep.AppendLies
import Derived.Maps.AppendAt
import Derived.OwnWalk
import Derived.Laws.BytesArg
import Derived.Laws.MakeOwn
import Derived.Laws.OwnMore
import Derived.Deep.OwnRows
import Derived.Tactics
import Derived.Lib.ConvBytes
import Derived.Laws.Slices
import Derived.WalkKit
import Derived.KernelRfl
import Derived.RowKit3
import Derived.Deep.LoopGhost
import Derived.Deep.QuietTactic
import Derived.BigQuiet
import Derived.WideLaws
import Derived.Deep.DeepCutAuto
import Derived.Deep.CutBlock
import Derived.Deep.RegionHeld3
import Derived.Laws.Rows
import Derived.Lib.AppendStr
import Derived.ArgAppend
import Derived.Laws.IdiomCopy
import Derived.OrdersHeld
import Derived.Laws.BitsLemmas
import Derived.RowKit
import Derived.Test.YtcoippikicikoaaDoorZAa
namespace Go.Proofs.YtcoippikicikoaaDoor
open Go.RowKit Go.Proofs.YtcoippikicikoaaDoorW.PrintWords
def smallL : List UInt8 := [48, 49, 50, 51, 52, 53, 54, 55, 56, 57, 97, 98, 99, 100, 101, 102]
def lettersL : List UInt8 := [97, 98, 116, 110, 118, 102, 114]
theorem indexByte_lt (l : List UInt8) (c : UInt8) : Lib.indexByte l c < l.length := by
  induction l with
  | nil => simp [Lib.indexByte]
  | cons b l ih =>
    unfold Lib.indexByte
    split
    · simp only [List.length_cons]; omega
    · split
      · simp only [List.length_cons]; omega
      · simp only [List.length_cons]; omega
def digV (c : UInt8) : Int := Lib.indexByte smallL c
theorem digV_range (c : UInt8) : -1 ≤ digV c ∧ digV c < 16 := ⟨Lib.indexByte_ge _ _, indexByte_lt smallL c⟩
theorem quote_digit (c : UInt8) (w : World) : Calls Tryd.prog 46 #[.int .u8 (c.toNat : Int)] w fun e w' => e = .returned (.int .i32 (digV c)) ∧ w' = w := by
  obtain ⟨h0, h1⟩ := digV_range c
  have hw : wrap32 (digV c) = digV c := wrap32_id (by omega) (by omega)
  have hi := Tryd.strings_IndexByte ⟨#[48, 49, 50, 51, 52, 53, 54, 55, 56, 57, 97, 98, 99, 100, 101, 102]⟩ (c.toNat : Int) w
  have ec : ((c.toNat : Int).toNat).toUInt8 = c := by simp
  rw [ec] at hi
  have hi : Calls Tryd.prog 45 #[.string ⟨#[48, 49, 50, 51, 52, 53, 54, 55, 56, 57, 97, 98, 99, 100, 101, 102]⟩, .int .u8 (c.toNat : Int)] w fun e w' => e = .returned (.int .i64 (digV c)) ∧ w' = w := hi
  clear ec
  generalize digV c = D at hi hw h0 h1 ⊢
  go_enter Tryd.func46, Tryd.ntmps46
  go_wp2_with (go_at_call 45; (with_reducible refine hi.mono ?_); rintro e w' ⟨rfl, rfl⟩)
  go_ret
  exact ⟨rfl, rfl⟩
def hexGo (s : ByteArray) : Nat → Nat → Nat → Option Nat
  | 0, _, v => some v
  | n + 1, i, v => if digV (s.get! i) < 0 then none else hexGo s n (i + 1) (16 * v + (digV (s.get! i)).toNat)
def oneB (s : ByteArray) : ByteArray × Int :=
  if s.get! 0 ≠ 92 then
    (if ((Utf8.decode s 0).1 = 65533 ∧ (Utf8.decode s 0).2 = 1) ∨ (Utf8.decode s 0).1 = 34 then (T [], 0) else (s.extract 0 (Utf8.decode s 0).2, (Utf8.decode s 0).2))
  else if s.size < 2 then (T [], 0)
  else if s.get! 1 = 34 ∨ s.get! 1 = 92 then (s.extract 1 2, 2)
  else if 0 ≤ Lib.indexByte lettersL (s.get! 1) then (T [UInt8.ofNat (7 + (Lib.indexByte lettersL (s.get! 1)).toNat)], 2)
  else if widthOf ((s.get! 1).toNat) = 0 ∨ (s.size : Int) < 2 + widthOf ((s.get! 1).toNat) then (T [], 0)
  else match hexGo s (widthOf ((s.get! 1).toNat)).toNat 2 0 with
    | none => (T [], 0)
    | some v => if widthOf ((s.get! 1).toNat) = 2 then (T [UInt8.ofNat v], 4) else (T (enc (wrap32 v)), 2 + widthOf ((s.get! 1).toNat))
theorem or_dig (v : Nat) (D : Int) (h0 : 0 ≤ D) (h1 : D < 16) : bits .or .i32 (wrap32 (wrap32 (v : Int) * 16)) D = wrap32 ((16 * v + D.toNat : Nat) : Int) := by
  obtain ⟨d, rfl⟩ : ∃ d : Nat, D = d := ⟨D.toNat, by omega⟩
  show IntKind.i32.wrap ((BitVec.ofInt 32 (wrap32 (wrap32 (v : Int) * 16)) ||| BitVec.ofInt 32 (d : Int)).toNat : Int) = _
  have e1 : (BitVec.ofInt 32 (wrap32 (wrap32 (v : Int) * 16))).toNat = 2 ^ 4 * (v % 268435456) := by
    rw [BitVec.toNat_ofInt]
    unfold wrap32
    omega
  have e2 : (BitVec.ofInt 32 (d : Int)).toNat = d := by
    rw [BitVec.toNat_ofInt]
    omega
  rw [BitVec.toNat_or, e1, e2, ← Nat.two_pow_add_eq_or_of_lt (by omega : d < 2 ^ 4), IntKind.wrap_i32]
  unfold wrap32
  omega
theorem get_lt (s : ByteArray) (i : Nat) (h : i < s.size) : s[i]'h = s.get! i := by
  cases s with | mk a => exact (getElem!_pos a i h).symm
theorem conv_one (w : World) (x : Int) : (convert 44 9 (.slice (some ⟨w.heap.size, 0, none⟩) 1 1)).run Tryd.prog (w.alloc (.cells #[.int .u8 x] 5)) = .ok (.string (strOfNums [x])) (w.alloc (.cells #[.int .u8 x] 5)) := by
  refine run_convert_bytes_arg (P := Tryd.prog) (w.alloc (.cells #[.int .u8 x] 5)) 44 5 Tryd.underlying44 Tryd.underlying5 w.heap.size 0 1 1 [x] rfl (fun i hi => ?_) 9 Tryd.underlying9
  obtain rfl : i = 0 := by simpa using hi
  exact cell_new w #[.int .u8 x] 5 rfl
set_option maxHeartbeats 2000000 in
theorem quote_one (s : ByteArray) (w : World) (hOK : Ok w) (h0 : 0 < s.size) (hs : s.size ≤ 140737488355328) : Calls Tryd.prog 26 #[.string s] w fun e w' => e = .returned (.tuple #[.string (oneB s).1, .int .i64 (oneB s).2]) ∧ Below w.heap.size w w' := by
  have g0 := get_lt s 0 h0
  have p0 : ((0 : Int) < (s.size : Int)) = True := eq_true (by omega)
  by_cases hb : s.get! 0 = 92
  · have hb0 : ((((s[0]'h0).toNat : Nat) : Int) != 92) = false := by rw [g0, hb]; decide
    by_cases h2 : s.size < 2
    · have e : oneB s = (T [], 0) := by unfold oneB; rw [if_neg (by simp [hb]), if_pos h2]
      rw [e]
      clear g0 hb
      go_enter Tryd.func26, Tryd.ntmps26
      go_wp2
      go_ret2
      exact ⟨rfl, Below.refl _ _⟩
    have h2' : 2 ≤ s.size := by omega
    have h1 : 1 < s.size := h2'
    have g1 := get_lt s 1 h1
    have p1 : ((1 : Int) < (s.size : Int)) = True := eq_true (by omega)
    have p2 : (((s.size : Nat) : Int) < 2) = False := eq_false (by omega)
    have p3 : ((2 : Int) ≤ (s.size : Int)) = True := eq_true (by omega)
    obtain ⟨c, hc⟩ : ∃ c, c = s.get! 1 := ⟨_, rfl⟩
    rw [← hc] at g1
    have eN : ∀ n : UInt8, (((c.toNat : Nat) : Int) == ((n.toNat : Nat) : Int)) = (c == n) := fun n => by
      rw [Bool.eq_iff_iff, beq_iff_eq, beq_iff_eq, ← UInt8.toNat_inj]; omega
    by_cases hq : c = 34 ∨ c = 92
    · have e : oneB s = (s.extract 1 2, 2) := by unfold oneB; rw [if_neg (by simp [hb]), if_neg h2, ← hc, if_pos hq]
      rw [e]
      by_cases h34 : c = 34
      · have k1 : ((((s[1]'h1).toNat : Nat) : Int) == 34) = true := by rw [g1, h34]; decide
        clear g0 g1 hb hc eN hq e
        go_enter Tryd.func26, Tryd.ntmps26
        go_wp2
        go_ret2
        exact ⟨rfl, Below.refl _ _⟩
      · have h92 : c = 92 := hq.resolve_left h34
        have k1 : ((((s[1]'h1).toNat : Nat) : Int) == 34) = false := by rw [g1, h92]; decide
        have k2 : ((((s[1]'h1).toNat : Nat) : Int) == 92) = true := by rw [g1, h92]; decide
        clear g0 g1 hb hc eN hq e
        go_enter Tryd.func26, Tryd.ntmps26
        go_wp2
        go_ret2
        exact ⟨rfl, Below.refl _ _⟩
    have k1 : ((((s[1]'h1).toNat : Nat) : Int) == 34) = false := by rw [g1]; exact (eN 34).trans (beq_eq_false_iff_ne.2 (fun e => hq (.inl e)))
    have k2 : ((((s[1]'h1).toNat : Nat) : Int) == 92) = false := by rw [g1]; exact (eN 92).trans (beq_eq_false_iff_ne.2 (fun e => hq (.inr e)))
    have hi := Tryd.strings_IndexByte ⟨#[97, 98, 116, 110, 118, 102, 114]⟩ ((c.toNat : Nat) : Int)
    have ec : (((c.toNat : Nat) : Int).toNat).toUInt8 = c := by simp
    rw [ec] at hi
    have hi : ∀ w, Calls Tryd.prog 45 #[.string ⟨#[97, 98, 116, 110, 118, 102, 114]⟩, .int .u8 (((s[1]'h1).toNat : Nat) : Int)] w fun e w' => e = .returned (.int .i64 (Lib.indexByte lettersL c)) ∧ w' = w := by rw [g1]; exact hi
    have hir : -1 ≤ Lib.indexByte lettersL c ∧ Lib.indexByte lettersL c < 7 := ⟨Lib.indexByte_ge _ _, indexByte_lt lettersL c⟩
    obtain ⟨K, hK⟩ : ∃ K, K = Lib.indexByte lettersL c := ⟨_, rfl⟩
    rw [← hK] at hi hir
    obtain ⟨hir1, hir2⟩ := hir
    by_cases hk : 0 ≤ K
    · have e : oneB s = (T [UInt8.ofNat (7 + K.toNat)], 2) := by unfold oneB; rw [if_neg (by simp [hb]), if_neg h2, ← hc, if_neg hq, ← hK, if_pos hk]
      rw [e]
      obtain ⟨k, rfl⟩ : ∃ k : Nat, K = k := ⟨K.toNat, by omega⟩
      clear g0 g1 hb hc eN hq e hK ec hir1
      have hcv := fun w => conv_one w (7 + (k : Int))
      have e1 : strOfNums [7 + (k : Int)] = T [UInt8.ofNat (7 + (k : Int).toNat)] := by
        unfold strOfNums
        simp only [List.map_cons, List.map_nil]
        rw [show (7 + (k : Int)).toNat = 7 + (k : Int).toNat by omega]
      rw [e1] at hcv
      clear e1
      obtain ⟨R, hR⟩ : ∃ R, R = T [UInt8.ofNat (7 + (k : Int).toNat)] := ⟨_, rfl⟩
      rw [← hR] at hcv ⊢
      clear hR
      go_enter Tryd.func26, Tryd.ntmps26
      go_wp2_with (go_at_call 45; (with_reducible refine (hi _).mono ?_); rintro e w' ⟨rfl, rfl⟩)
      go_ret2
      exact ⟨rfl, (Below.refl _ _).alloc (Nat.le_refl _) _⟩
    obtain ⟨N, hN⟩ : ∃ N : Nat, widthOf ((c.toNat : Nat) : Int) = N := by
      unfold widthOf
      split
      · exact ⟨2, rfl⟩
      split
      · exact ⟨4, rfl⟩
      split
      · exact ⟨8, rfl⟩
      · exact ⟨0, rfl⟩
    have hN8 : N = 0 ∨ N = 2 ∨ N = 4 ∨ N = 8 := by
      unfold widthOf at hN
      split at hN
      · omega
      split at hN
      · omega
      split at hN <;> omega
    have hkb : (decide (K ≥ 0)) = false := decide_eq_false (by omega)
    have hmm := @run_makeMap Tryd.prog
    have hi1 := fun w : World => upd_new (P := Tryd.prog) Tryd.underlying63 Tryd.underlying5 w #[] 0 120 (.int .i64 2) rfl
    have hi2 := fun w : World => upd_new (P := Tryd.prog) Tryd.underlying63 Tryd.underlying5 w #[⟨.int .u8 120, .int .i64 2, 0⟩] 1 117 (.int .i64 4) rfl
    have hi3 := fun w : World => upd_new (P := Tryd.prog) Tryd.underlying63 Tryd.underlying5 w #[⟨.int .u8 120, .int .i64 2, 0⟩, ⟨.int .u8 117, .int .i64 4, 1⟩] 2 85 (.int .i64 8) rfl
    have hlk := fun w : World => look_widths (P := Tryd.prog) Tryd.underlying63 Tryd.underlying5 Tryd.zeroValue3 w (((s[1]'h1).toNat : Nat) : Int)
    rw [g1, hN] at hlk
    rw [← g1] at hlk
    have hlk : ∀ w : World, (Instr.lookup 63 (.map (some w.heap.size)) (.int .u8 (((s[1]'h1).toNat : Nat) : Int)) false).run Tryd.prog (w.alloc (.map #[⟨.int .u8 120, .int .i64 2, 0⟩, ⟨.int .u8 117, .int .i64 4, 1⟩, ⟨.int .u8 85, .int .i64 8, 2⟩] 3)) = .ok (.int .i64 N) (w.alloc (.map #[⟨.int .u8 120, .int .i64 2, 0⟩, ⟨.int .u8 117, .int .i64 4, 1⟩, ⟨.int .u8 85, .int .i64 8, 2⟩] 3)) := hlk
    have hi1 : ∀ w : World, (Instr.mapUpdate 63 (.map (some w.heap.size)) (.int .u8 120) (.int .i64 2)).run Tryd.prog (w.alloc (.map #[] 0)) = .ok () (w.alloc (.map #[⟨.int .u8 120, .int .i64 2, 0⟩] 1)) := hi1
    have hi2 : ∀ w : World, (Instr.mapUpdate 63 (.map (some w.heap.size)) (.int .u8 117) (.int .i64 4)).run Tryd.prog (w.alloc (.map #[⟨.int .u8 120, .int .i64 2, 0⟩] 1)) = .ok () (w.alloc (.map #[⟨.int .u8 120, .int .i64 2, 0⟩, ⟨.int .u8 117, .int .i64 4, 1⟩] 2)) := hi2
    have hi3 : ∀ w : World, (Instr.mapUpdate 63 (.map (some w.heap.size)) (.int .u8 85) (.int .i64 8)).run Tryd.prog (w.alloc (.map #[⟨.int .u8 120, .int .i64 2, 0⟩, ⟨.int .u8 117, .int .i64 4, 1⟩] 2)) = .ok () (w.alloc (.map #[⟨.int .u8 120, .int .i64 2, 0⟩, ⟨.int .u8 117, .int .i64 4, 1⟩, ⟨.int .u8 85, .int .i64 8, 2⟩] 3)) := hi3
    by_cases hz : N = 0 ∨ (s.size : Int) < 2 + N
    · have e : oneB s = (T [], 0) := by
        unfold oneB
        rw [if_neg (by simp [hb]), if_neg h2, ← hc, if_neg hq, ← hK, if_neg hk, hN, if_pos (by omega)]
      rw [e]
      by_cases hz0 : N = 0
      · subst hz0
        clear g0 g1 hb hc eN hq e hK ec hir1 hN hN8 hz hk
        go_enter Tryd.func26, Tryd.ntmps26
        go_wp2_with (go_at_call 45; (with_reducible refine (hi _).mono ?_); rintro e w' ⟨rfl, rfl⟩)
        go_ret2
        exact ⟨rfl, (Below.refl _ _).alloc (Nat.le_refl _) _⟩
      · have z1 : (((N : Nat) : Int) == 0) = false := beq_eq_false_iff_ne.2 (by omega)
        have z2 : ((s.size : Int) < 2 + (N : Int)) = True := eq_true (by omega)
        have z3 : wrap64 (2 + (N : Int)) = 2 + (N : Int) := wrap64_id (by omega) (by omega)
        clear g0 g1 hb hc eN hq e hK ec hir1 hN hN8 hz hk
        go_enter Tryd.func26, Tryd.ntmps26
        go_wp2_with (go_at_call 45; (with_reducible refine (hi _).mono ?_); rintro e w' ⟨rfl, rfl⟩)
        go_ret2
        exact ⟨rfl, (Below.refl _ _).alloc (Nat.le_refl _) _⟩
    have hN2 : N = 2 ∨ N = 4 ∨ N = 8 := by omega
    have hNs : 2 + N ≤ s.size := by omega
    have z1 : (((N : Nat) : Int) == 0) = false := beq_eq_false_iff_ne.2 (by omega)
    have z2 : ((s.size : Int) < 2 + (N : Int)) = False := eq_false (by omega)
    have z3 : wrap64 (2 + (N : Int)) = 2 + (N : Int) := wrap64_id (by omega) (by omega)
    have e : oneB s = match hexGo s N 2 0 with
        | none => (T [], 0)
        | some v => if N = 2 then (T [UInt8.ofNat v], 4) else (T (enc (wrap32 v)), 2 + (N : Int)) := by
      unfold oneB
      rw [if_neg (by simp [hb]), if_neg h2, ← hc, if_neg hq, ← hK, if_neg hk, hN, if_neg (by omega)]
      rw [Int.toNat_natCast]
      cases hexGo s N 2 0 with
      | none => rfl
      | some v =>
        by_cases h : N = 2
        · simp only [if_pos h]; rw [if_pos (by omega)]
        · simp only [if_neg h]; rw [if_neg (by omega)]
    obtain ⟨R, hR⟩ : ∃ R, R = oneB s := ⟨_, rfl⟩
    rw [← hR] at e ⊢
    have HE := Lib.hid e
    have HN := Lib.hid hN2
    clear g0 g1 hb hc eN hq e hK ec hir1 hN hN8 hz hk hR hN2
    go_enter Tryd.func26, Tryd.ntmps26
    go_wp2_with (go_at_call 45; (with_reducible refine (hi _).mono ?_); rintro e w' ⟨rfl, rfl⟩)
    go_loopw [8, 9] (fun v8 v9 wr => ∃ (m i v : Nat), v8 = .int .i32 (wrap32 (v : Int)) ∧ v9 = .int .i64 (i : Int) ∧ Below w'.heap.size w' wr ∧ i + m = 2 + N ∧ 2 ≤ i ∧ Hid (hexGo s N 2 0 = hexGo s m i v)) (fun _ v9 _ => 2 + N - (intOf v9).toNat)
    case atStart => exact ⟨N, 2, 0, by rw [wrap32_id (by decide) (by decide)]; rfl, rfl, (Below.refl _ _).alloc (Nat.le_refl _) _, by omega, by omega, Lib.hid rfl⟩
    case round =>
      obtain ⟨m, i, v, rfl, rfl, hbw, him, hi2, hacc⟩ := hrel
      by_cases hm : m = 0
      · subst hm
        have y1 : ((i : Int) < 2 + (N : Int)) = False := eq_false (by omega)
        have hh := hacc.out
        simp only [hexGo] at hh
        have e := HE.out
        rw [hh] at e
        simp only at e
        clear hh hacc
        by_cases hN2 : N = 2
        · subst hN2
          rw [if_pos rfl] at e
          have HE2 := Lib.hid e
          clear e
          have hcv := fun w => conv_one w ((wrap32 (v : Int)) % 256)
          go_wp2
          go_ret2
          have e := HE2.out
          have e3 : strOfNums [wrap32 (v : Int) % 256] = T [UInt8.ofNat v] := by
            unfold strOfNums
            simp only [List.map_cons, List.map_nil]
            have e4 : UInt8.ofNat (wrap32 (v : Int) % 256).toNat = UInt8.ofNat v := by
              apply UInt8.toNat_inj.1
              simp only [UInt8.toNat_ofNat']
              unfold wrap32
              omega
            rw [← e4]
          exact ⟨by rw [e, ← e3]; rfl, hbw.alloc (Below.size hbw) _⟩
        · rw [if_neg hN2] at e
          have y2 : (((N : Nat) : Int) == 2) = false := beq_eq_false_iff_ne.2 (by omega)
          have HE2 := Lib.hid e
          clear e
          go_wp2
          go_ret2
          have e := HE2.out
          have e5 : T (enc (wrap32 (v : Int))) = Utf8.encode (wrap32 (v : Int)) := (encode_enc _).symm
          exact ⟨by rw [e]; simp only []; rw [e5]; rfl, hbw⟩
      · obtain ⟨m, rfl⟩ : ∃ m', m = m' + 1 := ⟨m - 1, by omega⟩
        have y1 : ((i : Int) < 2 + (N : Int)) = True := eq_true (by omega)
        have y2 : ((i : Int) < (s.size : Int)) = True := eq_true (by omega)
        have y3 : (0 ≤ ((i : Nat) : Int)) = True := eq_true (by omega)
        have hlt : i < s.size := by omega
        have hdg := fun wz => quote_digit (s[i]'hlt) wz
        have gi := get_lt s i hlt
        obtain ⟨d0, d1⟩ := digV_range (s[i]'hlt)
        have hacc := hacc.out
        simp only [hexGo] at hacc
        rw [← gi] at hacc
        obtain ⟨D, hD⟩ : ∃ D, D = digV (s[i]'hlt) := ⟨_, rfl⟩
        rw [← hD] at hacc d0 d1
        simp only [← hD] at hdg
        have HD := Lib.hid hD
        clear hD gi
        by_cases hneg : D < 0
        · have y4 : (decide (D < 0)) = true := decide_eq_true hneg
          rw [if_pos hneg] at hacc
          have hh := Lib.hid hacc
          clear hacc
          go_wp2_with (go_at_call 46; (with_reducible refine (hdg _).mono ?_); rintro e w2 ⟨rfl, rfl⟩)
          go_ret2
          have e := HE.out
          rw [hh.out] at e
          simp only at e
          exact ⟨by rw [e]; rfl, hbw⟩
        · have y4 : (decide (D < 0)) = false := decide_eq_false hneg
          rw [if_neg hneg] at hacc
          have hh := Lib.hid hacc
          clear hacc
          go_wp2_with (go_at_call 46; (with_reducible refine (hdg _).mono ?_); rintro e w2 ⟨rfl, rfl⟩)
          refine ⟨⟨m, i + 1, 16 * v + D.toNat, by rw [or_dig v D (by omega) d1], by rw [Int.natCast_add]; rfl, hbw, by omega, by omega, hh⟩, ?_⟩
          simp only [intOf]
          omega
  · have hb0 : ((((s[0]'h0).toNat : Nat) : Int) != 92) = true := by
      rw [g0]; refine bne_iff_ne.2 (fun e => hb (UInt8.toNat_inj.1 (by have e92 : (92 : UInt8).toNat = 92 := rfl; omega)))
    obtain ⟨D, hD⟩ : ∃ D, D = Utf8.decode s 0 := ⟨_, rfl⟩
    have hdec := (DecodeRuneInString s).made hOK
    rw [show Lib.decodeGo s = D by rw [hD]; unfold Lib.decodeGo; rw [if_neg (by omega)]] at hdec
    have hle : D.2 ≤ s.size := by have := decB_le s; unfold decB at this; rw [if_neg (by omega)] at this; rw [hD]; exact this
    have q1 : ((D.2 : Int) ≤ (s.size : Int)) = True := eq_true (by omega)
    have q2 : (0 ≤ ((D.2 : Nat) : Int)) = True := eq_true (by omega)
    by_cases hc : (D.1 = 65533 ∧ D.2 = 1) ∨ D.1 = 34
    · have e : oneB s = (T [], 0) := by unfold oneB; rw [if_pos hb, ← hD, if_pos hc]
      rw [e]
      clear g0 hb hD e
      go_enter Tryd.func26, Tryd.ntmps26
      by_cases h3 : D.1 = 34
      · have k1 : (((D.1 : Nat) : Int) == 65533) = false := beq_eq_false_iff_ne.2 (by omega)
        have k2 : (((D.1 : Nat) : Int) == 34) = true := beq_iff_eq.2 (by omega)
        clear hc
        go_wp2_with (go_at_call 39; (with_reducible refine hdec.mono ?_); rintro e w' ⟨rfl, hb1⟩)
        go_ret2
        exact ⟨rfl, hb1⟩
      · have hc1 : D.1 = 65533 ∧ D.2 = 1 := hc.resolve_right h3
        have k1 : (((D.1 : Nat) : Int) == 65533) = true := beq_iff_eq.2 (by omega)
        have k2 : (((D.2 : Nat) : Int) == 1) = true := beq_iff_eq.2 (by omega)
        clear hc hc1
        go_wp2_with (go_at_call 39; (with_reducible refine hdec.mono ?_); rintro e w' ⟨rfl, hb1⟩)
        go_ret2
        exact ⟨rfl, hb1⟩
    · have e : oneB s = (s.extract 0 D.2, (D.2 : Int)) := by unfold oneB; rw [if_pos hb, ← hD, if_neg hc]
      rw [e]
      have k2 : (((D.1 : Nat) : Int) == 34) = false := beq_eq_false_iff_ne.2 (by omega)
      by_cases h3 : D.1 = 65533
      · have k1 : (((D.1 : Nat) : Int) == 65533) = true := beq_iff_eq.2 (by omega)
        have k3 : (((D.2 : Nat) : Int) == 1) = false := beq_eq_false_iff_ne.2 (by omega)
        clear g0 hb hD e hc h3
        go_enter Tryd.func26, Tryd.ntmps26
        go_wp2_with (go_at_call 39; (with_reducible refine hdec.mono ?_); rintro e w' ⟨rfl, hb1⟩)
        go_ret2
        exact ⟨rfl, hb1⟩
      · have k1 : (((D.1 : Nat) : Int) == 65533) = false := beq_eq_false_iff_ne.2 (by omega)
        clear g0 hb hD e hc h3
        go_enter Tryd.func26, Tryd.ntmps26
        go_wp2_with (go_at_call 39; (with_reducible refine hdec.mono ?_); rintro e w' ⟨rfl, hb1⟩)
        go_ret2
        exact ⟨rfl, hb1⟩
end Go.Proofs.YtcoippikicikoaaDoor
namespace Go.Proofs
open Go.Shelf
def Tryd.lays196_ren : Go.Shelf.Ren := ⟨fun | 196 => 54 | 259 => 61 | n => n, fun | 9 => 9 | 4 => 4 | 3 => 3 | 5 => 5 | 12 => 12 | 119 => 75 | 0 => 0 | 46 => 56 | 139 => 78 | 138 => 77 | 53 => 85 | n => n, fun | 3 => 0 | 4 => 1 | n => n⟩
theorem Tryd.lays196 : Go.Proofs.Lays.n196 Tryd.prog Tryd.lays196_ren := {
  mixed := by kernel_rfl
  f196 := Tryd.func54.trans (congrArg some (by kernel_rfl))
  f259 := Tryd.func61.trans (congrArg some (by kernel_rfl))
  t0 := Tryd.underlying0
  a0 := Tryd.isAgg0
  z0 := Tryd.sizeOf0
  v0 := Tryd.zeroValue0
  t3 := Tryd.underlying3
  a3 := Tryd.isAgg3
  z3 := Tryd.sizeOf3
  v3 := Tryd.zeroValue3
  t4 := Tryd.underlying4
  a4 := Tryd.isAgg4
  z4 := Tryd.sizeOf4
  v4 := Tryd.zeroValue4
  t5 := Tryd.underlying5
  a5 := Tryd.isAgg5
  z5 := Tryd.sizeOf5
  v5 := Tryd.zeroValue5
  t9 := Tryd.underlying9
  a9 := Tryd.isAgg9
  z9 := Tryd.sizeOf9
  v9 := Tryd.zeroValue9
  t12 := Tryd.underlying12
  a12 := Tryd.isAgg12
  z12 := Tryd.sizeOf12
  v12 := Tryd.zeroValue12
  t46 := Tryd.underlying56
  a46 := Tryd.isAgg56
  z46 := Tryd.sizeOf56
  v46 := Tryd.zeroValue56
  t53 := Tryd.underlying85
  a53 := Tryd.isAgg85
  z53 := Tryd.sizeOf85
  v53 := Tryd.zeroValue85
  t119 := Tryd.underlying75
  a119 := Tryd.isAgg75
  z119 := Tryd.sizeOf75
  t138 := Tryd.underlying77
  a138 := Tryd.isAgg77
  z138 := Tryd.sizeOf77
  v138 := Tryd.zeroValue77
  t139 := Tryd.underlying78
  a139 := Tryd.isAgg78
  z139 := Tryd.sizeOf78
  v139 := Tryd.zeroValue78
  g3 := by kernel_rfl
  g4 := by kernel_rfl }
def Tryd.lays166_ren : Go.Shelf.Ren := ⟨fun | 166 => 27 | 240 => 47 | 276 => 59 | n => n, fun | 0 => 0 | 3 => 3 | 4 => 4 | 9 => 9 | 20 => 20 | 5 => 5 | 37 => 44 | 70 => 43 | 72 => 46 | 75 => 50 | 80 => 53 | 164 => 72 | n => n, fun | n => n⟩
theorem Tryd.lays166 : Go.Proofs.Lays.n166 Tryd.prog Tryd.lays166_ren := {
  mixed := by kernel_rfl
  f166 := Tryd.func27.trans (congrArg some (by kernel_rfl))
  f240 := Tryd.func47.trans (congrArg some (by kernel_rfl))
  f276 := Tryd.func59.trans (congrArg some (by kernel_rfl))
  t0 := Tryd.underlying0
  a0 := Tryd.isAgg0
  z0 := Tryd.sizeOf0
  v0 := Tryd.zeroValue0
  t3 := Tryd.underlying3
  a3 := Tryd.isAgg3
  z3 := Tryd.sizeOf3
  v3 := Tryd.zeroValue3
  t4 := Tryd.underlying4
  a4 := Tryd.isAgg4
  z4 := Tryd.sizeOf4
  v4 := Tryd.zeroValue4
  t9 := Tryd.underlying9
  a9 := Tryd.isAgg9
  z9 := Tryd.sizeOf9
  v9 := Tryd.zeroValue9
  t20 := Tryd.underlying20
  a20 := Tryd.isAgg20
  z20 := Tryd.sizeOf20
  v20 := Tryd.zeroValue20
  t37 := Tryd.underlying44
  a37 := Tryd.isAgg44
  z37 := Tryd.sizeOf44
  v37 := Tryd.zeroValue44
  t70 := Tryd.underlying43
  a70 := Tryd.isAgg43
  z70 := Tryd.sizeOf43
  v70 := Tryd.zeroValue43
  t72 := Tryd.underlying46
  a72 := Tryd.isAgg46
  z72 := Tryd.sizeOf46
  v72 := Tryd.zeroValue46
  t75 := Tryd.underlying50
  a75 := Tryd.isAgg50
  z75 := Tryd.sizeOf50
  v75 := Tryd.zeroValue50
  t164 := Tryd.underlying72
  a164 := Tryd.isAgg72
  z164 := Tryd.sizeOf72
  v164 := Tryd.zeroValue72 }
theorem Tryd.Builder_Extra_166 : Builder.Extra Tryd.prog Tryd.lays166_ren := {
  sizeBuilder := by kernel_rfl
  liesBuilder := by kernel_rfl
  t5 := Tryd.underlying5
  a5 := Tryd.isAgg5
  z5 := Tryd.sizeOf5
  v5 := Tryd.zeroValue5
  infoByte := by kernel_rfl
  cellsByte := by kernel_rfl
  sizeByte := by kernel_rfl
  neB5 := by decide }
end Go.Proofs
namespace Go.Proofs.YtcoippikicikoaaDoor
open Go.RowKit Go.Proofs.YtcoippikicikoaaDoorW.PrintWords
theorem ValidString (s : ByteArray) (hs : s.size ≤ 140737488355328) (w : World) (hOK : Ok w) : Calls Tryd.prog 54 #[.string s] w fun e w' => e = .returned (.bool (Lib.validD s.data.toList)) ∧ Below w.heap.size w w' :=
  Any.utf8_ValidString Tryd.lays196 s w (by omega) hOK.tabs
def rawBad (c : Nat) : Prop := c = 96 ∨ (c < 32 ∧ c ≠ 9) ∨ c = 127 ∨ c = 65279
instance (c : Nat) : Decidable (rawBad c) := inferInstanceAs (Decidable (_ ∨ _))
def rawGo (s : ByteArray) : Nat → Nat → Bool
  | 0, pos => decide (¬ pos < s.size)
  | fuel + 1, pos => if pos < s.size then (if rawBad (Utf8.decode s pos).1 then false else rawGo s fuel (pos + (Utf8.decode s pos).2)) else true
theorem rawGo_end (s : ByteArray) (fuel pos : Nat) (h : ¬ pos < s.size) : rawGo s fuel pos = true := by
  cases fuel <;> simp [rawGo, h]
def rawB (s : ByteArray) : ByteArray × Bool := if Lib.validD s.data.toList = true ∧ rawGo s s.size 0 = true then ((T [96] ++ s) ++ T [96], true) else (T [], false)
def quote_Raw.f (a0 : ByteArray) : Option (ByteArray × Bool) := if a0.size ≤ 140737488355328 then some (rawB a0) else none
set_option maxHeartbeats 2000000 in
theorem quote_Raw.calls (a0 : ByteArray) (r1 : ByteArray) (r2 : Bool) (w : World) (hOK : Ok w) (h : quote_Raw.f a0 = some (r1, r2)) : Calls Tryd.prog 36 #[.string a0] w fun e w' => e = .returned (.tuple #[.string r1, .bool r2]) ∧ Below w.heap.size w w' := by
  unfold quote_Raw.f at h
  split at h
  case isFalse => cases h
  rename_i hs
  have h := Option.some.inj h
  have hv := ValidString a0 hs w hOK
  have h1 : r1 = (rawB a0).1 := by rw [h]
  have h2 : r2 = (rawB a0).2 := by rw [h]
  clear h
  have hsz : (1 + a0.size ≤ 9223372036854775807) = True := eq_true (by omega)
  have hsz2 : (1 + a0.size + 1 ≤ 9223372036854775807) = True := eq_true (by omega)
  cases hV : Lib.validD a0.data.toList with
  | false =>
    have e : rawB a0 = (T [], false) := by unfold rawB; rw [if_neg (by simp [hV])]
    rw [e] at h1 h2
    subst h1 h2
    rw [hV] at hv
    clear e hV
    go_enter Tryd.func36, Tryd.ntmps36
    go_wp2_with (go_at_call 54; (with_reducible refine hv.mono ?_); rintro e w' ⟨rfl, hb1⟩)
    go_ret2
    exact ⟨rfl, hb1⟩
  | true =>
    rw [hV] at hv
    have e : rawB a0 = if rawGo a0 a0.size 0 = true then ((T [96] ++ a0) ++ T [96], true) else (T [], false) := by
      unfold rawB
      by_cases hg : rawGo a0 a0.size 0 = true
      · rw [if_pos ⟨hV, hg⟩, if_pos hg]
      · rw [if_neg (fun h => hg h.2), if_neg hg]
    rw [e] at h1 h2
    have H1 := Lib.hid h1
    have H2 := Lib.hid h2
    clear e hV h1 h2
    go_enter Tryd.func36, Tryd.ntmps36
    go_wp2_with (go_at_call 54; (with_reducible refine hv.mono ?_); rintro e w1 ⟨rfl, hb1⟩)
    go_loopw [5] (fun _ wr => ∃ (pos fuel : Nat), wr.heap[w1.heap.size]? = some (.stringIter a0 pos) ∧ Below w.heap.size w wr ∧ Hid (rawGo a0 a0.size 0 = rawGo a0 fuel pos) ∧ a0.size ≤ pos + fuel) (fun _ wr => a0.size - wr.iterPos w1.heap.size)
    case atStart =>
      refine ⟨0, a0.size, ?_, hb1.alloc (Below.size hb1) _, Lib.hid rfl, by omega⟩
      exact World.iter_heap w1 a0 0
    case round =>
      obtain ⟨pos, fuel, hit, hbw, hacc, hfu⟩ := hrel
      by_cases hp : pos < a0.size
      · have hnx : ∀ ty, (Instr.next (.pointer (some ⟨w1.heap.size, 0, none⟩)) true ty).run Tryd.prog wr = _ := fun ty => Lib.run_next_any_at wr w1.heap.size a0 pos ty hit hp
        have hwd := dec_pos a0 pos hp
        have hit2 := Lib.iterAt_heap wr w1.heap.size a0 pos (pos + (Utf8.decode a0 pos).2) hit
        have hbw2 := Lib.below_iterAt hbw (k := w1.heap.size) (Below.size hb1) a0 (pos + (Utf8.decode a0 pos).2)
        obtain ⟨f, rfl⟩ : ∃ f, fuel = f + 1 := ⟨fuel - 1, by omega⟩
        have hh := hacc.out
        simp only [rawGo] at hh
        rw [if_pos hp] at hh
        obtain ⟨D, hD⟩ : ∃ D, D = Utf8.decode a0 pos := ⟨_, rfl⟩
        simp only [← hD] at hit2 hbw2 hnx hh hwd
        have HD := Lib.hid hD
        clear hD hacc
        by_cases hbad : rawBad D.1
        · rw [if_pos hbad] at hh
          have HH := Lib.hid hh
          clear hh
          unfold rawBad at hbad
          by_cases c1 : D.1 = 96
          · have k1 : (((D.1 : Nat) : Int) == 96) = true := beq_iff_eq.2 (by omega)
            clear hbad
            go_wp2
            go_ret2
            have e1 := H1.out; have e2 := H2.out
            rw [HH.out] at e1 e2
            exact ⟨by rw [e1, e2]; rfl, hbw2⟩
          have k1 : (((D.1 : Nat) : Int) == 96) = false := beq_eq_false_iff_ne.2 (by omega)
          by_cases c2 : D.1 < 32
          · have k2 : (((D.1 : Nat) : Int) < 32) = True := eq_true (by omega)
            have k3 : (((D.1 : Nat) : Int) != 9) = true := bne_iff_ne.2 (by omega)
            clear hbad c1 c2
            go_wp2
            go_ret2
            have e1 := H1.out; have e2 := H2.out
            rw [HH.out] at e1 e2
            exact ⟨by rw [e1, e2]; rfl, hbw2⟩
          have k2 : (((D.1 : Nat) : Int) < 32) = False := eq_false (by omega)
          by_cases c3 : D.1 = 127
          · have k3 : (((D.1 : Nat) : Int) == 127) = true := beq_iff_eq.2 (by omega)
            clear hbad c1 c2
            go_wp2
            go_ret2
            have e1 := H1.out; have e2 := H2.out
            rw [HH.out] at e1 e2
            exact ⟨by rw [e1, e2]; rfl, hbw2⟩
          have k3 : (((D.1 : Nat) : Int) == 127) = false := beq_eq_false_iff_ne.2 (by omega)
          have k4 : (((D.1 : Nat) : Int) == 65279) = true := beq_iff_eq.2 (by omega)
          clear hbad c1 c2 c3
          go_wp2
          go_ret2
          have e1 := H1.out; have e2 := H2.out
          rw [HH.out] at e1 e2
          exact ⟨by rw [e1, e2]; rfl, hbw2⟩
        · rw [if_neg hbad] at hh
          have HH := Lib.hid hh
          clear hh
          unfold rawBad at hbad
          have k1 : (((D.1 : Nat) : Int) == 96) = false := beq_eq_false_iff_ne.2 (by omega)
          have k3 : (((D.1 : Nat) : Int) == 127) = false := beq_eq_false_iff_ne.2 (by omega)
          have k4 : (((D.1 : Nat) : Int) == 65279) = false := beq_eq_false_iff_ne.2 (by omega)
          by_cases c2 : D.1 < 32
          · have k2 : (((D.1 : Nat) : Int) < 32) = True := eq_true (by omega)
            have k5 : (((D.1 : Nat) : Int) != 9) = false := bne_eq_false_iff_eq.2 (by omega)
            clear hbad c2
            go_wp2
            go_roundw
            case rel =>
              go_light
              exact ⟨pos + D.2, f, hit2, hbw2, HH, by omega⟩
            case measure =>
              go_light
              simp only [World.iterPos, hit2, hit]
              omega
          · have k2 : (((D.1 : Nat) : Int) < 32) = False := eq_false (by omega)
            clear hbad c2
            go_wp2
            go_roundw
            case rel =>
              go_light
              exact ⟨pos + D.2, f, hit2, hbw2, HH, by omega⟩
            case measure =>
              go_light
              simp only [World.iterPos, hit2, hit]
              omega
      · have hnx : ∀ ty, (Instr.next (.pointer (some ⟨w1.heap.size, 0, none⟩)) true ty).run Tryd.prog wr = _ := fun ty => Lib.run_next_end_at wr w1.heap.size a0 pos ty hit hp
        have hh := hacc.out
        rw [rawGo_end a0 fuel pos hp] at hh
        have HH := Lib.hid hh
        clear hh hacc
        go_wp2
        go_ret2
        have e1 := H1.out; have e2 := H2.out
        rw [HH.out] at e1 e2
        exact ⟨by rw [e1, e2]; rfl, hbw⟩
end Go.Proofs.YtcoippikicikoaaDoor
namespace Go.Proofs.YtcoippikicikoaaDoor
open Go.RowKit Go.Proofs.YtcoippikicikoaaDoorW.PrintWords
theorem builder_below {T e : TypeId} {B b : Nat} {bs : List Value} {W W' : World} (h : Lib.IsBuilder T e B b bs W) (hb : Below W.heap.size W W') : Lib.IsBuilder T e B b bs W' := by
  have key : ∀ p, Lib.BuilderAt T e B b p bs W → Lib.BuilderAt T e B b p bs W' := by
    intro p h
    obtain ⟨hB, v, hbk, hown, hne⟩ := h
    exact ⟨hB, v, (hb.block b (blk_lt hbk)).trans hbk, hown.kept (row := none) ⟨hb.os, hb.tape, hb.output, hb.size, fun k hk _ => hb.block k hk⟩ (Classical.em _), hne⟩
  exact h.elim (fun x => .inl (key _ x)) (fun x => .inr (key _ x))
theorem WriteString (B b : Nat) (l : List UInt8) (s : ByteArray) (w : World) (h : Lib.IsBuilder 46 5 B b (Lib.byteCells l) w) (hlen : l.length + s.size ≤ 140737488355328) (hBw : B ≤ w.heap.size) :
    Calls Tryd.prog 27 #[.pointer (some ⟨b, 0, none⟩), .string s] w fun e w' => e = .returned (.tuple #[.int .i64 s.size, .nilIface]) ∧ Lib.IsBuilder 46 5 B b (Lib.byteCells (l ++ s.data.toList)) w' ∧ Below B w w' := by
  refine (Any.Builder_WriteString Tryd.lays166 Tryd.Builder_Extra_166 B b (Lib.byteCells l) s w h (by simpa [Lib.byteCells] using hlen) hBw).mono ?_
  rintro e w' ⟨he, hb, hbel⟩
  refine ⟨he, .inr ?_, hbel⟩
  have e : Lib.byteCells (l ++ s.data.toList) = Lib.byteCells l ++ Lib.strCells s := by simp [Lib.byteCells, Lib.strCells]
  rw [e]
  exact hb
theorem size_sub (s : ByteArray) (i j : Nat) (hij : i ≤ j) (hj : j ≤ s.size) : (s.extract i j).size = j - i := by
  rw [ByteArray.size_extract]; omega
theorem encB_size (c : Int) : (T (enc c)).size ≤ 4 := encT_size c
theorem oneB_range (s : ByteArray) (h0 : 0 < s.size) : (oneB s).1.size ≤ 4 ∧ 0 ≤ (oneB s).2 ∧ (oneB s).2 ≤ s.size := by
  have hd : (Utf8.decode s 0).2 ≤ s.size ∧ (Utf8.decode s 0).2 ≤ 4 := by
    have := decB_le s
    unfold decB at this
    rw [if_neg (by omega)] at this
    refine ⟨this, ?_⟩
    rw [Lib.decode_at]
    unfold Lib.decodeN
    repeat' split
    all_goals simp only []
    all_goals omega
  have w8 : ∀ k, widthOf k = 0 ∨ widthOf k = 2 ∨ widthOf k = 4 ∨ widthOf k = 8 := fun k => by
    unfold widthOf
    repeat' split
    all_goals simp
  have z : (T ([] : List UInt8)).size = 0 := rfl
  have o : ∀ x, (T [x]).size = 1 := fun _ => rfl
  unfold oneB
  split
  · split
    · simp only [z]; omega
    · simp only []
      rw [size_sub _ _ _ (by omega) hd.1]
      omega
  split
  · simp only [z]; omega
  split
  · simp only []
    rw [size_sub _ _ _ (by omega) (by omega)]
    omega
  split
  · simp only [o]; omega
  have := w8 ((s.get! 1).toNat)
  split
  · simp only [z]; omega
  split
  · simp only [z]; omega
  split
  · simp only [o]; omega
  · have := encB_size (wrap32 (‹Nat› : Int))
    simp only []
    omega
def unqGo : Nat → ByteArray → List UInt8 → Option (List UInt8)
  | 0, r, l => if r.size = 0 then some l else none
  | f + 1, r, l => if r.size = 0 then some l else if (oneB r).2 = 0 then none else unqGo f (r.extract (oneB r).2.toNat r.size) (l ++ (oneB r).1.data.toList)
theorem unqGo_end (f : Nat) (r : ByteArray) (l : List UInt8) (h : r.size = 0) : unqGo f r l = some l := by
  cases f <;> simp [unqGo, h]
def quote_Unquote.f (a0 : ByteArray) : Option (ByteArray × Bool) :=
  if a0.size ≤ 1000000 then
    (if a0.size < 2 ∨ a0.get! 0 ≠ 34 ∨ a0.get! (a0.size - 1) ≠ 34 then some (T [], false)
    else match unqGo a0.size (a0.extract 1 (a0.size - 1)) [] with
      | none => some (T [], false)
      | some l => (quote_Quote.f (T l) false).bind fun q1 => (quote_Quote.f (T l) true).bind fun q2 => if q1 ≠ a0 ∧ q2 ≠ a0 then some (T [], false) else some (T l, true))
  else none
def strLen : Value → Nat
  | .string s => s.size
  | _ => 0
theorem beq_u8 (c n : UInt8) : (((c.toNat : Nat) : Int) != ((n.toNat : Nat) : Int)) = (c != n) := by
  rw [Bool.eq_iff_iff, bne_iff_ne, bne_iff_ne, ne_eq, ne_eq, ← UInt8.toNat_inj]; omega
set_option maxHeartbeats 2000000 in
theorem quote_Unquote.calls (a0 : ByteArray) (r1 : ByteArray) (r2 : Bool) (w : World) (hOK : Ok w) (h : quote_Unquote.f a0 = some (r1, r2)) : Calls Tryd.prog 12 #[.string a0] w fun e w' => e = .returned (.tuple #[.string r1, .bool r2]) ∧ Below w.heap.size w w' := by
  unfold quote_Unquote.f at h
  split at h
  case isFalse => cases h
  rename_i hs
  by_cases h2 : a0.size < 2
  · rw [if_pos (.inl h2)] at h
    cases h
    have k1 : ((a0.size : Int) < 2) = True := eq_true (by omega)
    go_enter Tryd.func12, Tryd.ntmps12
    go_wp2
    go_ret2
    exact ⟨rfl, Below.refl _ _⟩
  have k1 : ((a0.size : Int) < 2) = False := eq_false (by omega)
  have hp0 : 0 < a0.size := by omega
  have p0 : ((0 : Int) < (a0.size : Int)) = True := eq_true (by omega)
  have hp1 : a0.size - 1 < a0.size := by omega
  have g0 := get_lt a0 0 hp0
  have g1 := get_lt a0 (a0.size - 1) hp1
  have q1 : wrap64 ((a0.size : Int) - 1) = ((a0.size - 1 : Nat) : Int) := by rw [wrap64_id (by omega) (by omega)]; omega
  have q2 : ((a0.size : Int) - 1) = ((a0.size - 1 : Nat) : Int) := by omega
  by_cases h34 : a0.get! 0 = 34
  case neg =>
    rw [if_pos (.inr (.inl h34))] at h
    cases h
    have k2 : ((((a0[0]'hp0).toNat : Nat) : Int) != 34) = true := by rw [g0]; exact (beq_u8 _ 34).trans (bne_iff_ne.2 h34)
    clear g0 g1 h34
    go_enter Tryd.func12, Tryd.ntmps12
    go_wp2
    go_ret2
    exact ⟨rfl, Below.refl _ _⟩
  have k2 : ((((a0[0]'hp0).toNat : Nat) : Int) != 34) = false := by rw [g0, h34]; decide
  by_cases h35 : a0.get! (a0.size - 1) = 34
  case neg =>
    rw [if_pos (.inr (.inr h35))] at h
    cases h
    have k3 : ((((a0[a0.size - 1]'hp1).toNat : Nat) : Int) != 34) = true := by rw [g1]; exact (beq_u8 _ 34).trans (bne_iff_ne.2 h35)
    clear g0 g1 h34 h35
    go_enter Tryd.func12, Tryd.ntmps12
    go_wp2
    go_ret2
    exact ⟨rfl, Below.refl _ _⟩
  have k3 : ((((a0[a0.size - 1]'hp1).toNat : Nat) : Int) != 34) = false := by rw [g1, h35]; decide
  rw [if_neg (fun h => h.elim h2 (fun h => h.elim (fun h => h h34) (fun h => h h35)))] at h
  have s1 : ((1 : Int) ≤ ((a0.size - 1 : Nat) : Int)) = True := eq_true (by omega)
  have s2 : (((a0.size - 1 : Nat) : Int) ≤ (a0.size : Int)) = True := eq_true (by omega)
  obtain ⟨q, hq⟩ : ∃ q, q = a0.extract 1 (a0.size - 1) := ⟨_, rfl⟩
  have hqs : q.size + 2 = a0.size := by rw [hq, size_sub _ _ _ (by omega) (by omega)]; omega
  rw [← hq] at h
  have H := Lib.hid h
  have HOK := Lib.hid hOK
  clear h hOK g0 g1 h34 h35
  go_enter Tryd.func12, Tryd.ntmps12
  go_wp2
  rw [← hq]
  have HQ := Lib.hid hq
  clear hq
  go_loopw [5] (fun v5 wr => ∃ (f : Nat) (r : ByteArray) (l : List UInt8), v5 = .string r ∧ Lib.IsBuilder 46 5 w.heap.size w.heap.size (Lib.byteCells l) wr ∧ Below w.heap.size w wr ∧ Hid (unqGo a0.size q [] = unqGo f r l) ∧ r.size ≤ f ∧ l.length + 4 * r.size ≤ 4 * a0.size ∧ r.size ≤ a0.size) (fun v5 _ => strLen v5)
  case atStart => exact ⟨a0.size, q, [], rfl, Lib.fresh_isBuilder _ _ w, (Below.refl _ w).alloc (Nat.le_refl _) _, Lib.hid rfl, by omega, by simp; omega, by omega⟩
  case round =>
    obtain ⟨f, r, l, rfl, hbd, hbw, hacc, hrf, hl4, hra⟩ := hrel
    by_cases hr : r.size = 0
    · have e0 : r.data.toList = [] := List.eq_nil_of_length_eq_zero (by rw [← Lib.size_eq]; exact hr)
      obtain rfl : r = ⟨#[]⟩ := bytes_ext (by rw [e0])
      have hh := hacc.out
      rw [unqGo_end _ _ _ hr] at hh
      have H := H.out
      rw [hh] at H
      simp only at H
      clear hh hacc
      obtain ⟨q1, hq1, H⟩ := Option.bind_eq_some_iff.mp H
      obtain ⟨q2, hq2, H⟩ := Option.bind_eq_some_iff.mp H
      have HH := Lib.hid H
      clear H e0 hr
      by_cases b1 : q1 = a0
      · go_wp2_with (first | (go_at_call 28; (with_reducible refine (Tryd.Builder_String_any w.heap.size w.heap.size l wr hbd (Below.size hbw)).mono ?_); rintro e w2 ⟨rfl, hb2⟩) | (go_at_call 19; (with_reducible refine (quote_Quote.calls (T l) false q1 w2 ((HOK.out).later (Below.trans hbw hb2)) hq1).mono ?_); rintro e w3 ⟨rfl, hb3⟩))
        go_ret2
        have HH := HH.out
        rw [if_neg (fun h => h.1 b1)] at HH
        cases HH
        exact ⟨rfl, Below.trans (Below.trans hbw hb2) (hb3.mono (Below.size (Below.trans hbw hb2)))⟩
      · have tl : ∀ x : ByteArray, ¬ x = a0 → (x.toList = a0.toList) = False := fun x hx => eq_false (fun e => hx (bytes_ext (by rw [← Lib.toList_data, ← Lib.toList_data, e])))
        have t1 := tl q1 b1
        by_cases b2 : q2 = a0
        · clear tl b1
          go_wp2_with (first | (go_at_call 28; (with_reducible refine (Tryd.Builder_String_any w.heap.size w.heap.size l wr hbd (Below.size hbw)).mono ?_); rintro e w2 ⟨rfl, hb2⟩) | (go_at_call 19; (with_reducible refine (quote_Quote.calls (T l) false q1 w2 ((HOK.out).later (Below.trans hbw hb2)) hq1).mono ?_); rintro e w3 ⟨rfl, hb3⟩) | (go_at_call 19; (with_reducible refine (quote_Quote.calls (T l) true q2 w3 ((HOK.out).later (Below.trans (Below.trans hbw hb2) (hb3.mono (Below.size (Below.trans hbw hb2))))) hq2).mono ?_); rintro e w4 ⟨rfl, hb4⟩))
          go_ret2
          have HH := HH.out
          rw [if_neg (fun h => h.2 b2)] at HH
          cases HH
          have e2 := Below.trans hbw hb2
          have e3 := Below.trans e2 (hb3.mono (Below.size e2))
          exact ⟨rfl, Below.trans e3 (hb4.mono (Below.size e3))⟩
        · have t2 := tl q2 b2
          have t3 : (q1.toList == a0.toList) = false := beq_eq_false_iff_ne.2 (fun e => t1.mp e)
          have t4 : (q2.toList == a0.toList) = false := beq_eq_false_iff_ne.2 (fun e => t2.mp e)
          have HH := HH.out
          rw [if_pos ⟨b1, b2⟩] at HH
          cases HH
          clear tl b1 b2
          go_wp2_with (first | (go_at_call 28; (with_reducible refine (Tryd.Builder_String_any w.heap.size w.heap.size l wr hbd (Below.size hbw)).mono ?_); rintro e w2 ⟨rfl, hb2⟩) | (go_at_call 19; (with_reducible refine (quote_Quote.calls (T l) false q1 w2 ((HOK.out).later (Below.trans hbw hb2)) hq1).mono ?_); rintro e w3 ⟨rfl, hb3⟩) | (go_at_call 19; (with_reducible refine (quote_Quote.calls (T l) true q2 w3 ((HOK.out).later (Below.trans (Below.trans hbw hb2) (hb3.mono (Below.size (Below.trans hbw hb2))))) hq2).mono ?_); rintro e w4 ⟨rfl, hb4⟩))
          go_ret2
          have e2 := Below.trans hbw hb2
          have e3 := Below.trans e2 (hb3.mono (Below.size e2))
          exact ⟨rfl, Below.trans e3 (hb4.mono (Below.size e3))⟩
    · have hr0 : 0 < r.size := by omega
      have m1 : r.toList.isEmpty = false := by
        have : r.toList ≠ [] := fun e => hr (by rw [Lib.size_eq, ← Lib.toList_data, e]; rfl)
        simpa using this
      obtain ⟨f, rfl⟩ : ∃ f', f = f' + 1 := ⟨f - 1, by omega⟩
      have hh := hacc.out
      simp only [unqGo] at hh
      rw [if_neg hr] at hh
      have ho := quote_one r wr ((HOK.out).later hbw) hr0 (by omega)
      obtain ⟨o4, o0, o1⟩ := oneB_range r hr0
      obtain ⟨O, hO⟩ : ∃ O, O = oneB r := ⟨_, rfl⟩
      rw [← hO] at ho hh o4 o0 o1
      obtain ⟨t, n⟩ := O
      simp only at ho hh o4 o0 o1
      have HOO := Lib.hid hO
      clear hO hacc
      by_cases hn : n = 0
      · subst hn
        rw [if_pos rfl] at hh
        have H := H.out
        rw [hh] at H
        cases H
        go_wp2_with (go_at_call 26; (with_reducible refine ho.mono ?_); rintro e w2 ⟨rfl, hb2⟩)
        go_ret2
        exact ⟨rfl, Below.trans hbw (hb2.mono (Below.size hbw))⟩
      · rw [if_neg hn] at hh
        have HH := Lib.hid hh
        clear hh
        obtain ⟨n, rfl⟩ : ∃ n' : Nat, n = n' := ⟨n.toNat, by omega⟩
        rw [Int.toNat_natCast] at HH
        have n1 : (((n : Nat) : Int) == 0) = false := beq_eq_false_iff_ne.2 hn
        have n2 : (((n : Nat) : Int) ≤ (r.size : Int)) = True := eq_true (by omega)
        have n3 : (0 ≤ ((n : Nat) : Int)) = True := eq_true (by omega)
        go_wp2_with (first | (go_at_call 26; (with_reducible refine ho.mono ?_); rintro e w2 ⟨rfl, hb2⟩) | (go_at_call 27; (with_reducible refine (WriteString w.heap.size w.heap.size l t w2 (builder_below hbd hb2) (by omega) (by have := Below.size hbw; have := Below.size hb2; omega)).mono ?_); rintro e w3 ⟨rfl, hbd3, hb3⟩))
        go_roundw
        case rel =>
          go_light
          have es := size_sub r n r.size (by omega) (Nat.le_refl _)
          have et : t.data.toList.length = t.size := (Lib.size_eq t).symm
          refine ⟨f, r.extract n r.size, l ++ t.data.toList, rfl, hbd3, ?_, HH, by omega, by rw [List.length_append]; omega, by omega⟩
          exact Below.trans (Below.trans hbw (hb2.mono (Below.size hbw))) hb3
        case measure =>
          go_light
          have es := size_sub r n r.size (by omega) (Nat.le_refl _)
          simp only [strLen]
          omega
end Go.Proofs.YtcoippikicikoaaDoor
namespace Go.Proofs.YtcoippikicikoaaDoor
open Go.RowKit Go.Proofs.YtcoippikicikoaaDoorW.PrintWords
def repB (s : ByteArray) (n : Nat) : ByteArray := T (Lib.repeatL s.data.toList n)
def strings_Repeat.f (a0 : ByteArray) (a1 : Int) : Option ByteArray := if 0 ≤ a1 ∧ a1 ≤ 9223372036854775807 ∧ a0.size * a1.toNat ≤ 140737488355328 then some (repB a0 a1.toNat) else none
theorem strings_Repeat.calls (a0 : ByteArray) (a1 : Int) (r : ByteArray) (w : World) (h : strings_Repeat.f a0 a1 = some r) : Calls Tryd.prog 60 #[.string a0, .int .i64 a1] w fun e w' => e = .returned (.string r) ∧ Below w.heap.size w w' := by
  unfold strings_Repeat.f at h
  split at h
  case isFalse => cases h
  rename_i hs
  obtain rfl := Option.some.inj h
  obtain ⟨n, rfl⟩ : ∃ n : Nat, a1 = n := ⟨a1.toNat, by omega⟩
  rw [Int.toNat_natCast] at hs ⊢
  exact Tryd.strings_Repeat a0 n w (by omega) hs.2.2
end Go.Proofs.YtcoippikicikoaaDoor
namespace Go.Proofs.YtcoippikicikoaaDoor
open Go.RowKit Go.Proofs.YtcoippikicikoaaDoorW.PrintWords Go.Proofs.YtcoippikicikoaaDoorW.PrintLast Go.Proofs.YtcoippikicikoaaDoorW.PrintMore
open Go.Proofs.YtcoippikicikoaaDoor.PQPut (quote_put.f quote_put.calls)
attribute [local go_sem] max2_int min2_int max_two min_two
def quote_Char.f (a0 : Int) (a1 : Bool) : Option ByteArray := (quote_put.f 100 [39] (if Lib.validRune a0 = true then a0 else 65533) 39 a1).bind fun t => if t.length < 140737488355328 then some (strOfNums (t ++ [39])) else none
set_option maxHeartbeats 2000000 in
theorem quote_Char.calls (a0 : Int) (a1 : Bool) (r : ByteArray) (w : World) (h : quote_Char.f a0 a1 = some r) : Calls Tryd.prog 22 #[.int .i32 a0, .bool a1] w fun e w' => e = .returned (.string r) ∧ Below w.heap.size w w' := by
  unfold quote_Char.f at h
  obtain ⟨t, ht, h⟩ := Option.bind_eq_some_iff.mp h
  split at h
  case isFalse => cases h
  rename_i hl
  obtain rfl := Option.some.inj h
  have HL := Lib.hid hl
  have hvr := fun W => Tryd.utf8_ValidRune a0 W
  clear h hl
  cases hV : Lib.validRune a0 with
  | true =>
    rw [hV] at ht hvr
    rw [if_pos rfl] at ht
    have HT := Lib.hid ht
    clear ht hV
    go_enter Tryd.func22, Tryd.ntmps22
    go_wp2_with (first | (go_at_call 42; (with_reducible refine (hvr _).mono ?_); rintro e w' ⟨rfl, hww⟩; obtain rfl := hww.symm) | ((with_reducible refine gate_dst (N := 8) rfl ?_); refine Kd.R_lit (Kd.int .u8) _ 5 ?hg (N := 8) ?hd (xs := ([39] : List Int)) (inner := [.int .u8 39]) (ok := fun _ => True) (okp := fun _ => True) ?hr ?hp (fun _ hk => hk) trivial (Below.refl _ _) (Nat.le_refl _) (by simp) ?_; (case hd => rfl); (case hg => rfl); (case hr => first | (go_simp; done) | (go_simp; rfl)); (case hp => exact (Reps.one (show Kd.M (Kd.int .u8) _ _ _ 39 [.int .u8 39] from rfl) (Reps.none _ _))); intro v1 w1 ho1 hb1 hg_ hnew_; clear hg_ hnew_; obtain ⟨Ao, co, rfl⟩ := Kd.R_slice ho1) | (go_at_call 41; (refine (quote_put.calls 100 (fun k_ => some k_ = (.slice Ao ([39] : List Int).length co : Value).ownBlock) (.slice Ao ([39] : List Int).length co) [39] a0 39 a1 t w w1 hb1 (Kd.R_tight rfl ho1) HT.out).mono ?_); rintro e w2 ⟨v2, rfl, ho2, hb2, hk2⟩) | ((with_reducible refine gate_builtin (b := .append) (xs := #[.tmp 11, .tmp 12]) rfl ?_); at_builtin; refine Kd.R_append (Kd.int .u8) (w0 := w) w.heap.size rfl (.tmp 11) (.tmp 12) 44 5 (.int .u8 0) 1 rfl Tryd.underlying44 PQPut.info5 rfl (by decide) (by omega) v2 t 39 [.int .u8 39] (fun _ => True) (fun _ => False) rfl rfl ?aP (fun _ hk => hk.elim) ?aF ?aO ?aB ?aS ?aL ?_; (case aP => exact rfl); (case aB => exact hb2); (case aF => exact (fun _ _ => trivial)); (case aO => exact Kd.R_mono ho2 (fun _ _ => trivial)); (case aS => exact Below.size hb2); (case aL => have := HL.out; omega); intro v4 w4 ho4 hb4 hg4 hat4; have hcv := own_string (P := Tryd.prog) Tryd.underlying44 Tryd.underlying5 Tryd.underlying9 (Kd.own_of_R ho4)))
    go_ret
    exact ⟨rfl, hb4⟩
  | false =>
    rw [hV] at ht hvr
    rw [if_neg (by decide)] at ht
    have HT := Lib.hid ht
    clear ht hV
    go_enter Tryd.func22, Tryd.ntmps22
    go_wp2_with (first | (go_at_call 42; (with_reducible refine (hvr _).mono ?_); rintro e w' ⟨rfl, hww⟩; obtain rfl := hww.symm) | ((with_reducible refine gate_dst (N := 8) rfl ?_); refine Kd.R_lit (Kd.int .u8) _ 5 ?hg (N := 8) ?hd (xs := ([39] : List Int)) (inner := [.int .u8 39]) (ok := fun _ => True) (okp := fun _ => True) ?hr ?hp (fun _ hk => hk) trivial (Below.refl _ _) (Nat.le_refl _) (by simp) ?_; (case hd => rfl); (case hg => rfl); (case hr => first | (go_simp; done) | (go_simp; rfl)); (case hp => exact (Reps.one (show Kd.M (Kd.int .u8) _ _ _ 39 [.int .u8 39] from rfl) (Reps.none _ _))); intro v1 w1 ho1 hb1 hg_ hnew_; clear hg_ hnew_; obtain ⟨Ao, co, rfl⟩ := Kd.R_slice ho1) | (go_at_call 41; (refine (quote_put.calls 100 (fun k_ => some k_ = (.slice Ao ([39] : List Int).length co : Value).ownBlock) (.slice Ao ([39] : List Int).length co) [39] 65533 39 a1 t w w1 hb1 (Kd.R_tight rfl ho1) HT.out).mono ?_); rintro e w2 ⟨v2, rfl, ho2, hb2, hk2⟩) | ((with_reducible refine gate_builtin (b := .append) (xs := #[.tmp 11, .tmp 12]) rfl ?_); at_builtin; refine Kd.R_append (Kd.int .u8) (w0 := w) w.heap.size rfl (.tmp 11) (.tmp 12) 44 5 (.int .u8 0) 1 rfl Tryd.underlying44 PQPut.info5 rfl (by decide) (by omega) v2 t 39 [.int .u8 39] (fun _ => True) (fun _ => False) rfl rfl ?aP (fun _ hk => hk.elim) ?aF ?aO ?aB ?aS ?aL ?_; (case aP => exact rfl); (case aB => exact hb2); (case aF => exact (fun _ _ => trivial)); (case aO => exact Kd.R_mono ho2 (fun _ _ => trivial)); (case aS => exact Below.size hb2); (case aL => have := HL.out; omega); intro v4 w4 ho4 hb4 hg4 hat4; have hcv := own_string (P := Tryd.prog) Tryd.underlying44 Tryd.underlying5 Tryd.underlying9 (Kd.own_of_R ho4)))
    go_ret
    exact ⟨rfl, hb4⟩
end Go.Proofs.YtcoippikicikoaaDoor
namespace Go.Proofs.YtcoippikicikoaaDoor
open Go.RowKit Go.Proofs.YtcoippikicikoaaDoorW.PrintWords Go.Proofs.YtcoippikicikoaaDoorW.PrintMore Go.Proofs.YtcoippikicikoaaDoor.PQRef
open Go.Proofs.YtcoippikicikoaaDoor.PQPut (quote_put.f quote_escape.f)
def hxd (d : Nat) : UInt8 := UInt8.ofNat (if d < 10 then 48 + d else 87 + d)
def hexL : Nat → Nat → List UInt8
  | 0, _ => []
  | n + 1, c => hxd (c / 16 ^ n % 16) :: hexL n c
theorem hexL_length (n c : Nat) : (hexL n c).length = n := by
  induction n with
  | zero => rfl
  | succ n ih => simp [hexL, ih]
def ints (l : List UInt8) : List Int := l.map fun x => (x.toNat : Int)
theorem strOfNums_ints (l : List UInt8) : strOfNums (ints l) = T l := by
  unfold strOfNums ints
  congr 2
  rw [List.map_map]
  refine (List.map_congr_left (fun x _ => ?_)).trans (List.map_id _)
  simp
theorem ints_append (a b : List UInt8) : ints (a ++ b) = ints a ++ ints b := List.map_append
theorem ints_length (a : List UInt8) : (ints a).length = a.length := by simp [ints]
theorem small_bt (d : Nat) (h : d < 16) : bt (⟨#[48, 49, 50, 51, 52, 53, 54, 55, 56, 57, 97, 98, 99, 100, 101, 102]⟩ : ByteArray) (d : Int) = ((hxd d).toNat : Int) := by
  have : ∀ d : Fin 16, bt (⟨#[48, 49, 50, 51, 52, 53, 54, 55, 56, 57, 97, 98, 99, 100, 101, 102]⟩ : ByteArray) ((d.val : Nat) : Int) = ((hxd d.val).toNat : Int) := by decide
  exact this ⟨d, h⟩
theorem nib (c n : Nat) (hc : c ≤ 1114111) (hn : n ≤ 8) : Go.bits .and .i32 (shr .i32 (c : Int) (wrap64 (4 * (n : Int)))) 15 = ((c / 16 ^ n % 16 : Nat) : Int) := by
  have e1 : wrap64 (4 * (n : Int)) = ((4 * n : Nat) : Int) := by rw [wrap64_id (by omega) (by omega)]; omega
  have e2 : shr .i32 (c : Int) ((4 * n : Nat) : Int) = ((c / 16 ^ n : Nat) : Int) := by
    unfold shr
    rw [Int.toNat_natCast]
    have e3 : min (4 * n) (IntKind.bits .i32) = 4 * n := by
      have : IntKind.bits .i32 = 32 := rfl
      omega
    rw [e3]
    have e4 : (2 : Int) ^ (4 * n) = ((16 ^ n : Nat) : Int) := by
      rw [Int.natCast_pow, Int.pow_mul]; rfl
    rw [e4]
    rfl
  rw [e1, e2]
  have hle : c / 16 ^ n ≤ c := Nat.div_le_self _ _
  generalize c / 16 ^ n = q at hle ⊢
  have := Go.bits_mask .i32 31 (by decide) Go.wraps_i32 4 (by decide) ((q : Nat) : Int) (by omega) (by omega)
  exact this.trans (by omega)
theorem esc_l0 (c : Nat) (hc : c ≤ 1114111) : ∀ (n k : Nat) (l : List Int), n ≤ 8 → n + 1 ≤ k → l.length + n ≤ 100000000000 → PQPut.quote_escape.l0 k l (c : Int) ((n : Int) - 1) = some (l ++ ints (hexL n c)) := by
  intro n
  induction n with
  | zero =>
    intro k l _ hk _
    obtain ⟨k, rfl⟩ : ∃ k', k = k' + 1 := ⟨k - 1, by omega⟩
    unfold PQPut.quote_escape.l0
    rw [if_neg (by omega)]
    simp [hexL, ints]
  | succ n ih =>
    intro k l h8 hk hl
    obtain ⟨k, rfl⟩ : ∃ k', k = k' + 1 := ⟨k - 1, by omega⟩
    unfold PQPut.quote_escape.l0
    have e : ((n + 1 : Nat) : Int) - 1 = (n : Int) := by omega
    rw [e, nib c n hc (by omega), if_pos (by omega), if_pos (by rw [wrap64_id (by omega) (by omega)]; omega), if_pos (by omega), if_pos (by omega), if_pos (by omega)]
    rw [small_bt _ (by omega), wrap64_id (by omega) (by omega), ih k _ (by omega) (by omega) (by simp; omega)]
    simp [hexL, ints]
theorem escape_f (k : Nat) (hk : 9 ≤ k) (c sign n : Nat) (hc : c ≤ 1114111) (l : List Int) (hn : n ≤ 8) (hn0 : 1 ≤ n) (hl : l.length ≤ 10000000000) : quote_escape.f k l (sign : Int) (c : Int) (n : Int) = some (l ++ ([92, (sign : Int)] ++ ints (hexL n c))) := by
  unfold quote_escape.f
  simp only [Option.bind_some, List.length_cons, List.length_nil]
  rw [if_pos (by omega), wrap64_id (by omega) (by omega), esc_l0 c hc n k _ hn (by omega) (by simp; omega), List.append_assoc]
end Go.Proofs.YtcoippikicikoaaDoor
namespace Go.Proofs.YtcoippikicikoaaDoor
open Go.RowKit Go.Proofs.YtcoippikicikoaaDoorW.PrintWords Go.Proofs.YtcoippikicikoaaDoorW.PrintMore Go.Proofs.YtcoippikicikoaaDoor.PQRef
open Go.Proofs.YtcoippikicikoaaDoor.PQPut (quote_put.f quote_escape.f)
def plainP (c : Nat) : Bool := decide ((32 ≤ c ∧ c ≤ 126) ∨ (161 ≤ c ∧ c ≤ 55295 ∧ c ≠ 173) ∨ (57344 ≤ c ∧ c ≤ 65532) ∨ (65536 ≤ c ∧ c ≤ 1114111))
theorem plain_f (k : Nat) (c : Nat) : quote_Plain.f (k + 2) (c : Int) = some (plainP c) := by
  unfold quote_Plain.f
  simp only [quote_Plain.j0, quote_Plain.j1, decide_eq_true_eq, Bool.false_eq_true, if_false]
  repeat' split
  all_goals (rw [Option.some.injEq, Bool.eq_iff_iff]; simp [plainP]; try omega)
def lettr (d : Nat) : UInt8 := lettersL.getD d 0
def putL (c q : Nat) (asc : Bool) : List UInt8 :=
  if c = q ∨ c = 92 then [92, UInt8.ofNat c]
  else if 7 ≤ c ∧ c ≤ 13 then [92, lettr (c - 7)]
  else if (32 ≤ c ∧ c ≤ 126) ∨ (asc = false ∧ plainP c = true) then enc c
  else if c < 128 then [92, 120] ++ hexL 2 c
  else if c ≤ 65535 then [92, 117] ++ hexL 4 c
  else [92, 85] ++ hexL 8 c
theorem letters_bt (d : Nat) (h : d < 7) : bt (⟨#[97, 98, 116, 110, 118, 102, 114]⟩ : ByteArray) (d : Int) = ((lettr d).toNat : Int) := by
  have : ∀ d : Fin 7, bt (⟨#[97, 98, 116, 110, 118, 102, 114]⟩ : ByteArray) ((d.val : Nat) : Int) = ((lettr d.val).toNat : Int) := by decide
  exact this ⟨d, h⟩
theorem plain_valid (c : Nat) (h : (32 ≤ c ∧ c ≤ 126) ∨ plainP c = true) : Utf8.valid (c : Int) = true := by
  rw [valid_nat]
  simp only [plainP, decide_eq_true_eq] at h
  omega
theorem or192 (x : Nat) (h : x < 32) : Go.bits .or .u8 192 (x : Int) = ((192 + x : Nat) : Int) := by
  rw [u8_or192 _ (by omega) (by omega)]; omega
theorem or224 (x : Nat) (h : x < 16) : Go.bits .or .u8 224 (x : Int) = ((224 + x : Nat) : Int) := by
  rw [u8_or224 _ (by omega) (by omega)]; omega
theorem or240 (x : Nat) (h : x < 8) : Go.bits .or .u8 240 (x : Int) = ((240 + x : Nat) : Int) := by
  rw [u8_or240 _ (by omega) (by omega)]; omega
theorem ofNat_toNat (x : Nat) (h : x < 256) : ((UInt8.ofNat x).toNat : Int) = (x : Int) := by
  rw [UInt8.toNat_ofNat']; omega
theorem nonascii_f (k : Nat) (c : Nat) (hc : 128 ≤ c) (hv : Utf8.valid (c : Int) = true) (l : List Int) (hl : l.length ≤ 10000000000) : PQPut.utf8_appendRuneNonASCII.f (k + 1) l (c : Int) = some (l ++ ints (encN c)) := by
  rw [valid_nat] at hv
  have em : ((c : Int)) % 4294967296 = (c : Int) := by omega
  have e6 : ∀ n : Nat, ((c : Int) / (n : Int)) = ((c / n : Nat) : Int) := fun n => rfl
  have ed : ∀ x n : Nat, x < 256 → ((x : Int)) % 256 = (x : Int) := fun x n h => by omega
  unfold PQPut.utf8_appendRuneNonASCII.f
  rw [em]
  unfold encN ints
  by_cases h2 : c < 2048
  · rw [if_pos (by omega), if_neg (by omega), if_pos h2]
    have a1 : Go.bits .or .u8 192 ((c : Int) / 64 % 256) = ((192 + c / 64 : Nat) : Int) := by
      rw [show (c : Int) / 64 % 256 = ((c / 64 : Nat) : Int) by omega]; exact or192 _ (by omega)
    rw [a1]
    simp only [Option.bind_some, List.length_cons, List.length_nil, List.map_cons, List.map_nil]
    rw [if_pos (by omega), ofNat_toNat _ (by omega), ofNat_toNat _ (by omega)]
    rfl
  rw [if_neg (show ¬ (c : Int) ≤ 2047 by omega), if_neg (show ¬ c < 128 by omega), if_neg h2]
  have J : ∀ b, b = decide (c < 65536) → PQPut.utf8_appendRuneNonASCII.j0 (k + 1) l (c : Int) (c : Int) b = some (l ++ List.map (fun x : UInt8 => (x.toNat : Int)) (if c < 65536 then [UInt8.ofNat (224 + c / 4096), UInt8.ofNat (128 + c / 64 % 64), UInt8.ofNat (128 + c % 64)] else [UInt8.ofNat (240 + c / 262144), UInt8.ofNat (128 + c / 4096 % 64), UInt8.ofNat (128 + c / 64 % 64), UInt8.ofNat (128 + c % 64)])) := by
    rintro b rfl
    simp only [PQPut.utf8_appendRuneNonASCII.j0]
    by_cases h3 : c < 65536
    · rw [if_pos (by simpa using h3), if_pos h3]
      have a1 : Go.bits .or .u8 224 ((c : Int) / 4096 % 256) = ((224 + c / 4096 : Nat) : Int) := by
        rw [show (c : Int) / 4096 % 256 = ((c / 4096 : Nat) : Int) by omega]; exact or224 _ (by omega)
      rw [a1]
      simp only [Option.bind_some, List.length_cons, List.length_nil, List.map_cons, List.map_nil]
      rw [if_pos (by omega), ofNat_toNat _ (by omega), ofNat_toNat _ (by omega), ofNat_toNat _ (by omega)]
      rfl
    · rw [if_neg (by simpa using h3), if_pos (by omega), if_pos (by omega), if_neg h3]
      have a1 : Go.bits .or .u8 240 ((c : Int) / 262144 % 256) = ((240 + c / 262144 : Nat) : Int) := by
        rw [show (c : Int) / 262144 % 256 = ((c / 262144 : Nat) : Int) by omega]; exact or240 _ (by omega)
      rw [a1]
      simp only [Option.bind_some, List.length_cons, List.length_nil, List.map_cons, List.map_nil]
      rw [if_pos (by omega), ofNat_toNat _ (by omega), ofNat_toNat _ (by omega), ofNat_toNat _ (by omega), ofNat_toNat _ (by omega)]
      rfl
  by_cases h4 : c < 55296
  · rw [if_pos (by omega)]; exact J _ (by rw [decide_eq_true (by omega), decide_eq_true (by omega)])
  · rw [if_neg (by omega), if_pos (by omega)]
    exact J _ (by by_cases h : c < 65536 <;> simp <;> omega)
theorem append_f (k : Nat) (c : Nat) (hv : Utf8.valid (c : Int) = true) (l : List Int) (hl : l.length ≤ 10000000000) : PQPut.utf8_AppendRune.f (k + 1) l (c : Int) = some (l ++ ints (enc (c : Int))) := by
  have ee : enc (c : Int) = encN c := by unfold enc; rw [if_pos hv, Int.toNat_natCast]
  rw [ee]
  unfold PQPut.utf8_AppendRune.f
  by_cases h : c < 128
  · have hv' := (valid_nat c).1 hv
    rw [if_pos (by omega), if_pos (by omega)]
    unfold encN ints
    rw [if_pos h]
    simp only [List.map_cons, List.map_nil]
    rw [ofNat_toNat _ (by omega), show (c : Int) % 256 = (c : Int) by omega]
  · have hv' := (valid_nat c).1 hv
    rw [if_neg (by omega), nonascii_f k c (by omega) hv l hl]
    rfl
theorem put_f (c q : Nat) (asc : Bool) (hc : c ≤ 1114111) (l : List Int) (hl : l.length ≤ 10000000) : quote_put.f 100 l (c : Int) (q : Int) asc = some (l ++ ints (putL c q asc)) := by
  have hput : ∀ k, 20 ≤ k → ∀ b, b = decide (c = q ∨ c = 92) → PQPut.quote_put.j0 k l (c : Int) asc b = some (l ++ ints (putL c q asc)) := by
    rintro k hk b rfl
    obtain ⟨k, rfl⟩ : ∃ k', k = k' + 4 := ⟨k - 4, by omega⟩
    unfold putL
    simp only [PQPut.quote_put.j0]
    by_cases h1 : c = q ∨ c = 92
    · rw [if_pos (decide_eq_true h1), if_pos h1]
      simp only [Option.bind_some, List.length_cons, List.length_nil]
      rw [if_pos (by omega)]
      simp only [ints, List.map_cons, List.map_nil]
      rw [show (((UInt8.ofNat c).toNat : Nat) : Int) = (c : Int) % 256 by rw [UInt8.toNat_ofNat']; omega]
      rfl
    rw [if_neg (by rw [decide_eq_false h1]; decide), if_neg h1]
    have hj1 : PQPut.quote_put.j1 (k + 3) l (c : Int) asc (decide (7 ≤ c ∧ c ≤ 13)) = some (l ++ ints (if 7 ≤ c ∧ c ≤ 13 then [92, lettr (c - 7)]
      else if (32 ≤ c ∧ c ≤ 126) ∨ (asc = false ∧ plainP c = true) then enc c
      else if c < 128 then [92, 120] ++ hexL 2 c
      else if c ≤ 65535 then [92, 117] ++ hexL 4 c
      else [92, 85] ++ hexL 8 c)) := by
      simp only [PQPut.quote_put.j1]
      by_cases h2 : 7 ≤ c ∧ c ≤ 13
      · rw [if_pos (decide_eq_true h2), if_pos h2, wrap32_id (by omega) (by omega), if_pos (by omega), if_pos (by omega)]
        rw [show (c : Int) - 7 = ((c - 7 : Nat) : Int) by omega, letters_bt _ (by omega)]
        simp only [Option.bind_some, List.length_cons, List.length_nil]
        rw [if_pos (by omega)]
        rfl
      rw [if_neg (by rw [decide_eq_false h2]; decide), if_neg h2]
      have hj3 : PQPut.quote_put.j3 (k + 1) l (c : Int) (decide ((32 ≤ c ∧ c ≤ 126) ∨ (asc = false ∧ plainP c = true))) = some (l ++ ints (if (32 ≤ c ∧ c ≤ 126) ∨ (asc = false ∧ plainP c = true) then enc c
        else if c < 128 then [92, 120] ++ hexL 2 c
        else if c ≤ 65535 then [92, 117] ++ hexL 4 c
        else [92, 85] ++ hexL 8 c)) := by
        simp only [PQPut.quote_put.j3]
        by_cases h3 : (32 ≤ c ∧ c ≤ 126) ∨ (asc = false ∧ plainP c = true)
        · rw [if_pos (decide_eq_true h3), if_pos h3]
          obtain ⟨k, rfl⟩ : ∃ k', k = k' + 1 := ⟨k - 1, by omega⟩
          rw [append_f k c (plain_valid c (h3.imp id (fun h => h.2))) l (by omega)]
          rfl
        rw [if_neg (by rw [decide_eq_false h3]; decide), if_neg h3]
        by_cases h4 : c < 128
        · rw [if_pos (by omega), if_pos h4, show (120 : Int) = ((120 : Nat) : Int) from rfl, show (2 : Int) = ((2 : Nat) : Int) from rfl, escape_f k (by omega) c 120 2 hc l (by omega) (by omega) (by omega)]
          rfl
        rw [if_neg (by omega), if_neg h4]
        by_cases h5 : c ≤ 65535
        · rw [if_pos (by omega), if_pos h5, show (117 : Int) = ((117 : Nat) : Int) from rfl, show (4 : Int) = ((4 : Nat) : Int) from rfl, escape_f k (by omega) c 117 4 hc l (by omega) (by omega) (by omega)]
          rfl
        · rw [if_neg (by omega), if_neg h5, show (85 : Int) = ((85 : Nat) : Int) from rfl, show (8 : Int) = ((8 : Nat) : Int) from rfl, escape_f k (by omega) c 85 8 hc l (by omega) (by omega) (by omega)]
          rfl
      rw [← hj3]
      have hj2 : ∀ b, b = decide (32 ≤ c ∧ c ≤ 126) → PQPut.quote_put.j2 (k + 2) l (c : Int) asc b = PQPut.quote_put.j3 (k + 1) l (c : Int) (decide ((32 ≤ c ∧ c ≤ 126) ∨ (asc = false ∧ plainP c = true))) := by
        rintro b rfl
        simp only [PQPut.quote_put.j2]
        by_cases h6 : 32 ≤ c ∧ c ≤ 126
        · rw [if_pos (decide_eq_true h6), decide_eq_true h6, decide_eq_true (.inl h6)]
        rw [if_neg (by rw [decide_eq_false h6]; decide)]
        cases asc with
        | true => rw [if_pos rfl, decide_eq_false (by rintro (h | h); exact h6 h; cases h.1)]
        | false =>
          rw [if_neg (by decide)]
          obtain ⟨k, rfl⟩ : ∃ k', k = k' + 1 := ⟨k - 1, by omega⟩
          rw [plain_f k c]
          simp only [Option.bind_some]
          congr 1
          rw [Bool.eq_iff_iff, decide_eq_true_eq]
          simp [h6]
      by_cases h7 : c < 127
      · rw [if_pos (by omega)]
        exact hj2 _ (by rw [Bool.eq_iff_iff, decide_eq_true_eq, decide_eq_true_eq]; omega)
      · rw [if_neg (by omega)]
        exact hj2 _ (by rw [eq_comm, decide_eq_false_iff_not]; omega)
    rw [← hj1]
    by_cases h8 : 7 ≤ c
    · rw [if_pos (by omega)]
      congr 1
      rw [Bool.eq_iff_iff, decide_eq_true_eq, decide_eq_true_eq]; omega
    · rw [if_neg (by omega)]
      congr 1
      rw [eq_comm, decide_eq_false_iff_not]; omega
  unfold quote_put.f
  by_cases h0 : c = q
  · rw [if_pos (by omega)]
    exact hput 100 (by omega) _ (by rw [decide_eq_true (.inl h0)])
  · rw [if_neg (by omega)]
    exact hput 100 (by omega) _ (by rw [Bool.eq_iff_iff, decide_eq_true_eq, beq_iff_eq]; omega)
end Go.Proofs.YtcoippikicikoaaDoor
namespace Go.Proofs.YtcoippikicikoaaDoor
open Go.RowKit Go.Proofs.YtcoippikicikoaaDoorW.PrintWords Go.Proofs.YtcoippikicikoaaDoorW.PrintMore Go.Proofs.YtcoippikicikoaaDoor.PQRef
theorem T_append (a b : List UInt8) : T a ++ T b = T (a ++ b) := bytes_ext (by rw [Joins.data_append])
end Go.Proofs.YtcoippikicikoaaDoor
namespace Go.Proofs.YtcoippikicikoaaDoor.PQGen
open Go.RowKit Go.Proofs.YtcoippikicikoaaDoorW.PrintWords Go.Proofs.YtcoippikicikoaaDoorW.PrintLast Go.Proofs.YtcoippikicikoaaDoorW.PrintMore
attribute [local go_sem] max2_int min2_int max_two min_two
set_option linter.unusedVariables false
set_option linter.unusedSimpArgs false
def errW : Option Int → Value
 | none => .nilIface
 | some c => .iface 0 (.int .i64 c)
theorem errW_none : errW none = .nilIface := rfl
theorem errW_some (c : Int) : errW (some c) = .iface 0 (.int .i64 c) := rfl
theorem info5 : (Tryd.prog.info? 5).map (fun i => (i.zero, i.size, i.bytes)) = some (some (.int .u8 0), 1, 1) := by kernel_rfl
end Go.Proofs.YtcoippikicikoaaDoor.PQGen
namespace Go.Proofs.YtcoippikicikoaaDoor.PQGen
open Go.RowKit Go.Proofs.YtcoippikicikoaaDoorW.PrintWords Go.Proofs.YtcoippikicikoaaDoorW.PrintLast Go.Proofs.YtcoippikicikoaaDoorW.PrintMore
attribute [local go_sem] max2_int min2_int max_two min_two
set_option linter.unusedVariables false
set_option linter.unusedSimpArgs false
def buf_Fill.f (a0 : Int) (a1 : Int) : Option (ByteArray) := (strings_Repeat.f (strOfNums (([a0] : List Int))) (mx 0 (mn a1 1000))).bind fun t104 => (some t104)
set_option maxHeartbeats 8000000 in
set_option maxRecDepth 100000 in
theorem buf_Fill.calls (a0 : Int) (a1 : Int) (r : ByteArray) (w : World) (h : buf_Fill.f a0 a1 = some r) :
 Calls Tryd.prog 50 #[.int .u8 a0, .int .i64 a1] w fun e w' => e = .returned (.string r) ∧ Below w.heap.size w w' := by
 have HB := Aside0.mk (Below.refl w.heap.size w)
 have H : ((strings_Repeat.f (strOfNums (([a0] : List Int))) (mx 0 (mn a1 1000))).bind fun t104 => (some t104)) = some r := h
 clear h
 obtain ⟨y101, hy101⟩ : ∃ y_ : List Int, y_ = (([a0] : List Int)) := ⟨_, rfl⟩
 replace H : ((strings_Repeat.f (strOfNums y101) (mx 0 (mn a1 1000))).bind fun t104 => (some t104)) = some r := by first | (rw [hy101]; with_reducible exact H) | (have H2_ := (Option.bind_some _ _).symm.trans H; rw [hy101]; with_reducible exact H2_) | (have H2_ := (Option.bind_some _ _).symm.trans H; with_reducible exact H2_) | with_reducible exact H | (rw [hy101]; exact H) | exact H
 have Ny101 := Aside0.mk hy101
 clear hy101
 obtain ⟨ji3, hji3⟩ : ∃ j_ : Int, (mn a1 1000) = j_ := ⟨_, rfl⟩
 replace H : ((strings_Repeat.f (strOfNums y101) (mx 0 (ji3))).bind fun t104 => (some t104)) = some r := by first | (rw [hji3] at H; exact H) | (simp only [hji3] at H ⊢; exact H)
 (try (have hji3h : ji3 ≤ 1000 := by (rw [← hji3]; unfold mn; (repeat' split) <;> omega)))
 (try (have hji3g : ji3 ≤ 64 := by omega))
 have hji3_ : (if 1000 < a1 then 1000 else a1) = ji3 := hji3
 obtain ⟨ji4, hji4⟩ : ∃ j_ : Int, (mx 0 (ji3)) = j_ := ⟨_, rfl⟩
 replace H : ((strings_Repeat.f (strOfNums y101) (ji4)).bind fun t104 => (some t104)) = some r := by first | (rw [hji4] at H; exact H) | (simp only [hji4] at H ⊢; exact H)
 have hji4_ : (if 0 < (ji3) then (ji3) else 0) = ji4 := hji4
 replace H := Option.bind_eq_some_iff.mp H
 obtain ⟨t104, A50, H⟩ := H
 replace H : (some t104) = some r := H
 have A5 := Aside0.mk A50
 clear A50
 obtain rfl := Option.some.inj H
 go_enter Tryd.func50, Tryd.ntmps50
 go_wp2_with (first | ((with_reducible refine gate_dst (N := 6) rfl ?_); refine Kd.R_lit (Kd.int .u8) _ 5 ?hg (N := 6) ?hd (xs := ([a0] : List Int)) (inner := [.int .u8 a0]) (ok := fun _ => True) (okp := fun _ => True) ?hr ?hp (fun _ hk => hk) trivial (Below.refl _ _) (Nat.le_refl _) (by simp) ?_; (case hd => rfl); (case hg => rfl); (case hr => first | (go_simp; done) | (go_simp; rfl)); (case hp => exact (Reps.one (show Kd.M (Kd.int .u8) _ _ _ a0 [.int .u8 a0] from rfl) (Reps.none _ _))); intro v102 w6 ho7 hb hg_ hnew_; clear hg_ hnew_; (first | rw [← Ny101.out] at ho7 | (simp only [Int.reduceToNat] at ho7; rw [← Ny101.out] at ho7)); have n0_ := Aside0.mk (Kd.R_lower ho7 (below_size (by repeat (first | (with_reducible first | exact HB.out | apply below_alloc | apply pw_below_drewN | apply below_drew1) | exact HB.out)))); have n1_ := Aside0.mk (below_step (by repeat (first | (with_reducible first | exact HB.out | apply below_alloc | apply pw_below_drewN | apply below_drew1) | exact HB.out)) hb); clear HB; have HO103 := n0_; have HB := n1_; clear n0_ n1_; clear hb ho7; have hcv8 := own_string (P := Tryd.prog) Tryd.underlying44 Tryd.underlying5 Tryd.underlying9 (Kd.own_of_R HO103.out)) | ((with_reducible refine gate_callee (f := 60) rfl ?_); refine goesL_ (some 11) rfl rfl Tryd.func60 (by kernel_rfl) rfl #[.string (strOfNums y101), .int .i64 ji4] rfl (by (try simp only [List.map_toArray, List.map_cons, List.map_nil]); first | done | (simp only [hji4]; rfl) | rfl | (simp only [List.length_drop, List.length_take]; rfl)) ?_; (with_reducible refine (strings_Repeat.calls (strOfNums y101) ji4 t104 _ A5.out).mono ?_); rintro e w9 ⟨rfl, hb⟩; refine ⟨_, rfl, ?_⟩; have n0_ := Aside0.mk (Kd.R_below (by (with_reducible repeat (first | apply Kd.R_alloc | apply Kd.R_drewN | apply Kd.R_drew)); exact HO103.out) hb); have n1_ := Aside0.mk (below_step (by repeat (first | (with_reducible first | exact HB.out | apply below_alloc | apply pw_below_drewN | apply below_drew1) | exact HB.out)) hb); clear HO103; clear HB; have HO103 := n0_; have HB := n1_; clear n0_ n1_; (try clear hb); (try clear hb2); (try clear hk); (try clear hi)))
 go_ret
 exact ⟨by first | rfl | (simp [errW_none, errW_some] <;> rfl) | (simp only [← hji3, ← hji4]; first | rfl | (simp [errW_none, errW_some] <;> rfl)) | (simp [*, errW_none, errW_some] <;> rfl), by repeat (first | (with_reducible first | exact HB.out | apply below_alloc | apply pw_below_drewN | apply below_drew1) | exact HB.out)⟩
def buf_Pad.f (a0 : ByteArray) (a1_0 : Bool) (a1_1 : Bool) (a1_2 : Bool) (a1_3 : Bool) (a1_4 : Bool) (a1_5 : Int) (a1_6 : Int) (a1_7 : Int) : Option (ByteArray) := (buf_Count.f a0).bind fun t106 => (if (wrap64 ((mx 0 (mn a1_5 1000)) - t106)) ≤ 0 then (some a0) else (if a1_1 = true then ((buf_Fill.f 32 (wrap64 ((mx 0 (mn a1_5 1000)) - t106))).bind fun t107 => (if a0.size + t107.size ≤ 9223372036854775807 then (some (a0 ++ t107)) else (none))) else (if a1_4 = true then ((buf_Fill.f 48 (wrap64 ((mx 0 (mn a1_5 1000)) - t106))).bind fun t108 => (if t108.size + a0.size ≤ 9223372036854775807 then (some (t108 ++ a0)) else (none))) else ((buf_Fill.f 32 (wrap64 ((mx 0 (mn a1_5 1000)) - t106))).bind fun t109 => (if t109.size + a0.size ≤ 9223372036854775807 then (some (t109 ++ a0)) else (none))))))
def buf_Pad.T1 : Bool × List (List Nat × List Nat) := (true, [([], []), ([0], [0]), ([1], [1]), ([2], [2]), ([], []), ([4], [4]), ([3, 5], [3, 5]), ([6, 5, 0, 1, 2, 3, 4, 5, 6], [6])])
def buf_Pad.B1 : List Nat := [0, 1, 3, 7, 0, 16, 63, 127]
theorem buf_Pad.tab1 : rtab .any (opsOf Tryd.f32 1) = buf_Pad.T1 := by kernel_rfl
theorem buf_Pad.bits1 : waitsOk buf_Pad.T1.2 buf_Pad.B1 = true := by kernel_rfl
set_option maxHeartbeats 8000000 in
set_option maxRecDepth 100000 in
theorem buf_Pad.calls (a0 : ByteArray) (a1_0 : Bool) (a1_1 : Bool) (a1_2 : Bool) (a1_3 : Bool) (a1_4 : Bool) (a1_5 : Int) (a1_6 : Int) (a1_7 : Int) (r : ByteArray) (w : World) (h : buf_Pad.f a0 a1_0 a1_1 a1_2 a1_3 a1_4 a1_5 a1_6 a1_7 = some r) :
 Calls Tryd.prog 32 #[.string a0, .agg #[.bool a1_0, .bool a1_1, .bool a1_2, .bool a1_3, .bool a1_4, .int .i64 a1_5, .int .i64 a1_6, .int .i32 a1_7]] w fun e w' => e = .returned (.string r) ∧ Below w.heap.size w w' := by
 have hu28 := Tryd.underlying28
 have HB := Aside0.mk (Below.refl w.heap.size w)
 have H : ((buf_Count.f a0).bind fun t106 => (if (wrap64 ((mx 0 (mn a1_5 1000)) - t106)) ≤ 0 then (some a0) else (if a1_1 = true then ((buf_Fill.f 32 (wrap64 ((mx 0 (mn a1_5 1000)) - t106))).bind fun t107 => (if a0.size + t107.size ≤ 9223372036854775807 then (some (a0 ++ t107)) else (none))) else (if a1_4 = true then ((buf_Fill.f 48 (wrap64 ((mx 0 (mn a1_5 1000)) - t106))).bind fun t108 => (if t108.size + a0.size ≤ 9223372036854775807 then (some (t108 ++ a0)) else (none))) else ((buf_Fill.f 32 (wrap64 ((mx 0 (mn a1_5 1000)) - t106))).bind fun t109 => (if t109.size + a0.size ≤ 9223372036854775807 then (some (t109 ++ a0)) else (none))))))) = some r := h
 clear h
 obtain ⟨ji3, hji3⟩ : ∃ j_ : Int, (mn a1_5 1000) = j_ := ⟨_, rfl⟩
 replace H : ((buf_Count.f a0).bind fun t106 => (if (wrap64 ((mx 0 (ji3)) - t106)) ≤ 0 then (some a0) else (if a1_1 = true then ((buf_Fill.f 32 (wrap64 ((mx 0 (ji3)) - t106))).bind fun t107 => (if a0.size + t107.size ≤ 9223372036854775807 then (some (a0 ++ t107)) else (none))) else (if a1_4 = true then ((buf_Fill.f 48 (wrap64 ((mx 0 (ji3)) - t106))).bind fun t108 => (if t108.size + a0.size ≤ 9223372036854775807 then (some (t108 ++ a0)) else (none))) else ((buf_Fill.f 32 (wrap64 ((mx 0 (ji3)) - t106))).bind fun t109 => (if t109.size + a0.size ≤ 9223372036854775807 then (some (t109 ++ a0)) else (none))))))) = some r := by first | (rw [hji3] at H; exact H) | (simp only [hji3] at H ⊢; exact H)
 (try (have hji3h : ji3 ≤ 1000 := by (rw [← hji3]; unfold mn; (repeat' split) <;> omega)))
 (try (have hji3g : ji3 ≤ 64 := by omega))
 have hji3_ : (if 1000 < a1_5 then 1000 else a1_5) = ji3 := hji3
 obtain ⟨ji4, hji4⟩ : ∃ j_ : Int, (mx 0 (ji3)) = j_ := ⟨_, rfl⟩
 replace H : ((buf_Count.f a0).bind fun t106 => (if (wrap64 ((ji4) - t106)) ≤ 0 then (some a0) else (if a1_1 = true then ((buf_Fill.f 32 (wrap64 ((ji4) - t106))).bind fun t107 => (if a0.size + t107.size ≤ 9223372036854775807 then (some (a0 ++ t107)) else (none))) else (if a1_4 = true then ((buf_Fill.f 48 (wrap64 ((ji4) - t106))).bind fun t108 => (if t108.size + a0.size ≤ 9223372036854775807 then (some (t108 ++ a0)) else (none))) else ((buf_Fill.f 32 (wrap64 ((ji4) - t106))).bind fun t109 => (if t109.size + a0.size ≤ 9223372036854775807 then (some (t109 ++ a0)) else (none))))))) = some r := by first | (rw [hji4] at H; exact H) | (simp only [hji4] at H ⊢; exact H)
 have hji4_ : (if 0 < (ji3) then (ji3) else 0) = ji4 := hji4
 replace H := Option.bind_eq_some_iff.mp H
 obtain ⟨t106, A50, H⟩ := H
 replace H : (if (wrap64 ((ji4) - t106)) ≤ 0 then (some a0) else (if a1_1 = true then ((buf_Fill.f 32 (wrap64 ((ji4) - t106))).bind fun t107 => (if a0.size + t107.size ≤ 9223372036854775807 then (some (a0 ++ t107)) else (none))) else (if a1_4 = true then ((buf_Fill.f 48 (wrap64 ((ji4) - t106))).bind fun t108 => (if t108.size + a0.size ≤ 9223372036854775807 then (some (t108 ++ a0)) else (none))) else ((buf_Fill.f 32 (wrap64 ((ji4) - t106))).bind fun t109 => (if t109.size + a0.size ≤ 9223372036854775807 then (some (t109 ++ a0)) else (none)))))) = some r := H
 have A5 := Aside0.mk A50
 clear A50
 by_cases c6 : (wrap64 ((ji4) - t106)) ≤ 0
 ·
  rw [if_pos c6] at H
  have c6b0 : decide ((wrap64 ((ji4) - t106)) ≤ 0) = true := decide_eq_true c6
  clear c6
  obtain rfl := Option.some.inj H
  go_enter Tryd.func32, Tryd.ntmps32
  try go_wp2_with (first | ((with_reducible refine gate_dst (N := 3) rfl ?_); refine box_event ?hg (N := 3) ?hd (cs := #[.bool a1_0, .bool a1_1, .bool a1_2, .bool a1_3, .bool a1_4, .int .i64 a1_5, .int .i64 a1_6, .int .i32 a1_7]) (t := 28) ?hr ?_; (case hd => rfl); (case hg => rfl); (case hr => first | (go_simp; done) | (go_simp; rfl)); intro gb105 hg w7 hbox hb; have n0_ := Aside0.mk (below_step (by repeat (first | (with_reducible first | exact HB.out | apply below_alloc | apply pw_below_drewN | apply below_drew1) | exact HB.out)) hb); have n1_ := Aside0.mk (hbox); have n2_ := Aside0.mk ((by rw [hg]; exact (below_size (by repeat (first | (with_reducible first | exact HB.out | apply below_alloc | apply pw_below_drewN | apply below_drew1) | exact HB.out))) : w.heap.size ≤ gb105)); have n3_ := Aside0.mk ((by rw [hg]; exact (below_size (by repeat (first | (with_reducible first | exact HB.out | apply below_alloc | apply pw_below_drewN | apply below_drew1) | exact HB.out))) : w.heap.size ≤ gb105)); clear HB; have HB := n0_; have BK105 := n1_; have GW105 := n2_; have GE105 := n3_; clear n0_ n1_ n2_ n3_; clear hb hbox hg))
  have n0_ := Aside0.mk (blk_drew BK105.out)
  have n1_ := Aside0.mk (below_drew1 HB.out)
  clear BK105
  clear HB
  have BK105 := n0_
  have HB := n1_
  clear n0_ n1_
  refine start_ (n := 8) (S := fun w' => w'.cell? ⟨gb105, 0, none⟩ = some (.bool a1_0) ∧ w'.cell? ⟨gb105, 1, none⟩ = some (.bool a1_1) ∧ w'.cell? ⟨gb105, 2, none⟩ = some (.bool a1_2) ∧ w'.cell? ⟨gb105, 3, none⟩ = some (.bool a1_3) ∧ w'.cell? ⟨gb105, 4, none⟩ = some (.bool a1_4) ∧ w'.cell? ⟨gb105, 5, none⟩ = some (.int .i64 a1_5) ∧ w'.cell? ⟨gb105, 6, none⟩ = some (.int .i64 a1_6) ∧ w'.cell? ⟨gb105, 7, none⟩ = some (.int .i32 a1_7)) (ds := []) #[false, false, false, false, false, false, false, false] (by kernel_rfl) rfl rfl ⟨(blk_cell BK105.out 0).trans rfl, (blk_cell BK105.out 1).trans rfl, (blk_cell BK105.out 2).trans rfl, (blk_cell BK105.out 3).trans rfl, (blk_cell BK105.out 4).trans rfl, (blk_cell BK105.out 5).trans rfl, (blk_cell BK105.out 6).trans rfl, (blk_cell BK105.out 7).trans rfl⟩ (fun hHeld => ?_); refine with_tabW buf_Pad.tab1 buf_Pad.bits1 (fun HT_ HW_ => ?_)
  generalize w7.drew = w8 at BK105 HB hHeld ⊢
  refine pure_ (i := 0) (N := some 6) (v := ?_) (a' := ?_) #[true, false, false, false, false, false, false, false] rfl rfl (any_of HT_.out (by kernel_rfl)) (fun _ _ _ h => h) (Or.inl ⟨by rfl, ?_⟩) ?_ ?_
  rotate_left
  ·
   intro w'
   go_simp
   with_reducible rfl
  rotate_left
  ·
   simp only [Act.put, List.setIfInBounds_toArray, List.set_cons_zero, List.set_cons_succ, i64_w, i32_w]
   rfl
  refine pure_ (i := 4) (N := some 10) (v := ?_) (a' := ?_) #[true, false, false, false, true, false, false, false] rfl rfl (any_of HT_.out (by kernel_rfl)) (fun _ _ _ h => h) (Or.inl ⟨by rfl, ?_⟩) ?_ ?_
  rotate_left
  ·
   intro w'
   go_simp
   with_reducible rfl
  rotate_left
  ·
   simp only [Act.put, List.setIfInBounds_toArray, List.set_cons_zero, List.set_cons_succ, i64_w, i32_w]
   rfl
  refine take_ (i := 1) (N := some 7) (v := ?_) (a' := ?_) #[true, true, false, false, true, false, false, false] rfl rfl (take_ofW HT_.out HW_.out (by kernel_rfl)) (fun _ _ _ h => h) (Or.inl ⟨by rfl, ?_⟩) hHeld ?_ ?_
  rotate_left
  ·
   rintro w' ⟨s0, s1, s2, s3, s4, s5, s6, s7⟩
   go_simp
   with_reducible rfl
  rotate_left
  ·
   simp only [Act.put, List.setIfInBounds_toArray, List.set_cons_zero, List.set_cons_succ, i64_w, i32_w]
   rfl
  refine pure_ (i := 2) (N := some 8) (v := ?_) (a' := ?_) #[true, true, true, false, true, false, false, false] rfl rfl (any_of HT_.out (by kernel_rfl)) (fun _ _ _ h => h) (Or.inl ⟨by rfl, ?_⟩) ?_ ?_
  rotate_left
  ·
   intro w'
   go_simp
   with_reducible rfl
  rotate_left
  ·
   simp only [Act.put, List.setIfInBounds_toArray, List.set_cons_zero, List.set_cons_succ, i64_w, i32_w]
   rfl
  refine pure_ (i := 3) (N := some 9) (v := ?_) (a' := ?_) #[true, true, true, true, true, false, false, false] rfl rfl (any_of HT_.out (by kernel_rfl)) (fun _ _ _ h => h) (Or.inl ⟨by rfl, ?_⟩) ?_ ?_
  rotate_left
  ·
   intro w'
   go_simp
   with_reducible rfl
  rotate_left
  ·
   simp only [Act.put, List.setIfInBounds_toArray, List.set_cons_zero, List.set_cons_succ, i64_w, i32_w]
   rfl
  refine one_ (i := 5) (N := some 11) #[true, true, true, true, true, true, false, false] rfl rfl (one_of HT_.out (by kernel_rfl)) (by decide) (fun K hK => ?_)
  refine goes_ Tryd.func21 (by kernel_rfl) rfl #[.string a0] (by rfl) rfl rfl (by (try simp only [List.map_toArray, List.map_cons, List.map_nil]); first | done | rfl | (simp only [List.length_drop, List.length_take]; rfl)) ?_
  with_reducible refine (buf_Count.calls a0 t106 _ A5.out).mono ?_
  rintro e w9 ⟨rfl, hb⟩
  refine ⟨_, rfl, ?_⟩
  have n0_ := Aside0.mk (blk_below (g := gb105) (o := .cells #[.bool a1_0, .bool a1_1, .bool a1_2, .bool a1_3, .bool a1_4, .int .i64 a1_5, .int .i64 a1_6, .int .i32 a1_7] 28 (0, 0)) (by (with_reducible repeat (first | refine blk_drewN ?_ _ | refine blk_drew ?_ | refine blk_alloc ?_ _)); exact BK105.out) hb)
  have n1_ := Aside0.mk (below_step (by repeat (first | (with_reducible first | exact HB.out | apply below_alloc | apply pw_below_drewN | apply below_drew1 | refine below_set ?_ GE105.out) | exact HB.out)) hb)
  clear BK105
  clear HB
  have BK105 := n0_
  have HB := n1_
  clear n0_ n1_
  (try clear hb)
  (try clear hb2)
  (try clear hk)
  (try clear hi)
  refine hK.out _ _ ⟨(blk_cell BK105.out 0).trans rfl, (blk_cell BK105.out 1).trans rfl, (blk_cell BK105.out 2).trans rfl, (blk_cell BK105.out 3).trans rfl, (blk_cell BK105.out 4).trans rfl, (blk_cell BK105.out 5).trans rfl, (blk_cell BK105.out 6).trans rfl, (blk_cell BK105.out 7).trans rfl⟩ (fun hHeld => ?_)
  clear hK K
  refine norm_ (a' := ?_) ?_ ?_
  rotate_left
  ·
   show Act.put _ (some 11) _ = _
   simp only [Act.put, List.setIfInBounds_toArray, List.set_cons_zero, List.set_cons_succ, i64_w, i32_w]
   rfl
  refine pure_ (i := 6) (N := some 12) (v := ?_) (a' := ?_) #[true, true, true, true, true, true, true, false] rfl rfl (any_of HT_.out (by kernel_rfl)) (fun _ _ _ h => h) (Or.inl ⟨by rfl, ?_⟩) ?_ ?_
  rotate_left
  ·
   intro w'
   go_simp
   with_reducible rfl
  rotate_left
  ·
   simp only [Act.put, List.setIfInBounds_toArray, List.set_cons_zero, List.set_cons_succ, i64_w, i32_w]
   rfl
  refine pure_ (i := 7) (N := some 5) (v := ?_) (a' := ?_) #[true, true, true, true, true, true, true, true] rfl rfl (any_of HT_.out (by kernel_rfl)) (fun _ _ _ h => h) (Or.inl ⟨by rfl, ?_⟩) ?_ ?_
  rotate_left
  ·
   intro w'
   go_simp
   with_reducible rfl
  rotate_left
  ·
   simp only [Act.put, List.setIfInBounds_toArray, List.set_cons_zero, List.set_cons_succ, i64_w, i32_w]
   rfl
  refine done_ (done_of HT_.out (by kernel_rfl)) ?_
  try go_wp2
  go_ret
  exact ⟨by first | rfl | (simp [errW_none, errW_some] <;> rfl) | (simp only [← hji3, ← hji4]; first | rfl | (simp [errW_none, errW_some] <;> rfl)) | (simp [*, errW_none, errW_some] <;> rfl), by repeat (first | (with_reducible first | exact HB.out | apply below_alloc | apply pw_below_drewN | apply below_drew1 | refine below_set ?_ GE105.out) | exact HB.out)⟩
 ·
  rw [if_neg c6] at H
  have c6b0 : decide ((wrap64 ((ji4) - t106)) ≤ 0) = false := decide_eq_false c6
  clear c6
  by_cases c10 : a1_1 = true
  ·
   subst c10
   have H1 : ((buf_Fill.f 32 (wrap64 ((ji4) - t106))).bind fun t107 => (if a0.size + t107.size ≤ 9223372036854775807 then (some (a0 ++ t107)) else (none))) = some r := by rw [if_pos rfl] at H; exact H
   clear H
   have H := H1
   clear H1
   replace H := Option.bind_eq_some_iff.mp H
   obtain ⟨t107, A110, H⟩ := H
   replace H : (if a0.size + t107.size ≤ 9223372036854775807 then (some (a0 ++ t107)) else (none)) = some r := H
   have A11 := Aside0.mk A110
   clear A110
   by_cases c12 : a0.size + t107.size ≤ 9223372036854775807
   ·
    rw [if_pos c12] at H
    have c12b0 := eq_true c12
    have c12b1 : decide (a0.size + t107.size ≤ 9223372036854775807) = true := decide_eq_true c12
    try have c12b2 : (9223372036854775807 < a0.size + t107.size) = False := eq_false (Nat.not_lt.2 c12)
    obtain rfl := Option.some.inj H
    go_enter Tryd.func32, Tryd.ntmps32
    try go_wp2_with (first | ((with_reducible refine gate_dst (N := 3) rfl ?_); refine box_event ?hg (N := 3) ?hd (cs := #[.bool a1_0, .bool true, .bool a1_2, .bool a1_3, .bool a1_4, .int .i64 a1_5, .int .i64 a1_6, .int .i32 a1_7]) (t := 28) ?hr ?_; (case hd => rfl); (case hg => rfl); (case hr => first | (go_simp; done) | (go_simp; rfl)); intro gb105 hg w13 hbox hb; have n0_ := Aside0.mk (below_step (by repeat (first | (with_reducible first | exact HB.out | apply below_alloc | apply pw_below_drewN | apply below_drew1) | exact HB.out)) hb); have n1_ := Aside0.mk (hbox); have n2_ := Aside0.mk ((by rw [hg]; exact (below_size (by repeat (first | (with_reducible first | exact HB.out | apply below_alloc | apply pw_below_drewN | apply below_drew1) | exact HB.out))) : w.heap.size ≤ gb105)); have n3_ := Aside0.mk ((by rw [hg]; exact (below_size (by repeat (first | (with_reducible first | exact HB.out | apply below_alloc | apply pw_below_drewN | apply below_drew1) | exact HB.out))) : w.heap.size ≤ gb105)); clear HB; have HB := n0_; have BK105 := n1_; have GW105 := n2_; have GE105 := n3_; clear n0_ n1_ n2_ n3_; clear hb hbox hg))
    have n0_ := Aside0.mk (blk_drew BK105.out)
    have n1_ := Aside0.mk (below_drew1 HB.out)
    clear BK105
    clear HB
    have BK105 := n0_
    have HB := n1_
    clear n0_ n1_
    refine start_ (n := 8) (S := fun w' => w'.cell? ⟨gb105, 0, none⟩ = some (.bool a1_0) ∧ w'.cell? ⟨gb105, 1, none⟩ = some (.bool true) ∧ w'.cell? ⟨gb105, 2, none⟩ = some (.bool a1_2) ∧ w'.cell? ⟨gb105, 3, none⟩ = some (.bool a1_3) ∧ w'.cell? ⟨gb105, 4, none⟩ = some (.bool a1_4) ∧ w'.cell? ⟨gb105, 5, none⟩ = some (.int .i64 a1_5) ∧ w'.cell? ⟨gb105, 6, none⟩ = some (.int .i64 a1_6) ∧ w'.cell? ⟨gb105, 7, none⟩ = some (.int .i32 a1_7)) (ds := []) #[false, false, false, false, false, false, false, false] (by kernel_rfl) rfl rfl ⟨(blk_cell BK105.out 0).trans rfl, (blk_cell BK105.out 1).trans rfl, (blk_cell BK105.out 2).trans rfl, (blk_cell BK105.out 3).trans rfl, (blk_cell BK105.out 4).trans rfl, (blk_cell BK105.out 5).trans rfl, (blk_cell BK105.out 6).trans rfl, (blk_cell BK105.out 7).trans rfl⟩ (fun hHeld => ?_); refine with_tabW buf_Pad.tab1 buf_Pad.bits1 (fun HT_ HW_ => ?_)
    generalize w13.drew = w14 at BK105 HB hHeld ⊢
    refine pure_ (i := 0) (N := some 6) (v := ?_) (a' := ?_) #[true, false, false, false, false, false, false, false] rfl rfl (any_of HT_.out (by kernel_rfl)) (fun _ _ _ h => h) (Or.inl ⟨by rfl, ?_⟩) ?_ ?_
    rotate_left
    ·
     intro w'
     go_simp
     with_reducible rfl
    rotate_left
    ·
     simp only [Act.put, List.setIfInBounds_toArray, List.set_cons_zero, List.set_cons_succ, i64_w, i32_w]
     rfl
    refine pure_ (i := 4) (N := some 10) (v := ?_) (a' := ?_) #[true, false, false, false, true, false, false, false] rfl rfl (any_of HT_.out (by kernel_rfl)) (fun _ _ _ h => h) (Or.inl ⟨by rfl, ?_⟩) ?_ ?_
    rotate_left
    ·
     intro w'
     go_simp
     with_reducible rfl
    rotate_left
    ·
     simp only [Act.put, List.setIfInBounds_toArray, List.set_cons_zero, List.set_cons_succ, i64_w, i32_w]
     rfl
    refine take_ (i := 1) (N := some 7) (v := ?_) (a' := ?_) #[true, true, false, false, true, false, false, false] rfl rfl (take_ofW HT_.out HW_.out (by kernel_rfl)) (fun _ _ _ h => h) (Or.inl ⟨by rfl, ?_⟩) hHeld ?_ ?_
    rotate_left
    ·
     rintro w' ⟨s0, s1, s2, s3, s4, s5, s6, s7⟩
     go_simp
     with_reducible rfl
    rotate_left
    ·
     simp only [Act.put, List.setIfInBounds_toArray, List.set_cons_zero, List.set_cons_succ, i64_w, i32_w]
     rfl
    refine pure_ (i := 2) (N := some 8) (v := ?_) (a' := ?_) #[true, true, true, false, true, false, false, false] rfl rfl (any_of HT_.out (by kernel_rfl)) (fun _ _ _ h => h) (Or.inl ⟨by rfl, ?_⟩) ?_ ?_
    rotate_left
    ·
     intro w'
     go_simp
     with_reducible rfl
    rotate_left
    ·
     simp only [Act.put, List.setIfInBounds_toArray, List.set_cons_zero, List.set_cons_succ, i64_w, i32_w]
     rfl
    refine pure_ (i := 3) (N := some 9) (v := ?_) (a' := ?_) #[true, true, true, true, true, false, false, false] rfl rfl (any_of HT_.out (by kernel_rfl)) (fun _ _ _ h => h) (Or.inl ⟨by rfl, ?_⟩) ?_ ?_
    rotate_left
    ·
     intro w'
     go_simp
     with_reducible rfl
    rotate_left
    ·
     simp only [Act.put, List.setIfInBounds_toArray, List.set_cons_zero, List.set_cons_succ, i64_w, i32_w]
     rfl
    refine one_ (i := 5) (N := some 11) #[true, true, true, true, true, true, false, false] rfl rfl (one_of HT_.out (by kernel_rfl)) (by decide) (fun K hK => ?_)
    refine goes_ Tryd.func21 (by kernel_rfl) rfl #[.string a0] (by rfl) rfl rfl (by (try simp only [List.map_toArray, List.map_cons, List.map_nil]); first | done | rfl | (simp only [List.length_drop, List.length_take]; rfl)) ?_
    with_reducible refine (buf_Count.calls a0 t106 _ A5.out).mono ?_
    rintro e w15 ⟨rfl, hb⟩
    refine ⟨_, rfl, ?_⟩
    have n0_ := Aside0.mk (blk_below (g := gb105) (o := .cells #[.bool a1_0, .bool true, .bool a1_2, .bool a1_3, .bool a1_4, .int .i64 a1_5, .int .i64 a1_6, .int .i32 a1_7] 28 (0, 0)) (by (with_reducible repeat (first | refine blk_drewN ?_ _ | refine blk_drew ?_ | refine blk_alloc ?_ _)); exact BK105.out) hb)
    have n1_ := Aside0.mk (below_step (by repeat (first | (with_reducible first | exact HB.out | apply below_alloc | apply pw_below_drewN | apply below_drew1 | refine below_set ?_ GE105.out) | exact HB.out)) hb)
    clear BK105
    clear HB
    have BK105 := n0_
    have HB := n1_
    clear n0_ n1_
    (try clear hb)
    (try clear hb2)
    (try clear hk)
    (try clear hi)
    refine hK.out _ _ ⟨(blk_cell BK105.out 0).trans rfl, (blk_cell BK105.out 1).trans rfl, (blk_cell BK105.out 2).trans rfl, (blk_cell BK105.out 3).trans rfl, (blk_cell BK105.out 4).trans rfl, (blk_cell BK105.out 5).trans rfl, (blk_cell BK105.out 6).trans rfl, (blk_cell BK105.out 7).trans rfl⟩ (fun hHeld => ?_)
    clear hK K
    refine norm_ (a' := ?_) ?_ ?_
    rotate_left
    ·
     show Act.put _ (some 11) _ = _
     simp only [Act.put, List.setIfInBounds_toArray, List.set_cons_zero, List.set_cons_succ, i64_w, i32_w]
     rfl
    refine pure_ (i := 6) (N := some 12) (v := ?_) (a' := ?_) #[true, true, true, true, true, true, true, false] rfl rfl (any_of HT_.out (by kernel_rfl)) (fun _ _ _ h => h) (Or.inl ⟨by rfl, ?_⟩) ?_ ?_
    rotate_left
    ·
     intro w'
     go_simp
     with_reducible rfl
    rotate_left
    ·
     simp only [Act.put, List.setIfInBounds_toArray, List.set_cons_zero, List.set_cons_succ, i64_w, i32_w]
     rfl
    refine pure_ (i := 7) (N := some 5) (v := ?_) (a' := ?_) #[true, true, true, true, true, true, true, true] rfl rfl (any_of HT_.out (by kernel_rfl)) (fun _ _ _ h => h) (Or.inl ⟨by rfl, ?_⟩) ?_ ?_
    rotate_left
    ·
     intro w'
     go_simp
     with_reducible rfl
    rotate_left
    ·
     simp only [Act.put, List.setIfInBounds_toArray, List.set_cons_zero, List.set_cons_succ, i64_w, i32_w]
     rfl
    refine done_ (done_of HT_.out (by kernel_rfl)) ?_
    have hcz16_0 : w15.cell? ⟨gb105, 0, none⟩ = some (.bool a1_0) := (blk_cell BK105.out 0).trans rfl
    have hcz16_1 : w15.cell? ⟨gb105, 1, none⟩ = some (.bool true) := (blk_cell BK105.out 1).trans rfl
    have hcz16_2 : w15.cell? ⟨gb105, 2, none⟩ = some (.bool a1_2) := (blk_cell BK105.out 2).trans rfl
    have hcz16_3 : w15.cell? ⟨gb105, 3, none⟩ = some (.bool a1_3) := (blk_cell BK105.out 3).trans rfl
    have hcz16_4 : w15.cell? ⟨gb105, 4, none⟩ = some (.bool a1_4) := (blk_cell BK105.out 4).trans rfl
    have hcz16_5 : w15.cell? ⟨gb105, 5, none⟩ = some (.int .i64 a1_5) := (blk_cell BK105.out 5).trans rfl
    have hcz16_6 : w15.cell? ⟨gb105, 6, none⟩ = some (.int .i64 a1_6) := (blk_cell BK105.out 6).trans rfl
    have hcz16_7 : w15.cell? ⟨gb105, 7, none⟩ = some (.int .i32 a1_7) := (blk_cell BK105.out 7).trans rfl
    have hfz16_0 := blk_frozen BK105.out 0
    have hfz16_1 := blk_frozen BK105.out 1
    have hfz16_2 := blk_frozen BK105.out 2
    have hfz16_3 := blk_frozen BK105.out 3
    have hfz16_4 := blk_frozen BK105.out 4
    have hfz16_5 := blk_frozen BK105.out 5
    have hfz16_6 := blk_frozen BK105.out 6
    have hfz16_7 := blk_frozen BK105.out 7
    try go_wp2_with (first | ((with_reducible refine gate_callee (f := 50) rfl ?_); refine goesL_ (some 22) rfl rfl Tryd.func50 (by kernel_rfl) rfl #[.int .u8 32, .int .i64 (wrap64 ((ji4) - t106))] rfl (by (try simp only [List.map_toArray, List.map_cons, List.map_nil]); first | done | (simp only [hji4]; rfl) | rfl | (simp only [List.length_drop, List.length_take]; rfl)) ?_; (first | (with_reducible refine (buf_Fill.calls 32 (wrap64 ((ji4) - t106)) t107 _ A11.out).mono ?_) | (simp only [i64_w]; (with_reducible refine (buf_Fill.calls 32 (wrap64 ((ji4) - t106)) t107 _ A11.out).mono ?_))); rintro e w17 ⟨rfl, hb⟩; refine ⟨_, rfl, ?_⟩; have n0_ := Aside0.mk (blk_below (g := gb105) (o := .cells #[.bool a1_0, .bool true, .bool a1_2, .bool a1_3, .bool a1_4, .int .i64 a1_5, .int .i64 a1_6, .int .i32 a1_7] 28 (0, 0)) (by (with_reducible repeat (first | refine blk_drewN ?_ _ | refine blk_drew ?_ | refine blk_alloc ?_ _)); exact BK105.out) hb); have n1_ := Aside0.mk (below_step (by repeat (first | (with_reducible first | exact HB.out | apply below_alloc | apply pw_below_drewN | apply below_drew1 | refine below_set ?_ GE105.out) | exact HB.out)) hb); clear BK105; clear HB; have BK105 := n0_; have HB := n1_; clear n0_ n1_; (try clear hb); (try clear hb2); (try clear hk); (try clear hi)))
    go_ret
    exact ⟨by first | rfl | (simp [errW_none, errW_some] <;> rfl) | (simp only [← hji3, ← hji4]; first | rfl | (simp [errW_none, errW_some] <;> rfl)) | (simp [*, errW_none, errW_some] <;> rfl), by repeat (first | (with_reducible first | exact HB.out | apply below_alloc | apply pw_below_drewN | apply below_drew1 | refine below_set ?_ GE105.out) | exact HB.out)⟩
   ·
    rw [if_neg c12] at H
    exact absurd H (by simp)
  ·
   replace c10 := Bool.eq_false_iff.mpr c10
   subst c10
   have H1 : (if a1_4 = true then ((buf_Fill.f 48 (wrap64 ((ji4) - t106))).bind fun t108 => (if t108.size + a0.size ≤ 9223372036854775807 then (some (t108 ++ a0)) else (none))) else ((buf_Fill.f 32 (wrap64 ((ji4) - t106))).bind fun t109 => (if t109.size + a0.size ≤ 9223372036854775807 then (some (t109 ++ a0)) else (none)))) = some r := by rw [if_neg (show ¬ (false = true) by decide)] at H; exact H
   clear H
   have H := H1
   clear H1
   by_cases c18 : a1_4 = true
   ·
    subst c18
    have H1 : ((buf_Fill.f 48 (wrap64 ((ji4) - t106))).bind fun t108 => (if t108.size + a0.size ≤ 9223372036854775807 then (some (t108 ++ a0)) else (none))) = some r := by rw [if_pos rfl] at H; exact H
    clear H
    have H := H1
    clear H1
    replace H := Option.bind_eq_some_iff.mp H
    obtain ⟨t108, A190, H⟩ := H
    replace H : (if t108.size + a0.size ≤ 9223372036854775807 then (some (t108 ++ a0)) else (none)) = some r := H
    have A19 := Aside0.mk A190
    clear A190
    by_cases c20 : t108.size + a0.size ≤ 9223372036854775807
    ·
     rw [if_pos c20] at H
     have c20b0 := eq_true c20
     have c20b1 : decide (t108.size + a0.size ≤ 9223372036854775807) = true := decide_eq_true c20
     try have c20b2 : (9223372036854775807 < t108.size + a0.size) = False := eq_false (Nat.not_lt.2 c20)
     obtain rfl := Option.some.inj H
     go_enter Tryd.func32, Tryd.ntmps32
     try go_wp2_with (first | ((with_reducible refine gate_dst (N := 3) rfl ?_); refine box_event ?hg (N := 3) ?hd (cs := #[.bool a1_0, .bool false, .bool a1_2, .bool a1_3, .bool true, .int .i64 a1_5, .int .i64 a1_6, .int .i32 a1_7]) (t := 28) ?hr ?_; (case hd => rfl); (case hg => rfl); (case hr => first | (go_simp; done) | (go_simp; rfl)); intro gb105 hg w21 hbox hb; have n0_ := Aside0.mk (below_step (by repeat (first | (with_reducible first | exact HB.out | apply below_alloc | apply pw_below_drewN | apply below_drew1) | exact HB.out)) hb); have n1_ := Aside0.mk (hbox); have n2_ := Aside0.mk ((by rw [hg]; exact (below_size (by repeat (first | (with_reducible first | exact HB.out | apply below_alloc | apply pw_below_drewN | apply below_drew1) | exact HB.out))) : w.heap.size ≤ gb105)); have n3_ := Aside0.mk ((by rw [hg]; exact (below_size (by repeat (first | (with_reducible first | exact HB.out | apply below_alloc | apply pw_below_drewN | apply below_drew1) | exact HB.out))) : w.heap.size ≤ gb105)); clear HB; have HB := n0_; have BK105 := n1_; have GW105 := n2_; have GE105 := n3_; clear n0_ n1_ n2_ n3_; clear hb hbox hg))
     have n0_ := Aside0.mk (blk_drew BK105.out)
     have n1_ := Aside0.mk (below_drew1 HB.out)
     clear BK105
     clear HB
     have BK105 := n0_
     have HB := n1_
     clear n0_ n1_
     refine start_ (n := 8) (S := fun w' => w'.cell? ⟨gb105, 0, none⟩ = some (.bool a1_0) ∧ w'.cell? ⟨gb105, 1, none⟩ = some (.bool false) ∧ w'.cell? ⟨gb105, 2, none⟩ = some (.bool a1_2) ∧ w'.cell? ⟨gb105, 3, none⟩ = some (.bool a1_3) ∧ w'.cell? ⟨gb105, 4, none⟩ = some (.bool true) ∧ w'.cell? ⟨gb105, 5, none⟩ = some (.int .i64 a1_5) ∧ w'.cell? ⟨gb105, 6, none⟩ = some (.int .i64 a1_6) ∧ w'.cell? ⟨gb105, 7, none⟩ = some (.int .i32 a1_7)) (ds := []) #[false, false, false, false, false, false, false, false] (by kernel_rfl) rfl rfl ⟨(blk_cell BK105.out 0).trans rfl, (blk_cell BK105.out 1).trans rfl, (blk_cell BK105.out 2).trans rfl, (blk_cell BK105.out 3).trans rfl, (blk_cell BK105.out 4).trans rfl, (blk_cell BK105.out 5).trans rfl, (blk_cell BK105.out 6).trans rfl, (blk_cell BK105.out 7).trans rfl⟩ (fun hHeld => ?_); refine with_tabW buf_Pad.tab1 buf_Pad.bits1 (fun HT_ HW_ => ?_)
     generalize w21.drew = w22 at BK105 HB hHeld ⊢
     refine pure_ (i := 0) (N := some 6) (v := ?_) (a' := ?_) #[true, false, false, false, false, false, false, false] rfl rfl (any_of HT_.out (by kernel_rfl)) (fun _ _ _ h => h) (Or.inl ⟨by rfl, ?_⟩) ?_ ?_
     rotate_left
     ·
      intro w'
      go_simp
      with_reducible rfl
     rotate_left
     ·
      simp only [Act.put, List.setIfInBounds_toArray, List.set_cons_zero, List.set_cons_succ, i64_w, i32_w]
      rfl
     refine pure_ (i := 4) (N := some 10) (v := ?_) (a' := ?_) #[true, false, false, false, true, false, false, false] rfl rfl (any_of HT_.out (by kernel_rfl)) (fun _ _ _ h => h) (Or.inl ⟨by rfl, ?_⟩) ?_ ?_
     rotate_left
     ·
      intro w'
      go_simp
      with_reducible rfl
     rotate_left
     ·
      simp only [Act.put, List.setIfInBounds_toArray, List.set_cons_zero, List.set_cons_succ, i64_w, i32_w]
      rfl
     refine take_ (i := 1) (N := some 7) (v := ?_) (a' := ?_) #[true, true, false, false, true, false, false, false] rfl rfl (take_ofW HT_.out HW_.out (by kernel_rfl)) (fun _ _ _ h => h) (Or.inl ⟨by rfl, ?_⟩) hHeld ?_ ?_
     rotate_left
     ·
      rintro w' ⟨s0, s1, s2, s3, s4, s5, s6, s7⟩
      go_simp
      with_reducible rfl
     rotate_left
     ·
      simp only [Act.put, List.setIfInBounds_toArray, List.set_cons_zero, List.set_cons_succ, i64_w, i32_w]
      rfl
     refine pure_ (i := 2) (N := some 8) (v := ?_) (a' := ?_) #[true, true, true, false, true, false, false, false] rfl rfl (any_of HT_.out (by kernel_rfl)) (fun _ _ _ h => h) (Or.inl ⟨by rfl, ?_⟩) ?_ ?_
     rotate_left
     ·
      intro w'
      go_simp
      with_reducible rfl
     rotate_left
     ·
      simp only [Act.put, List.setIfInBounds_toArray, List.set_cons_zero, List.set_cons_succ, i64_w, i32_w]
      rfl
     refine pure_ (i := 3) (N := some 9) (v := ?_) (a' := ?_) #[true, true, true, true, true, false, false, false] rfl rfl (any_of HT_.out (by kernel_rfl)) (fun _ _ _ h => h) (Or.inl ⟨by rfl, ?_⟩) ?_ ?_
     rotate_left
     ·
      intro w'
      go_simp
      with_reducible rfl
     rotate_left
     ·
      simp only [Act.put, List.setIfInBounds_toArray, List.set_cons_zero, List.set_cons_succ, i64_w, i32_w]
      rfl
     refine one_ (i := 5) (N := some 11) #[true, true, true, true, true, true, false, false] rfl rfl (one_of HT_.out (by kernel_rfl)) (by decide) (fun K hK => ?_)
     refine goes_ Tryd.func21 (by kernel_rfl) rfl #[.string a0] (by rfl) rfl rfl (by (try simp only [List.map_toArray, List.map_cons, List.map_nil]); first | done | rfl | (simp only [List.length_drop, List.length_take]; rfl)) ?_
     with_reducible refine (buf_Count.calls a0 t106 _ A5.out).mono ?_
     rintro e w23 ⟨rfl, hb⟩
     refine ⟨_, rfl, ?_⟩
     have n0_ := Aside0.mk (blk_below (g := gb105) (o := .cells #[.bool a1_0, .bool false, .bool a1_2, .bool a1_3, .bool true, .int .i64 a1_5, .int .i64 a1_6, .int .i32 a1_7] 28 (0, 0)) (by (with_reducible repeat (first | refine blk_drewN ?_ _ | refine blk_drew ?_ | refine blk_alloc ?_ _)); exact BK105.out) hb)
     have n1_ := Aside0.mk (below_step (by repeat (first | (with_reducible first | exact HB.out | apply below_alloc | apply pw_below_drewN | apply below_drew1 | refine below_set ?_ GE105.out) | exact HB.out)) hb)
     clear BK105
     clear HB
     have BK105 := n0_
     have HB := n1_
     clear n0_ n1_
     (try clear hb)
     (try clear hb2)
     (try clear hk)
     (try clear hi)
     refine hK.out _ _ ⟨(blk_cell BK105.out 0).trans rfl, (blk_cell BK105.out 1).trans rfl, (blk_cell BK105.out 2).trans rfl, (blk_cell BK105.out 3).trans rfl, (blk_cell BK105.out 4).trans rfl, (blk_cell BK105.out 5).trans rfl, (blk_cell BK105.out 6).trans rfl, (blk_cell BK105.out 7).trans rfl⟩ (fun hHeld => ?_)
     clear hK K
     refine norm_ (a' := ?_) ?_ ?_
     rotate_left
     ·
      show Act.put _ (some 11) _ = _
      simp only [Act.put, List.setIfInBounds_toArray, List.set_cons_zero, List.set_cons_succ, i64_w, i32_w]
      rfl
     refine pure_ (i := 6) (N := some 12) (v := ?_) (a' := ?_) #[true, true, true, true, true, true, true, false] rfl rfl (any_of HT_.out (by kernel_rfl)) (fun _ _ _ h => h) (Or.inl ⟨by rfl, ?_⟩) ?_ ?_
     rotate_left
     ·
      intro w'
      go_simp
      with_reducible rfl
     rotate_left
     ·
      simp only [Act.put, List.setIfInBounds_toArray, List.set_cons_zero, List.set_cons_succ, i64_w, i32_w]
      rfl
     refine pure_ (i := 7) (N := some 5) (v := ?_) (a' := ?_) #[true, true, true, true, true, true, true, true] rfl rfl (any_of HT_.out (by kernel_rfl)) (fun _ _ _ h => h) (Or.inl ⟨by rfl, ?_⟩) ?_ ?_
     rotate_left
     ·
      intro w'
      go_simp
      with_reducible rfl
     rotate_left
     ·
      simp only [Act.put, List.setIfInBounds_toArray, List.set_cons_zero, List.set_cons_succ, i64_w, i32_w]
      rfl
     refine done_ (done_of HT_.out (by kernel_rfl)) ?_
     have hcz24_0 : w23.cell? ⟨gb105, 0, none⟩ = some (.bool a1_0) := (blk_cell BK105.out 0).trans rfl
     have hcz24_1 : w23.cell? ⟨gb105, 1, none⟩ = some (.bool false) := (blk_cell BK105.out 1).trans rfl
     have hcz24_2 : w23.cell? ⟨gb105, 2, none⟩ = some (.bool a1_2) := (blk_cell BK105.out 2).trans rfl
     have hcz24_3 : w23.cell? ⟨gb105, 3, none⟩ = some (.bool a1_3) := (blk_cell BK105.out 3).trans rfl
     have hcz24_4 : w23.cell? ⟨gb105, 4, none⟩ = some (.bool true) := (blk_cell BK105.out 4).trans rfl
     have hcz24_5 : w23.cell? ⟨gb105, 5, none⟩ = some (.int .i64 a1_5) := (blk_cell BK105.out 5).trans rfl
     have hcz24_6 : w23.cell? ⟨gb105, 6, none⟩ = some (.int .i64 a1_6) := (blk_cell BK105.out 6).trans rfl
     have hcz24_7 : w23.cell? ⟨gb105, 7, none⟩ = some (.int .i32 a1_7) := (blk_cell BK105.out 7).trans rfl
     have hfz24_0 := blk_frozen BK105.out 0
     have hfz24_1 := blk_frozen BK105.out 1
     have hfz24_2 := blk_frozen BK105.out 2
     have hfz24_3 := blk_frozen BK105.out 3
     have hfz24_4 := blk_frozen BK105.out 4
     have hfz24_5 := blk_frozen BK105.out 5
     have hfz24_6 := blk_frozen BK105.out 6
     have hfz24_7 := blk_frozen BK105.out 7
     try go_wp2_with (first | ((with_reducible refine gate_callee (f := 50) rfl ?_); refine goesL_ (some 28) rfl rfl Tryd.func50 (by kernel_rfl) rfl #[.int .u8 48, .int .i64 (wrap64 ((ji4) - t106))] rfl (by (try simp only [List.map_toArray, List.map_cons, List.map_nil]); first | done | (simp only [hji4]; rfl) | rfl | (simp only [List.length_drop, List.length_take]; rfl)) ?_; (first | (with_reducible refine (buf_Fill.calls 48 (wrap64 ((ji4) - t106)) t108 _ A19.out).mono ?_) | (simp only [i64_w]; (with_reducible refine (buf_Fill.calls 48 (wrap64 ((ji4) - t106)) t108 _ A19.out).mono ?_))); rintro e w25 ⟨rfl, hb⟩; refine ⟨_, rfl, ?_⟩; have n0_ := Aside0.mk (blk_below (g := gb105) (o := .cells #[.bool a1_0, .bool false, .bool a1_2, .bool a1_3, .bool true, .int .i64 a1_5, .int .i64 a1_6, .int .i32 a1_7] 28 (0, 0)) (by (with_reducible repeat (first | refine blk_drewN ?_ _ | refine blk_drew ?_ | refine blk_alloc ?_ _)); exact BK105.out) hb); have n1_ := Aside0.mk (below_step (by repeat (first | (with_reducible first | exact HB.out | apply below_alloc | apply pw_below_drewN | apply below_drew1 | refine below_set ?_ GE105.out) | exact HB.out)) hb); clear BK105; clear HB; have BK105 := n0_; have HB := n1_; clear n0_ n1_; (try clear hb); (try clear hb2); (try clear hk); (try clear hi)))
     go_ret
     exact ⟨by first | rfl | (simp [errW_none, errW_some] <;> rfl) | (simp only [← hji3, ← hji4]; first | rfl | (simp [errW_none, errW_some] <;> rfl)) | (simp [*, errW_none, errW_some] <;> rfl), by repeat (first | (with_reducible first | exact HB.out | apply below_alloc | apply pw_below_drewN | apply below_drew1 | refine below_set ?_ GE105.out) | exact HB.out)⟩
    ·
     rw [if_neg c20] at H
     exact absurd H (by simp)
   ·
    replace c18 := Bool.eq_false_iff.mpr c18
    subst c18
    have H1 : ((buf_Fill.f 32 (wrap64 ((ji4) - t106))).bind fun t109 => (if t109.size + a0.size ≤ 9223372036854775807 then (some (t109 ++ a0)) else (none))) = some r := by rw [if_neg (show ¬ (false = true) by decide)] at H; exact H
    clear H
    have H := H1
    clear H1
    replace H := Option.bind_eq_some_iff.mp H
    obtain ⟨t109, A260, H⟩ := H
    replace H : (if t109.size + a0.size ≤ 9223372036854775807 then (some (t109 ++ a0)) else (none)) = some r := H
    have A26 := Aside0.mk A260
    clear A260
    by_cases c27 : t109.size + a0.size ≤ 9223372036854775807
    ·
     rw [if_pos c27] at H
     have c27b0 := eq_true c27
     have c27b1 : decide (t109.size + a0.size ≤ 9223372036854775807) = true := decide_eq_true c27
     try have c27b2 : (9223372036854775807 < t109.size + a0.size) = False := eq_false (Nat.not_lt.2 c27)
     obtain rfl := Option.some.inj H
     go_enter Tryd.func32, Tryd.ntmps32
     try go_wp2_with (first | ((with_reducible refine gate_dst (N := 3) rfl ?_); refine box_event ?hg (N := 3) ?hd (cs := #[.bool a1_0, .bool false, .bool a1_2, .bool a1_3, .bool false, .int .i64 a1_5, .int .i64 a1_6, .int .i32 a1_7]) (t := 28) ?hr ?_; (case hd => rfl); (case hg => rfl); (case hr => first | (go_simp; done) | (go_simp; rfl)); intro gb105 hg w28 hbox hb; have n0_ := Aside0.mk (below_step (by repeat (first | (with_reducible first | exact HB.out | apply below_alloc | apply pw_below_drewN | apply below_drew1) | exact HB.out)) hb); have n1_ := Aside0.mk (hbox); have n2_ := Aside0.mk ((by rw [hg]; exact (below_size (by repeat (first | (with_reducible first | exact HB.out | apply below_alloc | apply pw_below_drewN | apply below_drew1) | exact HB.out))) : w.heap.size ≤ gb105)); have n3_ := Aside0.mk ((by rw [hg]; exact (below_size (by repeat (first | (with_reducible first | exact HB.out | apply below_alloc | apply pw_below_drewN | apply below_drew1) | exact HB.out))) : w.heap.size ≤ gb105)); clear HB; have HB := n0_; have BK105 := n1_; have GW105 := n2_; have GE105 := n3_; clear n0_ n1_ n2_ n3_; clear hb hbox hg))
     have n0_ := Aside0.mk (blk_drew BK105.out)
     have n1_ := Aside0.mk (below_drew1 HB.out)
     clear BK105
     clear HB
     have BK105 := n0_
     have HB := n1_
     clear n0_ n1_
     refine start_ (n := 8) (S := fun w' => w'.cell? ⟨gb105, 0, none⟩ = some (.bool a1_0) ∧ w'.cell? ⟨gb105, 1, none⟩ = some (.bool false) ∧ w'.cell? ⟨gb105, 2, none⟩ = some (.bool a1_2) ∧ w'.cell? ⟨gb105, 3, none⟩ = some (.bool a1_3) ∧ w'.cell? ⟨gb105, 4, none⟩ = some (.bool false) ∧ w'.cell? ⟨gb105, 5, none⟩ = some (.int .i64 a1_5) ∧ w'.cell? ⟨gb105, 6, none⟩ = some (.int .i64 a1_6) ∧ w'.cell? ⟨gb105, 7, none⟩ = some (.int .i32 a1_7)) (ds := []) #[false, false, false, false, false, false, false, false] (by kernel_rfl) rfl rfl ⟨(blk_cell BK105.out 0).trans rfl, (blk_cell BK105.out 1).trans rfl, (blk_cell BK105.out 2).trans rfl, (blk_cell BK105.out 3).trans rfl, (blk_cell BK105.out 4).trans rfl, (blk_cell BK105.out 5).trans rfl, (blk_cell BK105.out 6).trans rfl, (blk_cell BK105.out 7).trans rfl⟩ (fun hHeld => ?_); refine with_tabW buf_Pad.tab1 buf_Pad.bits1 (fun HT_ HW_ => ?_)
     generalize w28.drew = w29 at BK105 HB hHeld ⊢
     refine pure_ (i := 0) (N := some 6) (v := ?_) (a' := ?_) #[true, false, false, false, false, false, false, false] rfl rfl (any_of HT_.out (by kernel_rfl)) (fun _ _ _ h => h) (Or.inl ⟨by rfl, ?_⟩) ?_ ?_
     rotate_left
     ·
      intro w'
      go_simp
      with_reducible rfl
     rotate_left
     ·
      simp only [Act.put, List.setIfInBounds_toArray, List.set_cons_zero, List.set_cons_succ, i64_w, i32_w]
      rfl
     refine pure_ (i := 4) (N := some 10) (v := ?_) (a' := ?_) #[true, false, false, false, true, false, false, false] rfl rfl (any_of HT_.out (by kernel_rfl)) (fun _ _ _ h => h) (Or.inl ⟨by rfl, ?_⟩) ?_ ?_
     rotate_left
     ·
      intro w'
      go_simp
      with_reducible rfl
     rotate_left
     ·
      simp only [Act.put, List.setIfInBounds_toArray, List.set_cons_zero, List.set_cons_succ, i64_w, i32_w]
      rfl
     refine take_ (i := 1) (N := some 7) (v := ?_) (a' := ?_) #[true, true, false, false, true, false, false, false] rfl rfl (take_ofW HT_.out HW_.out (by kernel_rfl)) (fun _ _ _ h => h) (Or.inl ⟨by rfl, ?_⟩) hHeld ?_ ?_
     rotate_left
     ·
      rintro w' ⟨s0, s1, s2, s3, s4, s5, s6, s7⟩
      go_simp
      with_reducible rfl
     rotate_left
     ·
      simp only [Act.put, List.setIfInBounds_toArray, List.set_cons_zero, List.set_cons_succ, i64_w, i32_w]
      rfl
     refine pure_ (i := 2) (N := some 8) (v := ?_) (a' := ?_) #[true, true, true, false, true, false, false, false] rfl rfl (any_of HT_.out (by kernel_rfl)) (fun _ _ _ h => h) (Or.inl ⟨by rfl, ?_⟩) ?_ ?_
     rotate_left
     ·
      intro w'
      go_simp
      with_reducible rfl
     rotate_left
     ·
      simp only [Act.put, List.setIfInBounds_toArray, List.set_cons_zero, List.set_cons_succ, i64_w, i32_w]
      rfl
     refine pure_ (i := 3) (N := some 9) (v := ?_) (a' := ?_) #[true, true, true, true, true, false, false, false] rfl rfl (any_of HT_.out (by kernel_rfl)) (fun _ _ _ h => h) (Or.inl ⟨by rfl, ?_⟩) ?_ ?_
     rotate_left
     ·
      intro w'
      go_simp
      with_reducible rfl
     rotate_left
     ·
      simp only [Act.put, List.setIfInBounds_toArray, List.set_cons_zero, List.set_cons_succ, i64_w, i32_w]
      rfl
     refine one_ (i := 5) (N := some 11) #[true, true, true, true, true, true, false, false] rfl rfl (one_of HT_.out (by kernel_rfl)) (by decide) (fun K hK => ?_)
     refine goes_ Tryd.func21 (by kernel_rfl) rfl #[.string a0] (by rfl) rfl rfl (by (try simp only [List.map_toArray, List.map_cons, List.map_nil]); first | done | rfl | (simp only [List.length_drop, List.length_take]; rfl)) ?_
     with_reducible refine (buf_Count.calls a0 t106 _ A5.out).mono ?_
     rintro e w30 ⟨rfl, hb⟩
     refine ⟨_, rfl, ?_⟩
     have n0_ := Aside0.mk (blk_below (g := gb105) (o := .cells #[.bool a1_0, .bool false, .bool a1_2, .bool a1_3, .bool false, .int .i64 a1_5, .int .i64 a1_6, .int .i32 a1_7] 28 (0, 0)) (by (with_reducible repeat (first | refine blk_drewN ?_ _ | refine blk_drew ?_ | refine blk_alloc ?_ _)); exact BK105.out) hb)
     have n1_ := Aside0.mk (below_step (by repeat (first | (with_reducible first | exact HB.out | apply below_alloc | apply pw_below_drewN | apply below_drew1 | refine below_set ?_ GE105.out) | exact HB.out)) hb)
     clear BK105
     clear HB
     have BK105 := n0_
     have HB := n1_
     clear n0_ n1_
     (try clear hb)
     (try clear hb2)
     (try clear hk)
     (try clear hi)
     refine hK.out _ _ ⟨(blk_cell BK105.out 0).trans rfl, (blk_cell BK105.out 1).trans rfl, (blk_cell BK105.out 2).trans rfl, (blk_cell BK105.out 3).trans rfl, (blk_cell BK105.out 4).trans rfl, (blk_cell BK105.out 5).trans rfl, (blk_cell BK105.out 6).trans rfl, (blk_cell BK105.out 7).trans rfl⟩ (fun hHeld => ?_)
     clear hK K
     refine norm_ (a' := ?_) ?_ ?_
     rotate_left
     ·
      show Act.put _ (some 11) _ = _
      simp only [Act.put, List.setIfInBounds_toArray, List.set_cons_zero, List.set_cons_succ, i64_w, i32_w]
      rfl
     refine pure_ (i := 6) (N := some 12) (v := ?_) (a' := ?_) #[true, true, true, true, true, true, true, false] rfl rfl (any_of HT_.out (by kernel_rfl)) (fun _ _ _ h => h) (Or.inl ⟨by rfl, ?_⟩) ?_ ?_
     rotate_left
     ·
      intro w'
      go_simp
      with_reducible rfl
     rotate_left
     ·
      simp only [Act.put, List.setIfInBounds_toArray, List.set_cons_zero, List.set_cons_succ, i64_w, i32_w]
      rfl
     refine pure_ (i := 7) (N := some 5) (v := ?_) (a' := ?_) #[true, true, true, true, true, true, true, true] rfl rfl (any_of HT_.out (by kernel_rfl)) (fun _ _ _ h => h) (Or.inl ⟨by rfl, ?_⟩) ?_ ?_
     rotate_left
     ·
      intro w'
      go_simp
      with_reducible rfl
     rotate_left
     ·
      simp only [Act.put, List.setIfInBounds_toArray, List.set_cons_zero, List.set_cons_succ, i64_w, i32_w]
      rfl
     refine done_ (done_of HT_.out (by kernel_rfl)) ?_
     have hcz31_0 : w30.cell? ⟨gb105, 0, none⟩ = some (.bool a1_0) := (blk_cell BK105.out 0).trans rfl
     have hcz31_1 : w30.cell? ⟨gb105, 1, none⟩ = some (.bool false) := (blk_cell BK105.out 1).trans rfl
     have hcz31_2 : w30.cell? ⟨gb105, 2, none⟩ = some (.bool a1_2) := (blk_cell BK105.out 2).trans rfl
     have hcz31_3 : w30.cell? ⟨gb105, 3, none⟩ = some (.bool a1_3) := (blk_cell BK105.out 3).trans rfl
     have hcz31_4 : w30.cell? ⟨gb105, 4, none⟩ = some (.bool false) := (blk_cell BK105.out 4).trans rfl
     have hcz31_5 : w30.cell? ⟨gb105, 5, none⟩ = some (.int .i64 a1_5) := (blk_cell BK105.out 5).trans rfl
     have hcz31_6 : w30.cell? ⟨gb105, 6, none⟩ = some (.int .i64 a1_6) := (blk_cell BK105.out 6).trans rfl
     have hcz31_7 : w30.cell? ⟨gb105, 7, none⟩ = some (.int .i32 a1_7) := (blk_cell BK105.out 7).trans rfl
     have hfz31_0 := blk_frozen BK105.out 0
     have hfz31_1 := blk_frozen BK105.out 1
     have hfz31_2 := blk_frozen BK105.out 2
     have hfz31_3 := blk_frozen BK105.out 3
     have hfz31_4 := blk_frozen BK105.out 4
     have hfz31_5 := blk_frozen BK105.out 5
     have hfz31_6 := blk_frozen BK105.out 6
     have hfz31_7 := blk_frozen BK105.out 7
     try go_wp2_with (first | ((with_reducible refine gate_callee (f := 50) rfl ?_); refine goesL_ (some 32) rfl rfl Tryd.func50 (by kernel_rfl) rfl #[.int .u8 32, .int .i64 (wrap64 ((ji4) - t106))] rfl (by (try simp only [List.map_toArray, List.map_cons, List.map_nil]); first | done | (simp only [hji4]; rfl) | rfl | (simp only [List.length_drop, List.length_take]; rfl)) ?_; (first | (with_reducible refine (buf_Fill.calls 32 (wrap64 ((ji4) - t106)) t109 _ A26.out).mono ?_) | (simp only [i64_w]; (with_reducible refine (buf_Fill.calls 32 (wrap64 ((ji4) - t106)) t109 _ A26.out).mono ?_))); rintro e w32 ⟨rfl, hb⟩; refine ⟨_, rfl, ?_⟩; have n0_ := Aside0.mk (blk_below (g := gb105) (o := .cells #[.bool a1_0, .bool false, .bool a1_2, .bool a1_3, .bool false, .int .i64 a1_5, .int .i64 a1_6, .int .i32 a1_7] 28 (0, 0)) (by (with_reducible repeat (first | refine blk_drewN ?_ _ | refine blk_drew ?_ | refine blk_alloc ?_ _)); exact BK105.out) hb); have n1_ := Aside0.mk (below_step (by repeat (first | (with_reducible first | exact HB.out | apply below_alloc | apply pw_below_drewN | apply below_drew1 | refine below_set ?_ GE105.out) | exact HB.out)) hb); clear BK105; clear HB; have BK105 := n0_; have HB := n1_; clear n0_ n1_; (try clear hb); (try clear hb2); (try clear hk); (try clear hi)))
     go_ret
     exact ⟨by first | rfl | (simp [errW_none, errW_some] <;> rfl) | (simp only [← hji3, ← hji4]; first | rfl | (simp [errW_none, errW_some] <;> rfl)) | (simp [*, errW_none, errW_some] <;> rfl), by repeat (first | (with_reducible first | exact HB.out | apply below_alloc | apply pw_below_drewN | apply below_drew1 | refine below_set ?_ GE105.out) | exact HB.out)⟩
    ·
     rw [if_neg c27] at H
     exact absurd H (by simp)
end Go.Proofs.YtcoippikicikoaaDoor.PQGen
