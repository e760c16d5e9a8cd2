/- The tied card of BadBack: for every input the law returns true; its arguments read as they did. Conditions: the library's variables that the row lists start as the program's text lays them. -/
import Derived.Test.YtiaocdbgcjnceaaDoorCards
import Derived.Test.YtiaocdbgcjnceaaDoorTie
import Derived.ProofKit
import Derived.OpenShut
import Derived.PinnedBridge
import Derived.Lay
import Derived.Lib.LaidU8
import Derived.SevenTiedAt
import Derived.Stop.Joined
import Derived.Test.YtiaocdbgcjnceaaDoorZKa
namespace Go.Proofs.YtiaocdbgcjnceaaDoor.PGBack
open Go.RowKit Go.Proofs.YtiaocdbgcjnceaaDoorW.PrintWords Go.Proofs.YtiaocdbgcjnceaaDoorW.PrintLast Go.Proofs.YtiaocdbgcjnceaaDoorW.PrintMore
attribute [local go_sem] min2_int min_two
set_option linter.unusedVariables false
set_option linter.unusedSimpArgs false
mutual
def platenlaw10_BadBack.j0 : Nat → Int → ByteArray → ByteArray → Bool → Option (Bool)
 | 0, _, _, _, _ => none
 | k + 1, x0, x1, x2, x33 => if x33 = true then (platenlaw10_BadBack.j1 k 65533 x1 x2) else (platenlaw10_BadBack.j1 k x0 x1 x2)
def platenlaw10_BadBack.j1 : Nat → Int → ByteArray → ByteArray → Option (Bool)
 | 0, _, _, _ => none
 | k + 1, x0, x1, x2 => (bad_Nil.f x0).bind fun t103 => ((bad_Missing.f x0).bind fun t104 => ((bad_Index.f x0).bind fun t105 => ((bad_Panic.f x0 x1 x2).bind fun t106 => (if 6 + x1.size ≤ 9223372036854775807 then (if ((⟨#[80, 65, 78, 73, 67, 61]⟩ : ByteArray) ++ x1).size + 9 ≤ 9223372036854775807 then (if (((⟨#[80, 65, 78, 73, 67, 61]⟩ : ByteArray) ++ x1) ++ (⟨#[32, 109, 101, 116, 104, 111, 100, 58, 32]⟩ : ByteArray)).size + x2.size ≤ 9223372036854775807 then ((some (([(⟨t103, 2, (⟨#[60, 110, 105, 108, 62]⟩ : ByteArray)⟩ : S41), (⟨t104, 3, (⟨#[77, 73, 83, 83, 73, 78, 71]⟩ : ByteArray)⟩ : S41), (⟨t105, 4, (⟨#[66, 65, 68, 73, 78, 68, 69, 88]⟩ : ByteArray)⟩ : S41), (⟨t106, 5, (((⟨#[80, 65, 78, 73, 67, 61]⟩ : ByteArray) ++ x1) ++ (⟨#[32, 109, 101, 116, 104, 111, 100, 58, 32]⟩ : ByteArray)) ++ x2⟩ : S41)] : List (S41)) : List (S41))).bind fun y107 => (if (x1.size : Int) < 5 then (platenlaw10_BadBack.j2 k x0 x1 x2 y107 true) else (if 0 ≤ 5 then (if 5 ≤ (x1.size : Int) then (platenlaw10_BadBack.j2 k x0 x1 x2 y107 ((x1.extract 0 5).toList != ([80, 65, 78, 73, 67] : List UInt8))) else (none)) else (none)))) else (none)) else (none)) else (none)))))
def platenlaw10_BadBack.j2 : Nat → Int → ByteArray → ByteArray → List (S41) → Bool → Option (Bool)
 | 0, _, _, _, _, _ => none
 | k + 1, x0, x1, x2, x7, x61 => if x61 = true then ((bad_Verb.f x0 x1 x2).bind fun t110 => (if x1.size + 1 ≤ 9223372036854775807 then (if (x1 ++ (⟨#[61]⟩ : ByteArray)).size + x2.size ≤ 9223372036854775807 then (if x7.length < 3518437208883 then (platenlaw10_BadBack.j3 k x0 x1 x2 (x7 ++ [(⟨t110, 1, (x1 ++ (⟨#[61]⟩ : ByteArray)) ++ x2⟩ : S41)])) else (none)) else (none)) else (none))) else (platenlaw10_BadBack.j3 k x0 x1 x2 x7)
def platenlaw10_BadBack.j3 : Nat → Int → ByteArray → ByteArray → List (S41) → Option (Bool)
 | 0, _, _, _, _ => none
 | k + 1, x0, x1, x2, x7 => platenlaw10_BadBack.l0 k x0 x1 x2 x7 (x7.length : Int) 0
def platenlaw10_BadBack.l0 : Nat → Int → ByteArray → ByteArray → List (S41) → Int → Int → Option (Bool)
 | 0, _, _, _, _, _, _ => none
 | k + 1, x0, x1, x2, x74, x75, x76 => if x76 < x75 then (if 0 ≤ x76 then (if x76 < (x74.length : Int) then ((bad_Read.f ((rd_T41 x74 x76).f0)).bind fun bt116 => (if bt116.1 = ((rd_T41 x74 x76).f1) then (if bt116.2.1 = x0 then (if bt116.2.2.toList = ((rd_T41 x74 x76).f2).toList then (platenlaw10_BadBack.l0 k x0 x1 x2 x74 x75 (wrap64 (x76 + 1))) else (some false)) else (some false)) else (some false))) else (none)) else (none)) else ((PGBad.bad_Extra.f k (([x1] : List ByteArray)) (([x2] : List ByteArray))).bind fun t125 => ((bad_Read.f t125).bind fun bt126 => (if bt126.1 = 10 then (if bt126.2.1 = 0 then (if 6 + x1.size ≤ 9223372036854775807 then (if ((⟨#[69, 88, 84, 82, 65, 32]⟩ : ByteArray) ++ x1).size + 1 ≤ 9223372036854775807 then (if (((⟨#[69, 88, 84, 82, 65, 32]⟩ : ByteArray) ++ x1) ++ (⟨#[61]⟩ : ByteArray)).size + x2.size ≤ 9223372036854775807 then (if bt126.2.2.toList = ((((⟨#[69, 88, 84, 82, 65, 32]⟩ : ByteArray) ++ x1) ++ (⟨#[61]⟩ : ByteArray)) ++ x2).toList then ((PGBad.platenlaw10_lives.f k).bind fun t129 => (some t129)) else (some false)) else (none)) else (none)) else (none)) else (some false)) else (some false))))
end
def platenlaw10_BadBack.f (k : Nat) (a0 : Int) (a1 : ByteArray) (a2 : ByteArray) : Option (Bool) := (PGBad.platenlaw10_cut.f a1).bind fun t101 => ((PGBad.platenlaw10_cut.f a2).bind fun t102 => (if a0 < 0 then (platenlaw10_BadBack.j0 k a0 t101 t102 true) else (if a0 > 1114111 then (platenlaw10_BadBack.j0 k a0 t101 t102 true) else (if a0 ≥ 55296 then (platenlaw10_BadBack.j0 k a0 t101 t102 (decide (a0 ≤ 57343))) else (platenlaw10_BadBack.j0 k a0 t101 t102 false)))))
set_option maxHeartbeats 8000000 in
set_option maxRecDepth 100000 in
theorem platenlaw10_BadBack.calls (k : Nat) (a0 : Int) (a1 : ByteArray) (a2 : ByteArray) (r : Bool) (w : World) (hOK : Aside0 (Ok w)) (h : platenlaw10_BadBack.f k a0 a1 a2 = some r) :
 Calls Tryd.prog 8 #[.int .i32 a0, .string a1, .string a2] w fun e w' => e = .returned (.bool r) ∧ Below w.heap.size w w' := by
 have hu41 := Tryd.underlying41
 have HB := Aside0.mk (Below.refl w.heap.size w)
 have H : ((PGBad.platenlaw10_cut.f a1).bind fun t101 => ((PGBad.platenlaw10_cut.f a2).bind fun t102 => (if a0 < 0 then (platenlaw10_BadBack.j0 k a0 t101 t102 true) else (if a0 > 1114111 then (platenlaw10_BadBack.j0 k a0 t101 t102 true) else (if a0 ≥ 55296 then (platenlaw10_BadBack.j0 k a0 t101 t102 (decide (a0 ≤ 57343))) else (platenlaw10_BadBack.j0 k a0 t101 t102 false)))))) = some r := h
 clear h
 replace H := Option.bind_eq_some_iff.mp H
 obtain ⟨t101, A40, H⟩ := H
 replace H : ((PGBad.platenlaw10_cut.f a2).bind fun t102 => (if a0 < 0 then (platenlaw10_BadBack.j0 k a0 t101 t102 true) else (if a0 > 1114111 then (platenlaw10_BadBack.j0 k a0 t101 t102 true) else (if a0 ≥ 55296 then (platenlaw10_BadBack.j0 k a0 t101 t102 (decide (a0 ≤ 57343))) else (platenlaw10_BadBack.j0 k a0 t101 t102 false))))) = some r := H
 have A4 := Aside0.mk A40
 clear A40
 replace H := Option.bind_eq_some_iff.mp H
 obtain ⟨t102, A50, H⟩ := H
 replace H : (if a0 < 0 then (platenlaw10_BadBack.j0 k a0 t101 t102 true) else (if a0 > 1114111 then (platenlaw10_BadBack.j0 k a0 t101 t102 true) else (if a0 ≥ 55296 then (platenlaw10_BadBack.j0 k a0 t101 t102 (decide (a0 ≤ 57343))) else (platenlaw10_BadBack.j0 k a0 t101 t102 false)))) = some r := H
 have A5 := Aside0.mk A50
 clear A50
 have HC6 := Aside0.mk H
 clear H
 go_enter Tryd.func8, Tryd.ntmps8
 go_upto_region 2 with (first | ((with_reducible refine gate_callee (f := 13) rfl ?_); refine goesL_ (some 17) rfl rfl Tryd.func13 (by kernel_rfl) rfl #[.string a1] rfl (by (try simp only [List.map_toArray, List.map_cons, List.map_nil]); first | done | rfl | (simp only [List.length_drop, List.length_take]; rfl)) ?_; (with_reducible refine (PGBad.platenlaw10_cut.calls a1 t101 _ A4.out).mono ?_); rintro e w' ⟨rfl, ⟨nd, rfl⟩⟩; refine ⟨_, rfl, ?_⟩) | ((with_reducible refine gate_callee (f := 13) rfl ?_); refine goesL_ (some 19) rfl rfl Tryd.func13 (by kernel_rfl) rfl #[.string a2] rfl (by (try simp only [List.map_toArray, List.map_cons, List.map_nil]); first | done | rfl | (simp only [List.length_drop, List.length_take]; rfl)) ?_; (with_reducible refine (PGBad.platenlaw10_cut.calls a2 t102 _ A5.out).mono ?_); rintro e w' ⟨rfl, ⟨nd, rfl⟩⟩; refine ⟨_, rfl, ?_⟩))
 (try simp only [Act.put, List.setIfInBounds_toArray, List.set_cons_zero, List.set_cons_succ])
 go_cut [33] (fun v33 wc => ∃ (kq : Nat) (x33_5 : Bool), v33 = .bool x33_5 ∧ Aside0 (platenlaw10_BadBack.j0 kq a0 t101 t102 x33_5 = some r) ∧ Aside0 (kq ≤ k) ∧ Aside0 (Below w.heap.size w wc))
 case first =>
  have H := HC6.out
  clear HC6
  by_cases c7 : a0 < 0
  ·
   rw [if_pos c7] at H
   have c7b0 : decide (a0 < 0) = true := decide_eq_true c7
   clear c7
   (first | rw [c7b0] | (simp only [i64_w, i32_w]; rw [c7b0]) | skip)
   have H' := Aside0.mk H
   clear H
   go_wp2
   go_meet
   case rel => exact ⟨_, (true), (by first | rfl | (simp; done) | (simp [*]; done)), H', ⟨by first | omega | exact Nat.le_refl _⟩, ⟨by repeat (first | (with_reducible first | exact HB.out | apply below_alloc | apply pw_below_drewN | apply below_drew1) | exact HB.out)⟩⟩
  ·
   rw [if_neg c7] at H
   have c7b0 : decide (a0 < 0) = false := decide_eq_false c7
   clear c7
   (first | rw [c7b0] | (simp only [i64_w, i32_w]; rw [c7b0]) | skip)
   by_cases c8 : a0 > 1114111
   ·
    rw [if_pos c8] at H
    have c8b0 : decide (1114111 < a0) = true := decide_eq_true c8
    clear c8
    have H' := Aside0.mk H
    clear H
    go_wp2
    go_meet
    case rel => exact ⟨_, (true), (by first | rfl | (simp; done) | (simp [*]; done)), H', ⟨by first | omega | exact Nat.le_refl _⟩, ⟨by repeat (first | (with_reducible first | exact HB.out | apply below_alloc | apply pw_below_drewN | apply below_drew1) | exact HB.out)⟩⟩
   ·
    rw [if_neg c8] at H
    have c8b0 : decide (1114111 < a0) = false := decide_eq_false c8
    clear c8
    by_cases c9 : a0 ≥ 55296
    ·
     rw [if_pos c9] at H
     have c9b0 : decide (55296 ≤ a0) = true := decide_eq_true c9
     clear c9
     have H' := Aside0.mk H
     clear H
     go_wp2
     go_meet
     case rel => exact ⟨_, (decide (a0 ≤ 57343)), (by first | rfl | (simp; done) | (simp [*]; done)), H', ⟨by first | omega | exact Nat.le_refl _⟩, ⟨by repeat (first | (with_reducible first | exact HB.out | apply below_alloc | apply pw_below_drewN | apply below_drew1) | exact HB.out)⟩⟩
    ·
     rw [if_neg c9] at H
     have c9b0 : decide (55296 ≤ a0) = false := decide_eq_false c9
     clear c9
     have H' := Aside0.mk H
     clear H
     go_wp2
     go_meet
     case rel => exact ⟨_, (false), (by first | rfl | (simp; done) | (simp [*]; done)), H', ⟨by first | omega | exact Nat.le_refl _⟩, ⟨by repeat (first | (with_reducible first | exact HB.out | apply below_alloc | apply pw_below_drewN | apply below_drew1) | exact HB.out)⟩⟩
 case rest =>
  clear HC6
  try clear c1
  try clear p2
  try clear c7
  try clear c7b0
  try clear c8
  try clear c8b0
  try clear c9
  try clear c9b0
  obtain ⟨kq, x33_5, rfl, HA, HJ5, HB⟩ := hcut
  cases kq with
  | zero => exact absurd HA.out (by simp [platenlaw10_BadBack.j0])
  | succ kj5 =>
   have H := HA.out
   clear HA
   simp only [platenlaw10_BadBack.j0] at H
   have HC10 := Aside0.mk H
   clear H
   go_upto_if 33 with (fail)
   go_cut [0] (fun v0 wc => ∃ (kq : Nat) (x0_9 : Int), v0 = .int .i32 x0_9 ∧ Aside0 (platenlaw10_BadBack.j1 kq x0_9 t101 t102 = some r) ∧ Aside0 (kq ≤ kj5) ∧ Aside0 (Below w.heap.size w wc))
   case first =>
    have H := HC10.out
    clear HC10
    by_cases c11 : x33_5 = true
    ·
     subst c11
     have H1 : (platenlaw10_BadBack.j1 kj5 65533 t101 t102) = some r := by rw [if_pos rfl] at H; exact H
     clear H
     have H := H1
     clear H1
     have H' := Aside0.mk H
     clear H
     go_wp2
     go_meet
     case rel => exact ⟨_, (65533), (by first | rfl | (simp; done) | (simp [*]; done)), H', ⟨by have := HJ5.out; first | omega | exact Nat.le_refl _⟩, ⟨by repeat (first | (with_reducible first | exact HB.out | apply below_alloc | apply pw_below_drewN | apply below_drew1) | exact HB.out)⟩⟩
    ·
     replace c11 := Bool.eq_false_iff.mpr c11
     subst c11
     have H1 : (platenlaw10_BadBack.j1 kj5 a0 t101 t102) = some r := by rw [if_neg (show ¬ (false = true) by decide)] at H; exact H
     clear H
     have H := H1
     clear H1
     have H' := Aside0.mk H
     clear H
     go_wp2
     go_meet
     case rel => exact ⟨_, (a0), (by first | rfl | (simp; done) | (simp [*]; done)), H', ⟨by have := HJ5.out; first | omega | exact Nat.le_refl _⟩, ⟨by repeat (first | (with_reducible first | exact HB.out | apply below_alloc | apply pw_below_drewN | apply below_drew1) | exact HB.out)⟩⟩
   case rest =>
    clear HC10
    try clear c1
    try clear p2
    try clear c7
    try clear c7b0
    try clear c8
    try clear c8b0
    try clear c9
    try clear c9b0
    try clear c11
    try clear p2
    obtain ⟨kq, x0_9, rfl, HA, HJ9, HB⟩ := hcut
    cases kq with
    | zero => exact absurd HA.out (by simp [platenlaw10_BadBack.j1])
    | succ kj9 =>
     have H := HA.out
     clear HA
     simp only [platenlaw10_BadBack.j1] at H
     replace H := Option.bind_eq_some_iff.mp H
     obtain ⟨t103, A120, H⟩ := H
     replace H : ((bad_Missing.f x0_9).bind fun t104 => ((bad_Index.f x0_9).bind fun t105 => ((bad_Panic.f x0_9 t101 t102).bind fun t106 => (if 6 + t101.size ≤ 9223372036854775807 then (if ((⟨#[80, 65, 78, 73, 67, 61]⟩ : ByteArray) ++ t101).size + 9 ≤ 9223372036854775807 then (if (((⟨#[80, 65, 78, 73, 67, 61]⟩ : ByteArray) ++ t101) ++ (⟨#[32, 109, 101, 116, 104, 111, 100, 58, 32]⟩ : ByteArray)).size + t102.size ≤ 9223372036854775807 then ((some (([(⟨t103, 2, (⟨#[60, 110, 105, 108, 62]⟩ : ByteArray)⟩ : S41), (⟨t104, 3, (⟨#[77, 73, 83, 83, 73, 78, 71]⟩ : ByteArray)⟩ : S41), (⟨t105, 4, (⟨#[66, 65, 68, 73, 78, 68, 69, 88]⟩ : ByteArray)⟩ : S41), (⟨t106, 5, (((⟨#[80, 65, 78, 73, 67, 61]⟩ : ByteArray) ++ t101) ++ (⟨#[32, 109, 101, 116, 104, 111, 100, 58, 32]⟩ : ByteArray)) ++ t102⟩ : S41)] : List (S41)) : List (S41))).bind fun y107 => (if (t101.size : Int) < 5 then (platenlaw10_BadBack.j2 kj9 x0_9 t101 t102 y107 true) else (if 0 ≤ 5 then (if 5 ≤ (t101.size : Int) then (platenlaw10_BadBack.j2 kj9 x0_9 t101 t102 y107 ((t101.extract 0 5).toList != ([80, 65, 78, 73, 67] : List UInt8))) else (none)) else (none)))) else (none)) else (none)) else (none))))) = some r := H
     have A12 := Aside0.mk A120
     clear A120
     replace H := Option.bind_eq_some_iff.mp H
     obtain ⟨t104, A130, H⟩ := H
     replace H : ((bad_Index.f x0_9).bind fun t105 => ((bad_Panic.f x0_9 t101 t102).bind fun t106 => (if 6 + t101.size ≤ 9223372036854775807 then (if ((⟨#[80, 65, 78, 73, 67, 61]⟩ : ByteArray) ++ t101).size + 9 ≤ 9223372036854775807 then (if (((⟨#[80, 65, 78, 73, 67, 61]⟩ : ByteArray) ++ t101) ++ (⟨#[32, 109, 101, 116, 104, 111, 100, 58, 32]⟩ : ByteArray)).size + t102.size ≤ 9223372036854775807 then ((some (([(⟨t103, 2, (⟨#[60, 110, 105, 108, 62]⟩ : ByteArray)⟩ : S41), (⟨t104, 3, (⟨#[77, 73, 83, 83, 73, 78, 71]⟩ : ByteArray)⟩ : S41), (⟨t105, 4, (⟨#[66, 65, 68, 73, 78, 68, 69, 88]⟩ : ByteArray)⟩ : S41), (⟨t106, 5, (((⟨#[80, 65, 78, 73, 67, 61]⟩ : ByteArray) ++ t101) ++ (⟨#[32, 109, 101, 116, 104, 111, 100, 58, 32]⟩ : ByteArray)) ++ t102⟩ : S41)] : List (S41)) : List (S41))).bind fun y107 => (if (t101.size : Int) < 5 then (platenlaw10_BadBack.j2 kj9 x0_9 t101 t102 y107 true) else (if 0 ≤ 5 then (if 5 ≤ (t101.size : Int) then (platenlaw10_BadBack.j2 kj9 x0_9 t101 t102 y107 ((t101.extract 0 5).toList != ([80, 65, 78, 73, 67] : List UInt8))) else (none)) else (none)))) else (none)) else (none)) else (none)))) = some r := H
     have A13 := Aside0.mk A130
     clear A130
     replace H := Option.bind_eq_some_iff.mp H
     obtain ⟨t105, A140, H⟩ := H
     replace H : ((bad_Panic.f x0_9 t101 t102).bind fun t106 => (if 6 + t101.size ≤ 9223372036854775807 then (if ((⟨#[80, 65, 78, 73, 67, 61]⟩ : ByteArray) ++ t101).size + 9 ≤ 9223372036854775807 then (if (((⟨#[80, 65, 78, 73, 67, 61]⟩ : ByteArray) ++ t101) ++ (⟨#[32, 109, 101, 116, 104, 111, 100, 58, 32]⟩ : ByteArray)).size + t102.size ≤ 9223372036854775807 then ((some (([(⟨t103, 2, (⟨#[60, 110, 105, 108, 62]⟩ : ByteArray)⟩ : S41), (⟨t104, 3, (⟨#[77, 73, 83, 83, 73, 78, 71]⟩ : ByteArray)⟩ : S41), (⟨t105, 4, (⟨#[66, 65, 68, 73, 78, 68, 69, 88]⟩ : ByteArray)⟩ : S41), (⟨t106, 5, (((⟨#[80, 65, 78, 73, 67, 61]⟩ : ByteArray) ++ t101) ++ (⟨#[32, 109, 101, 116, 104, 111, 100, 58, 32]⟩ : ByteArray)) ++ t102⟩ : S41)] : List (S41)) : List (S41))).bind fun y107 => (if (t101.size : Int) < 5 then (platenlaw10_BadBack.j2 kj9 x0_9 t101 t102 y107 true) else (if 0 ≤ 5 then (if 5 ≤ (t101.size : Int) then (platenlaw10_BadBack.j2 kj9 x0_9 t101 t102 y107 ((t101.extract 0 5).toList != ([80, 65, 78, 73, 67] : List UInt8))) else (none)) else (none)))) else (none)) else (none)) else (none))) = some r := H
     have A14 := Aside0.mk A140
     clear A140
     replace H := Option.bind_eq_some_iff.mp H
     obtain ⟨t106, A150, H⟩ := H
     replace H : (if 6 + t101.size ≤ 9223372036854775807 then (if ((⟨#[80, 65, 78, 73, 67, 61]⟩ : ByteArray) ++ t101).size + 9 ≤ 9223372036854775807 then (if (((⟨#[80, 65, 78, 73, 67, 61]⟩ : ByteArray) ++ t101) ++ (⟨#[32, 109, 101, 116, 104, 111, 100, 58, 32]⟩ : ByteArray)).size + t102.size ≤ 9223372036854775807 then ((some (([(⟨t103, 2, (⟨#[60, 110, 105, 108, 62]⟩ : ByteArray)⟩ : S41), (⟨t104, 3, (⟨#[77, 73, 83, 83, 73, 78, 71]⟩ : ByteArray)⟩ : S41), (⟨t105, 4, (⟨#[66, 65, 68, 73, 78, 68, 69, 88]⟩ : ByteArray)⟩ : S41), (⟨t106, 5, (((⟨#[80, 65, 78, 73, 67, 61]⟩ : ByteArray) ++ t101) ++ (⟨#[32, 109, 101, 116, 104, 111, 100, 58, 32]⟩ : ByteArray)) ++ t102⟩ : S41)] : List (S41)) : List (S41))).bind fun y107 => (if (t101.size : Int) < 5 then (platenlaw10_BadBack.j2 kj9 x0_9 t101 t102 y107 true) else (if 0 ≤ 5 then (if 5 ≤ (t101.size : Int) then (platenlaw10_BadBack.j2 kj9 x0_9 t101 t102 y107 ((t101.extract 0 5).toList != ([80, 65, 78, 73, 67] : List UInt8))) else (none)) else (none)))) else (none)) else (none)) else (none)) = some r := H
     have A15 := Aside0.mk A150
     clear A150
     by_cases c16 : 6 + t101.size ≤ 9223372036854775807
     ·
      rw [if_pos c16] at H
      have c16b0 := eq_true c16
      have c16b1 : decide (6 + t101.size ≤ 9223372036854775807) = true := decide_eq_true c16
      try have c16b2 : (9223372036854775807 < 6 + t101.size) = False := eq_false (Nat.not_lt.2 c16)
      by_cases c17 : ((⟨#[80, 65, 78, 73, 67, 61]⟩ : ByteArray) ++ t101).size + 9 ≤ 9223372036854775807
      ·
       rw [if_pos c17] at H
       have c17b0 := eq_true c17
       have c17b1 : decide (((⟨#[80, 65, 78, 73, 67, 61]⟩ : ByteArray) ++ t101).size + 9 ≤ 9223372036854775807) = true := decide_eq_true c17
       try have c17b2 : (9223372036854775807 < ((⟨#[80, 65, 78, 73, 67, 61]⟩ : ByteArray) ++ t101).size + 9) = False := eq_false (Nat.not_lt.2 c17)
       try have c17b4 : (9223372036854775807 < 6 + t101.size + 9) = False := eq_false (by have z_ := c17; simp only [ByteArray.size_append', ByteArray.size_mk', List.size_toArray, List.length_cons, List.length_nil] at z_; omega)
       by_cases c18 : (((⟨#[80, 65, 78, 73, 67, 61]⟩ : ByteArray) ++ t101) ++ (⟨#[32, 109, 101, 116, 104, 111, 100, 58, 32]⟩ : ByteArray)).size + t102.size ≤ 9223372036854775807
       ·
        rw [if_pos c18] at H
        have c18b0 := eq_true c18
        have c18b1 : decide ((((⟨#[80, 65, 78, 73, 67, 61]⟩ : ByteArray) ++ t101) ++ (⟨#[32, 109, 101, 116, 104, 111, 100, 58, 32]⟩ : ByteArray)).size + t102.size ≤ 9223372036854775807) = true := decide_eq_true c18
        try have c18b2 : (9223372036854775807 < (((⟨#[80, 65, 78, 73, 67, 61]⟩ : ByteArray) ++ t101) ++ (⟨#[32, 109, 101, 116, 104, 111, 100, 58, 32]⟩ : ByteArray)).size + t102.size) = False := eq_false (Nat.not_lt.2 c18)
        try have c18b4 : (9223372036854775807 < 6 + t101.size + 9 + t102.size) = False := eq_false (by have z_ := c18; simp only [ByteArray.size_append', ByteArray.size_mk', List.size_toArray, List.length_cons, List.length_nil] at z_; omega)
        obtain ⟨y107, hy107⟩ : ∃ y_ : List (S41), y_ = (([(⟨t103, 2, (⟨#[60, 110, 105, 108, 62]⟩ : ByteArray)⟩ : S41), (⟨t104, 3, (⟨#[77, 73, 83, 83, 73, 78, 71]⟩ : ByteArray)⟩ : S41), (⟨t105, 4, (⟨#[66, 65, 68, 73, 78, 68, 69, 88]⟩ : ByteArray)⟩ : S41), (⟨t106, 5, (((⟨#[80, 65, 78, 73, 67, 61]⟩ : ByteArray) ++ t101) ++ (⟨#[32, 109, 101, 116, 104, 111, 100, 58, 32]⟩ : ByteArray)) ++ t102⟩ : S41)] : List (S41))) := ⟨_, rfl⟩
        replace H : (if (t101.size : Int) < 5 then (platenlaw10_BadBack.j2 kj9 x0_9 t101 t102 y107 true) else (if 0 ≤ 5 then (if 5 ≤ (t101.size : Int) then (platenlaw10_BadBack.j2 kj9 x0_9 t101 t102 y107 ((t101.extract 0 5).toList != ([80, 65, 78, 73, 67] : List UInt8))) else (none)) else (none))) = some r := by first | (rw [hy107]; with_reducible exact H) | (have H2_ := (Option.bind_some _ _).symm.trans H; rw [hy107]; with_reducible exact H2_) | (have H2_ := (Option.bind_some _ _).symm.trans H; with_reducible exact H2_) | with_reducible exact H | (rw [hy107]; exact H) | exact H
        have Ny107 := Aside0.mk hy107
        clear hy107
        have HC19 := Aside0.mk H
        clear H
        go_upto_region 5 with (first | ((with_reducible refine gate_callee (f := 22) rfl ?_); refine goesL_ (some 35) rfl rfl Tryd.func22 (by kernel_rfl) rfl #[.int .i32 x0_9] rfl (by (try simp only [List.map_toArray, List.map_cons, List.map_nil]); first | done | rfl | (simp only [List.length_drop, List.length_take]; rfl)) ?_; (with_reducible refine (bad_Nil.calls x0_9 t103 _ (by (try refine Aside0.mk ?_); first | exact hOK.out | exact (hOK.out).drewN _ | (refine (hOK.out).later ?_; (repeat (first | (with_reducible first | exact HB.out | apply below_alloc | apply pw_below_drewN | apply below_drew1) | exact HB.out | (refine Below.setCell ?_ (show _ ≤ _ from Aside0.out (by assumption)) _)))) | (refine Ok.drewN ?_ _; exact hOK.out)) A12.out).mono ?_); rintro e w20 ⟨rfl, hb⟩; refine ⟨_, rfl, ?_⟩; have n0_ := Aside0.mk (below_step (by repeat (first | (with_reducible first | exact HB.out | apply below_alloc | apply pw_below_drewN | apply below_drew1) | exact HB.out)) hb); clear HB; have HB := n0_; clear n0_; (try clear hb); (try clear hb2); (try clear hk); (try clear hi)) | ((with_reducible refine gate_callee (f := 24) rfl ?_); refine goesL_ (some 38) rfl rfl Tryd.func24 (by kernel_rfl) rfl #[.int .i32 x0_9] rfl (by (try simp only [List.map_toArray, List.map_cons, List.map_nil]); first | done | rfl | (simp only [List.length_drop, List.length_take]; rfl)) ?_; (with_reducible refine (bad_Missing.calls x0_9 t104 _ (by (try refine Aside0.mk ?_); first | exact hOK.out | exact (hOK.out).drewN _ | (refine (hOK.out).later ?_; (repeat (first | (with_reducible first | exact HB.out | apply below_alloc | apply pw_below_drewN | apply below_drew1) | exact HB.out | (refine Below.setCell ?_ (show _ ≤ _ from Aside0.out (by assumption)) _)))) | (refine Ok.drewN ?_ _; exact hOK.out)) A13.out).mono ?_); rintro e w21 ⟨rfl, hb⟩; refine ⟨_, rfl, ?_⟩; have n0_ := Aside0.mk (below_step (by repeat (first | (with_reducible first | exact HB.out | apply below_alloc | apply pw_below_drewN | apply below_drew1) | exact HB.out)) hb); clear HB; have HB := n0_; clear n0_; (try clear hb); (try clear hb2); (try clear hk); (try clear hi)) | ((with_reducible refine gate_callee (f := 26) rfl ?_); refine goesL_ (some 41) rfl rfl Tryd.func26 (by kernel_rfl) rfl #[.int .i32 x0_9] rfl (by (try simp only [List.map_toArray, List.map_cons, List.map_nil]); first | done | rfl | (simp only [List.length_drop, List.length_take]; rfl)) ?_; (with_reducible refine (bad_Index.calls x0_9 t105 _ (by (try refine Aside0.mk ?_); first | exact hOK.out | exact (hOK.out).drewN _ | (refine (hOK.out).later ?_; (repeat (first | (with_reducible first | exact HB.out | apply below_alloc | apply pw_below_drewN | apply below_drew1) | exact HB.out | (refine Below.setCell ?_ (show _ ≤ _ from Aside0.out (by assumption)) _)))) | (refine Ok.drewN ?_ _; exact hOK.out)) A14.out).mono ?_); rintro e w22 ⟨rfl, hb⟩; refine ⟨_, rfl, ?_⟩; have n0_ := Aside0.mk (below_step (by repeat (first | (with_reducible first | exact HB.out | apply below_alloc | apply pw_below_drewN | apply below_drew1) | exact HB.out)) hb); clear HB; have HB := n0_; clear n0_; (try clear hb); (try clear hb2); (try clear hk); (try clear hi)) | ((with_reducible refine gate_callee (f := 28) rfl ?_); refine goesL_ (some 46) rfl rfl Tryd.func28 (by kernel_rfl) rfl #[.int .i32 x0_9, .string t101, .string t102] rfl (by (try simp only [List.map_toArray, List.map_cons, List.map_nil]); first | done | rfl | (simp only [List.length_drop, List.length_take]; rfl)) ?_; (with_reducible refine (bad_Panic.calls x0_9 t101 t102 t106 _ (by (try refine Aside0.mk ?_); first | exact hOK.out | exact (hOK.out).drewN _ | (refine (hOK.out).later ?_; (repeat (first | (with_reducible first | exact HB.out | apply below_alloc | apply pw_below_drewN | apply below_drew1) | exact HB.out | (refine Below.setCell ?_ (show _ ≤ _ from Aside0.out (by assumption)) _)))) | (refine Ok.drewN ?_ _; exact hOK.out)) A15.out).mono ?_); rintro e w23 ⟨rfl, hb⟩; refine ⟨_, rfl, ?_⟩; have n0_ := Aside0.mk (below_step (by repeat (first | (with_reducible first | exact HB.out | apply below_alloc | apply pw_below_drewN | apply below_drew1) | exact HB.out)) hb); clear HB; have HB := n0_; clear n0_; (try clear hb); (try clear hb2); (try clear hk); (try clear hi)) | ((with_reducible refine gate_dst (N := 53) rfl ?_); refine Kd.R_lit k41 _ 41 ?hg (N := 53) ?hd (xs := ([(⟨t103, 2, (⟨#[60, 110, 105, 108, 62]⟩ : ByteArray)⟩ : S41), (⟨t104, 3, (⟨#[77, 73, 83, 83, 73, 78, 71]⟩ : ByteArray)⟩ : S41), (⟨t105, 4, (⟨#[66, 65, 68, 73, 78, 68, 69, 88]⟩ : ByteArray)⟩ : S41), (⟨t106, 5, (((⟨#[80, 65, 78, 73, 67, 61]⟩ : ByteArray) ++ t101) ++ (⟨#[32, 109, 101, 116, 104, 111, 100, 58, 32]⟩ : ByteArray)) ++ t102⟩ : S41)] : List (S41))) (inner := [.string t103, .int .i64 2, .string (⟨#[60, 110, 105, 108, 62]⟩ : ByteArray), .string t104, .int .i64 3, .string (⟨#[77, 73, 83, 83, 73, 78, 71]⟩ : ByteArray), .string t105, .int .i64 4, .string (⟨#[66, 65, 68, 73, 78, 68, 69, 88]⟩ : ByteArray), .string t106, .int .i64 5, .string ((((⟨#[80, 65, 78, 73, 67, 61]⟩ : ByteArray) ++ t101) ++ (⟨#[32, 109, 101, 116, 104, 111, 100, 58, 32]⟩ : ByteArray)) ++ t102)]) (ok := fun _ => True) (okp := fun _ => True) ?hr ?hp (fun _ hk => hk) trivial (Below.refl _ _) (Nat.le_refl _) (by simp) ?_; (case hd => rfl); (case hg => rfl); (case hr => first | (go_simp; done) | (go_simp; rfl)); (case hp => exact (Reps.c3 (show Kd.M k41 _ _ _ (⟨t103, 2, (⟨#[60, 110, 105, 108, 62]⟩ : ByteArray)⟩ : S41) [.string t103, .int .i64 2, .string (⟨#[60, 110, 105, 108, 62]⟩ : ByteArray)] from (k41_mkM _ _ _ (⟨t103, 2, (⟨#[60, 110, 105, 108, 62]⟩ : ByteArray)⟩ : S41) )) (Reps.c3 (show Kd.M k41 _ _ _ (⟨t104, 3, (⟨#[77, 73, 83, 83, 73, 78, 71]⟩ : ByteArray)⟩ : S41) [.string t104, .int .i64 3, .string (⟨#[77, 73, 83, 83, 73, 78, 71]⟩ : ByteArray)] from (k41_mkM _ _ _ (⟨t104, 3, (⟨#[77, 73, 83, 83, 73, 78, 71]⟩ : ByteArray)⟩ : S41) )) (Reps.c3 (show Kd.M k41 _ _ _ (⟨t105, 4, (⟨#[66, 65, 68, 73, 78, 68, 69, 88]⟩ : ByteArray)⟩ : S41) [.string t105, .int .i64 4, .string (⟨#[66, 65, 68, 73, 78, 68, 69, 88]⟩ : ByteArray)] from (k41_mkM _ _ _ (⟨t105, 4, (⟨#[66, 65, 68, 73, 78, 68, 69, 88]⟩ : ByteArray)⟩ : S41) )) (Reps.c3 (show Kd.M k41 _ _ _ (⟨t106, 5, (((⟨#[80, 65, 78, 73, 67, 61]⟩ : ByteArray) ++ t101) ++ (⟨#[32, 109, 101, 116, 104, 111, 100, 58, 32]⟩ : ByteArray)) ++ t102⟩ : S41) [.string t106, .int .i64 5, .string ((((⟨#[80, 65, 78, 73, 67, 61]⟩ : ByteArray) ++ t101) ++ (⟨#[32, 109, 101, 116, 104, 111, 100, 58, 32]⟩ : ByteArray)) ++ t102)] from (k41_mkM _ _ _ (⟨t106, 5, (((⟨#[80, 65, 78, 73, 67, 61]⟩ : ByteArray) ++ t101) ++ (⟨#[32, 109, 101, 116, 104, 111, 100, 58, 32]⟩ : ByteArray)) ++ t102⟩ : S41) )) (Reps.none _ _)))))); intro v108 w24 ho25 hb hg_ hnew_; clear hg_ hnew_; (first | rw [← Ny107.out] at ho25 | (simp only [Int.reduceToNat] at ho25; rw [← Ny107.out] at ho25)); have n0_ := Aside0.mk (Kd.R_lower ho25 (below_size (by repeat (first | (with_reducible first | exact HB.out | apply below_alloc | apply pw_below_drewN | apply below_drew1) | exact HB.out)))); have n1_ := Aside0.mk (below_step (by repeat (first | (with_reducible first | exact HB.out | apply below_alloc | apply pw_below_drewN | apply below_drew1) | exact HB.out)) hb); clear HB; have HO109 := n0_; have HB := n1_; clear n0_ n1_; clear hb ho25))
        (try simp only [Act.put, List.setIfInBounds_toArray, List.set_cons_zero, List.set_cons_succ])
        go_cut [61] (fun v61 wc => ∃ (kq : Nat) (x61_18 : Bool), v61 = .bool x61_18 ∧ Aside0 (platenlaw10_BadBack.j2 kq x0_9 t101 t102 y107 x61_18 = some r) ∧ Aside0 (kq ≤ kj9) ∧ Aside0 (Kd.R k41 41 wc w.heap.size (fun _ => True) v108 y107) ∧ Aside0 (Below w.heap.size w wc))
        case first =>
         have H := HC19.out
         clear HC19
         by_cases c26 : (t101.size : Int) < 5
         ·
          rw [if_pos c26] at H
          have c26b0 : decide ((t101.size : Int) < 5) = true := decide_eq_true c26
          have c26b1 : decide (t101.size < 5) = true := decide_eq_true (by omega)
          clear c26
          (first | rw [c26b0] | (simp only [i64_w, i32_w]; rw [c26b0]) | skip)
          have H' := Aside0.mk H
          clear H
          go_wp2
          go_meet
          case rel => exact ⟨_, (true), (by first | rfl | (simp; done) | (simp [*]; done)), H', ⟨by have := HJ5.out; have := HJ9.out; first | omega | exact Nat.le_refl _⟩, ⟨by (with_reducible repeat (first | apply Kd.R_alloc | apply Kd.R_drewN | apply Kd.R_drew)); exact HO109.out⟩, ⟨by repeat (first | (with_reducible first | exact HB.out | apply below_alloc | apply pw_below_drewN | apply below_drew1) | exact HB.out)⟩⟩
         ·
          rw [if_neg c26] at H
          have c26b0 : decide ((t101.size : Int) < 5) = false := decide_eq_false c26
          have c26b1 : decide (t101.size < 5) = false := decide_eq_false (by omega)
          clear c26
          (first | rw [c26b0] | (simp only [i64_w, i32_w]; rw [c26b0]) | skip)
          by_cases c27 : 0 ≤ 5
          ·
           rw [if_pos c27] at H
           have c27b0 := eq_true c27
           have c27b1 : decide (0 ≤ 5) = true := decide_eq_true c27
           clear c27
           by_cases c28 : 5 ≤ (t101.size : Int)
           ·
            rw [if_pos c28] at H
            have c28b0 := eq_true c28
            have c28b1 : decide (5 ≤ (t101.size : Int)) = true := decide_eq_true c28
            clear c28
            have H' := Aside0.mk H
            clear H
            go_wp2
            go_meet
            case rel => exact ⟨_, (((t101.extract 0 5).toList != ([80, 65, 78, 73, 67] : List UInt8))), (by first | rfl | (simp; done) | (simp [*]; done)), H', ⟨by have := HJ5.out; have := HJ9.out; first | omega | exact Nat.le_refl _⟩, ⟨by (with_reducible repeat (first | apply Kd.R_alloc | apply Kd.R_drewN | apply Kd.R_drew)); exact HO109.out⟩, ⟨by repeat (first | (with_reducible first | exact HB.out | apply below_alloc | apply pw_below_drewN | apply below_drew1) | exact HB.out)⟩⟩
           ·
            rw [if_neg c28] at H
            exact absurd H (by simp)
          ·
           rw [if_neg c27] at H
           exact absurd H (by simp)
        case rest =>
         clear HC19
         try clear c1
         try clear c2
         try clear p2
         try clear c3
         try clear c7
         try clear c7b0
         try clear c8
         try clear c8b0
         try clear c9
         try clear c9b0
         try clear c11
         try clear c13
         try clear c16
         try clear c16b0
         try clear c16b1
         try clear c16b2
         try clear c17
         try clear c17b0
         try clear c17b1
         try clear c17b2
         try clear c18
         try clear c18b0
         try clear c18b1
         try clear c18b2
         try clear c22
         try clear c24
         try clear c26
         try clear c26b0
         try clear c26b1
         try clear c27
         try clear c27b0
         try clear c27b1
         try clear c28
         try clear c28b0
         try clear c28b1
         try clear p2
         obtain ⟨kq, x61_18, rfl, HA, HJ18, HO_7, HB⟩ := hcut
         cases kq with
         | zero => exact absurd HA.out (by simp [platenlaw10_BadBack.j2])
         | succ kj18 =>
          have H := HA.out
          clear HA
          simp only [platenlaw10_BadBack.j2] at H
          have HC29 := Aside0.mk H
          clear H
          go_upto_if 61 with (fail)
          go_cut [7] (fun v7 wc => ∃ (kq : Nat) (x7_28 : List (S41)), Aside0 (platenlaw10_BadBack.j3 kq x0_9 t101 t102 x7_28 = some r) ∧ Aside0 (kq ≤ kj18) ∧ Aside0 (Kd.R k41 41 wc w.heap.size (fun _ => True) v7 x7_28) ∧ Aside0 (Below w.heap.size w wc))
          case first =>
           have H := HC29.out
           clear HC29
           by_cases c30 : x61_18 = true
           ·
            subst c30
            have H1 : ((bad_Verb.f x0_9 t101 t102).bind fun t110 => (if t101.size + 1 ≤ 9223372036854775807 then (if (t101 ++ (⟨#[61]⟩ : ByteArray)).size + t102.size ≤ 9223372036854775807 then (if y107.length < 3518437208883 then (platenlaw10_BadBack.j3 kj18 x0_9 t101 t102 (y107 ++ [(⟨t110, 1, (t101 ++ (⟨#[61]⟩ : ByteArray)) ++ t102⟩ : S41)])) else (none)) else (none)) else (none))) = some r := by rw [if_pos rfl] at H; exact H
            clear H
            have H := H1
            clear H1
            replace H := Option.bind_eq_some_iff.mp H
            obtain ⟨t110, A310, H⟩ := H
            replace H : (if t101.size + 1 ≤ 9223372036854775807 then (if (t101 ++ (⟨#[61]⟩ : ByteArray)).size + t102.size ≤ 9223372036854775807 then (if y107.length < 3518437208883 then (platenlaw10_BadBack.j3 kj18 x0_9 t101 t102 (y107 ++ [(⟨t110, 1, (t101 ++ (⟨#[61]⟩ : ByteArray)) ++ t102⟩ : S41)])) else (none)) else (none)) else (none)) = some r := H
            have A31 := Aside0.mk A310
            clear A310
            by_cases c32 : t101.size + 1 ≤ 9223372036854775807
            ·
             rw [if_pos c32] at H
             have c32b0 := eq_true c32
             have c32b1 : decide (t101.size + 1 ≤ 9223372036854775807) = true := decide_eq_true c32
             try have c32b2 : (9223372036854775807 < t101.size + 1) = False := eq_false (Nat.not_lt.2 c32)
             by_cases c33 : (t101 ++ (⟨#[61]⟩ : ByteArray)).size + t102.size ≤ 9223372036854775807
             ·
              rw [if_pos c33] at H
              have c33b0 := eq_true c33
              have c33b1 : decide ((t101 ++ (⟨#[61]⟩ : ByteArray)).size + t102.size ≤ 9223372036854775807) = true := decide_eq_true c33
              try have c33b2 : (9223372036854775807 < (t101 ++ (⟨#[61]⟩ : ByteArray)).size + t102.size) = False := eq_false (Nat.not_lt.2 c33)
              try have c33b4 : (9223372036854775807 < t101.size + 1 + t102.size) = False := eq_false (by have z_ := c33; simp only [ByteArray.size_append', ByteArray.size_mk', List.size_toArray, List.length_cons, List.length_nil] at z_; omega)
              by_cases c34 : y107.length < 3518437208883
              ·
               rw [if_pos c34] at H
               have LMc34 := Aside0.mk c34
               clear c34
               obtain ⟨y111, hy111⟩ : ∃ y_ : List (S41), y_ = (y107 ++ [(⟨t110, 1, (t101 ++ (⟨#[61]⟩ : ByteArray)) ++ t102⟩ : S41)]) := ⟨_, rfl⟩
               replace H : (platenlaw10_BadBack.j3 kj18 x0_9 t101 t102 y111) = some r := by first | (rw [hy111]; with_reducible exact H) | (have H2_ := (Option.bind_some _ _).symm.trans H; rw [hy111]; with_reducible exact H2_) | (have H2_ := (Option.bind_some _ _).symm.trans H; with_reducible exact H2_) | with_reducible exact H | (rw [hy111]; exact H) | exact H
               have Ny111 := Aside0.mk hy111
               clear hy111
               have H' := Aside0.mk H
               clear H
               go_wp2_with (first | ((with_reducible refine gate_callee (f := 16) rfl ?_); refine goesL_ (some 66) rfl rfl Tryd.func16 (by kernel_rfl) rfl #[.int .i32 x0_9, .string t101, .string t102] rfl (by (try simp only [List.map_toArray, List.map_cons, List.map_nil]); first | done | rfl | (simp only [List.length_drop, List.length_take]; rfl)) ?_; (with_reducible refine (bad_Verb.calls x0_9 t101 t102 t110 _ (by (try refine Aside0.mk ?_); first | exact hOK.out | exact (hOK.out).drewN _ | (refine (hOK.out).later ?_; (repeat (first | (with_reducible first | exact HB.out | apply below_alloc | apply pw_below_drewN | apply below_drew1) | exact HB.out | (refine Below.setCell ?_ (show _ ≤ _ from Aside0.out (by assumption)) _)))) | (refine Ok.drewN ?_ _; exact hOK.out)) A31.out).mono ?_); rintro e w35 ⟨rfl, hb⟩; refine ⟨_, rfl, ?_⟩; have n0_ := Aside0.mk (Kd.R_below (by (with_reducible repeat (first | apply Kd.R_alloc | apply Kd.R_drewN | apply Kd.R_drew)); exact HO_7.out) hb); have n1_ := Aside0.mk (below_step (by repeat (first | (with_reducible first | exact HB.out | apply below_alloc | apply pw_below_drewN | apply below_drew1) | exact HB.out)) hb); clear HO_7; clear HB; have HO_7 := n0_; have HB := n1_; clear n0_ n1_; (try clear hb); (try clear hb2); (try clear hk); (try clear hi)) | ((with_reducible refine gate_builtin (b := .append) (xs := #[.tmp 62, .tmp 72]) rfl ?_); at_builtin; refine Kd.R_append k41 (w0 := w) w.heap.size rfl (.tmp 62) (.tmp 72) 42 41 (.agg #[(.string ⟨#[]⟩), (.int .i64 0), (.string ⟨#[]⟩)]) 40 rfl Tryd.underlying42 info41 rfl (by decide) (by omega) v108 y107 (⟨t110, 1, (t101 ++ (⟨#[61]⟩ : ByteArray)) ++ t102⟩ : S41) [.string t110, .int .i64 1, .string ((t101 ++ (⟨#[61]⟩ : ByteArray)) ++ t102)] (fun _ => True) (fun _ => False) rfl rfl ?aP (fun _ hk => hk.elim) ?aF ?aO ?aB ?aS ?aL ?_; (case aP => exact k41_mkM _ _ _ (⟨t110, 1, (t101 ++ (⟨#[61]⟩ : ByteArray)) ++ t102⟩ : S41)); (case aB => exact (by repeat (first | (with_reducible first | exact HB.out | apply below_alloc | apply pw_below_drewN | apply below_drew1) | exact HB.out))); (case aF => exact (fun _ _ => trivial)); (case aO => exact (by (with_reducible repeat (first | apply Kd.R_alloc | apply Kd.R_drewN | apply Kd.R_drew)); exact HO_7.out)); (case aS => exact (below_size (by repeat (first | (with_reducible first | exact HB.out | apply below_alloc | apply pw_below_drewN | apply below_drew1) | exact HB.out)))); (case aL => have := LMc34.out; omega); intro v112 w36 ho hb hg hat; rw [← Ny111.out] at ho; have n0_ := Aside0.mk (hb); have n1_ := Aside0.mk (ho); clear HB; clear HO_7; have HB := n0_; have HO113 := n1_; clear n0_ n1_; clear ho hb hg hat))
               go_meet
               case rel => exact ⟨_, (y111), H', ⟨by have := HJ5.out; have := HJ9.out; have := HJ18.out; first | omega | exact Nat.le_refl _⟩, ⟨by (with_reducible repeat (first | apply Kd.R_alloc | apply Kd.R_drewN | apply Kd.R_drew)); exact HO113.out⟩, ⟨by repeat (first | (with_reducible first | exact HB.out | apply below_alloc | apply pw_below_drewN | apply below_drew1) | exact HB.out)⟩⟩
              ·
               rw [if_neg c34] at H
               exact absurd H (by simp)
             ·
              rw [if_neg c33] at H
              exact absurd H (by simp)
            ·
             rw [if_neg c32] at H
             exact absurd H (by simp)
           ·
            replace c30 := Bool.eq_false_iff.mpr c30
            subst c30
            have H1 : (platenlaw10_BadBack.j3 kj18 x0_9 t101 t102 y107) = some r := by rw [if_neg (show ¬ (false = true) by decide)] at H; exact H
            clear H
            have H := H1
            clear H1
            have H' := Aside0.mk H
            clear H
            go_wp2
            go_meet
            case rel => exact ⟨_, (y107), H', ⟨by have := HJ5.out; have := HJ9.out; have := HJ18.out; first | omega | exact Nat.le_refl _⟩, ⟨by (with_reducible repeat (first | apply Kd.R_alloc | apply Kd.R_drewN | apply Kd.R_drew)); exact HO_7.out⟩, ⟨by repeat (first | (with_reducible first | exact HB.out | apply below_alloc | apply pw_below_drewN | apply below_drew1) | exact HB.out)⟩⟩
          case rest =>
           clear HC29
           try clear c1
           try clear c2
           try clear p2
           try clear c3
           try clear c7
           try clear c7b0
           try clear c8
           try clear c8b0
           try clear c9
           try clear c9b0
           try clear c11
           try clear c13
           try clear c16
           try clear c16b0
           try clear c16b1
           try clear c16b2
           try clear c17
           try clear c17b0
           try clear c17b1
           try clear c17b2
           try clear c18
           try clear c18b0
           try clear c18b1
           try clear c18b2
           try clear c22
           try clear c24
           try clear c26
           try clear c26b0
           try clear c26b1
           try clear c27
           try clear c27b0
           try clear c27b1
           try clear c28
           try clear c28b0
           try clear c28b1
           try clear c30
           try clear c32
           try clear c32b0
           try clear c32b1
           try clear c32b2
           try clear c33
           try clear c33b0
           try clear c33b1
           try clear c33b2
           try clear c34
           try clear p2
           obtain ⟨kq, x7_28, HA, HJ28, HO_7, HB⟩ := hcut
           cases kq with
           | zero => exact absurd HA.out (by simp [platenlaw10_BadBack.j3])
           | succ kj28 =>
            have H := HA.out
            clear HA
            simp only [platenlaw10_BadBack.j3] at H
            have H' := Aside0.mk H
            clear H
            obtain ⟨Ao37, co37, eo37⟩ := Kd.R_slice HO_7.out
            subst eo37
            go_wp2
            go_loopg [76] kj28 (fun kq v76 w' => ∃ (x76_5 : Int), v76 = .int .i64 x76_5 ∧ Aside0 (platenlaw10_BadBack.l0 kq x0_9 t101 t102 x7_28 (x7_28.length : Int) x76_5 = some r) ∧ Aside0 (kq ≤ kj28) ∧ Aside0 (Kd.R k41 41 w' w.heap.size (fun _ => True) (.slice Ao37 x7_28.length co37) x7_28) ∧ Aside0 (Below w.heap.size w w'))
            case atStart => exact ⟨(0), (by first | rfl | (simp; done) | (simp [*]; done)), H', ⟨Nat.le_refl _⟩, ⟨by (with_reducible repeat (first | apply Kd.R_alloc | apply Kd.R_drewN | apply Kd.R_drew)); exact HO_7.out⟩, ⟨by repeat (first | (with_reducible first | exact HB.out | apply below_alloc | apply pw_below_drewN | apply below_drew1) | exact HB.out)⟩⟩
            case round =>
             clear H'
             try clear c1
             try clear c2
             try clear p2
             try clear c3
             try clear c7
             try clear c7b0
             try clear c8
             try clear c8b0
             try clear c9
             try clear c9b0
             try clear c11
             try clear c13
             try clear c16
             try clear c16b0
             try clear c16b1
             try clear c16b2
             try clear c17
             try clear c17b0
             try clear c17b1
             try clear c17b2
             try clear c18
             try clear c18b0
             try clear c18b1
             try clear c18b2
             try clear c22
             try clear c24
             try clear c26
             try clear c26b0
             try clear c26b1
             try clear c27
             try clear c27b0
             try clear c27b1
             try clear c28
             try clear c28b0
             try clear c28b1
             try clear c30
             try clear c32
             try clear c32b0
             try clear c32b1
             try clear c32b2
             try clear c33
             try clear c33b0
             try clear c33b1
             try clear c33b2
             try clear c34
             try clear p2
             obtain ⟨x76_5, rfl, HA, HK5, HO_74, HB⟩ := hrel
             cases gk with
             | zero => exact absurd HA.out (by simp [platenlaw10_BadBack.l0])
             | succ k5 =>
              have H := HA.out
              clear HA
              simp only [platenlaw10_BadBack.l0] at H
              by_cases c38 : x76_5 < (x7_28.length : Int)
              ·
               rw [if_pos c38] at H
               have c38b0 : decide (x76_5 < (x7_28.length : Int)) = true := decide_eq_true c38
               clear c38
               by_cases c39 : 0 ≤ x76_5
               ·
                rw [if_pos c39] at H
                have c39b0 : decide (0 ≤ x76_5) = true := decide_eq_true c39
                clear c39
                by_cases c40 : x76_5 < (x7_28.length : Int)
                ·
                 rw [if_pos c40] at H
                 have c40b0 : decide (x76_5 < (x7_28.length : Int)) = true := decide_eq_true c40
                 clear c40
                 replace H := Option.bind_eq_some_iff.mp H
                 obtain ⟨⟨t116, t117, t118⟩, A410, H⟩ := H
                 replace H : (if t116 = ((rd_T41 x7_28 x76_5).f1) then (if t117 = x0_9 then (if t118.toList = ((rd_T41 x7_28 x76_5).f2).toList then (platenlaw10_BadBack.l0 k5 x0_9 t101 t102 x7_28 (x7_28.length : Int) (wrap64 (x76_5 + 1))) else (some false)) else (some false)) else (some false)) = some r := H
                 have A41 := Aside0.mk A410
                 clear A410
                 by_cases c42 : t116 = ((rd_T41 x7_28 x76_5).f1)
                 ·
                  rw [if_pos c42] at H
                  have c42b0 : (t116 == ((rd_T41 x7_28 x76_5).f1)) = true := beq_iff_eq.mpr c42
                  have c42b1 : (t116 != ((rd_T41 x7_28 x76_5).f1)) = false := bne_eq_false_iff_eq.mpr c42
                  clear c42
                  by_cases c43 : t117 = x0_9
                  ·
                   rw [if_pos c43] at H
                   have c43b0 : (t117 == x0_9) = true := beq_iff_eq.mpr c43
                   have c43b1 : (t117 != x0_9) = false := bne_eq_false_iff_eq.mpr c43
                   clear c43
                   by_cases c44 : t118.toList = ((rd_T41 x7_28 x76_5).f2).toList
                   ·
                    rw [if_pos c44] at H
                    have c44b0 : (t118.toList == ((rd_T41 x7_28 x76_5).f2).toList) = true := beq_iff_eq.mpr c44
                    have c44b1 : (t118.toList != ((rd_T41 x7_28 x76_5).f2).toList) = false := bne_eq_false_iff_eq.mpr c44
                    clear c44
                    have H' := Aside0.mk H
                    clear H
                    have p114 : 0 ≤ (x76_5 : Int) := of_decide_eq_true (by first | (with_reducible assumption) | assumption)
                    have q114 : x76_5 < (x7_28.length : Int) := of_decide_eq_true (by first | (with_reducible assumption) | assumption)
                    obtain ⟨ad114, e114, hx114_0, hx114_1, hx114_2⟩ := at_T41 (Kd.R_reads' HO_74.out).2.2 x76_5 p114 q114
                    cases e114
                    replace p114 := eq_true p114
                    replace q114 := eq_true q114
                    go_wp2_with (first | ((with_reducible refine gate_dst (N := 9) rfl ?_); refine box_event ?hg (N := 9) ?hd (cs := #[.string (⟨#[]⟩ : ByteArray), .int .i64 0, .string (⟨#[]⟩ : ByteArray)]) (t := 41) ?hr ?_; (case hd => rfl); (case hg => rfl); (case hr => first | (go_simp; done) | (go_simp; rfl)); intro gb115 hg w45 hbox hb; have n0_ := Aside0.mk (Kd.R_below (Kd.R_elderB (by (with_reducible repeat (first | apply Kd.R_alloc | apply Kd.R_drewN | apply Kd.R_drew)); exact HO_74.out) gb115 (Nat.le_of_eq hg.symm)) hb); have n1_ := Aside0.mk (below_step (by repeat (first | (with_reducible first | exact HB.out | apply below_alloc | apply pw_below_drewN | apply below_drew1) | exact HB.out)) hb); have n2_ := Aside0.mk (hbox); have n3_ := Aside0.mk ((by rw [hg]; exact (below_size (by repeat (first | (with_reducible first | exact HB.out | apply below_alloc | apply pw_below_drewN | apply below_drew1) | exact HB.out))) : w.heap.size ≤ gb115)); have n4_ := Aside0.mk ((by rw [hg]; exact (below_size (by repeat (first | (with_reducible first | exact HB.out | apply below_alloc | apply pw_below_drewN | apply below_drew1) | exact HB.out))) : w.heap.size ≤ gb115)); clear HO_74; clear HB; have HO_74 := n0_; have HB := n1_; have BK115 := n2_; have GW115 := n3_; have GE115 := n4_; clear n0_ n1_ n2_ n3_ n4_; clear hb hbox hg; have hcz46_0 : w45.cell? ⟨gb115, 0, none⟩ = some (.string (⟨#[]⟩ : ByteArray)) := (blk_cell BK115.out 0).trans rfl; have hcz46_1 : w45.cell? ⟨gb115, 1, none⟩ = some (.int .i64 0) := (blk_cell BK115.out 1).trans rfl; have hcz46_2 : w45.cell? ⟨gb115, 2, none⟩ = some (.string (⟨#[]⟩ : ByteArray)) := (blk_cell BK115.out 2).trans rfl; have hfz46_0 := blk_frozen BK115.out 0; have hfz46_1 := blk_frozen BK115.out 1; have hfz46_2 := blk_frozen BK115.out 2) | ((with_reducible refine gate_callee (f := 14) rfl ?_); refine goesL_ (some 83) rfl rfl Tryd.func14 (by kernel_rfl) rfl #[.string ((rd_T41 x7_28 x76_5).f0)] rfl (by (try simp only [List.map_toArray, List.map_cons, List.map_nil]); first | done | rfl | (simp only [List.length_drop, List.length_take]; rfl)) ?_; (with_reducible refine (bad_Read.calls ((rd_T41 x7_28 x76_5).f0) t116 t117 t118 _ (by (try refine Aside0.mk ?_); first | exact hOK.out | exact (hOK.out).drewN _ | (refine (hOK.out).later ?_; (repeat (first | (with_reducible first | exact HB.out | apply below_alloc | apply pw_below_drewN | apply below_drew1) | exact HB.out | (refine Below.setCell ?_ (show _ ≤ _ from Aside0.out (by assumption)) _)))) | (refine Ok.drewN ?_ _; exact hOK.out)) A41.out).mono ?_); rintro e w47 ⟨rfl, hb⟩; refine ⟨_, rfl, ?_⟩; have n0_ := Aside0.mk (Kd.R_below (by (with_reducible repeat (first | apply Kd.R_alloc | apply Kd.R_drewN | apply Kd.R_drew)); exact (Kd.R_mono (Kd.R_far (p := ⟨gb115, 2, none⟩) (Kd.R_far (p := ⟨gb115, 1, none⟩) (Kd.R_far (p := ⟨gb115, 0, none⟩) (Kd.R_mono HO_74.out (fun k_ hk => (⟨hk, hk.2⟩ : _ ∧ k_ ≠ gb115))) (fun _ hk => hk.2) (.string ((rd_T41 x7_28 x76_5).f0))) (fun _ hk => hk.2) (.int .i64 ((rd_T41 x7_28 x76_5).f1))) (fun _ hk => hk.2) (.string ((rd_T41 x7_28 x76_5).f2))) (fun _ h_ => h_.1))) hb); have n1_ := Aside0.mk (blk_below (g := gb115) (o := .cells #[.string ((rd_T41 x7_28 x76_5).f0), .int .i64 ((rd_T41 x7_28 x76_5).f1), .string ((rd_T41 x7_28 x76_5).f2)] 41 (0, 0)) (by (with_reducible repeat (first | refine blk_drewN ?_ _ | refine blk_drew ?_ | refine blk_alloc ?_ _)); refine blk_put (cs := #[.string ((rd_T41 x7_28 x76_5).f0), .int .i64 ((rd_T41 x7_28 x76_5).f1), .string (⟨#[]⟩ : ByteArray)]) ?_ 2 _ rfl; (with_reducible repeat (first | refine blk_drewN ?_ _ | refine blk_drew ?_ | refine blk_alloc ?_ _)); refine blk_put (cs := #[.string ((rd_T41 x7_28 x76_5).f0), .int .i64 0, .string (⟨#[]⟩ : ByteArray)]) ?_ 1 _ rfl; (with_reducible repeat (first | refine blk_drewN ?_ _ | refine blk_drew ?_ | refine blk_alloc ?_ _)); refine blk_put (cs := #[.string (⟨#[]⟩ : ByteArray), .int .i64 0, .string (⟨#[]⟩ : ByteArray)]) ?_ 0 _ rfl; (with_reducible repeat (first | refine blk_drewN ?_ _ | refine blk_drew ?_ | refine blk_alloc ?_ _)); exact BK115.out) hb); have n2_ := Aside0.mk (below_step (by repeat (first | (with_reducible first | exact HB.out | apply below_alloc | apply pw_below_drewN | apply below_drew1 | refine below_set ?_ GE115.out) | exact HB.out)) hb); clear HO_74; clear BK115; clear HB; have HO_74 := n0_; have BK115 := n1_; have HB := n2_; clear n0_ n1_ n2_; (try clear hb); (try clear hb2); (try clear hk); (try clear hi); have hcz48_0 : w47.cell? ⟨gb115, 0, none⟩ = some (.string ((rd_T41 x7_28 x76_5).f0)) := (blk_cell BK115.out 0).trans rfl; have hcz48_1 : w47.cell? ⟨gb115, 1, none⟩ = some (.int .i64 ((rd_T41 x7_28 x76_5).f1)) := (blk_cell BK115.out 1).trans rfl; have hcz48_2 : w47.cell? ⟨gb115, 2, none⟩ = some (.string ((rd_T41 x7_28 x76_5).f2)) := (blk_cell BK115.out 2).trans rfl; have hfz48_0 := blk_frozen BK115.out 0; have hfz48_1 := blk_frozen BK115.out 1; have hfz48_2 := blk_frozen BK115.out 2))
                    go_roundg k5
                    case measure => have := HJ5.out; have := HJ9.out; have := HJ18.out; have := HJ28.out; have := HK5.out; omega
                    case rel => exact ⟨(wrap64 (x76_5 + 1)), (by first | rfl | (simp; done) | (simp [*]; done)), H', ⟨by have := HJ5.out; have := HJ9.out; have := HJ18.out; have := HJ28.out; have := HK5.out; omega⟩, ⟨by (with_reducible repeat (first | apply Kd.R_alloc | apply Kd.R_drewN | apply Kd.R_drew)); exact Kd.R_mono HO_74.out (fun _ hk => trivial)⟩, ⟨by repeat (first | (with_reducible first | exact HB.out | apply below_alloc | apply pw_below_drewN | apply below_drew1 | refine below_set ?_ GE115.out) | exact HB.out)⟩⟩
                   ·
                    rw [if_neg c44] at H
                    have c44b0 : (t118.toList == ((rd_T41 x7_28 x76_5).f2).toList) = false := beq_eq_false_iff_ne.mpr c44
                    have c44b1 : (t118.toList != ((rd_T41 x7_28 x76_5).f2).toList) = true := bne_iff_ne.mpr c44
                    obtain rfl := Option.some.inj H
                    have p114 : 0 ≤ (x76_5 : Int) := of_decide_eq_true (by first | (with_reducible assumption) | assumption)
                    have q114 : x76_5 < (x7_28.length : Int) := of_decide_eq_true (by first | (with_reducible assumption) | assumption)
                    obtain ⟨ad114, e114, hx114_0, hx114_1, hx114_2⟩ := at_T41 (Kd.R_reads' HO_74.out).2.2 x76_5 p114 q114
                    cases e114
                    replace p114 := eq_true p114
                    replace q114 := eq_true q114
                    go_wp2_with (first | ((with_reducible refine gate_dst (N := 9) rfl ?_); refine box_event ?hg (N := 9) ?hd (cs := #[.string (⟨#[]⟩ : ByteArray), .int .i64 0, .string (⟨#[]⟩ : ByteArray)]) (t := 41) ?hr ?_; (case hd => rfl); (case hg => rfl); (case hr => first | (go_simp; done) | (go_simp; rfl)); intro gb115 hg w49 hbox hb; have n0_ := Aside0.mk (Kd.R_below (Kd.R_elderB (by (with_reducible repeat (first | apply Kd.R_alloc | apply Kd.R_drewN | apply Kd.R_drew)); exact HO_74.out) gb115 (Nat.le_of_eq hg.symm)) hb); have n1_ := Aside0.mk (below_step (by repeat (first | (with_reducible first | exact HB.out | apply below_alloc | apply pw_below_drewN | apply below_drew1) | exact HB.out)) hb); have n2_ := Aside0.mk (hbox); have n3_ := Aside0.mk ((by rw [hg]; exact (below_size (by repeat (first | (with_reducible first | exact HB.out | apply below_alloc | apply pw_below_drewN | apply below_drew1) | exact HB.out))) : w.heap.size ≤ gb115)); have n4_ := Aside0.mk ((by rw [hg]; exact (below_size (by repeat (first | (with_reducible first | exact HB.out | apply below_alloc | apply pw_below_drewN | apply below_drew1) | exact HB.out))) : w.heap.size ≤ gb115)); clear HO_74; clear HB; have HO_74 := n0_; have HB := n1_; have BK115 := n2_; have GW115 := n3_; have GE115 := n4_; clear n0_ n1_ n2_ n3_ n4_; clear hb hbox hg; have hcz50_0 : w49.cell? ⟨gb115, 0, none⟩ = some (.string (⟨#[]⟩ : ByteArray)) := (blk_cell BK115.out 0).trans rfl; have hcz50_1 : w49.cell? ⟨gb115, 1, none⟩ = some (.int .i64 0) := (blk_cell BK115.out 1).trans rfl; have hcz50_2 : w49.cell? ⟨gb115, 2, none⟩ = some (.string (⟨#[]⟩ : ByteArray)) := (blk_cell BK115.out 2).trans rfl; have hfz50_0 := blk_frozen BK115.out 0; have hfz50_1 := blk_frozen BK115.out 1; have hfz50_2 := blk_frozen BK115.out 2) | ((with_reducible refine gate_callee (f := 14) rfl ?_); refine goesL_ (some 83) rfl rfl Tryd.func14 (by kernel_rfl) rfl #[.string ((rd_T41 x7_28 x76_5).f0)] rfl (by (try simp only [List.map_toArray, List.map_cons, List.map_nil]); first | done | rfl | (simp only [List.length_drop, List.length_take]; rfl)) ?_; (with_reducible refine (bad_Read.calls ((rd_T41 x7_28 x76_5).f0) t116 t117 t118 _ (by (try refine Aside0.mk ?_); first | exact hOK.out | exact (hOK.out).drewN _ | (refine (hOK.out).later ?_; (repeat (first | (with_reducible first | exact HB.out | apply below_alloc | apply pw_below_drewN | apply below_drew1) | exact HB.out | (refine Below.setCell ?_ (show _ ≤ _ from Aside0.out (by assumption)) _)))) | (refine Ok.drewN ?_ _; exact hOK.out)) A41.out).mono ?_); rintro e w51 ⟨rfl, hb⟩; refine ⟨_, rfl, ?_⟩; have n0_ := Aside0.mk (Kd.R_below (by (with_reducible repeat (first | apply Kd.R_alloc | apply Kd.R_drewN | apply Kd.R_drew)); exact (Kd.R_mono (Kd.R_far (p := ⟨gb115, 2, none⟩) (Kd.R_far (p := ⟨gb115, 1, none⟩) (Kd.R_far (p := ⟨gb115, 0, none⟩) (Kd.R_mono HO_74.out (fun k_ hk => (⟨hk, hk.2⟩ : _ ∧ k_ ≠ gb115))) (fun _ hk => hk.2) (.string ((rd_T41 x7_28 x76_5).f0))) (fun _ hk => hk.2) (.int .i64 ((rd_T41 x7_28 x76_5).f1))) (fun _ hk => hk.2) (.string ((rd_T41 x7_28 x76_5).f2))) (fun _ h_ => h_.1))) hb); have n1_ := Aside0.mk (blk_below (g := gb115) (o := .cells #[.string ((rd_T41 x7_28 x76_5).f0), .int .i64 ((rd_T41 x7_28 x76_5).f1), .string ((rd_T41 x7_28 x76_5).f2)] 41 (0, 0)) (by (with_reducible repeat (first | refine blk_drewN ?_ _ | refine blk_drew ?_ | refine blk_alloc ?_ _)); refine blk_put (cs := #[.string ((rd_T41 x7_28 x76_5).f0), .int .i64 ((rd_T41 x7_28 x76_5).f1), .string (⟨#[]⟩ : ByteArray)]) ?_ 2 _ rfl; (with_reducible repeat (first | refine blk_drewN ?_ _ | refine blk_drew ?_ | refine blk_alloc ?_ _)); refine blk_put (cs := #[.string ((rd_T41 x7_28 x76_5).f0), .int .i64 0, .string (⟨#[]⟩ : ByteArray)]) ?_ 1 _ rfl; (with_reducible repeat (first | refine blk_drewN ?_ _ | refine blk_drew ?_ | refine blk_alloc ?_ _)); refine blk_put (cs := #[.string (⟨#[]⟩ : ByteArray), .int .i64 0, .string (⟨#[]⟩ : ByteArray)]) ?_ 0 _ rfl; (with_reducible repeat (first | refine blk_drewN ?_ _ | refine blk_drew ?_ | refine blk_alloc ?_ _)); exact BK115.out) hb); have n2_ := Aside0.mk (below_step (by repeat (first | (with_reducible first | exact HB.out | apply below_alloc | apply pw_below_drewN | apply below_drew1 | refine below_set ?_ GE115.out) | exact HB.out)) hb); clear HO_74; clear BK115; clear HB; have HO_74 := n0_; have BK115 := n1_; have HB := n2_; clear n0_ n1_ n2_; (try clear hb); (try clear hb2); (try clear hk); (try clear hi); have hcz52_0 : w51.cell? ⟨gb115, 0, none⟩ = some (.string ((rd_T41 x7_28 x76_5).f0)) := (blk_cell BK115.out 0).trans rfl; have hcz52_1 : w51.cell? ⟨gb115, 1, none⟩ = some (.int .i64 ((rd_T41 x7_28 x76_5).f1)) := (blk_cell BK115.out 1).trans rfl; have hcz52_2 : w51.cell? ⟨gb115, 2, none⟩ = some (.string ((rd_T41 x7_28 x76_5).f2)) := (blk_cell BK115.out 2).trans rfl; have hfz52_0 := blk_frozen BK115.out 0; have hfz52_1 := blk_frozen BK115.out 1; have hfz52_2 := blk_frozen BK115.out 2))
                    go_ret
                    exact ⟨by first | rfl | (simp [errW_none, errW_some] <;> rfl) | (simp [*, errW_none, errW_some] <;> rfl), by repeat (first | (with_reducible first | exact HB.out | apply below_alloc | apply pw_below_drewN | apply below_drew1 | refine below_set ?_ GE115.out) | exact HB.out)⟩
                  ·
                   rw [if_neg c43] at H
                   have c43b0 : (t117 == x0_9) = false := beq_eq_false_iff_ne.mpr c43
                   have c43b1 : (t117 != x0_9) = true := bne_iff_ne.mpr c43
                   obtain rfl := Option.some.inj H
                   have p114 : 0 ≤ (x76_5 : Int) := of_decide_eq_true (by first | (with_reducible assumption) | assumption)
                   have q114 : x76_5 < (x7_28.length : Int) := of_decide_eq_true (by first | (with_reducible assumption) | assumption)
                   obtain ⟨ad114, e114, hx114_0, hx114_1, hx114_2⟩ := at_T41 (Kd.R_reads' HO_74.out).2.2 x76_5 p114 q114
                   cases e114
                   replace p114 := eq_true p114
                   replace q114 := eq_true q114
                   go_wp2_with (first | ((with_reducible refine gate_dst (N := 9) rfl ?_); refine box_event ?hg (N := 9) ?hd (cs := #[.string (⟨#[]⟩ : ByteArray), .int .i64 0, .string (⟨#[]⟩ : ByteArray)]) (t := 41) ?hr ?_; (case hd => rfl); (case hg => rfl); (case hr => first | (go_simp; done) | (go_simp; rfl)); intro gb115 hg w53 hbox hb; have n0_ := Aside0.mk (Kd.R_below (Kd.R_elderB (by (with_reducible repeat (first | apply Kd.R_alloc | apply Kd.R_drewN | apply Kd.R_drew)); exact HO_74.out) gb115 (Nat.le_of_eq hg.symm)) hb); have n1_ := Aside0.mk (below_step (by repeat (first | (with_reducible first | exact HB.out | apply below_alloc | apply pw_below_drewN | apply below_drew1) | exact HB.out)) hb); have n2_ := Aside0.mk (hbox); have n3_ := Aside0.mk ((by rw [hg]; exact (below_size (by repeat (first | (with_reducible first | exact HB.out | apply below_alloc | apply pw_below_drewN | apply below_drew1) | exact HB.out))) : w.heap.size ≤ gb115)); have n4_ := Aside0.mk ((by rw [hg]; exact (below_size (by repeat (first | (with_reducible first | exact HB.out | apply below_alloc | apply pw_below_drewN | apply below_drew1) | exact HB.out))) : w.heap.size ≤ gb115)); clear HO_74; clear HB; have HO_74 := n0_; have HB := n1_; have BK115 := n2_; have GW115 := n3_; have GE115 := n4_; clear n0_ n1_ n2_ n3_ n4_; clear hb hbox hg; have hcz54_0 : w53.cell? ⟨gb115, 0, none⟩ = some (.string (⟨#[]⟩ : ByteArray)) := (blk_cell BK115.out 0).trans rfl; have hcz54_1 : w53.cell? ⟨gb115, 1, none⟩ = some (.int .i64 0) := (blk_cell BK115.out 1).trans rfl; have hcz54_2 : w53.cell? ⟨gb115, 2, none⟩ = some (.string (⟨#[]⟩ : ByteArray)) := (blk_cell BK115.out 2).trans rfl; have hfz54_0 := blk_frozen BK115.out 0; have hfz54_1 := blk_frozen BK115.out 1; have hfz54_2 := blk_frozen BK115.out 2) | ((with_reducible refine gate_callee (f := 14) rfl ?_); refine goesL_ (some 83) rfl rfl Tryd.func14 (by kernel_rfl) rfl #[.string ((rd_T41 x7_28 x76_5).f0)] rfl (by (try simp only [List.map_toArray, List.map_cons, List.map_nil]); first | done | rfl | (simp only [List.length_drop, List.length_take]; rfl)) ?_; (with_reducible refine (bad_Read.calls ((rd_T41 x7_28 x76_5).f0) t116 t117 t118 _ (by (try refine Aside0.mk ?_); first | exact hOK.out | exact (hOK.out).drewN _ | (refine (hOK.out).later ?_; (repeat (first | (with_reducible first | exact HB.out | apply below_alloc | apply pw_below_drewN | apply below_drew1) | exact HB.out | (refine Below.setCell ?_ (show _ ≤ _ from Aside0.out (by assumption)) _)))) | (refine Ok.drewN ?_ _; exact hOK.out)) A41.out).mono ?_); rintro e w55 ⟨rfl, hb⟩; refine ⟨_, rfl, ?_⟩; have n0_ := Aside0.mk (Kd.R_below (by (with_reducible repeat (first | apply Kd.R_alloc | apply Kd.R_drewN | apply Kd.R_drew)); exact (Kd.R_mono (Kd.R_far (p := ⟨gb115, 2, none⟩) (Kd.R_far (p := ⟨gb115, 1, none⟩) (Kd.R_far (p := ⟨gb115, 0, none⟩) (Kd.R_mono HO_74.out (fun k_ hk => (⟨hk, hk.2⟩ : _ ∧ k_ ≠ gb115))) (fun _ hk => hk.2) (.string ((rd_T41 x7_28 x76_5).f0))) (fun _ hk => hk.2) (.int .i64 ((rd_T41 x7_28 x76_5).f1))) (fun _ hk => hk.2) (.string ((rd_T41 x7_28 x76_5).f2))) (fun _ h_ => h_.1))) hb); have n1_ := Aside0.mk (blk_below (g := gb115) (o := .cells #[.string ((rd_T41 x7_28 x76_5).f0), .int .i64 ((rd_T41 x7_28 x76_5).f1), .string ((rd_T41 x7_28 x76_5).f2)] 41 (0, 0)) (by (with_reducible repeat (first | refine blk_drewN ?_ _ | refine blk_drew ?_ | refine blk_alloc ?_ _)); refine blk_put (cs := #[.string ((rd_T41 x7_28 x76_5).f0), .int .i64 ((rd_T41 x7_28 x76_5).f1), .string (⟨#[]⟩ : ByteArray)]) ?_ 2 _ rfl; (with_reducible repeat (first | refine blk_drewN ?_ _ | refine blk_drew ?_ | refine blk_alloc ?_ _)); refine blk_put (cs := #[.string ((rd_T41 x7_28 x76_5).f0), .int .i64 0, .string (⟨#[]⟩ : ByteArray)]) ?_ 1 _ rfl; (with_reducible repeat (first | refine blk_drewN ?_ _ | refine blk_drew ?_ | refine blk_alloc ?_ _)); refine blk_put (cs := #[.string (⟨#[]⟩ : ByteArray), .int .i64 0, .string (⟨#[]⟩ : ByteArray)]) ?_ 0 _ rfl; (with_reducible repeat (first | refine blk_drewN ?_ _ | refine blk_drew ?_ | refine blk_alloc ?_ _)); exact BK115.out) hb); have n2_ := Aside0.mk (below_step (by repeat (first | (with_reducible first | exact HB.out | apply below_alloc | apply pw_below_drewN | apply below_drew1 | refine below_set ?_ GE115.out) | exact HB.out)) hb); clear HO_74; clear BK115; clear HB; have HO_74 := n0_; have BK115 := n1_; have HB := n2_; clear n0_ n1_ n2_; (try clear hb); (try clear hb2); (try clear hk); (try clear hi); have hcz56_0 : w55.cell? ⟨gb115, 0, none⟩ = some (.string ((rd_T41 x7_28 x76_5).f0)) := (blk_cell BK115.out 0).trans rfl; have hcz56_1 : w55.cell? ⟨gb115, 1, none⟩ = some (.int .i64 ((rd_T41 x7_28 x76_5).f1)) := (blk_cell BK115.out 1).trans rfl; have hcz56_2 : w55.cell? ⟨gb115, 2, none⟩ = some (.string ((rd_T41 x7_28 x76_5).f2)) := (blk_cell BK115.out 2).trans rfl; have hfz56_0 := blk_frozen BK115.out 0; have hfz56_1 := blk_frozen BK115.out 1; have hfz56_2 := blk_frozen BK115.out 2))
                   go_ret
                   exact ⟨by first | rfl | (simp [errW_none, errW_some] <;> rfl) | (simp [*, errW_none, errW_some] <;> rfl), by repeat (first | (with_reducible first | exact HB.out | apply below_alloc | apply pw_below_drewN | apply below_drew1 | refine below_set ?_ GE115.out) | exact HB.out)⟩
                 ·
                  rw [if_neg c42] at H
                  have c42b0 : (t116 == ((rd_T41 x7_28 x76_5).f1)) = false := beq_eq_false_iff_ne.mpr c42
                  have c42b1 : (t116 != ((rd_T41 x7_28 x76_5).f1)) = true := bne_iff_ne.mpr c42
                  obtain rfl := Option.some.inj H
                  have p114 : 0 ≤ (x76_5 : Int) := of_decide_eq_true (by first | (with_reducible assumption) | assumption)
                  have q114 : x76_5 < (x7_28.length : Int) := of_decide_eq_true (by first | (with_reducible assumption) | assumption)
                  obtain ⟨ad114, e114, hx114_0, hx114_1, hx114_2⟩ := at_T41 (Kd.R_reads' HO_74.out).2.2 x76_5 p114 q114
                  cases e114
                  replace p114 := eq_true p114
                  replace q114 := eq_true q114
                  go_wp2_with (first | ((with_reducible refine gate_dst (N := 9) rfl ?_); refine box_event ?hg (N := 9) ?hd (cs := #[.string (⟨#[]⟩ : ByteArray), .int .i64 0, .string (⟨#[]⟩ : ByteArray)]) (t := 41) ?hr ?_; (case hd => rfl); (case hg => rfl); (case hr => first | (go_simp; done) | (go_simp; rfl)); intro gb115 hg w57 hbox hb; have n0_ := Aside0.mk (Kd.R_below (Kd.R_elderB (by (with_reducible repeat (first | apply Kd.R_alloc | apply Kd.R_drewN | apply Kd.R_drew)); exact HO_74.out) gb115 (Nat.le_of_eq hg.symm)) hb); have n1_ := Aside0.mk (below_step (by repeat (first | (with_reducible first | exact HB.out | apply below_alloc | apply pw_below_drewN | apply below_drew1) | exact HB.out)) hb); have n2_ := Aside0.mk (hbox); have n3_ := Aside0.mk ((by rw [hg]; exact (below_size (by repeat (first | (with_reducible first | exact HB.out | apply below_alloc | apply pw_below_drewN | apply below_drew1) | exact HB.out))) : w.heap.size ≤ gb115)); have n4_ := Aside0.mk ((by rw [hg]; exact (below_size (by repeat (first | (with_reducible first | exact HB.out | apply below_alloc | apply pw_below_drewN | apply below_drew1) | exact HB.out))) : w.heap.size ≤ gb115)); clear HO_74; clear HB; have HO_74 := n0_; have HB := n1_; have BK115 := n2_; have GW115 := n3_; have GE115 := n4_; clear n0_ n1_ n2_ n3_ n4_; clear hb hbox hg; have hcz58_0 : w57.cell? ⟨gb115, 0, none⟩ = some (.string (⟨#[]⟩ : ByteArray)) := (blk_cell BK115.out 0).trans rfl; have hcz58_1 : w57.cell? ⟨gb115, 1, none⟩ = some (.int .i64 0) := (blk_cell BK115.out 1).trans rfl; have hcz58_2 : w57.cell? ⟨gb115, 2, none⟩ = some (.string (⟨#[]⟩ : ByteArray)) := (blk_cell BK115.out 2).trans rfl; have hfz58_0 := blk_frozen BK115.out 0; have hfz58_1 := blk_frozen BK115.out 1; have hfz58_2 := blk_frozen BK115.out 2) | ((with_reducible refine gate_callee (f := 14) rfl ?_); refine goesL_ (some 83) rfl rfl Tryd.func14 (by kernel_rfl) rfl #[.string ((rd_T41 x7_28 x76_5).f0)] rfl (by (try simp only [List.map_toArray, List.map_cons, List.map_nil]); first | done | rfl | (simp only [List.length_drop, List.length_take]; rfl)) ?_; (with_reducible refine (bad_Read.calls ((rd_T41 x7_28 x76_5).f0) t116 t117 t118 _ (by (try refine Aside0.mk ?_); first | exact hOK.out | exact (hOK.out).drewN _ | (refine (hOK.out).later ?_; (repeat (first | (with_reducible first | exact HB.out | apply below_alloc | apply pw_below_drewN | apply below_drew1) | exact HB.out | (refine Below.setCell ?_ (show _ ≤ _ from Aside0.out (by assumption)) _)))) | (refine Ok.drewN ?_ _; exact hOK.out)) A41.out).mono ?_); rintro e w59 ⟨rfl, hb⟩; refine ⟨_, rfl, ?_⟩; have n0_ := Aside0.mk (Kd.R_below (by (with_reducible repeat (first | apply Kd.R_alloc | apply Kd.R_drewN | apply Kd.R_drew)); exact (Kd.R_mono (Kd.R_far (p := ⟨gb115, 2, none⟩) (Kd.R_far (p := ⟨gb115, 1, none⟩) (Kd.R_far (p := ⟨gb115, 0, none⟩) (Kd.R_mono HO_74.out (fun k_ hk => (⟨hk, hk.2⟩ : _ ∧ k_ ≠ gb115))) (fun _ hk => hk.2) (.string ((rd_T41 x7_28 x76_5).f0))) (fun _ hk => hk.2) (.int .i64 ((rd_T41 x7_28 x76_5).f1))) (fun _ hk => hk.2) (.string ((rd_T41 x7_28 x76_5).f2))) (fun _ h_ => h_.1))) hb); have n1_ := Aside0.mk (blk_below (g := gb115) (o := .cells #[.string ((rd_T41 x7_28 x76_5).f0), .int .i64 ((rd_T41 x7_28 x76_5).f1), .string ((rd_T41 x7_28 x76_5).f2)] 41 (0, 0)) (by (with_reducible repeat (first | refine blk_drewN ?_ _ | refine blk_drew ?_ | refine blk_alloc ?_ _)); refine blk_put (cs := #[.string ((rd_T41 x7_28 x76_5).f0), .int .i64 ((rd_T41 x7_28 x76_5).f1), .string (⟨#[]⟩ : ByteArray)]) ?_ 2 _ rfl; (with_reducible repeat (first | refine blk_drewN ?_ _ | refine blk_drew ?_ | refine blk_alloc ?_ _)); refine blk_put (cs := #[.string ((rd_T41 x7_28 x76_5).f0), .int .i64 0, .string (⟨#[]⟩ : ByteArray)]) ?_ 1 _ rfl; (with_reducible repeat (first | refine blk_drewN ?_ _ | refine blk_drew ?_ | refine blk_alloc ?_ _)); refine blk_put (cs := #[.string (⟨#[]⟩ : ByteArray), .int .i64 0, .string (⟨#[]⟩ : ByteArray)]) ?_ 0 _ rfl; (with_reducible repeat (first | refine blk_drewN ?_ _ | refine blk_drew ?_ | refine blk_alloc ?_ _)); exact BK115.out) hb); have n2_ := Aside0.mk (below_step (by repeat (first | (with_reducible first | exact HB.out | apply below_alloc | apply pw_below_drewN | apply below_drew1 | refine below_set ?_ GE115.out) | exact HB.out)) hb); clear HO_74; clear BK115; clear HB; have HO_74 := n0_; have BK115 := n1_; have HB := n2_; clear n0_ n1_ n2_; (try clear hb); (try clear hb2); (try clear hk); (try clear hi); have hcz60_0 : w59.cell? ⟨gb115, 0, none⟩ = some (.string ((rd_T41 x7_28 x76_5).f0)) := (blk_cell BK115.out 0).trans rfl; have hcz60_1 : w59.cell? ⟨gb115, 1, none⟩ = some (.int .i64 ((rd_T41 x7_28 x76_5).f1)) := (blk_cell BK115.out 1).trans rfl; have hcz60_2 : w59.cell? ⟨gb115, 2, none⟩ = some (.string ((rd_T41 x7_28 x76_5).f2)) := (blk_cell BK115.out 2).trans rfl; have hfz60_0 := blk_frozen BK115.out 0; have hfz60_1 := blk_frozen BK115.out 1; have hfz60_2 := blk_frozen BK115.out 2))
                  go_ret
                  exact ⟨by first | rfl | (simp [errW_none, errW_some] <;> rfl) | (simp [*, errW_none, errW_some] <;> rfl), by repeat (first | (with_reducible first | exact HB.out | apply below_alloc | apply pw_below_drewN | apply below_drew1 | refine below_set ?_ GE115.out) | exact HB.out)⟩
                ·
                 rw [if_neg c40] at H
                 exact absurd H (by simp)
               ·
                rw [if_neg c39] at H
                exact absurd H (by simp)
              ·
               rw [if_neg c38] at H
               have c38b0 : decide (x76_5 < (x7_28.length : Int)) = false := decide_eq_false c38
               clear c38
               obtain ⟨y119, hy119⟩ : ∃ y_ : List ByteArray, y_ = (([t101] : List ByteArray)) := ⟨_, rfl⟩
               replace H : ((PGBad.bad_Extra.f k5 y119 (([t102] : List ByteArray))).bind fun t125 => ((bad_Read.f t125).bind fun bt126 => (if bt126.1 = 10 then (if bt126.2.1 = 0 then (if 6 + t101.size ≤ 9223372036854775807 then (if ((⟨#[69, 88, 84, 82, 65, 32]⟩ : ByteArray) ++ t101).size + 1 ≤ 9223372036854775807 then (if (((⟨#[69, 88, 84, 82, 65, 32]⟩ : ByteArray) ++ t101) ++ (⟨#[61]⟩ : ByteArray)).size + t102.size ≤ 9223372036854775807 then (if bt126.2.2.toList = ((((⟨#[69, 88, 84, 82, 65, 32]⟩ : ByteArray) ++ t101) ++ (⟨#[61]⟩ : ByteArray)) ++ t102).toList then ((PGBad.platenlaw10_lives.f k5).bind fun t129 => (some t129)) else (some false)) else (none)) else (none)) else (none)) else (some false)) else (some false)))) = some r := by first | (rw [hy119]; with_reducible exact H) | (have H2_ := (Option.bind_some _ _).symm.trans H; rw [hy119]; with_reducible exact H2_) | (have H2_ := (Option.bind_some _ _).symm.trans H; with_reducible exact H2_) | with_reducible exact H | (rw [hy119]; exact H) | exact H
               have Ny119 := Aside0.mk hy119
               clear hy119
               obtain ⟨y122, hy122⟩ : ∃ y_ : List ByteArray, y_ = (([t102] : List ByteArray)) := ⟨_, rfl⟩
               replace H : ((PGBad.bad_Extra.f k5 y119 y122).bind fun t125 => ((bad_Read.f t125).bind fun bt126 => (if bt126.1 = 10 then (if bt126.2.1 = 0 then (if 6 + t101.size ≤ 9223372036854775807 then (if ((⟨#[69, 88, 84, 82, 65, 32]⟩ : ByteArray) ++ t101).size + 1 ≤ 9223372036854775807 then (if (((⟨#[69, 88, 84, 82, 65, 32]⟩ : ByteArray) ++ t101) ++ (⟨#[61]⟩ : ByteArray)).size + t102.size ≤ 9223372036854775807 then (if bt126.2.2.toList = ((((⟨#[69, 88, 84, 82, 65, 32]⟩ : ByteArray) ++ t101) ++ (⟨#[61]⟩ : ByteArray)) ++ t102).toList then ((PGBad.platenlaw10_lives.f k5).bind fun t129 => (some t129)) else (some false)) else (none)) else (none)) else (none)) else (some false)) else (some false)))) = some r := by first | (rw [hy122]; with_reducible exact H) | (have H2_ := (Option.bind_some _ _).symm.trans H; rw [hy122]; with_reducible exact H2_) | (have H2_ := (Option.bind_some _ _).symm.trans H; with_reducible exact H2_) | with_reducible exact H | (rw [hy122]; exact H) | exact H
               have Ny122 := Aside0.mk hy122
               clear hy122
               replace H := Option.bind_eq_some_iff.mp H
               obtain ⟨t125, A610, H⟩ := H
               replace H : ((bad_Read.f t125).bind fun bt126 => (if bt126.1 = 10 then (if bt126.2.1 = 0 then (if 6 + t101.size ≤ 9223372036854775807 then (if ((⟨#[69, 88, 84, 82, 65, 32]⟩ : ByteArray) ++ t101).size + 1 ≤ 9223372036854775807 then (if (((⟨#[69, 88, 84, 82, 65, 32]⟩ : ByteArray) ++ t101) ++ (⟨#[61]⟩ : ByteArray)).size + t102.size ≤ 9223372036854775807 then (if bt126.2.2.toList = ((((⟨#[69, 88, 84, 82, 65, 32]⟩ : ByteArray) ++ t101) ++ (⟨#[61]⟩ : ByteArray)) ++ t102).toList then ((PGBad.platenlaw10_lives.f k5).bind fun t129 => (some t129)) else (some false)) else (none)) else (none)) else (none)) else (some false)) else (some false))) = some r := H
               have A61 := Aside0.mk A610
               clear A610
               replace H := Option.bind_eq_some_iff.mp H
               obtain ⟨⟨t126, t127, t128⟩, A620, H⟩ := H
               replace H : (if t126 = 10 then (if t127 = 0 then (if 6 + t101.size ≤ 9223372036854775807 then (if ((⟨#[69, 88, 84, 82, 65, 32]⟩ : ByteArray) ++ t101).size + 1 ≤ 9223372036854775807 then (if (((⟨#[69, 88, 84, 82, 65, 32]⟩ : ByteArray) ++ t101) ++ (⟨#[61]⟩ : ByteArray)).size + t102.size ≤ 9223372036854775807 then (if t128.toList = ((((⟨#[69, 88, 84, 82, 65, 32]⟩ : ByteArray) ++ t101) ++ (⟨#[61]⟩ : ByteArray)) ++ t102).toList then ((PGBad.platenlaw10_lives.f k5).bind fun t129 => (some t129)) else (some false)) else (none)) else (none)) else (none)) else (some false)) else (some false)) = some r := H
               have A62 := Aside0.mk A620
               clear A620
               by_cases c63 : t126 = 10
               ·
                rw [if_pos c63] at H
                have c63b0 : (t126 == 10) = true := beq_iff_eq.mpr c63
                have c63b1 : (t126 != 10) = false := bne_eq_false_iff_eq.mpr c63
                clear c63
                by_cases c64 : t127 = 0
                ·
                 rw [if_pos c64] at H
                 have c64b0 : (t127 == 0) = true := beq_iff_eq.mpr c64
                 have c64b1 : (t127 != 0) = false := bne_eq_false_iff_eq.mpr c64
                 clear c64
                 by_cases c65 : 6 + t101.size ≤ 9223372036854775807
                 ·
                  rw [if_pos c65] at H
                  have c65b0 := eq_true c65
                  have c65b1 : decide (6 + t101.size ≤ 9223372036854775807) = true := decide_eq_true c65
                  try have c65b2 : (9223372036854775807 < 6 + t101.size) = False := eq_false (Nat.not_lt.2 c65)
                  by_cases c66 : ((⟨#[69, 88, 84, 82, 65, 32]⟩ : ByteArray) ++ t101).size + 1 ≤ 9223372036854775807
                  ·
                   rw [if_pos c66] at H
                   have c66b0 := eq_true c66
                   have c66b1 : decide (((⟨#[69, 88, 84, 82, 65, 32]⟩ : ByteArray) ++ t101).size + 1 ≤ 9223372036854775807) = true := decide_eq_true c66
                   try have c66b2 : (9223372036854775807 < ((⟨#[69, 88, 84, 82, 65, 32]⟩ : ByteArray) ++ t101).size + 1) = False := eq_false (Nat.not_lt.2 c66)
                   try have c66b4 : (9223372036854775807 < 6 + t101.size + 1) = False := eq_false (by have z_ := c66; simp only [ByteArray.size_append', ByteArray.size_mk', List.size_toArray, List.length_cons, List.length_nil] at z_; omega)
                   by_cases c67 : (((⟨#[69, 88, 84, 82, 65, 32]⟩ : ByteArray) ++ t101) ++ (⟨#[61]⟩ : ByteArray)).size + t102.size ≤ 9223372036854775807
                   ·
                    rw [if_pos c67] at H
                    have c67b0 := eq_true c67
                    have c67b1 : decide ((((⟨#[69, 88, 84, 82, 65, 32]⟩ : ByteArray) ++ t101) ++ (⟨#[61]⟩ : ByteArray)).size + t102.size ≤ 9223372036854775807) = true := decide_eq_true c67
                    try have c67b2 : (9223372036854775807 < (((⟨#[69, 88, 84, 82, 65, 32]⟩ : ByteArray) ++ t101) ++ (⟨#[61]⟩ : ByteArray)).size + t102.size) = False := eq_false (Nat.not_lt.2 c67)
                    try have c67b4 : (9223372036854775807 < 6 + t101.size + 1 + t102.size) = False := eq_false (by have z_ := c67; simp only [ByteArray.size_append', ByteArray.size_mk', List.size_toArray, List.length_cons, List.length_nil] at z_; omega)
                    by_cases c68 : t128.toList = ((((⟨#[69, 88, 84, 82, 65, 32]⟩ : ByteArray) ++ t101) ++ (⟨#[61]⟩ : ByteArray)) ++ t102).toList
                    ·
                     rw [if_pos c68] at H
                     have c68b0 : (t128.toList == ((((⟨#[69, 88, 84, 82, 65, 32]⟩ : ByteArray) ++ t101) ++ (⟨#[61]⟩ : ByteArray)) ++ t102).toList) = true := beq_iff_eq.mpr c68
                     have c68b1 : (t128.toList != ((((⟨#[69, 88, 84, 82, 65, 32]⟩ : ByteArray) ++ t101) ++ (⟨#[61]⟩ : ByteArray)) ++ t102).toList) = false := bne_eq_false_iff_eq.mpr c68
                     clear c68
                     replace H := Option.bind_eq_some_iff.mp H
                     obtain ⟨t129, A690, H⟩ := H
                     replace H : (some t129) = some r := H
                     have A69 := Aside0.mk A690
                     clear A690
                     obtain rfl := Option.some.inj H
                     go_wp2_with (first | ((with_reducible refine gate_dst (N := 105) rfl ?_); refine Kd.R_lit Kd.string _ 9 ?hg (N := 105) ?hd (xs := ([t101] : List ByteArray)) (inner := [.string t101]) (ok := fun _ => True) (okp := fun _ => True) ?hr ?hp (fun _ hk => hk) trivial (Below.refl _ _) (Nat.le_refl _) (by simp) ?_; (case hd => rfl); (case hg => rfl); (case hr => first | (go_simp; done) | (go_simp; rfl)); (case hp => exact (Reps.one (show Kd.M Kd.string _ _ _ t101 [.string t101] from rfl) (Reps.none _ _))); intro v120 w70 ho71 hb hg_ hnew_; clear hg_ hnew_; (first | rw [← Ny119.out] at ho71 | (simp only [Int.reduceToNat] at ho71; rw [← Ny119.out] at ho71)); have n0_ := Aside0.mk (Kd.R_below (by (with_reducible repeat (first | apply Kd.R_alloc | apply Kd.R_drewN | apply Kd.R_drew)); exact HO_74.out) hb); have n1_ := Aside0.mk (Kd.R_lower ho71 (below_size (by repeat (first | (with_reducible first | exact HB.out | apply below_alloc | apply pw_below_drewN | apply below_drew1) | exact HB.out)))); have n2_ := Aside0.mk (below_step (by repeat (first | (with_reducible first | exact HB.out | apply below_alloc | apply pw_below_drewN | apply below_drew1) | exact HB.out)) hb); clear HO_74; clear HB; have HO_74 := n0_; have HO121 := n1_; have HB := n2_; clear n0_ n1_ n2_; clear hb ho71) | ((with_reducible refine gate_dst (N := 107) rfl ?_); refine Kd.R_lit Kd.string _ 9 ?hg (N := 107) ?hd (xs := ([t102] : List ByteArray)) (inner := [.string t102]) (ok := fun _ => True) (okp := fun _ => True) ?hr ?hp (fun _ hk => hk) trivial (Below.refl _ _) (Nat.le_refl _) (by simp) ?_; (case hd => rfl); (case hg => rfl); (case hr => first | (go_simp; done) | (go_simp; rfl)); (case hp => exact (Reps.one (show Kd.M Kd.string _ _ _ t102 [.string t102] from rfl) (Reps.none _ _))); intro v123 w72 ho73 hb hg_ hnew_; clear hg_ hnew_; (first | rw [← Ny122.out] at ho73 | (simp only [Int.reduceToNat] at ho73; rw [← Ny122.out] at ho73)); have n0_ := Aside0.mk (Kd.R_below (by (with_reducible repeat (first | apply Kd.R_alloc | apply Kd.R_drewN | apply Kd.R_drew)); exact HO_74.out) hb); have n1_ := Aside0.mk (Kd.R_elder' (by (with_reducible repeat (first | apply Kd.R_alloc | apply Kd.R_drewN | apply Kd.R_drew)); exact HO121.out) (Kd.R_base ho73) hb); have n2_ := Aside0.mk (Kd.R_lower (Kd.R_new' ho73 (Kd.R_lt (by (with_reducible repeat (first | apply Kd.R_alloc | apply Kd.R_drewN | apply Kd.R_drew)); exact HO121.out))) (below_size (by repeat (first | (with_reducible first | exact HB.out | apply below_alloc | apply pw_below_drewN | apply below_drew1) | exact HB.out)))); have n3_ := Aside0.mk (below_step (by repeat (first | (with_reducible first | exact HB.out | apply below_alloc | apply pw_below_drewN | apply below_drew1) | exact HB.out)) hb); clear HO_74; clear HO121; clear HB; have HO_74 := n0_; have HO121 := n1_; have HO124 := n2_; have HB := n3_; clear n0_ n1_ n2_ n3_; clear hb ho73; obtain ⟨Ao74, co74, eo74⟩ := Kd.R_slice HO121.out; subst eo74; obtain ⟨Ao75, co75, eo75⟩ := Kd.R_slice HO124.out; subst eo75) | ((with_reducible refine gate_callee (f := 9) rfl ?_); refine goesL_ (some 108) rfl rfl Tryd.func9 (by kernel_rfl) rfl #[.slice Ao74 y119.length co74, .slice Ao75 y122.length co75] rfl (by (try simp only [List.map_toArray, List.map_cons, List.map_nil]); first | done | rfl | (simp only [List.length_drop, List.length_take]; rfl)) ?_; (with_reducible refine (PGBad.bad_Extra.calls k5 _ _ y119 _ _ y122 t125 _ (by (try refine Aside0.mk ?_); first | exact hOK.out | exact (hOK.out).drewN _ | (refine (hOK.out).later ?_; (repeat (first | (with_reducible first | exact HB.out | apply below_alloc | apply pw_below_drewN | apply below_drew1) | exact HB.out | (refine Below.setCell ?_ (show _ ≤ _ from Aside0.out (by assumption)) _)))) | (refine Ok.drewN ?_ _; exact hOK.out)) ?side1 ?side2 ?side3 ?side4 A61.out).mono ?_); (case side1 => repeat (first | exact (Kd.R_reads' HO121.out).2.2 | (with_reducible refine Kd.C_alloc ?_ _) | (with_reducible refine Kd.C_drewN ?_ _) | (with_reducible refine Kd.C_drew ?_))); (case side2 => exact (Kd.R_reads' HO121.out).2.1); (case side3 => repeat (first | exact (Kd.R_reads' HO124.out).2.2 | (with_reducible refine Kd.C_alloc ?_ _) | (with_reducible refine Kd.C_drewN ?_ _) | (with_reducible refine Kd.C_drew ?_))); (case side4 => exact (Kd.R_reads' HO124.out).2.1); rintro e w76 ⟨rfl, hb⟩; refine ⟨_, rfl, ?_⟩; have n0_ := Aside0.mk (Kd.R_below (by (with_reducible repeat (first | apply Kd.R_alloc | apply Kd.R_drewN | apply Kd.R_drew)); exact HO_74.out) hb); have n1_ := Aside0.mk (Kd.R_below (by (with_reducible repeat (first | apply Kd.R_alloc | apply Kd.R_drewN | apply Kd.R_drew)); exact HO121.out) hb); have n2_ := Aside0.mk (Kd.R_below (by (with_reducible repeat (first | apply Kd.R_alloc | apply Kd.R_drewN | apply Kd.R_drew)); exact HO124.out) hb); have n3_ := Aside0.mk (below_step (by repeat (first | (with_reducible first | exact HB.out | apply below_alloc | apply pw_below_drewN | apply below_drew1) | exact HB.out)) hb); clear HO_74; clear HO121; clear HO124; clear HB; have HO_74 := n0_; have HO121 := n1_; have HO124 := n2_; have HB := n3_; clear n0_ n1_ n2_ n3_; (try clear hb); (try clear hb2); (try clear hk); (try clear hi)) | ((with_reducible refine gate_callee (f := 14) rfl ?_); refine goesL_ (some 109) rfl rfl Tryd.func14 (by kernel_rfl) rfl #[.string t125] rfl (by (try simp only [List.map_toArray, List.map_cons, List.map_nil]); first | done | rfl | (simp only [List.length_drop, List.length_take]; rfl)) ?_; (with_reducible refine (bad_Read.calls t125 t126 t127 t128 _ (by (try refine Aside0.mk ?_); first | exact hOK.out | exact (hOK.out).drewN _ | (refine (hOK.out).later ?_; (repeat (first | (with_reducible first | exact HB.out | apply below_alloc | apply pw_below_drewN | apply below_drew1) | exact HB.out | (refine Below.setCell ?_ (show _ ≤ _ from Aside0.out (by assumption)) _)))) | (refine Ok.drewN ?_ _; exact hOK.out)) A62.out).mono ?_); rintro e w77 ⟨rfl, hb⟩; refine ⟨_, rfl, ?_⟩; have n0_ := Aside0.mk (Kd.R_below (by (with_reducible repeat (first | apply Kd.R_alloc | apply Kd.R_drewN | apply Kd.R_drew)); exact HO_74.out) hb); have n1_ := Aside0.mk (Kd.R_below (by (with_reducible repeat (first | apply Kd.R_alloc | apply Kd.R_drewN | apply Kd.R_drew)); exact HO121.out) hb); have n2_ := Aside0.mk (Kd.R_below (by (with_reducible repeat (first | apply Kd.R_alloc | apply Kd.R_drewN | apply Kd.R_drew)); exact HO124.out) hb); have n3_ := Aside0.mk (below_step (by repeat (first | (with_reducible first | exact HB.out | apply below_alloc | apply pw_below_drewN | apply below_drew1) | exact HB.out)) hb); clear HO_74; clear HO121; clear HO124; clear HB; have HO_74 := n0_; have HO121 := n1_; have HO124 := n2_; have HB := n3_; clear n0_ n1_ n2_ n3_; (try clear hb); (try clear hb2); (try clear hk); (try clear hi)) | (go_at_call 12; (with_reducible refine (PGBad.platenlaw10_lives.calls k5  t129 _ (by (try refine Aside0.mk ?_); first | exact hOK.out | exact (hOK.out).drewN _ | (refine (hOK.out).later ?_; (repeat (first | (with_reducible first | exact HB.out | apply below_alloc | apply pw_below_drewN | apply below_drew1) | exact HB.out | (refine Below.setCell ?_ (show _ ≤ _ from Aside0.out (by assumption)) _)))) | (refine Ok.drewN ?_ _; exact hOK.out)) A69.out).mono ?_); rintro e w78 ⟨rfl, hb⟩; have n0_ := Aside0.mk (Kd.R_below (by (with_reducible repeat (first | apply Kd.R_alloc | apply Kd.R_drewN | apply Kd.R_drew)); exact HO_74.out) hb); have n1_ := Aside0.mk (Kd.R_below (by (with_reducible repeat (first | apply Kd.R_alloc | apply Kd.R_drewN | apply Kd.R_drew)); exact HO121.out) hb); have n2_ := Aside0.mk (Kd.R_below (by (with_reducible repeat (first | apply Kd.R_alloc | apply Kd.R_drewN | apply Kd.R_drew)); exact HO124.out) hb); have n3_ := Aside0.mk (below_step (by repeat (first | (with_reducible first | exact HB.out | apply below_alloc | apply pw_below_drewN | apply below_drew1) | exact HB.out)) hb); clear HO_74; clear HO121; clear HO124; clear HB; have HO_74 := n0_; have HO121 := n1_; have HO124 := n2_; have HB := n3_; clear n0_ n1_ n2_ n3_; (try clear hb); (try clear hb2); (try clear hk); (try clear hi)))
                     go_ret
                     exact ⟨by first | rfl | (simp [errW_none, errW_some] <;> rfl) | (simp [*, errW_none, errW_some] <;> rfl), by repeat (first | (with_reducible first | exact HB.out | apply below_alloc | apply pw_below_drewN | apply below_drew1) | exact HB.out)⟩
                    ·
                     rw [if_neg c68] at H
                     have c68b0 : (t128.toList == ((((⟨#[69, 88, 84, 82, 65, 32]⟩ : ByteArray) ++ t101) ++ (⟨#[61]⟩ : ByteArray)) ++ t102).toList) = false := beq_eq_false_iff_ne.mpr c68
                     have c68b1 : (t128.toList != ((((⟨#[69, 88, 84, 82, 65, 32]⟩ : ByteArray) ++ t101) ++ (⟨#[61]⟩ : ByteArray)) ++ t102).toList) = true := bne_iff_ne.mpr c68
                     obtain rfl := Option.some.inj H
                     go_wp2_with (first | ((with_reducible refine gate_dst (N := 105) rfl ?_); refine Kd.R_lit Kd.string _ 9 ?hg (N := 105) ?hd (xs := ([t101] : List ByteArray)) (inner := [.string t101]) (ok := fun _ => True) (okp := fun _ => True) ?hr ?hp (fun _ hk => hk) trivial (Below.refl _ _) (Nat.le_refl _) (by simp) ?_; (case hd => rfl); (case hg => rfl); (case hr => first | (go_simp; done) | (go_simp; rfl)); (case hp => exact (Reps.one (show Kd.M Kd.string _ _ _ t101 [.string t101] from rfl) (Reps.none _ _))); intro v120 w79 ho80 hb hg_ hnew_; clear hg_ hnew_; (first | rw [← Ny119.out] at ho80 | (simp only [Int.reduceToNat] at ho80; rw [← Ny119.out] at ho80)); have n0_ := Aside0.mk (Kd.R_below (by (with_reducible repeat (first | apply Kd.R_alloc | apply Kd.R_drewN | apply Kd.R_drew)); exact HO_74.out) hb); have n1_ := Aside0.mk (Kd.R_lower ho80 (below_size (by repeat (first | (with_reducible first | exact HB.out | apply below_alloc | apply pw_below_drewN | apply below_drew1) | exact HB.out)))); have n2_ := Aside0.mk (below_step (by repeat (first | (with_reducible first | exact HB.out | apply below_alloc | apply pw_below_drewN | apply below_drew1) | exact HB.out)) hb); clear HO_74; clear HB; have HO_74 := n0_; have HO121 := n1_; have HB := n2_; clear n0_ n1_ n2_; clear hb ho80) | ((with_reducible refine gate_dst (N := 107) rfl ?_); refine Kd.R_lit Kd.string _ 9 ?hg (N := 107) ?hd (xs := ([t102] : List ByteArray)) (inner := [.string t102]) (ok := fun _ => True) (okp := fun _ => True) ?hr ?hp (fun _ hk => hk) trivial (Below.refl _ _) (Nat.le_refl _) (by simp) ?_; (case hd => rfl); (case hg => rfl); (case hr => first | (go_simp; done) | (go_simp; rfl)); (case hp => exact (Reps.one (show Kd.M Kd.string _ _ _ t102 [.string t102] from rfl) (Reps.none _ _))); intro v123 w81 ho82 hb hg_ hnew_; clear hg_ hnew_; (first | rw [← Ny122.out] at ho82 | (simp only [Int.reduceToNat] at ho82; rw [← Ny122.out] at ho82)); have n0_ := Aside0.mk (Kd.R_below (by (with_reducible repeat (first | apply Kd.R_alloc | apply Kd.R_drewN | apply Kd.R_drew)); exact HO_74.out) hb); have n1_ := Aside0.mk (Kd.R_elder' (by (with_reducible repeat (first | apply Kd.R_alloc | apply Kd.R_drewN | apply Kd.R_drew)); exact HO121.out) (Kd.R_base ho82) hb); have n2_ := Aside0.mk (Kd.R_lower (Kd.R_new' ho82 (Kd.R_lt (by (with_reducible repeat (first | apply Kd.R_alloc | apply Kd.R_drewN | apply Kd.R_drew)); exact HO121.out))) (below_size (by repeat (first | (with_reducible first | exact HB.out | apply below_alloc | apply pw_below_drewN | apply below_drew1) | exact HB.out)))); have n3_ := Aside0.mk (below_step (by repeat (first | (with_reducible first | exact HB.out | apply below_alloc | apply pw_below_drewN | apply below_drew1) | exact HB.out)) hb); clear HO_74; clear HO121; clear HB; have HO_74 := n0_; have HO121 := n1_; have HO124 := n2_; have HB := n3_; clear n0_ n1_ n2_ n3_; clear hb ho82; obtain ⟨Ao83, co83, eo83⟩ := Kd.R_slice HO121.out; subst eo83; obtain ⟨Ao84, co84, eo84⟩ := Kd.R_slice HO124.out; subst eo84) | ((with_reducible refine gate_callee (f := 9) rfl ?_); refine goesL_ (some 108) rfl rfl Tryd.func9 (by kernel_rfl) rfl #[.slice Ao83 y119.length co83, .slice Ao84 y122.length co84] rfl (by (try simp only [List.map_toArray, List.map_cons, List.map_nil]); first | done | rfl | (simp only [List.length_drop, List.length_take]; rfl)) ?_; (with_reducible refine (PGBad.bad_Extra.calls k5 _ _ y119 _ _ y122 t125 _ (by (try refine Aside0.mk ?_); first | exact hOK.out | exact (hOK.out).drewN _ | (refine (hOK.out).later ?_; (repeat (first | (with_reducible first | exact HB.out | apply below_alloc | apply pw_below_drewN | apply below_drew1) | exact HB.out | (refine Below.setCell ?_ (show _ ≤ _ from Aside0.out (by assumption)) _)))) | (refine Ok.drewN ?_ _; exact hOK.out)) ?side1 ?side2 ?side3 ?side4 A61.out).mono ?_); (case side1 => repeat (first | exact (Kd.R_reads' HO121.out).2.2 | (with_reducible refine Kd.C_alloc ?_ _) | (with_reducible refine Kd.C_drewN ?_ _) | (with_reducible refine Kd.C_drew ?_))); (case side2 => exact (Kd.R_reads' HO121.out).2.1); (case side3 => repeat (first | exact (Kd.R_reads' HO124.out).2.2 | (with_reducible refine Kd.C_alloc ?_ _) | (with_reducible refine Kd.C_drewN ?_ _) | (with_reducible refine Kd.C_drew ?_))); (case side4 => exact (Kd.R_reads' HO124.out).2.1); rintro e w85 ⟨rfl, hb⟩; refine ⟨_, rfl, ?_⟩; have n0_ := Aside0.mk (Kd.R_below (by (with_reducible repeat (first | apply Kd.R_alloc | apply Kd.R_drewN | apply Kd.R_drew)); exact HO_74.out) hb); have n1_ := Aside0.mk (Kd.R_below (by (with_reducible repeat (first | apply Kd.R_alloc | apply Kd.R_drewN | apply Kd.R_drew)); exact HO121.out) hb); have n2_ := Aside0.mk (Kd.R_below (by (with_reducible repeat (first | apply Kd.R_alloc | apply Kd.R_drewN | apply Kd.R_drew)); exact HO124.out) hb); have n3_ := Aside0.mk (below_step (by repeat (first | (with_reducible first | exact HB.out | apply below_alloc | apply pw_below_drewN | apply below_drew1) | exact HB.out)) hb); clear HO_74; clear HO121; clear HO124; clear HB; have HO_74 := n0_; have HO121 := n1_; have HO124 := n2_; have HB := n3_; clear n0_ n1_ n2_ n3_; (try clear hb); (try clear hb2); (try clear hk); (try clear hi)) | ((with_reducible refine gate_callee (f := 14) rfl ?_); refine goesL_ (some 109) rfl rfl Tryd.func14 (by kernel_rfl) rfl #[.string t125] rfl (by (try simp only [List.map_toArray, List.map_cons, List.map_nil]); first | done | rfl | (simp only [List.length_drop, List.length_take]; rfl)) ?_; (with_reducible refine (bad_Read.calls t125 t126 t127 t128 _ (by (try refine Aside0.mk ?_); first | exact hOK.out | exact (hOK.out).drewN _ | (refine (hOK.out).later ?_; (repeat (first | (with_reducible first | exact HB.out | apply below_alloc | apply pw_below_drewN | apply below_drew1) | exact HB.out | (refine Below.setCell ?_ (show _ ≤ _ from Aside0.out (by assumption)) _)))) | (refine Ok.drewN ?_ _; exact hOK.out)) A62.out).mono ?_); rintro e w86 ⟨rfl, hb⟩; refine ⟨_, rfl, ?_⟩; have n0_ := Aside0.mk (Kd.R_below (by (with_reducible repeat (first | apply Kd.R_alloc | apply Kd.R_drewN | apply Kd.R_drew)); exact HO_74.out) hb); have n1_ := Aside0.mk (Kd.R_below (by (with_reducible repeat (first | apply Kd.R_alloc | apply Kd.R_drewN | apply Kd.R_drew)); exact HO121.out) hb); have n2_ := Aside0.mk (Kd.R_below (by (with_reducible repeat (first | apply Kd.R_alloc | apply Kd.R_drewN | apply Kd.R_drew)); exact HO124.out) hb); have n3_ := Aside0.mk (below_step (by repeat (first | (with_reducible first | exact HB.out | apply below_alloc | apply pw_below_drewN | apply below_drew1) | exact HB.out)) hb); clear HO_74; clear HO121; clear HO124; clear HB; have HO_74 := n0_; have HO121 := n1_; have HO124 := n2_; have HB := n3_; clear n0_ n1_ n2_ n3_; (try clear hb); (try clear hb2); (try clear hk); (try clear hi)))
                     go_ret
                     exact ⟨by first | rfl | (simp [errW_none, errW_some] <;> rfl) | (simp [*, errW_none, errW_some] <;> rfl), by repeat (first | (with_reducible first | exact HB.out | apply below_alloc | apply pw_below_drewN | apply below_drew1) | exact HB.out)⟩
                   ·
                    rw [if_neg c67] at H
                    exact absurd H (by simp)
                  ·
                   rw [if_neg c66] at H
                   exact absurd H (by simp)
                 ·
                  rw [if_neg c65] at H
                  exact absurd H (by simp)
                ·
                 rw [if_neg c64] at H
                 have c64b0 : (t127 == 0) = false := beq_eq_false_iff_ne.mpr c64
                 have c64b1 : (t127 != 0) = true := bne_iff_ne.mpr c64
                 obtain rfl := Option.some.inj H
                 go_wp2_with (first | ((with_reducible refine gate_dst (N := 105) rfl ?_); refine Kd.R_lit Kd.string _ 9 ?hg (N := 105) ?hd (xs := ([t101] : List ByteArray)) (inner := [.string t101]) (ok := fun _ => True) (okp := fun _ => True) ?hr ?hp (fun _ hk => hk) trivial (Below.refl _ _) (Nat.le_refl _) (by simp) ?_; (case hd => rfl); (case hg => rfl); (case hr => first | (go_simp; done) | (go_simp; rfl)); (case hp => exact (Reps.one (show Kd.M Kd.string _ _ _ t101 [.string t101] from rfl) (Reps.none _ _))); intro v120 w87 ho88 hb hg_ hnew_; clear hg_ hnew_; (first | rw [← Ny119.out] at ho88 | (simp only [Int.reduceToNat] at ho88; rw [← Ny119.out] at ho88)); have n0_ := Aside0.mk (Kd.R_below (by (with_reducible repeat (first | apply Kd.R_alloc | apply Kd.R_drewN | apply Kd.R_drew)); exact HO_74.out) hb); have n1_ := Aside0.mk (Kd.R_lower ho88 (below_size (by repeat (first | (with_reducible first | exact HB.out | apply below_alloc | apply pw_below_drewN | apply below_drew1) | exact HB.out)))); have n2_ := Aside0.mk (below_step (by repeat (first | (with_reducible first | exact HB.out | apply below_alloc | apply pw_below_drewN | apply below_drew1) | exact HB.out)) hb); clear HO_74; clear HB; have HO_74 := n0_; have HO121 := n1_; have HB := n2_; clear n0_ n1_ n2_; clear hb ho88) | ((with_reducible refine gate_dst (N := 107) rfl ?_); refine Kd.R_lit Kd.string _ 9 ?hg (N := 107) ?hd (xs := ([t102] : List ByteArray)) (inner := [.string t102]) (ok := fun _ => True) (okp := fun _ => True) ?hr ?hp (fun _ hk => hk) trivial (Below.refl _ _) (Nat.le_refl _) (by simp) ?_; (case hd => rfl); (case hg => rfl); (case hr => first | (go_simp; done) | (go_simp; rfl)); (case hp => exact (Reps.one (show Kd.M Kd.string _ _ _ t102 [.string t102] from rfl) (Reps.none _ _))); intro v123 w89 ho90 hb hg_ hnew_; clear hg_ hnew_; (first | rw [← Ny122.out] at ho90 | (simp only [Int.reduceToNat] at ho90; rw [← Ny122.out] at ho90)); have n0_ := Aside0.mk (Kd.R_below (by (with_reducible repeat (first | apply Kd.R_alloc | apply Kd.R_drewN | apply Kd.R_drew)); exact HO_74.out) hb); have n1_ := Aside0.mk (Kd.R_elder' (by (with_reducible repeat (first | apply Kd.R_alloc | apply Kd.R_drewN | apply Kd.R_drew)); exact HO121.out) (Kd.R_base ho90) hb); have n2_ := Aside0.mk (Kd.R_lower (Kd.R_new' ho90 (Kd.R_lt (by (with_reducible repeat (first | apply Kd.R_alloc | apply Kd.R_drewN | apply Kd.R_drew)); exact HO121.out))) (below_size (by repeat (first | (with_reducible first | exact HB.out | apply below_alloc | apply pw_below_drewN | apply below_drew1) | exact HB.out)))); have n3_ := Aside0.mk (below_step (by repeat (first | (with_reducible first | exact HB.out | apply below_alloc | apply pw_below_drewN | apply below_drew1) | exact HB.out)) hb); clear HO_74; clear HO121; clear HB; have HO_74 := n0_; have HO121 := n1_; have HO124 := n2_; have HB := n3_; clear n0_ n1_ n2_ n3_; clear hb ho90; obtain ⟨Ao91, co91, eo91⟩ := Kd.R_slice HO121.out; subst eo91; obtain ⟨Ao92, co92, eo92⟩ := Kd.R_slice HO124.out; subst eo92) | ((with_reducible refine gate_callee (f := 9) rfl ?_); refine goesL_ (some 108) rfl rfl Tryd.func9 (by kernel_rfl) rfl #[.slice Ao91 y119.length co91, .slice Ao92 y122.length co92] rfl (by (try simp only [List.map_toArray, List.map_cons, List.map_nil]); first | done | rfl | (simp only [List.length_drop, List.length_take]; rfl)) ?_; (with_reducible refine (PGBad.bad_Extra.calls k5 _ _ y119 _ _ y122 t125 _ (by (try refine Aside0.mk ?_); first | exact hOK.out | exact (hOK.out).drewN _ | (refine (hOK.out).later ?_; (repeat (first | (with_reducible first | exact HB.out | apply below_alloc | apply pw_below_drewN | apply below_drew1) | exact HB.out | (refine Below.setCell ?_ (show _ ≤ _ from Aside0.out (by assumption)) _)))) | (refine Ok.drewN ?_ _; exact hOK.out)) ?side1 ?side2 ?side3 ?side4 A61.out).mono ?_); (case side1 => repeat (first | exact (Kd.R_reads' HO121.out).2.2 | (with_reducible refine Kd.C_alloc ?_ _) | (with_reducible refine Kd.C_drewN ?_ _) | (with_reducible refine Kd.C_drew ?_))); (case side2 => exact (Kd.R_reads' HO121.out).2.1); (case side3 => repeat (first | exact (Kd.R_reads' HO124.out).2.2 | (with_reducible refine Kd.C_alloc ?_ _) | (with_reducible refine Kd.C_drewN ?_ _) | (with_reducible refine Kd.C_drew ?_))); (case side4 => exact (Kd.R_reads' HO124.out).2.1); rintro e w93 ⟨rfl, hb⟩; refine ⟨_, rfl, ?_⟩; have n0_ := Aside0.mk (Kd.R_below (by (with_reducible repeat (first | apply Kd.R_alloc | apply Kd.R_drewN | apply Kd.R_drew)); exact HO_74.out) hb); have n1_ := Aside0.mk (Kd.R_below (by (with_reducible repeat (first | apply Kd.R_alloc | apply Kd.R_drewN | apply Kd.R_drew)); exact HO121.out) hb); have n2_ := Aside0.mk (Kd.R_below (by (with_reducible repeat (first | apply Kd.R_alloc | apply Kd.R_drewN | apply Kd.R_drew)); exact HO124.out) hb); have n3_ := Aside0.mk (below_step (by repeat (first | (with_reducible first | exact HB.out | apply below_alloc | apply pw_below_drewN | apply below_drew1) | exact HB.out)) hb); clear HO_74; clear HO121; clear HO124; clear HB; have HO_74 := n0_; have HO121 := n1_; have HO124 := n2_; have HB := n3_; clear n0_ n1_ n2_ n3_; (try clear hb); (try clear hb2); (try clear hk); (try clear hi)) | ((with_reducible refine gate_callee (f := 14) rfl ?_); refine goesL_ (some 109) rfl rfl Tryd.func14 (by kernel_rfl) rfl #[.string t125] rfl (by (try simp only [List.map_toArray, List.map_cons, List.map_nil]); first | done | rfl | (simp only [List.length_drop, List.length_take]; rfl)) ?_; (with_reducible refine (bad_Read.calls t125 t126 t127 t128 _ (by (try refine Aside0.mk ?_); first | exact hOK.out | exact (hOK.out).drewN _ | (refine (hOK.out).later ?_; (repeat (first | (with_reducible first | exact HB.out | apply below_alloc | apply pw_below_drewN | apply below_drew1) | exact HB.out | (refine Below.setCell ?_ (show _ ≤ _ from Aside0.out (by assumption)) _)))) | (refine Ok.drewN ?_ _; exact hOK.out)) A62.out).mono ?_); rintro e w94 ⟨rfl, hb⟩; refine ⟨_, rfl, ?_⟩; have n0_ := Aside0.mk (Kd.R_below (by (with_reducible repeat (first | apply Kd.R_alloc | apply Kd.R_drewN | apply Kd.R_drew)); exact HO_74.out) hb); have n1_ := Aside0.mk (Kd.R_below (by (with_reducible repeat (first | apply Kd.R_alloc | apply Kd.R_drewN | apply Kd.R_drew)); exact HO121.out) hb); have n2_ := Aside0.mk (Kd.R_below (by (with_reducible repeat (first | apply Kd.R_alloc | apply Kd.R_drewN | apply Kd.R_drew)); exact HO124.out) hb); have n3_ := Aside0.mk (below_step (by repeat (first | (with_reducible first | exact HB.out | apply below_alloc | apply pw_below_drewN | apply below_drew1) | exact HB.out)) hb); clear HO_74; clear HO121; clear HO124; clear HB; have HO_74 := n0_; have HO121 := n1_; have HO124 := n2_; have HB := n3_; clear n0_ n1_ n2_ n3_; (try clear hb); (try clear hb2); (try clear hk); (try clear hi)))
                 go_ret
                 exact ⟨by first | rfl | (simp [errW_none, errW_some] <;> rfl) | (simp [*, errW_none, errW_some] <;> rfl), by repeat (first | (with_reducible first | exact HB.out | apply below_alloc | apply pw_below_drewN | apply below_drew1) | exact HB.out)⟩
               ·
                rw [if_neg c63] at H
                have c63b0 : (t126 == 10) = false := beq_eq_false_iff_ne.mpr c63
                have c63b1 : (t126 != 10) = true := bne_iff_ne.mpr c63
                obtain rfl := Option.some.inj H
                go_wp2_with (first | ((with_reducible refine gate_dst (N := 105) rfl ?_); refine Kd.R_lit Kd.string _ 9 ?hg (N := 105) ?hd (xs := ([t101] : List ByteArray)) (inner := [.string t101]) (ok := fun _ => True) (okp := fun _ => True) ?hr ?hp (fun _ hk => hk) trivial (Below.refl _ _) (Nat.le_refl _) (by simp) ?_; (case hd => rfl); (case hg => rfl); (case hr => first | (go_simp; done) | (go_simp; rfl)); (case hp => exact (Reps.one (show Kd.M Kd.string _ _ _ t101 [.string t101] from rfl) (Reps.none _ _))); intro v120 w95 ho96 hb hg_ hnew_; clear hg_ hnew_; (first | rw [← Ny119.out] at ho96 | (simp only [Int.reduceToNat] at ho96; rw [← Ny119.out] at ho96)); have n0_ := Aside0.mk (Kd.R_below (by (with_reducible repeat (first | apply Kd.R_alloc | apply Kd.R_drewN | apply Kd.R_drew)); exact HO_74.out) hb); have n1_ := Aside0.mk (Kd.R_lower ho96 (below_size (by repeat (first | (with_reducible first | exact HB.out | apply below_alloc | apply pw_below_drewN | apply below_drew1) | exact HB.out)))); have n2_ := Aside0.mk (below_step (by repeat (first | (with_reducible first | exact HB.out | apply below_alloc | apply pw_below_drewN | apply below_drew1) | exact HB.out)) hb); clear HO_74; clear HB; have HO_74 := n0_; have HO121 := n1_; have HB := n2_; clear n0_ n1_ n2_; clear hb ho96) | ((with_reducible refine gate_dst (N := 107) rfl ?_); refine Kd.R_lit Kd.string _ 9 ?hg (N := 107) ?hd (xs := ([t102] : List ByteArray)) (inner := [.string t102]) (ok := fun _ => True) (okp := fun _ => True) ?hr ?hp (fun _ hk => hk) trivial (Below.refl _ _) (Nat.le_refl _) (by simp) ?_; (case hd => rfl); (case hg => rfl); (case hr => first | (go_simp; done) | (go_simp; rfl)); (case hp => exact (Reps.one (show Kd.M Kd.string _ _ _ t102 [.string t102] from rfl) (Reps.none _ _))); intro v123 w97 ho98 hb hg_ hnew_; clear hg_ hnew_; (first | rw [← Ny122.out] at ho98 | (simp only [Int.reduceToNat] at ho98; rw [← Ny122.out] at ho98)); have n0_ := Aside0.mk (Kd.R_below (by (with_reducible repeat (first | apply Kd.R_alloc | apply Kd.R_drewN | apply Kd.R_drew)); exact HO_74.out) hb); have n1_ := Aside0.mk (Kd.R_elder' (by (with_reducible repeat (first | apply Kd.R_alloc | apply Kd.R_drewN | apply Kd.R_drew)); exact HO121.out) (Kd.R_base ho98) hb); have n2_ := Aside0.mk (Kd.R_lower (Kd.R_new' ho98 (Kd.R_lt (by (with_reducible repeat (first | apply Kd.R_alloc | apply Kd.R_drewN | apply Kd.R_drew)); exact HO121.out))) (below_size (by repeat (first | (with_reducible first | exact HB.out | apply below_alloc | apply pw_below_drewN | apply below_drew1) | exact HB.out)))); have n3_ := Aside0.mk (below_step (by repeat (first | (with_reducible first | exact HB.out | apply below_alloc | apply pw_below_drewN | apply below_drew1) | exact HB.out)) hb); clear HO_74; clear HO121; clear HB; have HO_74 := n0_; have HO121 := n1_; have HO124 := n2_; have HB := n3_; clear n0_ n1_ n2_ n3_; clear hb ho98; obtain ⟨Ao99, co99, eo99⟩ := Kd.R_slice HO121.out; subst eo99; obtain ⟨Ao100, co100, eo100⟩ := Kd.R_slice HO124.out; subst eo100) | ((with_reducible refine gate_callee (f := 9) rfl ?_); refine goesL_ (some 108) rfl rfl Tryd.func9 (by kernel_rfl) rfl #[.slice Ao99 y119.length co99, .slice Ao100 y122.length co100] rfl (by (try simp only [List.map_toArray, List.map_cons, List.map_nil]); first | done | rfl | (simp only [List.length_drop, List.length_take]; rfl)) ?_; (with_reducible refine (PGBad.bad_Extra.calls k5 _ _ y119 _ _ y122 t125 _ (by (try refine Aside0.mk ?_); first | exact hOK.out | exact (hOK.out).drewN _ | (refine (hOK.out).later ?_; (repeat (first | (with_reducible first | exact HB.out | apply below_alloc | apply pw_below_drewN | apply below_drew1) | exact HB.out | (refine Below.setCell ?_ (show _ ≤ _ from Aside0.out (by assumption)) _)))) | (refine Ok.drewN ?_ _; exact hOK.out)) ?side1 ?side2 ?side3 ?side4 A61.out).mono ?_); (case side1 => repeat (first | exact (Kd.R_reads' HO121.out).2.2 | (with_reducible refine Kd.C_alloc ?_ _) | (with_reducible refine Kd.C_drewN ?_ _) | (with_reducible refine Kd.C_drew ?_))); (case side2 => exact (Kd.R_reads' HO121.out).2.1); (case side3 => repeat (first | exact (Kd.R_reads' HO124.out).2.2 | (with_reducible refine Kd.C_alloc ?_ _) | (with_reducible refine Kd.C_drewN ?_ _) | (with_reducible refine Kd.C_drew ?_))); (case side4 => exact (Kd.R_reads' HO124.out).2.1); rintro e w101 ⟨rfl, hb⟩; refine ⟨_, rfl, ?_⟩; have n0_ := Aside0.mk (Kd.R_below (by (with_reducible repeat (first | apply Kd.R_alloc | apply Kd.R_drewN | apply Kd.R_drew)); exact HO_74.out) hb); have n1_ := Aside0.mk (Kd.R_below (by (with_reducible repeat (first | apply Kd.R_alloc | apply Kd.R_drewN | apply Kd.R_drew)); exact HO121.out) hb); have n2_ := Aside0.mk (Kd.R_below (by (with_reducible repeat (first | apply Kd.R_alloc | apply Kd.R_drewN | apply Kd.R_drew)); exact HO124.out) hb); have n3_ := Aside0.mk (below_step (by repeat (first | (with_reducible first | exact HB.out | apply below_alloc | apply pw_below_drewN | apply below_drew1) | exact HB.out)) hb); clear HO_74; clear HO121; clear HO124; clear HB; have HO_74 := n0_; have HO121 := n1_; have HO124 := n2_; have HB := n3_; clear n0_ n1_ n2_ n3_; (try clear hb); (try clear hb2); (try clear hk); (try clear hi)) | ((with_reducible refine gate_callee (f := 14) rfl ?_); refine goesL_ (some 109) rfl rfl Tryd.func14 (by kernel_rfl) rfl #[.string t125] rfl (by (try simp only [List.map_toArray, List.map_cons, List.map_nil]); first | done | rfl | (simp only [List.length_drop, List.length_take]; rfl)) ?_; (with_reducible refine (bad_Read.calls t125 t126 t127 t128 _ (by (try refine Aside0.mk ?_); first | exact hOK.out | exact (hOK.out).drewN _ | (refine (hOK.out).later ?_; (repeat (first | (with_reducible first | exact HB.out | apply below_alloc | apply pw_below_drewN | apply below_drew1) | exact HB.out | (refine Below.setCell ?_ (show _ ≤ _ from Aside0.out (by assumption)) _)))) | (refine Ok.drewN ?_ _; exact hOK.out)) A62.out).mono ?_); rintro e w102 ⟨rfl, hb⟩; refine ⟨_, rfl, ?_⟩; have n0_ := Aside0.mk (Kd.R_below (by (with_reducible repeat (first | apply Kd.R_alloc | apply Kd.R_drewN | apply Kd.R_drew)); exact HO_74.out) hb); have n1_ := Aside0.mk (Kd.R_below (by (with_reducible repeat (first | apply Kd.R_alloc | apply Kd.R_drewN | apply Kd.R_drew)); exact HO121.out) hb); have n2_ := Aside0.mk (Kd.R_below (by (with_reducible repeat (first | apply Kd.R_alloc | apply Kd.R_drewN | apply Kd.R_drew)); exact HO124.out) hb); have n3_ := Aside0.mk (below_step (by repeat (first | (with_reducible first | exact HB.out | apply below_alloc | apply pw_below_drewN | apply below_drew1) | exact HB.out)) hb); clear HO_74; clear HO121; clear HO124; clear HB; have HO_74 := n0_; have HO121 := n1_; have HO124 := n2_; have HB := n3_; clear n0_ n1_ n2_ n3_; (try clear hb); (try clear hb2); (try clear hk); (try clear hi)))
                go_ret
                exact ⟨by first | rfl | (simp [errW_none, errW_some] <;> rfl) | (simp [*, errW_none, errW_some] <;> rfl), by repeat (first | (with_reducible first | exact HB.out | apply below_alloc | apply pw_below_drewN | apply below_drew1) | exact HB.out)⟩
       ·
        rw [if_neg c18] at H
        exact absurd H (by simp)
      ·
       rw [if_neg c17] at H
       exact absurd H (by simp)
     ·
      rw [if_neg c16] at H
      exact absurd H (by simp)
end Go.Proofs.YtiaocdbgcjnceaaDoor.PGBack
namespace Go.Proofs.YtiaocdbgcjnceaaDoor.PGBack
open Go.RowKit Go.Proofs.YtiaocdbgcjnceaaDoorW.PrintWords Go.Proofs.YtiaocdbgcjnceaaDoorW.PrintLast Go.Proofs.YtiaocdbgcjnceaaDoorW.PrintMore
attribute [local go_sem] min2_int min_two
set_option linter.unusedVariables false
set_option linter.unusedSimpArgs false
end Go.Proofs.YtiaocdbgcjnceaaDoor.PGBack
namespace Go.Proofs.YtiaocdbgcjnceaaDoor
open Go.RowKit Go.Proofs.YtiaocdbgcjnceaaDoorW.PrintWords
theorem getT (l : List UInt8) (i : Nat) : (T l).get! i = l.getD i 0 := by
  show (l.toArray)[i]! = _
  rw [Array.getElem!_eq_getD]
  simp [List.getD]
  rfl
theorem toNat_ofNat (x : Nat) (h : x < 256) : (UInt8.ofNat x).toNat = x := by rw [UInt8.toNat_ofNat']; omega
theorem dec_enc (c : Nat) (hv : Utf8.valid (c : Int) = true) (rest : List UInt8) : Utf8.decode (T (encN c ++ rest)) 0 = (c, (encN c).length) := by
  rw [valid_nat] at hv
  rw [Lib.decode_at, T_size]
  simp only [getT, Nat.zero_add, Nat.sub_zero]
  unfold encN
  by_cases h1 : c < 128
  · simp only [if_pos h1, List.cons_append, List.nil_append, List.getD_cons_zero, List.getD_cons_succ, List.length_cons, List.length_nil]
    rw [toNat_ofNat c (by omega)]
    unfold Lib.decodeN
    rw [if_pos h1]
  by_cases h2 : c < 2048
  · simp only [if_neg h1, if_pos h2, List.cons_append, List.nil_append, List.getD_cons_zero, List.getD_cons_succ, List.length_cons, List.length_nil]
    rw [toNat_ofNat (192 + c / 64) (by omega), toNat_ofNat (128 + c % 64) (by omega)]
    unfold Lib.decodeN
    rw [if_neg (by omega), if_pos (by omega), if_pos (by omega)]
    apply Prod.ext <;> simp only <;> omega
  by_cases h3 : c < 65536
  · simp only [if_neg h1, if_neg h2, if_pos h3, List.cons_append, List.nil_append, List.getD_cons_zero, List.getD_cons_succ, List.length_cons, List.length_nil]
    rw [toNat_ofNat (224 + c / 4096) (by omega), toNat_ofNat (128 + c / 64 % 64) (by omega), toNat_ofNat (128 + c % 64) (by omega)]
    unfold Lib.decodeN
    rw [if_neg (by omega), if_neg (by omega), if_pos (by omega), if_pos (by omega)]
    apply Prod.ext <;> simp only <;> omega
  · simp only [if_neg h1, if_neg h2, if_neg h3, List.cons_append, List.nil_append, List.getD_cons_zero, List.getD_cons_succ, List.length_cons, List.length_nil]
    rw [toNat_ofNat (240 + c / 262144) (by omega), toNat_ofNat (128 + c / 4096 % 64) (by omega), toNat_ofNat (128 + c / 64 % 64) (by omega), toNat_ofNat (128 + c % 64) (by omega)]
    unfold Lib.decodeN
    rw [if_neg (by omega), if_neg (by omega), if_neg (by omega), if_pos (by omega), if_pos (by omega)]
    apply Prod.ext <;> simp only <;> omega
theorem contains_mid (a : UInt8) (p y : List UInt8) : ∀ x, Lib.contains (x ++ ((a :: p) ++ y)) (a :: p) = true := by
  intro x
  induction x with
  | nil =>
    show Lib.contains (a :: (p ++ y)) (a :: p) = true
    rw [contains_cons]
    have : (a :: p).isPrefixOf (a :: (p ++ y)) = true := List.isPrefixOf_iff_prefix.2 ⟨y, rfl⟩
    rw [this]; rfl
  | cons b x ih =>
    show Lib.contains (b :: (x ++ ((a :: p) ++ y))) (a :: p) = true
    rw [contains_cons, ih, Bool.or_true]
theorem wrapB_list (v inn : List UInt8) : (wrapB v inn).data.toList = 37 :: 33 :: (v ++ ([40] ++ (inn ++ [41]))) := by simp [wrapB]
theorem encN_40 (c : Nat) (hc : c ≤ 1114111) : (∃ a l, encN c = a :: l ∧ (a = 40 → c = 40 ∧ l = [])) := by
  have key : ∀ x : Nat, x < 256 → UInt8.ofNat x = 40 → x = 40 := fun x hx e => by
    have := congrArg UInt8.toNat e
    rw [toNat_ofNat x hx] at this
    exact this
  unfold encN
  by_cases h1 : c < 128
  · rw [if_pos h1]; exact ⟨_, _, rfl, fun e => ⟨key c (by omega) e, rfl⟩⟩
  by_cases h2 : c < 2048
  · rw [if_neg h1, if_pos h2]; exact ⟨_, _, rfl, fun e => by have := key _ (by omega) e; omega⟩
  by_cases h3 : c < 65536
  · rw [if_neg h1, if_neg h2, if_pos h3]; exact ⟨_, _, rfl, fun e => by have := key _ (by omega) e; omega⟩
  · rw [if_neg h1, if_neg h2, if_neg h3]; exact ⟨_, _, rfl, fun e => by have := key _ (by omega) e; omega⟩
theorem back_verb (c : Nat) (hv : Utf8.valid (c : Int) = true) (inn : List UInt8) (h : verbedL inn ≠ 0) : readB (wrapB (encN c) inn) = (verbedL inn, (c : Int), T inn) := by
  have hv' := (valid_nat c).1 hv
  rw [readB_sign _ _ (wrapB_list _ _)]
  have hd : decB (T (encN c ++ ([40] ++ (inn ++ [41])))) = (c, (encN c).length) := by
    unfold decB
    rw [if_neg (by rw [T_size, List.length_append]; simp), dec_enc c hv]
  have hl := encN_length c
  obtain ⟨a, l, ea, e40⟩ := encN_40 c (by omega)
  have hdrop : (encN c ++ ([40] ++ (inn ++ [41]))).drop (encN c).length = 40 :: (inn ++ [41]) := by rw [List.drop_left]; rfl
  unfold readR
  rw [hd]
  simp only
  rw [hdrop, trimPrefix_cons, hasPrefix_cons, hasSuffix_snoc, trimSuffix_snoc]
  have hbr : ¬ (Lib.hasPrefix (encN c ++ ([40] ++ (inn ++ [41]))) [40] = true ∧ Lib.hasPrefix (Lib.trimPrefix (encN c ++ ([40] ++ (inn ++ [41]))) [40]) [40] = false) := by
    rw [ea]
    rintro ⟨h1, h2⟩
    rw [List.cons_append, hasPrefix_cons] at h1
    have e := e40 (by simpa using (beq_iff_eq.1 h1).symm)
    have ha : a = 40 := (beq_iff_eq.1 h1).symm
    rw [List.cons_append, ha, trimPrefix_cons, e.2] at h2
    simp [hasPrefix_cons] at h2
  unfold readV
  rw [if_neg (by decide), if_neg hbr, if_neg, if_pos]
  · exact ⟨rfl, rfl, h⟩
  · rintro (h1 | ⟨h1, h2⟩)
    · omega
    · have h1' : c = 65533 := by omega
      subst h1'
      revert h2; decide
theorem bareL_extra (x : List UInt8) : bareL ([69, 88, 84, 82, 65, 32] ++ x) = 10 := by
  unfold bareL
  rw [if_neg (by simp), if_neg (by simp), if_neg (by simp), if_neg (by simp), if_pos]
  unfold Lib.hasPrefix
  exact List.isPrefixOf_iff_prefix.2 ⟨x, rfl⟩
theorem back_extra (x : List UInt8) : readB (wrapB [] ([69, 88, 84, 82, 65, 32] ++ x)) = (10, 0, T ([69, 88, 84, 82, 65, 32] ++ x)) := by
  rw [readB_sign _ _ (wrapB_list _ _)]
  have e : ([] : List UInt8) ++ ([40] ++ (([69, 88, 84, 82, 65, 32] ++ x) ++ [41])) = 40 :: (([69, 88, 84, 82, 65, 32] ++ x) ++ [41]) := rfl
  rw [e]
  unfold readR
  rw [trimPrefix_cons, hasSuffix_snoc, trimSuffix_snoc, hasPrefix_cons, bareL_extra]
  unfold readV
  rw [if_neg (by decide), if_pos ⟨rfl, by rfl⟩, if_pos ⟨rfl, by decide⟩]
theorem panic_kind (a b : List UInt8) : verbedL ([80, 65, 78, 73, 67, 61] ++ (a ++ ([32, 109, 101, 116, 104, 111, 100, 58, 32] ++ b))) = 5 := by
  unfold verbedL
  rw [if_neg (by simp), if_neg (by simp), if_neg (by simp), if_pos]
  refine ⟨?_, ?_⟩
  · unfold Lib.hasPrefix
    exact List.isPrefixOf_iff_prefix.2 ⟨_, rfl⟩
  · have := contains_mid 32 [109, 101, 116, 104, 111, 100, 58, 32] b ([80, 65, 78, 73, 67, 61] ++ a)
    rw [List.append_assoc] at this
    exact this
theorem not_in (l : List UInt8) (x : List UInt8) (h : l = x) (hx : (61 : UInt8) ∈ l) : (61 : UInt8) ∈ x := h ▸ hx
theorem verb_kind (a b : List UInt8) (h : a.length < 5 ∨ a.take 5 ≠ [80, 65, 78, 73, 67]) : verbedL (a ++ (61 :: b)) = 1 := by
  have m : (61 : UInt8) ∈ a ++ (61 :: b) := List.mem_append_right _ (.head _)
  unfold verbedL
  rw [if_neg (fun e => by have := not_in _ _ e m; revert this; decide), if_neg (fun e => by have := not_in _ _ e m; revert this; decide), if_neg (fun e => by have := not_in _ _ e m; revert this; decide), if_neg, if_pos]
  · exact contains_mid 61 [] b a
  · rintro ⟨h1, _⟩
    unfold Lib.hasPrefix at h1
    obtain ⟨t, ht⟩ := List.isPrefixOf_iff_prefix.1 h1
    have ht5 : (a ++ (61 :: b)).take 5 = [80, 65, 78, 73, 67] := by rw [← ht]; rfl
    by_cases hl : a.length < 5
    · have g : (a ++ (61 :: b))[a.length]? = some 61 := by simp
      rw [← ht] at g
      have : a.length = 0 ∨ a.length = 1 ∨ a.length = 2 ∨ a.length = 3 ∨ a.length = 4 := by omega
      rcases this with e | e | e | e | e <;> (rw [e] at g; simp at g)
    · have := h.resolve_left hl
      rw [List.take_append_of_le_length (by omega)] at ht5
      exact this ht5
def rows (c : Nat) (a b : ByteArray) : List (PGBack.S41) :=
  [⟨wrapB (encN c) [60, 110, 105, 108, 62], 2, ⟨#[60, 110, 105, 108, 62]⟩⟩, ⟨wrapB (encN c) [77, 73, 83, 83, 73, 78, 71], 3, ⟨#[77, 73, 83, 83, 73, 78, 71]⟩⟩,
    ⟨wrapB (encN c) [66, 65, 68, 73, 78, 68, 69, 88], 4, ⟨#[66, 65, 68, 73, 78, 68, 69, 88]⟩⟩,
    ⟨wrapB (encN c) ([80, 65, 78, 73, 67, 61] ++ (a.data.toList ++ ([32, 109, 101, 116, 104, 111, 100, 58, 32] ++ b.data.toList))), 5, (((⟨#[80, 65, 78, 73, 67, 61]⟩ : ByteArray) ++ a) ++ (⟨#[32, 109, 101, 116, 104, 111, 100, 58, 32]⟩ : ByteArray)) ++ b⟩]
def rowV (c : Nat) (a b : ByteArray) : PGBack.S41 := ⟨wrapB (encN c) (a.data.toList ++ (61 :: b.data.toList)), 1, (a ++ (⟨#[61]⟩ : ByteArray)) ++ b⟩
def RowOk (c : Nat) (x : PGBack.S41) : Prop := x.f0.size ≤ 100000 ∧ readB x.f0 = (x.f1, (c : Int), x.f2)
theorem wrapB_size (v inn : List UInt8) : (wrapB v inn).size = v.length + inn.length + 4 := by
  rw [Lib.size_eq, wrapB_list]; simp; omega
theorem row_ok (c : Nat) (hv : Utf8.valid (c : Int) = true) (inn : List UInt8) (k : Int) (t : ByteArray) (hi : inn.length ≤ 10000) (hk : verbedL inn = k) (h0 : k ≠ 0) (ht : T inn = t) : RowOk c ⟨wrapB (encN c) inn, k, t⟩ := by
  have hl := encN_length c
  refine ⟨by show (wrapB (encN c) inn).size ≤ 100000; rw [wrapB_size]; omega, ?_⟩
  show readB (wrapB (encN c) inn) = (k, (c : Int), t)
  rw [back_verb c hv inn (by rw [hk]; exact h0), hk, ht]
theorem rows_ok (c : Nat) (hv : Utf8.valid (c : Int) = true) (a b : ByteArray) (ha : a.size ≤ 1000) (hb : b.size ≤ 1000) : ∀ x ∈ rows c a b, RowOk c x := by
  have ha' : a.data.toList.length ≤ 1000 := by rw [← Lib.size_eq]; exact ha
  have hb' : b.data.toList.length ≤ 1000 := by rw [← Lib.size_eq]; exact hb
  intro x hx
  simp only [rows, List.mem_cons, List.not_mem_nil, or_false] at hx
  rcases hx with rfl | rfl | rfl | rfl
  · exact row_ok c hv _ 2 _ (by simp) (by decide) (by decide) rfl
  · exact row_ok c hv _ 3 _ (by simp) (by decide) (by decide) rfl
  · exact row_ok c hv _ 4 _ (by simp) (by decide) (by decide) rfl
  · exact row_ok c hv _ 5 _ (by simp only [List.length_append, List.length_cons, List.length_nil]; omega) (panic_kind _ _) (by decide) (bytes_ext (by simp [Joins.data_append]))
theorem rowV_ok (c : Nat) (hv : Utf8.valid (c : Int) = true) (a b : ByteArray) (ha : a.size ≤ 1000) (hb : b.size ≤ 1000) (h : a.data.toList.length < 5 ∨ a.data.toList.take 5 ≠ [80, 65, 78, 73, 67]) : RowOk c (rowV c a b) := by
  have ha' : a.data.toList.length ≤ 1000 := by rw [← Lib.size_eq]; exact ha
  have hb' : b.data.toList.length ≤ 1000 := by rw [← Lib.size_eq]; exact hb
  exact row_ok c hv _ 1 _ (by simp only [List.length_append, List.length_cons]; omega) (verb_kind _ _ h) (by decide) (bytes_ext (by simp [Joins.data_append]))
theorem bnd3 (a b : Nat) (ha : a ≤ 1000000) (hb : b ≤ 1000000) : a + b ≤ 9223372036854775807 := by omega
theorem back_l0 (c : Nat) (a b : ByteArray) (l : List PGBack.S41) (ha : a.size ≤ 1000) (hb : b.size ≤ 1000) (hl : ∀ x ∈ l, RowOk c x) (hn : l.length ≤ 10) : ∀ (d i k : Nat), i + d = l.length → d + 100 ≤ k →
    PGBack.platenlaw10_BadBack.l0 k (c : Int) a b l (l.length : Int) (i : Int) = some true := by
  intro d
  induction d with
  | zero =>
    intro i k hi hk
    obtain ⟨k, rfl⟩ : ∃ k', k = k' + 11 := ⟨k - 11, by omega⟩
    have sa : Small [a] := ⟨by simp, fun x hx => by rw [List.mem_singleton.1 hx]; exact ha⟩
    have sb : Small [b] := ⟨by simp, fun x hx => by rw [List.mem_singleton.1 hx]; exact hb⟩
    have e1 : PGBad.bad_Extra.f (k + 10) [a] [b] = some (extraB [a] [b]) := by
      unfold PGBad.bad_Extra.f
      exact extra_l0 sa sb 1 rfl 1 (k + 10) 0 (by omega) (by omega)
    have ex : extraB [a] [b] = wrapB [] ([69, 88, 84, 82, 65, 32] ++ (a.data.toList ++ (61 :: b.data.toList))) := by
      unfold extraB joined
      simp [pairsTo, pairB, Lib.join, List.range_succ]
    have ha' : a.data.toList.length ≤ 1000 := by rw [← Lib.size_eq]; exact ha
    have hb' : b.data.toList.length ≤ 1000 := by rw [← Lib.size_eq]; exact hb
    have e2 : bad_Read.f (extraB [a] [b]) = some (10, 0, T ([69, 88, 84, 82, 65, 32] ++ (a.data.toList ++ (61 :: b.data.toList)))) := by
      unfold bad_Read.f
      rw [ex, if_pos (by rw [wrapB_size]; simp only [List.length_append, List.length_cons, List.length_nil]; omega), back_extra]
    have z1 : 6 + a.size ≤ 9223372036854775807 := bnd3 _ _ (by omega) (by omega)
    have z2 : ((⟨#[69, 88, 84, 82, 65, 32]⟩ : ByteArray) ++ a).size + 1 ≤ 9223372036854775807 := bnd3 _ _ (by rw [ByteArray.size_append]; have : (ByteArray.mk #[69, 88, 84, 82, 65, 32]).size = 6 := rfl; omega) (by omega)
    have z3 : (((⟨#[69, 88, 84, 82, 65, 32]⟩ : ByteArray) ++ a) ++ (⟨#[61]⟩ : ByteArray)).size + b.size ≤ 9223372036854775807 := bnd3 _ _ (by rw [ByteArray.size_append, ByteArray.size_append]; have : (ByteArray.mk #[69, 88, 84, 82, 65, 32]).size = 6 := rfl; have : (ByteArray.mk #[61]).size = 1 := rfl; omega) (by omega)
    have et : (T ([69, 88, 84, 82, 65, 32] ++ (a.data.toList ++ (61 :: b.data.toList)))).toList = ((((⟨#[69, 88, 84, 82, 65, 32]⟩ : ByteArray) ++ a) ++ (⟨#[61]⟩ : ByteArray)) ++ b).toList := by
      rw [Lib.toList_data, Lib.toList_data]; simp [Joins.data_append]
    rw [PGBack.platenlaw10_BadBack.l0, if_neg (by omega), e1, Option.bind_some, e2, Option.bind_some, if_pos rfl, if_pos rfl, if_pos z1, if_pos z2, if_pos z3, if_pos et, lives_f k]
    rfl
  | succ d ih =>
    intro i k hi hk
    obtain ⟨k, rfl⟩ : ∃ k', k = k' + 1 := ⟨k - 1, by omega⟩
    have hlt : i < l.length := by omega
    have hm : PGBack.rd_T41 l (i : Int) = l[i] := by
      unfold PGBack.rd_T41
      rw [Int.toNat_natCast, List.getD_eq_getElem?_getD, List.getElem?_eq_getElem hlt]
      rfl
    obtain ⟨h1, h2⟩ := hl l[i] (List.getElem_mem hlt)
    have e2 : bad_Read.f (l[i]).f0 = some ((l[i]).f1, (c : Int), (l[i]).f2) := by unfold bad_Read.f; rw [if_pos h1, h2]
    have e1 : wrap64 ((i : Int) + 1) = ((i + 1 : Nat) : Int) := by rw [wrap64_id (by omega) (by omega)]; omega
    have q1 : (i : Int) < (l.length : Int) := by omega
    have q2 : (0 : Int) ≤ (i : Int) := by omega
    rw [PGBack.platenlaw10_BadBack.l0, if_pos q1, if_pos q2, if_pos q1, hm, e2, Option.bind_some, if_pos (Eq.refl (l[i]).f1), if_pos (Eq.refl (c : Int)), if_pos (Eq.refl (l[i]).f2.toList), e1]
    exact ih (i + 1) k (by omega) (by omega)
theorem back_j1 (c : Nat) (hv : Utf8.valid (c : Int) = true) (a b : ByteArray) (ha : a.size ≤ 1000) (hb : b.size ≤ 1000) (k : Nat) (hk : 200 ≤ k) : PGBack.platenlaw10_BadBack.j1 k (c : Int) a b = some true := by
  obtain ⟨k, rfl⟩ : ∃ k', k = k' + 3 := ⟨k - 3, by omega⟩
  have ee : enc (c : Int) = encN c := by unfold enc; rw [if_pos hv, Int.toNat_natCast]
  have z0 : 6 + a.size ≤ 9223372036854775807 := bnd3 _ _ (by omega) (by omega)
  have z1 : ((⟨#[80, 65, 78, 73, 67, 61]⟩ : ByteArray) ++ a).size + 9 ≤ 9223372036854775807 := bnd3 _ _ (by rw [ByteArray.size_append]; have : (ByteArray.mk #[80, 65, 78, 73, 67, 61]).size = 6 := rfl; omega) (by omega)
  have z2 : (((⟨#[80, 65, 78, 73, 67, 61]⟩ : ByteArray) ++ a) ++ (⟨#[32, 109, 101, 116, 104, 111, 100, 58, 32]⟩ : ByteArray)).size + b.size ≤ 9223372036854775807 := bnd3 _ _ (by rw [ByteArray.size_append, ByteArray.size_append]; have : (ByteArray.mk #[80, 65, 78, 73, 67, 61]).size = 6 := rfl; have : (ByteArray.mk #[32, 109, 101, 116, 104, 111, 100, 58, 32]).size = 9 := rfl; omega) (by omega)
  have z3 : a.size + 1 ≤ 9223372036854775807 := bnd3 _ _ (by omega) (by omega)
  have z4 : (a ++ (⟨#[61]⟩ : ByteArray)).size + b.size ≤ 9223372036854775807 := bnd3 _ _ (by rw [ByteArray.size_append]; have : (ByteArray.mk #[61]).size = 1 := rfl; omega) (by omega)
  have e1 : bad_Nil.f (c : Int) = some (wrapB (encN c) [60, 110, 105, 108, 62]) := by unfold bad_Nil.f; rw [ee]
  have e2 : bad_Missing.f (c : Int) = some (wrapB (encN c) [77, 73, 83, 83, 73, 78, 71]) := by unfold bad_Missing.f; rw [ee]
  have e3 : bad_Index.f (c : Int) = some (wrapB (encN c) [66, 65, 68, 73, 78, 68, 69, 88]) := by unfold bad_Index.f; rw [ee]
  have e4 : bad_Panic.f (c : Int) a b = some (wrapB (encN c) ([80, 65, 78, 73, 67, 61] ++ (a.data.toList ++ ([32, 109, 101, 116, 104, 111, 100, 58, 32] ++ b.data.toList)))) := by unfold bad_Panic.f; rw [if_pos ⟨by omega, by omega⟩, ee]
  have e5 : bad_Verb.f (c : Int) a b = some (wrapB (encN c) (a.data.toList ++ (61 :: b.data.toList))) := by unfold bad_Verb.f; rw [if_pos ⟨by omega, by omega⟩, ee]
  have hr := rows_ok c hv a b ha hb
  have j3 : ∀ (k : Nat) (l : List PGBack.S41), (∀ x ∈ l, RowOk c x) → l.length ≤ 10 → 150 ≤ k → PGBack.platenlaw10_BadBack.j3 (k + 1) (c : Int) a b l = some true := by
    intro k l h1 h2 h3
    rw [PGBack.platenlaw10_BadBack.j3]
    exact back_l0 c a b l ha hb h1 h2 l.length 0 k (by omega) (by omega)
  have j2t : (a.data.toList.length < 5 ∨ a.data.toList.take 5 ≠ [80, 65, 78, 73, 67]) → PGBack.platenlaw10_BadBack.j2 (k + 2) (c : Int) a b (rows c a b) true = some true := by
    intro h
    rw [PGBack.platenlaw10_BadBack.j2, if_pos rfl, e5, Option.bind_some, if_pos z3, if_pos z4, if_pos (by simp [rows])]
    refine j3 k _ (fun x hx => ?_) (by simp [rows]) (by omega)
    rcases List.mem_append.1 hx with hx | hx
    · exact hr x hx
    · rw [List.mem_singleton.1 hx]; exact rowV_ok c hv a b ha hb h
  have j2f : PGBack.platenlaw10_BadBack.j2 (k + 2) (c : Int) a b (rows c a b) false = some true := by
    rw [PGBack.platenlaw10_BadBack.j2, if_neg Bool.false_ne_true]
    exact j3 k _ hr (by simp [rows]) (by omega)
  rw [PGBack.platenlaw10_BadBack.j1, e1, e2, e3, e4, Option.bind_some, Option.bind_some, Option.bind_some, Option.bind_some, if_pos z0, if_pos z1, if_pos z2, Option.bind_some]
  by_cases h5 : (a.size : Int) < 5
  · rw [if_pos h5]
    exact j2t (.inl (by rw [← Lib.size_eq]; omega))
  · have e5 : (a.extract 0 5).toList = a.data.toList.take 5 := by rw [Lib.toList_data, Lib.extract_data]; simp
    rw [if_neg h5, if_pos (by omega), if_pos (by omega), e5]
    by_cases h6 : a.data.toList.take 5 = [80, 65, 78, 73, 67]
    · rw [h6]; exact j2f
    · have : (a.data.toList.take 5 != [80, 65, 78, 73, 67]) = true := bne_iff_ne.2 h6
      rw [this]; exact j2t (.inr h6)
theorem back_pure (c : Int) (x y : ByteArray) : PGBack.platenlaw10_BadBack.f 500 c x y = some true := by
  obtain ⟨a, ha, hsa⟩ := cut_f x
  obtain ⟨b, hb, hsb⟩ := cut_f y
  have hbad : ∀ k, 300 ≤ k → PGBack.platenlaw10_BadBack.j0 (k + 1) c a b true = some true := by
    intro k hk
    rw [PGBack.platenlaw10_BadBack.j0, if_pos rfl]
    exact back_j1 65533 (by decide) a b hsa hsb k (by omega)
  have hgood : Utf8.valid c = true → ∀ k, 300 ≤ k → PGBack.platenlaw10_BadBack.j0 (k + 1) c a b false = some true := by
    intro hv k hk
    have h0 : 0 ≤ c := by simp [Utf8.valid] at hv; omega
    obtain ⟨n, rfl⟩ : ∃ n : Nat, c = n := ⟨c.toNat, by omega⟩
    rw [PGBack.platenlaw10_BadBack.j0, if_neg Bool.false_ne_true]
    exact back_j1 n hv a b hsa hsb k (by omega)
  have hval : 0 ≤ c → c ≤ 1114111 → ¬ (55296 ≤ c ∧ c ≤ 57343) → Utf8.valid c = true := by
    intro h1 h2 h3
    simp [Utf8.valid]; omega
  unfold PGBack.platenlaw10_BadBack.f
  rw [ha, Option.bind_some, hb, Option.bind_some]
  by_cases h1 : c < 0
  · rw [if_pos h1]; exact hbad 499 (by omega)
  rw [if_neg h1]
  by_cases h2 : c > 1114111
  · rw [if_pos h2]; exact hbad 499 (by omega)
  rw [if_neg h2]
  by_cases h3 : c ≥ 55296
  · rw [if_pos h3]
    by_cases h4 : c ≤ 57343
    · rw [decide_eq_true h4]; exact hbad 499 (by omega)
    · rw [decide_eq_false h4]; exact hgood (hval (by omega) (by omega) (by omega)) 499 (by omega)
  · rw [if_neg h3]; exact hgood (hval (by omega) (by omega) (by omega)) 499 (by omega)
theorem lawBadBack.lawC (c : Int) (a b : ByteArray) (W : World) (hok : Ok W) (_h : (Lit.int .i32 c).wf = true) (_h1 : a.size ≤ 140737488351232) (_h2 : b.size ≤ 140737488351232) :
    Calls Tryd.prog 8 #[.int .i32 c, .string a, .string b] W fun e w' => e = .returned (.bool true) ∧ Below W.heap.size W w' :=
  PGBack.platenlaw10_BadBack.calls 500 c a b true W ⟨hok⟩ (back_pure c a b)
end Go.Proofs.YtiaocdbgcjnceaaDoor
namespace Go.Proofs.YtiaocdbgcjnceaaDoor
open Go.ChangeShapes Go.WideShapes Go.ChangeAt Go.RowKit Go.Lib
theorem handed_shaped {H : Type} {enc : TypeId × Value → H} {a : Assume} {C : Checked} {os : Os} {f : FuncId} {fn : Func} {s : ChangeSpec} {conds : List PathCond} {apart fresh handsOn again : Bool} {X : World → Array Value → Prop}
    (hX : ∀ (w w' : World) (args : Array Value), w.heap = w'.heap → X w args → X w' args)
    (own : ownKnob C.prog.godebug = none) (started : os.Started) (noInit : C.prog.inits.idxOf? f = none) (hfn : C.prog.funcs[f]? = some fn)
    (witness : ∃ (w : World) (tape : Tape) (i : Input), w.os = os ∧ (w.forCall tape i).Shaped C.prog ∧ i.vars = [] ∧ Input.okWide C.prog (w.forCall tape i) .any w.heap.size f i ∧
      ((s.pre enc C.prog fn conds apart (w.forCall tape i).memory i.args ∧ X (w.forCall tape i).memory i.args) ∧ sizedMet enc C.prog fn (OpenSpec.ofChange s) apart (w.forCall tape i).memory i.args) ∧ a.holds C.prog (lone (Frame.enter C.prog f i.args .normal) [] (w.forCall tape i)))
    (contract : ∀ (W : World) (base : Nat) (args : Array Value) (ds gs : List (DataW H)) (before : List MemPlace),
      (∀ (j : Nat) t v, fn.params[j]? = some t → args[j]? = some v → Value.okWide C.prog W .any base t v) →
      DataW.Whole enc C.prog fn.params.toList s.vars apart W args.toList ds gs before →
      conds.all (PathCond.test C.prog ⟨fn.params.toList, ds, s.plain.varTypes C.prog, gs⟩) = true →
      (DataW.weightsEach C.prog (fn.params.toList ++ s.plain.varTypes C.prog) (ds ++ gs)).all (· ≤ reachBytes) = true → X W args → W.ShapedOpen C.prog →
      a.holds C.prog (lone (Frame.enter C.prog f args .normal) [] W) →
      Calls C.prog f args W fun e W' => ∃ v, e = .returned v ∧ s.post enc C.prog fn apart fresh handsOn again W args v W') :
    ReturnsInHanded a C os f .any (fun w args => (s.pre enc C.prog fn conds apart w args ∧ X w args) ∧ sizedMet enc C.prog fn (OpenSpec.ofChange s) apart w args) (s.post enc C.prog fn apart fresh handsOn again) := by
  refine returnsInHanded_of_calls own started noInit witness ?_
  intro w tape i _ hsh _ hok hpre hholds
  obtain ⟨_, _, _, fn', hfn', _, _, _, _, hval⟩ := hok
  have e : fn' = fn := Option.some.inj (hfn'.symm.trans hfn)
  subst e
  obtain ⟨⟨⟨ds, gs, before, hw, hc⟩, hx⟩, hz⟩ := hpre
  have hw' := DataW.Whole.of_heap (w' := w.forCall tape i) (by rfl) hw
  refine (contract (w.forCall tape i) w.heap.size i.args ds gs before hval hw' hc (hz.weights hw) (hX _ _ _ (by rfl) hx) hsh hholds).mono fun e W' ⟨v, he, hp⟩ => ?_
  subst he
  exact ChangeSpec.post_blind hp
theorem own : ownKnob Tryd.prog.godebug = none := by kernel_rfl
def tables : List (String × DataW Unit) := [("unicode/utf8.acceptRanges", Rows.laid_unicode_utf8_acceptRanges), ("unicode/utf8.first", Rows.laid_unicode_utf8_first)]
theorem accept_eq : (Rows.laid_unicode_utf8_acceptRanges : DataW Unit) = Lib.acceptData := by kernel_rfl
theorem first_eq : Rows.laid_unicode_utf8_first = Lib.firstData := Pinned.utf8First_eq
theorem extra : U8Extra Tryd.prog Tryd.lays260_ren := ⟨by kernel_rfl, by kernel_rfl, by kernel_rfl, by kernel_rfl, by kernel_rfl, by kernel_rfl, by kernel_rfl⟩
theorem ok_of {W : World} (hL : laidMet Tryd.prog tables W) (hS : W.ShapedOpen Tryd.prog) : Ok W := by
  refine ⟨?_, Tryd.laysM144.s1_3 W hS⟩
  have h3 : VarReads Tryd.prog W "unicode/utf8.first" Lib.firstData := first_eq ▸ Lib.laidMet.reads hL (.tail _ (.head _))
  have h4 : VarReads Tryd.prog W "unicode/utf8.acceptRanges" Lib.acceptData := accept_eq ▸ Lib.laidMet.reads hL (.head _)
  exact utf8Tabs_of_reads Tryd.lays260 extra h3 h4
end Go.Proofs.YtiaocdbgcjnceaaDoor
namespace Go.Proofs.YtiaocdbgcjnceaaDoor.lawBadBack
open Go.ChangeShapes Go.WideShapes Go.ChangeAt Go.RowKit Go.Lib
open Go.ChangeMaps (open_string shut_string)
set_option maxRecDepth 100000 in
theorem lifted (os : Os) (started : os.Started) (H : Type) (enc : TypeId × Value → H) :
    ReturnsInHanded {} Tryd.checked os 8 .any (fun w args => (Rows.badBackSpec.pre enc Tryd.prog Tryd.f8 [] false w args ∧ laidMetH Tryd.prog tables w) ∧ sizedMet enc Tryd.prog Tryd.f8 (OpenSpec.ofChange Rows.badBackSpec) false w args)
      (Rows.badBackSpec.post enc Tryd.prog Tryd.f8 false true false false) := by
  refine handed_shaped (C := Tryd.checked) (X := fun w _ => laidMetH Tryd.prog tables w) (fun _ _ _ hh h => h.of_heap hh) own started (by kernel_rfl) Tryd.func8
    (ChangeSpec.witness_shaped (enc := enc) (C := Tryd.checked) (os := os) (X := fun w _ => laidMetH Tryd.prog tables w) false (World.laidAll Tryd.prog os tables) #[.int .i32 0, .string ⟨#[]⟩, .string ⟨#[]⟩] 8 (World.laidAll_os _ _ _)
      (World.shaped_of_ZipB (by kernel_rfl) (by kernel_rfl)) (by kernel_rfl) (by kernel_rfl) (by kernel_rfl)
      (by rw [MakeChecks.laidMetH_plain _ _ _ (by kernel_rfl)]; exact laidMet_laidAll _ (by kernel_rfl) (by kernel_rfl))) ?_
  intro W base args ds gs before hval0 hW _ hsz0 hL hS _
  have hval : ∀ (j : Nat) t v, Tryd.f8.params[j]? = some t → args[j]? = some v → Value.okWide Tryd.prog W .any base t v := hval0
  have hsz : (DataW.weightsEach Tryd.prog (Tryd.f8.params.toList ++ Rows.badBackSpec.plain.varTypes Tryd.prog) (ds ++ gs)).all (· ≤ reachBytes) = true := hsz0
  have hW' := hW
  obtain ⟨p, q, hA0, hV, rfl, _, _⟩ := hW
  have hA : DataW.TrodAll enc Tryd.prog W 0 (fun _ => true) true Tryd.f8.params.toList args.toList ds p := hA0
  rw [Tryd.params8] at hA hval
  obtain ⟨v0, vs0, d0, ds0, p0, q0, hargs, rfl, rfl, h0, r0⟩ := trodAll_cons hA
  obtain ⟨v1, vs1, d1, ds1, p1, q1, rfl, rfl, rfl, h1, r1⟩ := trodAll_cons r0
  obtain ⟨v2, vs2, d2, ds2, p2, q2, rfl, rfl, rfl, h2, r2⟩ := trodAll_cons r1
  obtain ⟨rfl, rfl, rfl⟩ := trodAll_nil r2
  obtain rfl : args = #[v0, v1, v2] := by cases args; simp_all
  obtain ⟨rfl, rfl⟩ := trodVars_none hV
  rw [MakeChecks.laidMetH_plain _ _ _ (by kernel_rfl)] at hL
  have hok := ok_of hL hS
  obtain ⟨a0, rfl, rfl, rfl, w0⟩ := open_int Tryd.underlying21 (hval 0 21 v0 rfl rfl) h0
  obtain ⟨a1, rfl, rfl, rfl, y1⟩ := open_string Tryd.underlying9 (hval 1 9 v1 rfl rfl) h1
  have w1 : a1.size ≤ 140737488351232 := by
    have z := sized_string hsz (j := 1) (t := 9) rfl rfl
    rw [Array.length_toList] at z
    exact z
  obtain ⟨a2, rfl, rfl, rfl, y2⟩ := open_string Tryd.underlying9 (hval 2 9 v2 rfl rfl) h2
  have w2 : a2.size ≤ 140737488351232 := by
    have z := sized_string hsz (j := 2) (t := 9) rfl rfl
    rw [Array.length_toList] at z
    exact z
  refine (lawBadBack.lawC a0 a1 a2 W hok w0 w1 w2).mono fun e W' ⟨he, hb⟩ => ?_
  subst he
  exact ⟨_, rfl, _, _, _, [], _, [], hW', trodAll_mk1 (shut_bool Tryd.underlying4 _), (trodAll_cons_mk (shut_int Tryd.underlying21 w0) (trodAll_cons_mk (shut_string Tryd.underlying9 y1) (trodAll_cons_mk (shut_string Tryd.underlying9 y2) trodAll_mk0))), rfl, hb.frame _, fun h => by cases h⟩
theorem said : Rows.BadBackSaid :=
  OpenClaim.holds_of_wide 8 Tryd.f8 rfl rfl rfl rfl rfl rfl rfl ⟨rfl, rfl, rfl, rfl, rfl⟩ rfl rfl rfl rfl rfl (by kernel_rfl) Tryd.func8 (by kernel_rfl)
    (of_decide_eq_true (by kernel_rfl)) (by unfold Func.isWrapper; first | (rw [if_pos (by decide +kernel)]; kernel_rfl) | (rw [if_neg (by decide +kernel)]; exact ⟨rfl, rfl⟩))
    (fun os started H enc _ => lifted os started H enc)
theorem plain (f : FuncId) (fn : Func) (hf : Tryd.pinned.checked.prog.funcNamed Rows.badBackRow.func = some f) (hfn : Tryd.pinned.checked.prog.funcs[f]? = some fn) :
    false = Tryd.pinned.checked.prog.looks [] ∧ ∀ (j : Nat) t, fn.params[j]? = some t → Tryd.pinned.checked.prog.wantsStandIn t = false := by
  obtain rfl : f = 8 := Option.some.inj ((show Tryd.prog.funcNamed Rows.badBackRow.func = some 8 by kernel_rfl).symm.trans hf) |>.symm
  obtain rfl : fn = Tryd.f8 := (Option.some.inj (Tryd.func8.symm.trans hfn)).symm
  refine ⟨by kernel_rfl, fun j t ht => ?_⟩
  rw [Tryd.params8] at ht
  have hm : t ∈ [21, 9, 9] := by simpa using Array.mem_of_getElem? ht
  have hall : ([21, 9, 9].all fun u => !Tryd.prog.wantsStandIn u) = true := by kernel_rfl
  exact (show Tryd.prog.wantsStandIn t = false by simpa using List.all_eq_true.1 hall t hm)
theorem card : Rows.BadBackCardSaid :=
  Claim7.holds_tied_plain_at .later [] _ _ _ _ said (fun _ h => by cases h) (by kernel_rfl) (fun _ h => by cases h) badBack_row_tie rfl ⟨rfl, rfl⟩ (by kernel_rfl) rfl plain (by kernel_rfl)
end Go.Proofs.YtiaocdbgcjnceaaDoor.lawBadBack
#print axioms Go.Proofs.YtiaocdbgcjnceaaDoor.lawBadBack.card
