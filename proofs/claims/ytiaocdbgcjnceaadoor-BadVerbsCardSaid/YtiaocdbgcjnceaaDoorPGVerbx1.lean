-- Printed by this session's program gprint.py over the kit's print.py.
import Derived.Test.YtiaocdbgcjnceaaDoorPGVerbx0
namespace Go.Proofs.YtiaocdbgcjnceaaDoor.PGVerb
open Go.RowKit Go.Proofs.YtiaocdbgcjnceaaDoorW.PrintWords Go.Proofs.YtiaocdbgcjnceaaDoorW.PrintLast Go.Proofs.YtiaocdbgcjnceaaDoorW.PrintMore
attribute [local go_sem] max2_int min2_int max_two min_two max_three min_three max_four min_four   -- for this text's walks alone
set_option linter.unusedVariables false
set_option linter.unusedSimpArgs false





/-! ### platenref10_Verb: function 21 -/
def platenref10_Verb.f (k : Nat) (a0 : Int) (a1 : ByteArray) (a2 : ByteArray) : Option (ByteArray) := (PGBad.platenref01_Rune.f k a0).bind fun t101 => (if 2 + t101.size ≤ 9223372036854775807 then (if ((⟨#[37, 33]⟩ : ByteArray) ++ t101).size + 1 ≤ 9223372036854775807 then (if (((⟨#[37, 33]⟩ : ByteArray) ++ t101) ++ (⟨#[40]⟩ : ByteArray)).size + a1.size ≤ 9223372036854775807 then (if ((((⟨#[37, 33]⟩ : ByteArray) ++ t101) ++ (⟨#[40]⟩ : ByteArray)) ++ a1).size + 1 ≤ 9223372036854775807 then (if (((((⟨#[37, 33]⟩ : ByteArray) ++ t101) ++ (⟨#[40]⟩ : ByteArray)) ++ a1) ++ (⟨#[61]⟩ : ByteArray)).size + a2.size ≤ 9223372036854775807 then (if ((((((⟨#[37, 33]⟩ : ByteArray) ++ t101) ++ (⟨#[40]⟩ : ByteArray)) ++ a1) ++ (⟨#[61]⟩ : ByteArray)) ++ a2).size + 1 ≤ 9223372036854775807 then (some (((((((⟨#[37, 33]⟩ : ByteArray) ++ t101) ++ (⟨#[40]⟩ : ByteArray)) ++ a1) ++ (⟨#[61]⟩ : ByteArray)) ++ a2) ++ (⟨#[41]⟩ : ByteArray))) else (none)) else (none)) else (none)) else (none)) else (none)) else (none))
theorem platenref10_Verb.mono : ∀ a0 a1 a2 k, LeO (platenref10_Verb.f k a0 a1 a2) (platenref10_Verb.f (k + 1) a0 a1 a2) := by
  intro a0 a1 a2 k
  unfold platenref10_Verb.f
  repeat' first
      | (with_reducible exact PGBad.platenref01_Rune.mono _ _)
      | (with_reducible exact LeO.refl _)
      | (with_reducible exact LeO.none _)
      | (with_reducible refine LeO.ite ?_ ?_)
      | (with_reducible refine LeO.bind ?_ (fun _ => ?_))
      | exact PGBad.platenref01_Rune.mono _ _
      | exact LeO.none _
      | refine LeO.ite ?_ ?_
      | refine LeO.bind ?_ (fun _ => ?_)
set_option maxHeartbeats 8000000 in
set_option maxRecDepth 100000 in
theorem platenref10_Verb.calls (k : Nat) (a0 : Int) (a1 : ByteArray) (a2 : ByteArray) (r : ByteArray) (w : World) (h : platenref10_Verb.f k a0 a1 a2 = some r) :
    Calls Tryd.prog 21 #[.int .i32 a0, .string a1, .string a2] w fun e w' => e = .returned (.string r) ∧ Below w.heap.size w w' := by
  have HB := Aside0.mk (Below.refl w.heap.size w)
  have H : ((PGBad.platenref01_Rune.f k a0).bind fun t101 => (if 2 + t101.size ≤ 9223372036854775807 then (if ((⟨#[37, 33]⟩ : ByteArray) ++ t101).size + 1 ≤ 9223372036854775807 then (if (((⟨#[37, 33]⟩ : ByteArray) ++ t101) ++ (⟨#[40]⟩ : ByteArray)).size + a1.size ≤ 9223372036854775807 then (if ((((⟨#[37, 33]⟩ : ByteArray) ++ t101) ++ (⟨#[40]⟩ : ByteArray)) ++ a1).size + 1 ≤ 9223372036854775807 then (if (((((⟨#[37, 33]⟩ : ByteArray) ++ t101) ++ (⟨#[40]⟩ : ByteArray)) ++ a1) ++ (⟨#[61]⟩ : ByteArray)).size + a2.size ≤ 9223372036854775807 then (if ((((((⟨#[37, 33]⟩ : ByteArray) ++ t101) ++ (⟨#[40]⟩ : ByteArray)) ++ a1) ++ (⟨#[61]⟩ : ByteArray)) ++ a2).size + 1 ≤ 9223372036854775807 then (some (((((((⟨#[37, 33]⟩ : ByteArray) ++ t101) ++ (⟨#[40]⟩ : ByteArray)) ++ a1) ++ (⟨#[61]⟩ : ByteArray)) ++ a2) ++ (⟨#[41]⟩ : ByteArray))) else (none)) else (none)) else (none)) else (none)) else (none)) else (none))) = some r := h
  clear h
  replace H := Option.bind_eq_some_iff.mp H
  obtain ⟨t101, A40, H⟩ := H
  replace H : (if 2 + t101.size ≤ 9223372036854775807 then (if ((⟨#[37, 33]⟩ : ByteArray) ++ t101).size + 1 ≤ 9223372036854775807 then (if (((⟨#[37, 33]⟩ : ByteArray) ++ t101) ++ (⟨#[40]⟩ : ByteArray)).size + a1.size ≤ 9223372036854775807 then (if ((((⟨#[37, 33]⟩ : ByteArray) ++ t101) ++ (⟨#[40]⟩ : ByteArray)) ++ a1).size + 1 ≤ 9223372036854775807 then (if (((((⟨#[37, 33]⟩ : ByteArray) ++ t101) ++ (⟨#[40]⟩ : ByteArray)) ++ a1) ++ (⟨#[61]⟩ : ByteArray)).size + a2.size ≤ 9223372036854775807 then (if ((((((⟨#[37, 33]⟩ : ByteArray) ++ t101) ++ (⟨#[40]⟩ : ByteArray)) ++ a1) ++ (⟨#[61]⟩ : ByteArray)) ++ a2).size + 1 ≤ 9223372036854775807 then (some (((((((⟨#[37, 33]⟩ : ByteArray) ++ t101) ++ (⟨#[40]⟩ : ByteArray)) ++ a1) ++ (⟨#[61]⟩ : ByteArray)) ++ a2) ++ (⟨#[41]⟩ : ByteArray))) else (none)) else (none)) else (none)) else (none)) else (none)) else (none)) = some r := H
  have A4 := Aside0.mk A40
  clear A40
  by_cases c5 : 2 + t101.size ≤ 9223372036854775807
  · rw [if_pos c5] at H
    have c5b0 := eq_true c5
    have c5b1 : decide (2 + t101.size ≤ 9223372036854775807) = true := decide_eq_true c5
    try have c5b2 : (9223372036854775807 < 2 + t101.size) = False := eq_false (Nat.not_lt.2 c5)
    by_cases c6 : ((⟨#[37, 33]⟩ : ByteArray) ++ t101).size + 1 ≤ 9223372036854775807
    · rw [if_pos c6] at H
      have c6b0 := eq_true c6
      have c6b1 : decide (((⟨#[37, 33]⟩ : ByteArray) ++ t101).size + 1 ≤ 9223372036854775807) = true := decide_eq_true c6
      try have c6b2 : (9223372036854775807 < ((⟨#[37, 33]⟩ : ByteArray) ++ t101).size + 1) = False := eq_false (Nat.not_lt.2 c6)
      try have c6b4 : (9223372036854775807 < 2 + t101.size + 1) = False := eq_false (by have z_ := c6; simp only [ByteArray.size_append', ByteArray.size_mk', List.size_toArray, List.length_cons, List.length_nil] at z_; omega)
      by_cases c7 : (((⟨#[37, 33]⟩ : ByteArray) ++ t101) ++ (⟨#[40]⟩ : ByteArray)).size + a1.size ≤ 9223372036854775807
      · rw [if_pos c7] at H
        have c7b0 := eq_true c7
        have c7b1 : decide ((((⟨#[37, 33]⟩ : ByteArray) ++ t101) ++ (⟨#[40]⟩ : ByteArray)).size + a1.size ≤ 9223372036854775807) = true := decide_eq_true c7
        try have c7b2 : (9223372036854775807 < (((⟨#[37, 33]⟩ : ByteArray) ++ t101) ++ (⟨#[40]⟩ : ByteArray)).size + a1.size) = False := eq_false (Nat.not_lt.2 c7)
        try have c7b4 : (9223372036854775807 < 2 + t101.size + 1 + a1.size) = False := eq_false (by have z_ := c7; simp only [ByteArray.size_append', ByteArray.size_mk', List.size_toArray, List.length_cons, List.length_nil] at z_; omega)
        by_cases c8 : ((((⟨#[37, 33]⟩ : ByteArray) ++ t101) ++ (⟨#[40]⟩ : ByteArray)) ++ a1).size + 1 ≤ 9223372036854775807
        · rw [if_pos c8] at H
          have c8b0 := eq_true c8
          have c8b1 : decide (((((⟨#[37, 33]⟩ : ByteArray) ++ t101) ++ (⟨#[40]⟩ : ByteArray)) ++ a1).size + 1 ≤ 9223372036854775807) = true := decide_eq_true c8
          try have c8b2 : (9223372036854775807 < ((((⟨#[37, 33]⟩ : ByteArray) ++ t101) ++ (⟨#[40]⟩ : ByteArray)) ++ a1).size + 1) = False := eq_false (Nat.not_lt.2 c8)
          try have c8b4 : (9223372036854775807 < 2 + t101.size + 1 + a1.size + 1) = False := eq_false (by have z_ := c8; simp only [ByteArray.size_append', ByteArray.size_mk', List.size_toArray, List.length_cons, List.length_nil] at z_; omega)
          by_cases c9 : (((((⟨#[37, 33]⟩ : ByteArray) ++ t101) ++ (⟨#[40]⟩ : ByteArray)) ++ a1) ++ (⟨#[61]⟩ : ByteArray)).size + a2.size ≤ 9223372036854775807
          · rw [if_pos c9] at H
            have c9b0 := eq_true c9
            have c9b1 : decide ((((((⟨#[37, 33]⟩ : ByteArray) ++ t101) ++ (⟨#[40]⟩ : ByteArray)) ++ a1) ++ (⟨#[61]⟩ : ByteArray)).size + a2.size ≤ 9223372036854775807) = true := decide_eq_true c9
            try have c9b2 : (9223372036854775807 < (((((⟨#[37, 33]⟩ : ByteArray) ++ t101) ++ (⟨#[40]⟩ : ByteArray)) ++ a1) ++ (⟨#[61]⟩ : ByteArray)).size + a2.size) = False := eq_false (Nat.not_lt.2 c9)
            try have c9b4 : (9223372036854775807 < 2 + t101.size + 1 + a1.size + 1 + a2.size) = False := eq_false (by have z_ := c9; simp only [ByteArray.size_append', ByteArray.size_mk', List.size_toArray, List.length_cons, List.length_nil] at z_; omega)
            by_cases c10 : ((((((⟨#[37, 33]⟩ : ByteArray) ++ t101) ++ (⟨#[40]⟩ : ByteArray)) ++ a1) ++ (⟨#[61]⟩ : ByteArray)) ++ a2).size + 1 ≤ 9223372036854775807
            · rw [if_pos c10] at H
              have c10b0 := eq_true c10
              have c10b1 : decide (((((((⟨#[37, 33]⟩ : ByteArray) ++ t101) ++ (⟨#[40]⟩ : ByteArray)) ++ a1) ++ (⟨#[61]⟩ : ByteArray)) ++ a2).size + 1 ≤ 9223372036854775807) = true := decide_eq_true c10
              try have c10b2 : (9223372036854775807 < ((((((⟨#[37, 33]⟩ : ByteArray) ++ t101) ++ (⟨#[40]⟩ : ByteArray)) ++ a1) ++ (⟨#[61]⟩ : ByteArray)) ++ a2).size + 1) = False := eq_false (Nat.not_lt.2 c10)
              try have c10b4 : (9223372036854775807 < 2 + t101.size + 1 + a1.size + 1 + a2.size + 1) = False := eq_false (by have z_ := c10; simp only [ByteArray.size_append', ByteArray.size_mk', List.size_toArray, List.length_cons, List.length_nil] at z_; omega)
              obtain rfl := Option.some.inj H
              go_enter Tryd.func21, Tryd.ntmps21
              go_wp2_with (first | ((with_reducible refine gate_callee (f := 42) rfl ?_); refine goesL_ (some 8) rfl rfl Tryd.func42 (by kernel_rfl) rfl #[.int .i32 a0] rfl (by (try simp only [List.map_toArray, List.map_cons, List.map_nil]); first | done | rfl | (simp only [List.length_drop, List.length_take]; rfl)) ?_; (with_reducible refine (PGBad.platenref01_Rune.calls k a0 t101 _ A4.out).mono ?_); rintro e w11 ⟨rfl, hb⟩; refine ⟨_, rfl, ?_⟩; have n0_ := Aside0.mk (below_step (by repeat (first | (with_reducible first | exact HB.out | apply below_alloc | apply pw_below_drewN | apply below_drew1) | exact HB.out)) hb); clear HB; have HB := n0_; clear n0_; (try clear hb); (try clear hb2); (try clear hk); (try clear hi)))
              go_ret
              exact ⟨by first | rfl | (simp [errW_none, errW_some] <;> rfl) | (simp [*, errW_none, errW_some] <;> rfl), by repeat (first | (with_reducible first | exact HB.out | apply below_alloc | apply pw_below_drewN | apply below_drew1) | exact HB.out)⟩
            · rw [if_neg c10] at H
              exact absurd H (by simp)
          · rw [if_neg c9] at H
            exact absurd H (by simp)
        · rw [if_neg c8] at H
          exact absurd H (by simp)
      · rw [if_neg c7] at H
        exact absurd H (by simp)
    · rw [if_neg c6] at H
      exact absurd H (by simp)
  · rw [if_neg c5] at H
    exact absurd H (by simp)


/-! ### platenref10_Nil: function 23 -/
def platenref10_Nil.f (k : Nat) (a0 : Int) : Option (ByteArray) := (PGBad.platenref01_Rune.f k a0).bind fun t102 => (if 2 + t102.size ≤ 9223372036854775807 then (if ((⟨#[37, 33]⟩ : ByteArray) ++ t102).size + 7 ≤ 9223372036854775807 then (some (((⟨#[37, 33]⟩ : ByteArray) ++ t102) ++ (⟨#[40, 60, 110, 105, 108, 62, 41]⟩ : ByteArray))) else (none)) else (none))
theorem platenref10_Nil.mono : ∀ a0 k, LeO (platenref10_Nil.f k a0) (platenref10_Nil.f (k + 1) a0) := by
  intro a0 k
  unfold platenref10_Nil.f
  repeat' first
      | (with_reducible exact PGBad.platenref01_Rune.mono _ _)
      | (with_reducible exact LeO.refl _)
      | (with_reducible exact LeO.none _)
      | (with_reducible refine LeO.ite ?_ ?_)
      | (with_reducible refine LeO.bind ?_ (fun _ => ?_))
      | exact PGBad.platenref01_Rune.mono _ _
      | exact LeO.none _
      | refine LeO.ite ?_ ?_
      | refine LeO.bind ?_ (fun _ => ?_)
set_option maxHeartbeats 8000000 in
set_option maxRecDepth 100000 in
theorem platenref10_Nil.calls (k : Nat) (a0 : Int) (r : ByteArray) (w : World) (h : platenref10_Nil.f k a0 = some r) :
    Calls Tryd.prog 23 #[.int .i32 a0] w fun e w' => e = .returned (.string r) ∧ Below w.heap.size w w' := by
  have HB := Aside0.mk (Below.refl w.heap.size w)
  have H : ((PGBad.platenref01_Rune.f k a0).bind fun t102 => (if 2 + t102.size ≤ 9223372036854775807 then (if ((⟨#[37, 33]⟩ : ByteArray) ++ t102).size + 7 ≤ 9223372036854775807 then (some (((⟨#[37, 33]⟩ : ByteArray) ++ t102) ++ (⟨#[40, 60, 110, 105, 108, 62, 41]⟩ : ByteArray))) else (none)) else (none))) = some r := h
  clear h
  replace H := Option.bind_eq_some_iff.mp H
  obtain ⟨t102, A20, H⟩ := H
  replace H : (if 2 + t102.size ≤ 9223372036854775807 then (if ((⟨#[37, 33]⟩ : ByteArray) ++ t102).size + 7 ≤ 9223372036854775807 then (some (((⟨#[37, 33]⟩ : ByteArray) ++ t102) ++ (⟨#[40, 60, 110, 105, 108, 62, 41]⟩ : ByteArray))) else (none)) else (none)) = some r := H
  have A2 := Aside0.mk A20
  clear A20
  by_cases c3 : 2 + t102.size ≤ 9223372036854775807
  · rw [if_pos c3] at H
    have c3b0 := eq_true c3
    have c3b1 : decide (2 + t102.size ≤ 9223372036854775807) = true := decide_eq_true c3
    try have c3b2 : (9223372036854775807 < 2 + t102.size) = False := eq_false (Nat.not_lt.2 c3)
    by_cases c4 : ((⟨#[37, 33]⟩ : ByteArray) ++ t102).size + 7 ≤ 9223372036854775807
    · rw [if_pos c4] at H
      have c4b0 := eq_true c4
      have c4b1 : decide (((⟨#[37, 33]⟩ : ByteArray) ++ t102).size + 7 ≤ 9223372036854775807) = true := decide_eq_true c4
      try have c4b2 : (9223372036854775807 < ((⟨#[37, 33]⟩ : ByteArray) ++ t102).size + 7) = False := eq_false (Nat.not_lt.2 c4)
      try have c4b4 : (9223372036854775807 < 2 + t102.size + 7) = False := eq_false (by have z_ := c4; simp only [ByteArray.size_append', ByteArray.size_mk', List.size_toArray, List.length_cons, List.length_nil] at z_; omega)
      obtain rfl := Option.some.inj H
      go_enter Tryd.func23, Tryd.ntmps23
      go_wp2_with (first | ((with_reducible refine gate_callee (f := 42) rfl ?_); refine goesL_ (some 4) rfl rfl Tryd.func42 (by kernel_rfl) rfl #[.int .i32 a0] rfl (by (try simp only [List.map_toArray, List.map_cons, List.map_nil]); first | done | rfl | (simp only [List.length_drop, List.length_take]; rfl)) ?_; (with_reducible refine (PGBad.platenref01_Rune.calls k a0 t102 _ A2.out).mono ?_); rintro e w5 ⟨rfl, hb⟩; refine ⟨_, rfl, ?_⟩; have n0_ := Aside0.mk (below_step (by repeat (first | (with_reducible first | exact HB.out | apply below_alloc | apply pw_below_drewN | apply below_drew1) | exact HB.out)) hb); clear HB; have HB := n0_; clear n0_; (try clear hb); (try clear hb2); (try clear hk); (try clear hi)))
      go_ret
      exact ⟨by first | rfl | (simp [errW_none, errW_some] <;> rfl) | (simp [*, errW_none, errW_some] <;> rfl), by repeat (first | (with_reducible first | exact HB.out | apply below_alloc | apply pw_below_drewN | apply below_drew1) | exact HB.out)⟩
    · rw [if_neg c4] at H
      exact absurd H (by simp)
  · rw [if_neg c3] at H
    exact absurd H (by simp)


/-! ### platenref10_Missing: function 25 -/
def platenref10_Missing.f (k : Nat) (a0 : Int) : Option (ByteArray) := (PGBad.platenref01_Rune.f k a0).bind fun t103 => (if 2 + t103.size ≤ 9223372036854775807 then (if ((⟨#[37, 33]⟩ : ByteArray) ++ t103).size + 9 ≤ 9223372036854775807 then (some (((⟨#[37, 33]⟩ : ByteArray) ++ t103) ++ (⟨#[40, 77, 73, 83, 83, 73, 78, 71, 41]⟩ : ByteArray))) else (none)) else (none))
theorem platenref10_Missing.mono : ∀ a0 k, LeO (platenref10_Missing.f k a0) (platenref10_Missing.f (k + 1) a0) := by
  intro a0 k
  unfold platenref10_Missing.f
  repeat' first
      | (with_reducible exact PGBad.platenref01_Rune.mono _ _)
      | (with_reducible exact LeO.refl _)
      | (with_reducible exact LeO.none _)
      | (with_reducible refine LeO.ite ?_ ?_)
      | (with_reducible refine LeO.bind ?_ (fun _ => ?_))
      | exact PGBad.platenref01_Rune.mono _ _
      | exact LeO.none _
      | refine LeO.ite ?_ ?_
      | refine LeO.bind ?_ (fun _ => ?_)
set_option maxHeartbeats 8000000 in
set_option maxRecDepth 100000 in
theorem platenref10_Missing.calls (k : Nat) (a0 : Int) (r : ByteArray) (w : World) (h : platenref10_Missing.f k a0 = some r) :
    Calls Tryd.prog 25 #[.int .i32 a0] w fun e w' => e = .returned (.string r) ∧ Below w.heap.size w w' := by
  have HB := Aside0.mk (Below.refl w.heap.size w)
  have H : ((PGBad.platenref01_Rune.f k a0).bind fun t103 => (if 2 + t103.size ≤ 9223372036854775807 then (if ((⟨#[37, 33]⟩ : ByteArray) ++ t103).size + 9 ≤ 9223372036854775807 then (some (((⟨#[37, 33]⟩ : ByteArray) ++ t103) ++ (⟨#[40, 77, 73, 83, 83, 73, 78, 71, 41]⟩ : ByteArray))) else (none)) else (none))) = some r := h
  clear h
  replace H := Option.bind_eq_some_iff.mp H
  obtain ⟨t103, A20, H⟩ := H
  replace H : (if 2 + t103.size ≤ 9223372036854775807 then (if ((⟨#[37, 33]⟩ : ByteArray) ++ t103).size + 9 ≤ 9223372036854775807 then (some (((⟨#[37, 33]⟩ : ByteArray) ++ t103) ++ (⟨#[40, 77, 73, 83, 83, 73, 78, 71, 41]⟩ : ByteArray))) else (none)) else (none)) = some r := H
  have A2 := Aside0.mk A20
  clear A20
  by_cases c3 : 2 + t103.size ≤ 9223372036854775807
  · rw [if_pos c3] at H
    have c3b0 := eq_true c3
    have c3b1 : decide (2 + t103.size ≤ 9223372036854775807) = true := decide_eq_true c3
    try have c3b2 : (9223372036854775807 < 2 + t103.size) = False := eq_false (Nat.not_lt.2 c3)
    by_cases c4 : ((⟨#[37, 33]⟩ : ByteArray) ++ t103).size + 9 ≤ 9223372036854775807
    · rw [if_pos c4] at H
      have c4b0 := eq_true c4
      have c4b1 : decide (((⟨#[37, 33]⟩ : ByteArray) ++ t103).size + 9 ≤ 9223372036854775807) = true := decide_eq_true c4
      try have c4b2 : (9223372036854775807 < ((⟨#[37, 33]⟩ : ByteArray) ++ t103).size + 9) = False := eq_false (Nat.not_lt.2 c4)
      try have c4b4 : (9223372036854775807 < 2 + t103.size + 9) = False := eq_false (by have z_ := c4; simp only [ByteArray.size_append', ByteArray.size_mk', List.size_toArray, List.length_cons, List.length_nil] at z_; omega)
      obtain rfl := Option.some.inj H
      go_enter Tryd.func25, Tryd.ntmps25
      go_wp2_with (first | ((with_reducible refine gate_callee (f := 42) rfl ?_); refine goesL_ (some 4) rfl rfl Tryd.func42 (by kernel_rfl) rfl #[.int .i32 a0] rfl (by (try simp only [List.map_toArray, List.map_cons, List.map_nil]); first | done | rfl | (simp only [List.length_drop, List.length_take]; rfl)) ?_; (with_reducible refine (PGBad.platenref01_Rune.calls k a0 t103 _ A2.out).mono ?_); rintro e w5 ⟨rfl, hb⟩; refine ⟨_, rfl, ?_⟩; have n0_ := Aside0.mk (below_step (by repeat (first | (with_reducible first | exact HB.out | apply below_alloc | apply pw_below_drewN | apply below_drew1) | exact HB.out)) hb); clear HB; have HB := n0_; clear n0_; (try clear hb); (try clear hb2); (try clear hk); (try clear hi)))
      go_ret
      exact ⟨by first | rfl | (simp [errW_none, errW_some] <;> rfl) | (simp [*, errW_none, errW_some] <;> rfl), by repeat (first | (with_reducible first | exact HB.out | apply below_alloc | apply pw_below_drewN | apply below_drew1) | exact HB.out)⟩
    · rw [if_neg c4] at H
      exact absurd H (by simp)
  · rw [if_neg c3] at H
    exact absurd H (by simp)


/-! ### platenref10_Index: function 27 -/
def platenref10_Index.f (k : Nat) (a0 : Int) : Option (ByteArray) := (PGBad.platenref01_Rune.f k a0).bind fun t104 => (if 2 + t104.size ≤ 9223372036854775807 then (if ((⟨#[37, 33]⟩ : ByteArray) ++ t104).size + 10 ≤ 9223372036854775807 then (some (((⟨#[37, 33]⟩ : ByteArray) ++ t104) ++ (⟨#[40, 66, 65, 68, 73, 78, 68, 69, 88, 41]⟩ : ByteArray))) else (none)) else (none))
theorem platenref10_Index.mono : ∀ a0 k, LeO (platenref10_Index.f k a0) (platenref10_Index.f (k + 1) a0) := by
  intro a0 k
  unfold platenref10_Index.f
  repeat' first
      | (with_reducible exact PGBad.platenref01_Rune.mono _ _)
      | (with_reducible exact LeO.refl _)
      | (with_reducible exact LeO.none _)
      | (with_reducible refine LeO.ite ?_ ?_)
      | (with_reducible refine LeO.bind ?_ (fun _ => ?_))
      | exact PGBad.platenref01_Rune.mono _ _
      | exact LeO.none _
      | refine LeO.ite ?_ ?_
      | refine LeO.bind ?_ (fun _ => ?_)
set_option maxHeartbeats 8000000 in
set_option maxRecDepth 100000 in
theorem platenref10_Index.calls (k : Nat) (a0 : Int) (r : ByteArray) (w : World) (h : platenref10_Index.f k a0 = some r) :
    Calls Tryd.prog 27 #[.int .i32 a0] w fun e w' => e = .returned (.string r) ∧ Below w.heap.size w w' := by
  have HB := Aside0.mk (Below.refl w.heap.size w)
  have H : ((PGBad.platenref01_Rune.f k a0).bind fun t104 => (if 2 + t104.size ≤ 9223372036854775807 then (if ((⟨#[37, 33]⟩ : ByteArray) ++ t104).size + 10 ≤ 9223372036854775807 then (some (((⟨#[37, 33]⟩ : ByteArray) ++ t104) ++ (⟨#[40, 66, 65, 68, 73, 78, 68, 69, 88, 41]⟩ : ByteArray))) else (none)) else (none))) = some r := h
  clear h
  replace H := Option.bind_eq_some_iff.mp H
  obtain ⟨t104, A20, H⟩ := H
  replace H : (if 2 + t104.size ≤ 9223372036854775807 then (if ((⟨#[37, 33]⟩ : ByteArray) ++ t104).size + 10 ≤ 9223372036854775807 then (some (((⟨#[37, 33]⟩ : ByteArray) ++ t104) ++ (⟨#[40, 66, 65, 68, 73, 78, 68, 69, 88, 41]⟩ : ByteArray))) else (none)) else (none)) = some r := H
  have A2 := Aside0.mk A20
  clear A20
  by_cases c3 : 2 + t104.size ≤ 9223372036854775807
  · rw [if_pos c3] at H
    have c3b0 := eq_true c3
    have c3b1 : decide (2 + t104.size ≤ 9223372036854775807) = true := decide_eq_true c3
    try have c3b2 : (9223372036854775807 < 2 + t104.size) = False := eq_false (Nat.not_lt.2 c3)
    by_cases c4 : ((⟨#[37, 33]⟩ : ByteArray) ++ t104).size + 10 ≤ 9223372036854775807
    · rw [if_pos c4] at H
      have c4b0 := eq_true c4
      have c4b1 : decide (((⟨#[37, 33]⟩ : ByteArray) ++ t104).size + 10 ≤ 9223372036854775807) = true := decide_eq_true c4
      try have c4b2 : (9223372036854775807 < ((⟨#[37, 33]⟩ : ByteArray) ++ t104).size + 10) = False := eq_false (Nat.not_lt.2 c4)
      try have c4b4 : (9223372036854775807 < 2 + t104.size + 10) = False := eq_false (by have z_ := c4; simp only [ByteArray.size_append', ByteArray.size_mk', List.size_toArray, List.length_cons, List.length_nil] at z_; omega)
      obtain rfl := Option.some.inj H
      go_enter Tryd.func27, Tryd.ntmps27
      go_wp2_with (first | ((with_reducible refine gate_callee (f := 42) rfl ?_); refine goesL_ (some 4) rfl rfl Tryd.func42 (by kernel_rfl) rfl #[.int .i32 a0] rfl (by (try simp only [List.map_toArray, List.map_cons, List.map_nil]); first | done | rfl | (simp only [List.length_drop, List.length_take]; rfl)) ?_; (with_reducible refine (PGBad.platenref01_Rune.calls k a0 t104 _ A2.out).mono ?_); rintro e w5 ⟨rfl, hb⟩; refine ⟨_, rfl, ?_⟩; have n0_ := Aside0.mk (below_step (by repeat (first | (with_reducible first | exact HB.out | apply below_alloc | apply pw_below_drewN | apply below_drew1) | exact HB.out)) hb); clear HB; have HB := n0_; clear n0_; (try clear hb); (try clear hb2); (try clear hk); (try clear hi)))
      go_ret
      exact ⟨by first | rfl | (simp [errW_none, errW_some] <;> rfl) | (simp [*, errW_none, errW_some] <;> rfl), by repeat (first | (with_reducible first | exact HB.out | apply below_alloc | apply pw_below_drewN | apply below_drew1) | exact HB.out)⟩
    · rw [if_neg c4] at H
      exact absurd H (by simp)
  · rw [if_neg c3] at H
    exact absurd H (by simp)


/-! ### platenref10_Panic: function 29 -/
def platenref10_Panic.f (k : Nat) (a0 : Int) (a1 : ByteArray) (a2 : ByteArray) : Option (ByteArray) := (PGBad.platenref01_Rune.f k a0).bind fun t105 => (if 2 + t105.size ≤ 9223372036854775807 then (if ((⟨#[37, 33]⟩ : ByteArray) ++ t105).size + 7 ≤ 9223372036854775807 then (if (((⟨#[37, 33]⟩ : ByteArray) ++ t105) ++ (⟨#[40, 80, 65, 78, 73, 67, 61]⟩ : ByteArray)).size + a1.size ≤ 9223372036854775807 then (if ((((⟨#[37, 33]⟩ : ByteArray) ++ t105) ++ (⟨#[40, 80, 65, 78, 73, 67, 61]⟩ : ByteArray)) ++ a1).size + 9 ≤ 9223372036854775807 then (if (((((⟨#[37, 33]⟩ : ByteArray) ++ t105) ++ (⟨#[40, 80, 65, 78, 73, 67, 61]⟩ : ByteArray)) ++ a1) ++ (⟨#[32, 109, 101, 116, 104, 111, 100, 58, 32]⟩ : ByteArray)).size + a2.size ≤ 9223372036854775807 then (if ((((((⟨#[37, 33]⟩ : ByteArray) ++ t105) ++ (⟨#[40, 80, 65, 78, 73, 67, 61]⟩ : ByteArray)) ++ a1) ++ (⟨#[32, 109, 101, 116, 104, 111, 100, 58, 32]⟩ : ByteArray)) ++ a2).size + 1 ≤ 9223372036854775807 then (some (((((((⟨#[37, 33]⟩ : ByteArray) ++ t105) ++ (⟨#[40, 80, 65, 78, 73, 67, 61]⟩ : ByteArray)) ++ a1) ++ (⟨#[32, 109, 101, 116, 104, 111, 100, 58, 32]⟩ : ByteArray)) ++ a2) ++ (⟨#[41]⟩ : ByteArray))) else (none)) else (none)) else (none)) else (none)) else (none)) else (none))
theorem platenref10_Panic.mono : ∀ a0 a1 a2 k, LeO (platenref10_Panic.f k a0 a1 a2) (platenref10_Panic.f (k + 1) a0 a1 a2) := by
  intro a0 a1 a2 k
  unfold platenref10_Panic.f
  repeat' first
      | (with_reducible exact PGBad.platenref01_Rune.mono _ _)
      | (with_reducible exact LeO.refl _)
      | (with_reducible exact LeO.none _)
      | (with_reducible refine LeO.ite ?_ ?_)
      | (with_reducible refine LeO.bind ?_ (fun _ => ?_))
      | exact PGBad.platenref01_Rune.mono _ _
      | exact LeO.none _
      | refine LeO.ite ?_ ?_
      | refine LeO.bind ?_ (fun _ => ?_)
set_option maxHeartbeats 8000000 in
set_option maxRecDepth 100000 in
theorem platenref10_Panic.calls (k : Nat) (a0 : Int) (a1 : ByteArray) (a2 : ByteArray) (r : ByteArray) (w : World) (h : platenref10_Panic.f k a0 a1 a2 = some r) :
    Calls Tryd.prog 29 #[.int .i32 a0, .string a1, .string a2] w fun e w' => e = .returned (.string r) ∧ Below w.heap.size w w' := by
  have HB := Aside0.mk (Below.refl w.heap.size w)
  have H : ((PGBad.platenref01_Rune.f k a0).bind fun t105 => (if 2 + t105.size ≤ 9223372036854775807 then (if ((⟨#[37, 33]⟩ : ByteArray) ++ t105).size + 7 ≤ 9223372036854775807 then (if (((⟨#[37, 33]⟩ : ByteArray) ++ t105) ++ (⟨#[40, 80, 65, 78, 73, 67, 61]⟩ : ByteArray)).size + a1.size ≤ 9223372036854775807 then (if ((((⟨#[37, 33]⟩ : ByteArray) ++ t105) ++ (⟨#[40, 80, 65, 78, 73, 67, 61]⟩ : ByteArray)) ++ a1).size + 9 ≤ 9223372036854775807 then (if (((((⟨#[37, 33]⟩ : ByteArray) ++ t105) ++ (⟨#[40, 80, 65, 78, 73, 67, 61]⟩ : ByteArray)) ++ a1) ++ (⟨#[32, 109, 101, 116, 104, 111, 100, 58, 32]⟩ : ByteArray)).size + a2.size ≤ 9223372036854775807 then (if ((((((⟨#[37, 33]⟩ : ByteArray) ++ t105) ++ (⟨#[40, 80, 65, 78, 73, 67, 61]⟩ : ByteArray)) ++ a1) ++ (⟨#[32, 109, 101, 116, 104, 111, 100, 58, 32]⟩ : ByteArray)) ++ a2).size + 1 ≤ 9223372036854775807 then (some (((((((⟨#[37, 33]⟩ : ByteArray) ++ t105) ++ (⟨#[40, 80, 65, 78, 73, 67, 61]⟩ : ByteArray)) ++ a1) ++ (⟨#[32, 109, 101, 116, 104, 111, 100, 58, 32]⟩ : ByteArray)) ++ a2) ++ (⟨#[41]⟩ : ByteArray))) else (none)) else (none)) else (none)) else (none)) else (none)) else (none))) = some r := h
  clear h
  replace H := Option.bind_eq_some_iff.mp H
  obtain ⟨t105, A40, H⟩ := H
  replace H : (if 2 + t105.size ≤ 9223372036854775807 then (if ((⟨#[37, 33]⟩ : ByteArray) ++ t105).size + 7 ≤ 9223372036854775807 then (if (((⟨#[37, 33]⟩ : ByteArray) ++ t105) ++ (⟨#[40, 80, 65, 78, 73, 67, 61]⟩ : ByteArray)).size + a1.size ≤ 9223372036854775807 then (if ((((⟨#[37, 33]⟩ : ByteArray) ++ t105) ++ (⟨#[40, 80, 65, 78, 73, 67, 61]⟩ : ByteArray)) ++ a1).size + 9 ≤ 9223372036854775807 then (if (((((⟨#[37, 33]⟩ : ByteArray) ++ t105) ++ (⟨#[40, 80, 65, 78, 73, 67, 61]⟩ : ByteArray)) ++ a1) ++ (⟨#[32, 109, 101, 116, 104, 111, 100, 58, 32]⟩ : ByteArray)).size + a2.size ≤ 9223372036854775807 then (if ((((((⟨#[37, 33]⟩ : ByteArray) ++ t105) ++ (⟨#[40, 80, 65, 78, 73, 67, 61]⟩ : ByteArray)) ++ a1) ++ (⟨#[32, 109, 101, 116, 104, 111, 100, 58, 32]⟩ : ByteArray)) ++ a2).size + 1 ≤ 9223372036854775807 then (some (((((((⟨#[37, 33]⟩ : ByteArray) ++ t105) ++ (⟨#[40, 80, 65, 78, 73, 67, 61]⟩ : ByteArray)) ++ a1) ++ (⟨#[32, 109, 101, 116, 104, 111, 100, 58, 32]⟩ : ByteArray)) ++ a2) ++ (⟨#[41]⟩ : ByteArray))) else (none)) else (none)) else (none)) else (none)) else (none)) else (none)) = some r := H
  have A4 := Aside0.mk A40
  clear A40
  by_cases c5 : 2 + t105.size ≤ 9223372036854775807
  · rw [if_pos c5] at H
    have c5b0 := eq_true c5
    have c5b1 : decide (2 + t105.size ≤ 9223372036854775807) = true := decide_eq_true c5
    try have c5b2 : (9223372036854775807 < 2 + t105.size) = False := eq_false (Nat.not_lt.2 c5)
    by_cases c6 : ((⟨#[37, 33]⟩ : ByteArray) ++ t105).size + 7 ≤ 9223372036854775807
    · rw [if_pos c6] at H
      have c6b0 := eq_true c6
      have c6b1 : decide (((⟨#[37, 33]⟩ : ByteArray) ++ t105).size + 7 ≤ 9223372036854775807) = true := decide_eq_true c6
      try have c6b2 : (9223372036854775807 < ((⟨#[37, 33]⟩ : ByteArray) ++ t105).size + 7) = False := eq_false (Nat.not_lt.2 c6)
      try have c6b4 : (9223372036854775807 < 2 + t105.size + 7) = False := eq_false (by have z_ := c6; simp only [ByteArray.size_append', ByteArray.size_mk', List.size_toArray, List.length_cons, List.length_nil] at z_; omega)
      by_cases c7 : (((⟨#[37, 33]⟩ : ByteArray) ++ t105) ++ (⟨#[40, 80, 65, 78, 73, 67, 61]⟩ : ByteArray)).size + a1.size ≤ 9223372036854775807
      · rw [if_pos c7] at H
        have c7b0 := eq_true c7
        have c7b1 : decide ((((⟨#[37, 33]⟩ : ByteArray) ++ t105) ++ (⟨#[40, 80, 65, 78, 73, 67, 61]⟩ : ByteArray)).size + a1.size ≤ 9223372036854775807) = true := decide_eq_true c7
        try have c7b2 : (9223372036854775807 < (((⟨#[37, 33]⟩ : ByteArray) ++ t105) ++ (⟨#[40, 80, 65, 78, 73, 67, 61]⟩ : ByteArray)).size + a1.size) = False := eq_false (Nat.not_lt.2 c7)
        try have c7b4 : (9223372036854775807 < 2 + t105.size + 7 + a1.size) = False := eq_false (by have z_ := c7; simp only [ByteArray.size_append', ByteArray.size_mk', List.size_toArray, List.length_cons, List.length_nil] at z_; omega)
        by_cases c8 : ((((⟨#[37, 33]⟩ : ByteArray) ++ t105) ++ (⟨#[40, 80, 65, 78, 73, 67, 61]⟩ : ByteArray)) ++ a1).size + 9 ≤ 9223372036854775807
        · rw [if_pos c8] at H
          have c8b0 := eq_true c8
          have c8b1 : decide (((((⟨#[37, 33]⟩ : ByteArray) ++ t105) ++ (⟨#[40, 80, 65, 78, 73, 67, 61]⟩ : ByteArray)) ++ a1).size + 9 ≤ 9223372036854775807) = true := decide_eq_true c8
          try have c8b2 : (9223372036854775807 < ((((⟨#[37, 33]⟩ : ByteArray) ++ t105) ++ (⟨#[40, 80, 65, 78, 73, 67, 61]⟩ : ByteArray)) ++ a1).size + 9) = False := eq_false (Nat.not_lt.2 c8)
          try have c8b4 : (9223372036854775807 < 2 + t105.size + 7 + a1.size + 9) = False := eq_false (by have z_ := c8; simp only [ByteArray.size_append', ByteArray.size_mk', List.size_toArray, List.length_cons, List.length_nil] at z_; omega)
          by_cases c9 : (((((⟨#[37, 33]⟩ : ByteArray) ++ t105) ++ (⟨#[40, 80, 65, 78, 73, 67, 61]⟩ : ByteArray)) ++ a1) ++ (⟨#[32, 109, 101, 116, 104, 111, 100, 58, 32]⟩ : ByteArray)).size + a2.size ≤ 9223372036854775807
          · rw [if_pos c9] at H
            have c9b0 := eq_true c9
            have c9b1 : decide ((((((⟨#[37, 33]⟩ : ByteArray) ++ t105) ++ (⟨#[40, 80, 65, 78, 73, 67, 61]⟩ : ByteArray)) ++ a1) ++ (⟨#[32, 109, 101, 116, 104, 111, 100, 58, 32]⟩ : ByteArray)).size + a2.size ≤ 9223372036854775807) = true := decide_eq_true c9
            try have c9b2 : (9223372036854775807 < (((((⟨#[37, 33]⟩ : ByteArray) ++ t105) ++ (⟨#[40, 80, 65, 78, 73, 67, 61]⟩ : ByteArray)) ++ a1) ++ (⟨#[32, 109, 101, 116, 104, 111, 100, 58, 32]⟩ : ByteArray)).size + a2.size) = False := eq_false (Nat.not_lt.2 c9)
            try have c9b4 : (9223372036854775807 < 2 + t105.size + 7 + a1.size + 9 + a2.size) = False := eq_false (by have z_ := c9; simp only [ByteArray.size_append', ByteArray.size_mk', List.size_toArray, List.length_cons, List.length_nil] at z_; omega)
            by_cases c10 : ((((((⟨#[37, 33]⟩ : ByteArray) ++ t105) ++ (⟨#[40, 80, 65, 78, 73, 67, 61]⟩ : ByteArray)) ++ a1) ++ (⟨#[32, 109, 101, 116, 104, 111, 100, 58, 32]⟩ : ByteArray)) ++ a2).size + 1 ≤ 9223372036854775807
            · rw [if_pos c10] at H
              have c10b0 := eq_true c10
              have c10b1 : decide (((((((⟨#[37, 33]⟩ : ByteArray) ++ t105) ++ (⟨#[40, 80, 65, 78, 73, 67, 61]⟩ : ByteArray)) ++ a1) ++ (⟨#[32, 109, 101, 116, 104, 111, 100, 58, 32]⟩ : ByteArray)) ++ a2).size + 1 ≤ 9223372036854775807) = true := decide_eq_true c10
              try have c10b2 : (9223372036854775807 < ((((((⟨#[37, 33]⟩ : ByteArray) ++ t105) ++ (⟨#[40, 80, 65, 78, 73, 67, 61]⟩ : ByteArray)) ++ a1) ++ (⟨#[32, 109, 101, 116, 104, 111, 100, 58, 32]⟩ : ByteArray)) ++ a2).size + 1) = False := eq_false (Nat.not_lt.2 c10)
              try have c10b4 : (9223372036854775807 < 2 + t105.size + 7 + a1.size + 9 + a2.size + 1) = False := eq_false (by have z_ := c10; simp only [ByteArray.size_append', ByteArray.size_mk', List.size_toArray, List.length_cons, List.length_nil] at z_; omega)
              obtain rfl := Option.some.inj H
              go_enter Tryd.func29, Tryd.ntmps29
              go_wp2_with (first | ((with_reducible refine gate_callee (f := 42) rfl ?_); refine goesL_ (some 8) rfl rfl Tryd.func42 (by kernel_rfl) rfl #[.int .i32 a0] rfl (by (try simp only [List.map_toArray, List.map_cons, List.map_nil]); first | done | rfl | (simp only [List.length_drop, List.length_take]; rfl)) ?_; (with_reducible refine (PGBad.platenref01_Rune.calls k a0 t105 _ A4.out).mono ?_); rintro e w11 ⟨rfl, hb⟩; refine ⟨_, rfl, ?_⟩; have n0_ := Aside0.mk (below_step (by repeat (first | (with_reducible first | exact HB.out | apply below_alloc | apply pw_below_drewN | apply below_drew1) | exact HB.out)) hb); clear HB; have HB := n0_; clear n0_; (try clear hb); (try clear hb2); (try clear hk); (try clear hi)))
              go_ret
              exact ⟨by first | rfl | (simp [errW_none, errW_some] <;> rfl) | (simp [*, errW_none, errW_some] <;> rfl), by repeat (first | (with_reducible first | exact HB.out | apply below_alloc | apply pw_below_drewN | apply below_drew1) | exact HB.out)⟩
            · rw [if_neg c10] at H
              exact absurd H (by simp)
          · rw [if_neg c9] at H
            exact absurd H (by simp)
        · rw [if_neg c8] at H
          exact absurd H (by simp)
      · rw [if_neg c7] at H
        exact absurd H (by simp)
    · rw [if_neg c6] at H
      exact absurd H (by simp)
  · rw [if_neg c5] at H
    exact absurd H (by simp)

/-! ### platenlaw10_BadVerbs: function 7 -/
def platenlaw10_BadVerbs.f (k : Nat) (a0 : Int) (a1 : ByteArray) (a2 : ByteArray) : Option (Bool) := (PGBad.platenlaw10_cut.f a1).bind fun t106 => ((PGBad.platenlaw10_cut.f a2).bind fun t107 => ((bad_Verb.f a0 t106 t107).bind fun t108 => ((platenref10_Verb.f k a0 t106 t107).bind fun t109 => (if t108.toList = t109.toList then ((bad_Nil.f a0).bind fun t110 => ((platenref10_Nil.f k a0).bind fun t111 => (if t110.toList = t111.toList then ((bad_Missing.f a0).bind fun t112 => ((platenref10_Missing.f k a0).bind fun t113 => (if t112.toList = t113.toList then ((bad_Index.f a0).bind fun t114 => ((platenref10_Index.f k a0).bind fun t115 => (if t114.toList = t115.toList then ((bad_Panic.f a0 t106 t107).bind fun t116 => ((platenref10_Panic.f k a0 t106 t107).bind fun t117 => (if t116.toList = t117.toList then ((PGBad.platenlaw10_lives.f k).bind fun t118 => (some t118)) else (some false)))) else (some false)))) else (some false)))) else (some false)))) else (some false)))))
theorem platenlaw10_BadVerbs.mono : ∀ a0 a1 a2 k, LeO (platenlaw10_BadVerbs.f k a0 a1 a2) (platenlaw10_BadVerbs.f (k + 1) a0 a1 a2) := by
  intro a0 a1 a2 k
  unfold platenlaw10_BadVerbs.f
  repeat' first
      | (with_reducible exact PGBad.platenlaw10_lives.mono _)
      | (with_reducible exact platenref10_Index.mono _ _)
      | (with_reducible exact platenref10_Missing.mono _ _)
      | (with_reducible exact platenref10_Nil.mono _ _)
      | (with_reducible exact platenref10_Panic.mono _ _ _ _)
      | (with_reducible exact platenref10_Verb.mono _ _ _ _)
      | (with_reducible exact LeO.refl _)
      | (with_reducible exact LeO.none _)
      | (with_reducible refine LeO.ite ?_ ?_)
      | (with_reducible refine LeO.bind ?_ (fun _ => ?_))
      | exact PGBad.platenlaw10_lives.mono _
      | exact platenref10_Index.mono _ _
      | exact platenref10_Missing.mono _ _
      | exact platenref10_Nil.mono _ _
      | exact platenref10_Panic.mono _ _ _ _
      | exact platenref10_Verb.mono _ _ _ _
      | exact LeO.none _
      | refine LeO.ite ?_ ?_
      | refine LeO.bind ?_ (fun _ => ?_)
set_option maxHeartbeats 8000000 in
set_option maxRecDepth 100000 in
theorem platenlaw10_BadVerbs.calls (k : Nat) (a0 : Int) (a1 : ByteArray) (a2 : ByteArray) (r : Bool) (w : World) (hOK : Aside0 (Ok w)) (h : platenlaw10_BadVerbs.f k a0 a1 a2 = some r) :
    Calls Tryd.prog 7 #[.int .i32 a0, .string a1, .string a2] w fun e w' => e = .returned (.bool r) ∧ Below w.heap.size w w' := by
  have HB := Aside0.mk (Below.refl w.heap.size w)
  have H : ((PGBad.platenlaw10_cut.f a1).bind fun t106 => ((PGBad.platenlaw10_cut.f a2).bind fun t107 => ((bad_Verb.f a0 t106 t107).bind fun t108 => ((platenref10_Verb.f k a0 t106 t107).bind fun t109 => (if t108.toList = t109.toList then ((bad_Nil.f a0).bind fun t110 => ((platenref10_Nil.f k a0).bind fun t111 => (if t110.toList = t111.toList then ((bad_Missing.f a0).bind fun t112 => ((platenref10_Missing.f k a0).bind fun t113 => (if t112.toList = t113.toList then ((bad_Index.f a0).bind fun t114 => ((platenref10_Index.f k a0).bind fun t115 => (if t114.toList = t115.toList then ((bad_Panic.f a0 t106 t107).bind fun t116 => ((platenref10_Panic.f k a0 t106 t107).bind fun t117 => (if t116.toList = t117.toList then ((PGBad.platenlaw10_lives.f k).bind fun t118 => (some t118)) else (some false)))) else (some false)))) else (some false)))) else (some false)))) else (some false)))))) = some r := h
  clear h
  replace H := Option.bind_eq_some_iff.mp H
  obtain ⟨t106, A40, H⟩ := H
  replace H : ((PGBad.platenlaw10_cut.f a2).bind fun t107 => ((bad_Verb.f a0 t106 t107).bind fun t108 => ((platenref10_Verb.f k a0 t106 t107).bind fun t109 => (if t108.toList = t109.toList then ((bad_Nil.f a0).bind fun t110 => ((platenref10_Nil.f k a0).bind fun t111 => (if t110.toList = t111.toList then ((bad_Missing.f a0).bind fun t112 => ((platenref10_Missing.f k a0).bind fun t113 => (if t112.toList = t113.toList then ((bad_Index.f a0).bind fun t114 => ((platenref10_Index.f k a0).bind fun t115 => (if t114.toList = t115.toList then ((bad_Panic.f a0 t106 t107).bind fun t116 => ((platenref10_Panic.f k a0 t106 t107).bind fun t117 => (if t116.toList = t117.toList then ((PGBad.platenlaw10_lives.f k).bind fun t118 => (some t118)) else (some false)))) else (some false)))) else (some false)))) else (some false)))) else (some false))))) = some r := H
  have A4 := Aside0.mk A40
  clear A40
  replace H := Option.bind_eq_some_iff.mp H
  obtain ⟨t107, A50, H⟩ := H
  replace H : ((bad_Verb.f a0 t106 t107).bind fun t108 => ((platenref10_Verb.f k a0 t106 t107).bind fun t109 => (if t108.toList = t109.toList then ((bad_Nil.f a0).bind fun t110 => ((platenref10_Nil.f k a0).bind fun t111 => (if t110.toList = t111.toList then ((bad_Missing.f a0).bind fun t112 => ((platenref10_Missing.f k a0).bind fun t113 => (if t112.toList = t113.toList then ((bad_Index.f a0).bind fun t114 => ((platenref10_Index.f k a0).bind fun t115 => (if t114.toList = t115.toList then ((bad_Panic.f a0 t106 t107).bind fun t116 => ((platenref10_Panic.f k a0 t106 t107).bind fun t117 => (if t116.toList = t117.toList then ((PGBad.platenlaw10_lives.f k).bind fun t118 => (some t118)) else (some false)))) else (some false)))) else (some false)))) else (some false)))) else (some false)))) = some r := H
  have A5 := Aside0.mk A50
  clear A50
  replace H := Option.bind_eq_some_iff.mp H
  obtain ⟨t108, A60, H⟩ := H
  replace H : ((platenref10_Verb.f k a0 t106 t107).bind fun t109 => (if t108.toList = t109.toList then ((bad_Nil.f a0).bind fun t110 => ((platenref10_Nil.f k a0).bind fun t111 => (if t110.toList = t111.toList then ((bad_Missing.f a0).bind fun t112 => ((platenref10_Missing.f k a0).bind fun t113 => (if t112.toList = t113.toList then ((bad_Index.f a0).bind fun t114 => ((platenref10_Index.f k a0).bind fun t115 => (if t114.toList = t115.toList then ((bad_Panic.f a0 t106 t107).bind fun t116 => ((platenref10_Panic.f k a0 t106 t107).bind fun t117 => (if t116.toList = t117.toList then ((PGBad.platenlaw10_lives.f k).bind fun t118 => (some t118)) else (some false)))) else (some false)))) else (some false)))) else (some false)))) else (some false))) = some r := H
  have A6 := Aside0.mk A60
  clear A60
  replace H := Option.bind_eq_some_iff.mp H
  obtain ⟨t109, A70, H⟩ := H
  replace H : (if t108.toList = t109.toList then ((bad_Nil.f a0).bind fun t110 => ((platenref10_Nil.f k a0).bind fun t111 => (if t110.toList = t111.toList then ((bad_Missing.f a0).bind fun t112 => ((platenref10_Missing.f k a0).bind fun t113 => (if t112.toList = t113.toList then ((bad_Index.f a0).bind fun t114 => ((platenref10_Index.f k a0).bind fun t115 => (if t114.toList = t115.toList then ((bad_Panic.f a0 t106 t107).bind fun t116 => ((platenref10_Panic.f k a0 t106 t107).bind fun t117 => (if t116.toList = t117.toList then ((PGBad.platenlaw10_lives.f k).bind fun t118 => (some t118)) else (some false)))) else (some false)))) else (some false)))) else (some false)))) else (some false)) = some r := H
  have A7 := Aside0.mk A70
  clear A70
  by_cases c8 : t108.toList = t109.toList
  · rw [if_pos c8] at H
    have c8b0 : (t108.toList == t109.toList) = true := beq_iff_eq.mpr c8
    have c8b1 : (t108.toList != t109.toList) = false := bne_eq_false_iff_eq.mpr c8
    clear c8
    replace H := Option.bind_eq_some_iff.mp H
    obtain ⟨t110, A90, H⟩ := H
    replace H : ((platenref10_Nil.f k a0).bind fun t111 => (if t110.toList = t111.toList then ((bad_Missing.f a0).bind fun t112 => ((platenref10_Missing.f k a0).bind fun t113 => (if t112.toList = t113.toList then ((bad_Index.f a0).bind fun t114 => ((platenref10_Index.f k a0).bind fun t115 => (if t114.toList = t115.toList then ((bad_Panic.f a0 t106 t107).bind fun t116 => ((platenref10_Panic.f k a0 t106 t107).bind fun t117 => (if t116.toList = t117.toList then ((PGBad.platenlaw10_lives.f k).bind fun t118 => (some t118)) else (some false)))) else (some false)))) else (some false)))) else (some false))) = some r := H
    have A9 := Aside0.mk A90
    clear A90
    replace H := Option.bind_eq_some_iff.mp H
    obtain ⟨t111, A100, H⟩ := H
    replace H : (if t110.toList = t111.toList then ((bad_Missing.f a0).bind fun t112 => ((platenref10_Missing.f k a0).bind fun t113 => (if t112.toList = t113.toList then ((bad_Index.f a0).bind fun t114 => ((platenref10_Index.f k a0).bind fun t115 => (if t114.toList = t115.toList then ((bad_Panic.f a0 t106 t107).bind fun t116 => ((platenref10_Panic.f k a0 t106 t107).bind fun t117 => (if t116.toList = t117.toList then ((PGBad.platenlaw10_lives.f k).bind fun t118 => (some t118)) else (some false)))) else (some false)))) else (some false)))) else (some false)) = some r := H
    have A10 := Aside0.mk A100
    clear A100
    by_cases c11 : t110.toList = t111.toList
    · rw [if_pos c11] at H
      have c11b0 : (t110.toList == t111.toList) = true := beq_iff_eq.mpr c11
      have c11b1 : (t110.toList != t111.toList) = false := bne_eq_false_iff_eq.mpr c11
      clear c11
      replace H := Option.bind_eq_some_iff.mp H
      obtain ⟨t112, A120, H⟩ := H
      replace H : ((platenref10_Missing.f k a0).bind fun t113 => (if t112.toList = t113.toList then ((bad_Index.f a0).bind fun t114 => ((platenref10_Index.f k a0).bind fun t115 => (if t114.toList = t115.toList then ((bad_Panic.f a0 t106 t107).bind fun t116 => ((platenref10_Panic.f k a0 t106 t107).bind fun t117 => (if t116.toList = t117.toList then ((PGBad.platenlaw10_lives.f k).bind fun t118 => (some t118)) else (some false)))) else (some false)))) else (some false))) = some r := H
      have A12 := Aside0.mk A120
      clear A120
      replace H := Option.bind_eq_some_iff.mp H
      obtain ⟨t113, A130, H⟩ := H
      replace H : (if t112.toList = t113.toList then ((bad_Index.f a0).bind fun t114 => ((platenref10_Index.f k a0).bind fun t115 => (if t114.toList = t115.toList then ((bad_Panic.f a0 t106 t107).bind fun t116 => ((platenref10_Panic.f k a0 t106 t107).bind fun t117 => (if t116.toList = t117.toList then ((PGBad.platenlaw10_lives.f k).bind fun t118 => (some t118)) else (some false)))) else (some false)))) else (some false)) = some r := H
      have A13 := Aside0.mk A130
      clear A130
      by_cases c14 : t112.toList = t113.toList
      · rw [if_pos c14] at H
        have c14b0 : (t112.toList == t113.toList) = true := beq_iff_eq.mpr c14
        have c14b1 : (t112.toList != t113.toList) = false := bne_eq_false_iff_eq.mpr c14
        clear c14
        replace H := Option.bind_eq_some_iff.mp H
        obtain ⟨t114, A150, H⟩ := H
        replace H : ((platenref10_Index.f k a0).bind fun t115 => (if t114.toList = t115.toList then ((bad_Panic.f a0 t106 t107).bind fun t116 => ((platenref10_Panic.f k a0 t106 t107).bind fun t117 => (if t116.toList = t117.toList then ((PGBad.platenlaw10_lives.f k).bind fun t118 => (some t118)) else (some false)))) else (some false))) = some r := H
        have A15 := Aside0.mk A150
        clear A150
        replace H := Option.bind_eq_some_iff.mp H
        obtain ⟨t115, A160, H⟩ := H
        replace H : (if t114.toList = t115.toList then ((bad_Panic.f a0 t106 t107).bind fun t116 => ((platenref10_Panic.f k a0 t106 t107).bind fun t117 => (if t116.toList = t117.toList then ((PGBad.platenlaw10_lives.f k).bind fun t118 => (some t118)) else (some false)))) else (some false)) = some r := H
        have A16 := Aside0.mk A160
        clear A160
        by_cases c17 : t114.toList = t115.toList
        · rw [if_pos c17] at H
          have c17b0 : (t114.toList == t115.toList) = true := beq_iff_eq.mpr c17
          have c17b1 : (t114.toList != t115.toList) = false := bne_eq_false_iff_eq.mpr c17
          clear c17
          replace H := Option.bind_eq_some_iff.mp H
          obtain ⟨t116, A180, H⟩ := H
          replace H : ((platenref10_Panic.f k a0 t106 t107).bind fun t117 => (if t116.toList = t117.toList then ((PGBad.platenlaw10_lives.f k).bind fun t118 => (some t118)) else (some false))) = some r := H
          have A18 := Aside0.mk A180
          clear A180
          replace H := Option.bind_eq_some_iff.mp H
          obtain ⟨t117, A190, H⟩ := H
          replace H : (if t116.toList = t117.toList then ((PGBad.platenlaw10_lives.f k).bind fun t118 => (some t118)) else (some false)) = some r := H
          have A19 := Aside0.mk A190
          clear A190
          by_cases c20 : t116.toList = t117.toList
          · rw [if_pos c20] at H
            have c20b0 : (t116.toList == t117.toList) = true := beq_iff_eq.mpr c20
            have c20b1 : (t116.toList != t117.toList) = false := bne_eq_false_iff_eq.mpr c20
            clear c20
            replace H := Option.bind_eq_some_iff.mp H
            obtain ⟨t118, A210, H⟩ := H
            replace H : (some t118) = some r := H
            have A21 := Aside0.mk A210
            clear A210
            obtain rfl := Option.some.inj H
            go_enter Tryd.func7, Tryd.ntmps7
            go_wp2_with (first | ((with_reducible refine gate_callee (f := 13) rfl ?_); refine goesL_ (some 8) rfl rfl Tryd.func13 (by kernel_rfl) rfl #[.string a1] rfl (by (try simp only [List.map_toArray, List.map_cons, List.map_nil]); first | done | rfl | (simp only [List.length_drop, List.length_take]; rfl)) ?_; (with_reducible refine (PGBad.platenlaw10_cut.calls a1 t106 _ A4.out).mono ?_); rintro e w' ⟨rfl, ⟨nd, rfl⟩⟩; refine ⟨_, rfl, ?_⟩) | ((with_reducible refine gate_callee (f := 13) rfl ?_); refine goesL_ (some 10) rfl rfl Tryd.func13 (by kernel_rfl) rfl #[.string a2] rfl (by (try simp only [List.map_toArray, List.map_cons, List.map_nil]); first | done | rfl | (simp only [List.length_drop, List.length_take]; rfl)) ?_; (with_reducible refine (PGBad.platenlaw10_cut.calls a2 t107 _ A5.out).mono ?_); rintro e w' ⟨rfl, ⟨nd, rfl⟩⟩; refine ⟨_, rfl, ?_⟩) | ((with_reducible refine gate_callee (f := 16) rfl ?_); refine goesL_ (some 14) rfl rfl Tryd.func16 (by kernel_rfl) rfl #[.int .i32 a0, .string t106, .string t107] rfl (by (try simp only [List.map_toArray, List.map_cons, List.map_nil]); first | done | rfl | (simp only [List.length_drop, List.length_take]; rfl)) ?_; (with_reducible refine (bad_Verb.calls a0 t106 t107 t108 _ (by (try refine Aside0.mk ?_); first | exact hOK.out | exact (hOK.out).drewN _ | (refine (hOK.out).later ?_; (repeat (first | (with_reducible first | exact HB.out | apply below_alloc | apply pw_below_drewN | apply below_drew1) | exact HB.out))) | (refine Ok.drewN ?_ _; exact hOK.out)) A6.out).mono ?_); rintro e w22 ⟨rfl, hb⟩; refine ⟨_, rfl, ?_⟩; have n0_ := Aside0.mk (below_step (by repeat (first | (with_reducible first | exact HB.out | apply below_alloc | apply pw_below_drewN | apply below_drew1) | exact HB.out)) hb); clear HB; have HB := n0_; clear n0_; (try clear hb); (try clear hb2); (try clear hk); (try clear hi)) | ((with_reducible refine gate_callee (f := 21) rfl ?_); refine goesL_ (some 18) rfl rfl Tryd.func21 (by kernel_rfl) rfl #[.int .i32 a0, .string t106, .string t107] rfl (by (try simp only [List.map_toArray, List.map_cons, List.map_nil]); first | done | rfl | (simp only [List.length_drop, List.length_take]; rfl)) ?_; (with_reducible refine (platenref10_Verb.calls k a0 t106 t107 t109 _ A7.out).mono ?_); rintro e w23 ⟨rfl, hb⟩; refine ⟨_, rfl, ?_⟩; have n0_ := Aside0.mk (below_step (by repeat (first | (with_reducible first | exact HB.out | apply below_alloc | apply pw_below_drewN | apply below_drew1) | exact HB.out)) hb); clear HB; have HB := n0_; clear n0_; (try clear hb); (try clear hb2); (try clear hk); (try clear hi)) | (go_at_call 22; (with_reducible refine (bad_Nil.calls a0 t110 _ (by (try refine Aside0.mk ?_); first | exact hOK.out | exact (hOK.out).drewN _ | (refine (hOK.out).later ?_; (repeat (first | (with_reducible first | exact HB.out | apply below_alloc | apply pw_below_drewN | apply below_drew1) | exact HB.out))) | (refine Ok.drewN ?_ _; exact hOK.out)) A9.out).mono ?_); rintro e w24 ⟨rfl, hb⟩; have n0_ := Aside0.mk (below_step (by repeat (first | (with_reducible first | exact HB.out | apply below_alloc | apply pw_below_drewN | apply below_drew1) | exact HB.out)) hb); clear HB; have HB := n0_; clear n0_; (try clear hb); (try clear hb2); (try clear hk); (try clear hi)) | (go_at_call 23; (with_reducible refine (platenref10_Nil.calls k a0 t111 _ A10.out).mono ?_); rintro e w25 ⟨rfl, hb⟩; have n0_ := Aside0.mk (below_step (by repeat (first | (with_reducible first | exact HB.out | apply below_alloc | apply pw_below_drewN | apply below_drew1) | exact HB.out)) hb); clear HB; have HB := n0_; clear n0_; (try clear hb); (try clear hb2); (try clear hk); (try clear hi)) | (go_at_call 24; (with_reducible refine (bad_Missing.calls a0 t112 _ (by (try refine Aside0.mk ?_); first | exact hOK.out | exact (hOK.out).drewN _ | (refine (hOK.out).later ?_; (repeat (first | (with_reducible first | exact HB.out | apply below_alloc | apply pw_below_drewN | apply below_drew1) | exact HB.out))) | (refine Ok.drewN ?_ _; exact hOK.out)) A12.out).mono ?_); rintro e w26 ⟨rfl, hb⟩; have n0_ := Aside0.mk (below_step (by repeat (first | (with_reducible first | exact HB.out | apply below_alloc | apply pw_below_drewN | apply below_drew1) | exact HB.out)) hb); clear HB; have HB := n0_; clear n0_; (try clear hb); (try clear hb2); (try clear hk); (try clear hi)) | (go_at_call 25; (with_reducible refine (platenref10_Missing.calls k a0 t113 _ A13.out).mono ?_); rintro e w27 ⟨rfl, hb⟩; have n0_ := Aside0.mk (below_step (by repeat (first | (with_reducible first | exact HB.out | apply below_alloc | apply pw_below_drewN | apply below_drew1) | exact HB.out)) hb); clear HB; have HB := n0_; clear n0_; (try clear hb); (try clear hb2); (try clear hk); (try clear hi)) | (go_at_call 26; (with_reducible refine (bad_Index.calls a0 t114 _ (by (try refine Aside0.mk ?_); first | exact hOK.out | exact (hOK.out).drewN _ | (refine (hOK.out).later ?_; (repeat (first | (with_reducible first | exact HB.out | apply below_alloc | apply pw_below_drewN | apply below_drew1) | exact HB.out))) | (refine Ok.drewN ?_ _; exact hOK.out)) A15.out).mono ?_); rintro e w28 ⟨rfl, hb⟩; have n0_ := Aside0.mk (below_step (by repeat (first | (with_reducible first | exact HB.out | apply below_alloc | apply pw_below_drewN | apply below_drew1) | exact HB.out)) hb); clear HB; have HB := n0_; clear n0_; (try clear hb); (try clear hb2); (try clear hk); (try clear hi)) | (go_at_call 27; (with_reducible refine (platenref10_Index.calls k a0 t115 _ A16.out).mono ?_); rintro e w29 ⟨rfl, hb⟩; have n0_ := Aside0.mk (below_step (by repeat (first | (with_reducible first | exact HB.out | apply below_alloc | apply pw_below_drewN | apply below_drew1) | exact HB.out)) hb); clear HB; have HB := n0_; clear n0_; (try clear hb); (try clear hb2); (try clear hk); (try clear hi)) | (go_at_call 28; (with_reducible refine (bad_Panic.calls a0 t106 t107 t116 _ (by (try refine Aside0.mk ?_); first | exact hOK.out | exact (hOK.out).drewN _ | (refine (hOK.out).later ?_; (repeat (first | (with_reducible first | exact HB.out | apply below_alloc | apply pw_below_drewN | apply below_drew1) | exact HB.out))) | (refine Ok.drewN ?_ _; exact hOK.out)) A18.out).mono ?_); rintro e w30 ⟨rfl, hb⟩; have n0_ := Aside0.mk (below_step (by repeat (first | (with_reducible first | exact HB.out | apply below_alloc | apply pw_below_drewN | apply below_drew1) | exact HB.out)) hb); clear HB; have HB := n0_; clear n0_; (try clear hb); (try clear hb2); (try clear hk); (try clear hi)) | (go_at_call 29; (with_reducible refine (platenref10_Panic.calls k a0 t106 t107 t117 _ A19.out).mono ?_); rintro e w31 ⟨rfl, hb⟩; have n0_ := Aside0.mk (below_step (by repeat (first | (with_reducible first | exact HB.out | apply below_alloc | apply pw_below_drewN | apply below_drew1) | exact HB.out)) hb); clear HB; have HB := n0_; clear n0_; (try clear hb); (try clear hb2); (try clear hk); (try clear hi)) | (go_at_call 12; (with_reducible refine (PGBad.platenlaw10_lives.calls k  t118 _ (by (try refine Aside0.mk ?_); first | exact hOK.out | exact (hOK.out).drewN _ | (refine (hOK.out).later ?_; (repeat (first | (with_reducible first | exact HB.out | apply below_alloc | apply pw_below_drewN | apply below_drew1) | exact HB.out))) | (refine Ok.drewN ?_ _; exact hOK.out)) A21.out).mono ?_); rintro e w32 ⟨rfl, hb⟩; have n0_ := Aside0.mk (below_step (by repeat (first | (with_reducible first | exact HB.out | apply below_alloc | apply pw_below_drewN | apply below_drew1) | exact HB.out)) hb); clear HB; have HB := n0_; clear n0_; (try clear hb); (try clear hb2); (try clear hk); (try clear hi)))
            go_ret
            exact ⟨by first | rfl | (simp [errW_none, errW_some] <;> rfl) | (simp [*, errW_none, errW_some] <;> rfl), by repeat (first | (with_reducible first | exact HB.out | apply below_alloc | apply pw_below_drewN | apply below_drew1) | exact HB.out)⟩
          · rw [if_neg c20] at H
            have c20b0 : (t116.toList == t117.toList) = false := beq_eq_false_iff_ne.mpr c20
            have c20b1 : (t116.toList != t117.toList) = true := bne_iff_ne.mpr c20
            obtain rfl := Option.some.inj H
            go_enter Tryd.func7, Tryd.ntmps7
            go_wp2_with (first | ((with_reducible refine gate_callee (f := 13) rfl ?_); refine goesL_ (some 8) rfl rfl Tryd.func13 (by kernel_rfl) rfl #[.string a1] rfl (by (try simp only [List.map_toArray, List.map_cons, List.map_nil]); first | done | rfl | (simp only [List.length_drop, List.length_take]; rfl)) ?_; (with_reducible refine (PGBad.platenlaw10_cut.calls a1 t106 _ A4.out).mono ?_); rintro e w' ⟨rfl, ⟨nd, rfl⟩⟩; refine ⟨_, rfl, ?_⟩) | ((with_reducible refine gate_callee (f := 13) rfl ?_); refine goesL_ (some 10) rfl rfl Tryd.func13 (by kernel_rfl) rfl #[.string a2] rfl (by (try simp only [List.map_toArray, List.map_cons, List.map_nil]); first | done | rfl | (simp only [List.length_drop, List.length_take]; rfl)) ?_; (with_reducible refine (PGBad.platenlaw10_cut.calls a2 t107 _ A5.out).mono ?_); rintro e w' ⟨rfl, ⟨nd, rfl⟩⟩; refine ⟨_, rfl, ?_⟩) | ((with_reducible refine gate_callee (f := 16) rfl ?_); refine goesL_ (some 14) rfl rfl Tryd.func16 (by kernel_rfl) rfl #[.int .i32 a0, .string t106, .string t107] rfl (by (try simp only [List.map_toArray, List.map_cons, List.map_nil]); first | done | rfl | (simp only [List.length_drop, List.length_take]; rfl)) ?_; (with_reducible refine (bad_Verb.calls a0 t106 t107 t108 _ (by (try refine Aside0.mk ?_); first | exact hOK.out | exact (hOK.out).drewN _ | (refine (hOK.out).later ?_; (repeat (first | (with_reducible first | exact HB.out | apply below_alloc | apply pw_below_drewN | apply below_drew1) | exact HB.out))) | (refine Ok.drewN ?_ _; exact hOK.out)) A6.out).mono ?_); rintro e w33 ⟨rfl, hb⟩; refine ⟨_, rfl, ?_⟩; have n0_ := Aside0.mk (below_step (by repeat (first | (with_reducible first | exact HB.out | apply below_alloc | apply pw_below_drewN | apply below_drew1) | exact HB.out)) hb); clear HB; have HB := n0_; clear n0_; (try clear hb); (try clear hb2); (try clear hk); (try clear hi)) | ((with_reducible refine gate_callee (f := 21) rfl ?_); refine goesL_ (some 18) rfl rfl Tryd.func21 (by kernel_rfl) rfl #[.int .i32 a0, .string t106, .string t107] rfl (by (try simp only [List.map_toArray, List.map_cons, List.map_nil]); first | done | rfl | (simp only [List.length_drop, List.length_take]; rfl)) ?_; (with_reducible refine (platenref10_Verb.calls k a0 t106 t107 t109 _ A7.out).mono ?_); rintro e w34 ⟨rfl, hb⟩; refine ⟨_, rfl, ?_⟩; have n0_ := Aside0.mk (below_step (by repeat (first | (with_reducible first | exact HB.out | apply below_alloc | apply pw_below_drewN | apply below_drew1) | exact HB.out)) hb); clear HB; have HB := n0_; clear n0_; (try clear hb); (try clear hb2); (try clear hk); (try clear hi)) | (go_at_call 22; (with_reducible refine (bad_Nil.calls a0 t110 _ (by (try refine Aside0.mk ?_); first | exact hOK.out | exact (hOK.out).drewN _ | (refine (hOK.out).later ?_; (repeat (first | (with_reducible first | exact HB.out | apply below_alloc | apply pw_below_drewN | apply below_drew1) | exact HB.out))) | (refine Ok.drewN ?_ _; exact hOK.out)) A9.out).mono ?_); rintro e w35 ⟨rfl, hb⟩; have n0_ := Aside0.mk (below_step (by repeat (first | (with_reducible first | exact HB.out | apply below_alloc | apply pw_below_drewN | apply below_drew1) | exact HB.out)) hb); clear HB; have HB := n0_; clear n0_; (try clear hb); (try clear hb2); (try clear hk); (try clear hi)) | (go_at_call 23; (with_reducible refine (platenref10_Nil.calls k a0 t111 _ A10.out).mono ?_); rintro e w36 ⟨rfl, hb⟩; have n0_ := Aside0.mk (below_step (by repeat (first | (with_reducible first | exact HB.out | apply below_alloc | apply pw_below_drewN | apply below_drew1) | exact HB.out)) hb); clear HB; have HB := n0_; clear n0_; (try clear hb); (try clear hb2); (try clear hk); (try clear hi)) | (go_at_call 24; (with_reducible refine (bad_Missing.calls a0 t112 _ (by (try refine Aside0.mk ?_); first | exact hOK.out | exact (hOK.out).drewN _ | (refine (hOK.out).later ?_; (repeat (first | (with_reducible first | exact HB.out | apply below_alloc | apply pw_below_drewN | apply below_drew1) | exact HB.out))) | (refine Ok.drewN ?_ _; exact hOK.out)) A12.out).mono ?_); rintro e w37 ⟨rfl, hb⟩; have n0_ := Aside0.mk (below_step (by repeat (first | (with_reducible first | exact HB.out | apply below_alloc | apply pw_below_drewN | apply below_drew1) | exact HB.out)) hb); clear HB; have HB := n0_; clear n0_; (try clear hb); (try clear hb2); (try clear hk); (try clear hi)) | (go_at_call 25; (with_reducible refine (platenref10_Missing.calls k a0 t113 _ A13.out).mono ?_); rintro e w38 ⟨rfl, hb⟩; have n0_ := Aside0.mk (below_step (by repeat (first | (with_reducible first | exact HB.out | apply below_alloc | apply pw_below_drewN | apply below_drew1) | exact HB.out)) hb); clear HB; have HB := n0_; clear n0_; (try clear hb); (try clear hb2); (try clear hk); (try clear hi)) | (go_at_call 26; (with_reducible refine (bad_Index.calls a0 t114 _ (by (try refine Aside0.mk ?_); first | exact hOK.out | exact (hOK.out).drewN _ | (refine (hOK.out).later ?_; (repeat (first | (with_reducible first | exact HB.out | apply below_alloc | apply pw_below_drewN | apply below_drew1) | exact HB.out))) | (refine Ok.drewN ?_ _; exact hOK.out)) A15.out).mono ?_); rintro e w39 ⟨rfl, hb⟩; have n0_ := Aside0.mk (below_step (by repeat (first | (with_reducible first | exact HB.out | apply below_alloc | apply pw_below_drewN | apply below_drew1) | exact HB.out)) hb); clear HB; have HB := n0_; clear n0_; (try clear hb); (try clear hb2); (try clear hk); (try clear hi)) | (go_at_call 27; (with_reducible refine (platenref10_Index.calls k a0 t115 _ A16.out).mono ?_); rintro e w40 ⟨rfl, hb⟩; have n0_ := Aside0.mk (below_step (by repeat (first | (with_reducible first | exact HB.out | apply below_alloc | apply pw_below_drewN | apply below_drew1) | exact HB.out)) hb); clear HB; have HB := n0_; clear n0_; (try clear hb); (try clear hb2); (try clear hk); (try clear hi)) | (go_at_call 28; (with_reducible refine (bad_Panic.calls a0 t106 t107 t116 _ (by (try refine Aside0.mk ?_); first | exact hOK.out | exact (hOK.out).drewN _ | (refine (hOK.out).later ?_; (repeat (first | (with_reducible first | exact HB.out | apply below_alloc | apply pw_below_drewN | apply below_drew1) | exact HB.out))) | (refine Ok.drewN ?_ _; exact hOK.out)) A18.out).mono ?_); rintro e w41 ⟨rfl, hb⟩; have n0_ := Aside0.mk (below_step (by repeat (first | (with_reducible first | exact HB.out | apply below_alloc | apply pw_below_drewN | apply below_drew1) | exact HB.out)) hb); clear HB; have HB := n0_; clear n0_; (try clear hb); (try clear hb2); (try clear hk); (try clear hi)) | (go_at_call 29; (with_reducible refine (platenref10_Panic.calls k a0 t106 t107 t117 _ A19.out).mono ?_); rintro e w42 ⟨rfl, hb⟩; have n0_ := Aside0.mk (below_step (by repeat (first | (with_reducible first | exact HB.out | apply below_alloc | apply pw_below_drewN | apply below_drew1) | exact HB.out)) hb); clear HB; have HB := n0_; clear n0_; (try clear hb); (try clear hb2); (try clear hk); (try clear hi)))
            go_ret
            exact ⟨by first | rfl | (simp [errW_none, errW_some] <;> rfl) | (simp [*, errW_none, errW_some] <;> rfl), by repeat (first | (with_reducible first | exact HB.out | apply below_alloc | apply pw_below_drewN | apply below_drew1) | exact HB.out)⟩
        · rw [if_neg c17] at H
          have c17b0 : (t114.toList == t115.toList) = false := beq_eq_false_iff_ne.mpr c17
          have c17b1 : (t114.toList != t115.toList) = true := bne_iff_ne.mpr c17
          obtain rfl := Option.some.inj H
          go_enter Tryd.func7, Tryd.ntmps7
          go_wp2_with (first | ((with_reducible refine gate_callee (f := 13) rfl ?_); refine goesL_ (some 8) rfl rfl Tryd.func13 (by kernel_rfl) rfl #[.string a1] rfl (by (try simp only [List.map_toArray, List.map_cons, List.map_nil]); first | done | rfl | (simp only [List.length_drop, List.length_take]; rfl)) ?_; (with_reducible refine (PGBad.platenlaw10_cut.calls a1 t106 _ A4.out).mono ?_); rintro e w' ⟨rfl, ⟨nd, rfl⟩⟩; refine ⟨_, rfl, ?_⟩) | ((with_reducible refine gate_callee (f := 13) rfl ?_); refine goesL_ (some 10) rfl rfl Tryd.func13 (by kernel_rfl) rfl #[.string a2] rfl (by (try simp only [List.map_toArray, List.map_cons, List.map_nil]); first | done | rfl | (simp only [List.length_drop, List.length_take]; rfl)) ?_; (with_reducible refine (PGBad.platenlaw10_cut.calls a2 t107 _ A5.out).mono ?_); rintro e w' ⟨rfl, ⟨nd, rfl⟩⟩; refine ⟨_, rfl, ?_⟩) | ((with_reducible refine gate_callee (f := 16) rfl ?_); refine goesL_ (some 14) rfl rfl Tryd.func16 (by kernel_rfl) rfl #[.int .i32 a0, .string t106, .string t107] rfl (by (try simp only [List.map_toArray, List.map_cons, List.map_nil]); first | done | rfl | (simp only [List.length_drop, List.length_take]; rfl)) ?_; (with_reducible refine (bad_Verb.calls a0 t106 t107 t108 _ (by (try refine Aside0.mk ?_); first | exact hOK.out | exact (hOK.out).drewN _ | (refine (hOK.out).later ?_; (repeat (first | (with_reducible first | exact HB.out | apply below_alloc | apply pw_below_drewN | apply below_drew1) | exact HB.out))) | (refine Ok.drewN ?_ _; exact hOK.out)) A6.out).mono ?_); rintro e w43 ⟨rfl, hb⟩; refine ⟨_, rfl, ?_⟩; have n0_ := Aside0.mk (below_step (by repeat (first | (with_reducible first | exact HB.out | apply below_alloc | apply pw_below_drewN | apply below_drew1) | exact HB.out)) hb); clear HB; have HB := n0_; clear n0_; (try clear hb); (try clear hb2); (try clear hk); (try clear hi)) | ((with_reducible refine gate_callee (f := 21) rfl ?_); refine goesL_ (some 18) rfl rfl Tryd.func21 (by kernel_rfl) rfl #[.int .i32 a0, .string t106, .string t107] rfl (by (try simp only [List.map_toArray, List.map_cons, List.map_nil]); first | done | rfl | (simp only [List.length_drop, List.length_take]; rfl)) ?_; (with_reducible refine (platenref10_Verb.calls k a0 t106 t107 t109 _ A7.out).mono ?_); rintro e w44 ⟨rfl, hb⟩; refine ⟨_, rfl, ?_⟩; have n0_ := Aside0.mk (below_step (by repeat (first | (with_reducible first | exact HB.out | apply below_alloc | apply pw_below_drewN | apply below_drew1) | exact HB.out)) hb); clear HB; have HB := n0_; clear n0_; (try clear hb); (try clear hb2); (try clear hk); (try clear hi)) | (go_at_call 22; (with_reducible refine (bad_Nil.calls a0 t110 _ (by (try refine Aside0.mk ?_); first | exact hOK.out | exact (hOK.out).drewN _ | (refine (hOK.out).later ?_; (repeat (first | (with_reducible first | exact HB.out | apply below_alloc | apply pw_below_drewN | apply below_drew1) | exact HB.out))) | (refine Ok.drewN ?_ _; exact hOK.out)) A9.out).mono ?_); rintro e w45 ⟨rfl, hb⟩; have n0_ := Aside0.mk (below_step (by repeat (first | (with_reducible first | exact HB.out | apply below_alloc | apply pw_below_drewN | apply below_drew1) | exact HB.out)) hb); clear HB; have HB := n0_; clear n0_; (try clear hb); (try clear hb2); (try clear hk); (try clear hi)) | (go_at_call 23; (with_reducible refine (platenref10_Nil.calls k a0 t111 _ A10.out).mono ?_); rintro e w46 ⟨rfl, hb⟩; have n0_ := Aside0.mk (below_step (by repeat (first | (with_reducible first | exact HB.out | apply below_alloc | apply pw_below_drewN | apply below_drew1) | exact HB.out)) hb); clear HB; have HB := n0_; clear n0_; (try clear hb); (try clear hb2); (try clear hk); (try clear hi)) | (go_at_call 24; (with_reducible refine (bad_Missing.calls a0 t112 _ (by (try refine Aside0.mk ?_); first | exact hOK.out | exact (hOK.out).drewN _ | (refine (hOK.out).later ?_; (repeat (first | (with_reducible first | exact HB.out | apply below_alloc | apply pw_below_drewN | apply below_drew1) | exact HB.out))) | (refine Ok.drewN ?_ _; exact hOK.out)) A12.out).mono ?_); rintro e w47 ⟨rfl, hb⟩; have n0_ := Aside0.mk (below_step (by repeat (first | (with_reducible first | exact HB.out | apply below_alloc | apply pw_below_drewN | apply below_drew1) | exact HB.out)) hb); clear HB; have HB := n0_; clear n0_; (try clear hb); (try clear hb2); (try clear hk); (try clear hi)) | (go_at_call 25; (with_reducible refine (platenref10_Missing.calls k a0 t113 _ A13.out).mono ?_); rintro e w48 ⟨rfl, hb⟩; have n0_ := Aside0.mk (below_step (by repeat (first | (with_reducible first | exact HB.out | apply below_alloc | apply pw_below_drewN | apply below_drew1) | exact HB.out)) hb); clear HB; have HB := n0_; clear n0_; (try clear hb); (try clear hb2); (try clear hk); (try clear hi)) | (go_at_call 26; (with_reducible refine (bad_Index.calls a0 t114 _ (by (try refine Aside0.mk ?_); first | exact hOK.out | exact (hOK.out).drewN _ | (refine (hOK.out).later ?_; (repeat (first | (with_reducible first | exact HB.out | apply below_alloc | apply pw_below_drewN | apply below_drew1) | exact HB.out))) | (refine Ok.drewN ?_ _; exact hOK.out)) A15.out).mono ?_); rintro e w49 ⟨rfl, hb⟩; have n0_ := Aside0.mk (below_step (by repeat (first | (with_reducible first | exact HB.out | apply below_alloc | apply pw_below_drewN | apply below_drew1) | exact HB.out)) hb); clear HB; have HB := n0_; clear n0_; (try clear hb); (try clear hb2); (try clear hk); (try clear hi)) | (go_at_call 27; (with_reducible refine (platenref10_Index.calls k a0 t115 _ A16.out).mono ?_); rintro e w50 ⟨rfl, hb⟩; have n0_ := Aside0.mk (below_step (by repeat (first | (with_reducible first | exact HB.out | apply below_alloc | apply pw_below_drewN | apply below_drew1) | exact HB.out)) hb); clear HB; have HB := n0_; clear n0_; (try clear hb); (try clear hb2); (try clear hk); (try clear hi)))
          go_ret
          exact ⟨by first | rfl | (simp [errW_none, errW_some] <;> rfl) | (simp [*, errW_none, errW_some] <;> rfl), by repeat (first | (with_reducible first | exact HB.out | apply below_alloc | apply pw_below_drewN | apply below_drew1) | exact HB.out)⟩
      · rw [if_neg c14] at H
        have c14b0 : (t112.toList == t113.toList) = false := beq_eq_false_iff_ne.mpr c14
        have c14b1 : (t112.toList != t113.toList) = true := bne_iff_ne.mpr c14
        obtain rfl := Option.some.inj H
        go_enter Tryd.func7, Tryd.ntmps7
        go_wp2_with (first | ((with_reducible refine gate_callee (f := 13) rfl ?_); refine goesL_ (some 8) rfl rfl Tryd.func13 (by kernel_rfl) rfl #[.string a1] rfl (by (try simp only [List.map_toArray, List.map_cons, List.map_nil]); first | done | rfl | (simp only [List.length_drop, List.length_take]; rfl)) ?_; (with_reducible refine (PGBad.platenlaw10_cut.calls a1 t106 _ A4.out).mono ?_); rintro e w' ⟨rfl, ⟨nd, rfl⟩⟩; refine ⟨_, rfl, ?_⟩) | ((with_reducible refine gate_callee (f := 13) rfl ?_); refine goesL_ (some 10) rfl rfl Tryd.func13 (by kernel_rfl) rfl #[.string a2] rfl (by (try simp only [List.map_toArray, List.map_cons, List.map_nil]); first | done | rfl | (simp only [List.length_drop, List.length_take]; rfl)) ?_; (with_reducible refine (PGBad.platenlaw10_cut.calls a2 t107 _ A5.out).mono ?_); rintro e w' ⟨rfl, ⟨nd, rfl⟩⟩; refine ⟨_, rfl, ?_⟩) | ((with_reducible refine gate_callee (f := 16) rfl ?_); refine goesL_ (some 14) rfl rfl Tryd.func16 (by kernel_rfl) rfl #[.int .i32 a0, .string t106, .string t107] rfl (by (try simp only [List.map_toArray, List.map_cons, List.map_nil]); first | done | rfl | (simp only [List.length_drop, List.length_take]; rfl)) ?_; (with_reducible refine (bad_Verb.calls a0 t106 t107 t108 _ (by (try refine Aside0.mk ?_); first | exact hOK.out | exact (hOK.out).drewN _ | (refine (hOK.out).later ?_; (repeat (first | (with_reducible first | exact HB.out | apply below_alloc | apply pw_below_drewN | apply below_drew1) | exact HB.out))) | (refine Ok.drewN ?_ _; exact hOK.out)) A6.out).mono ?_); rintro e w51 ⟨rfl, hb⟩; refine ⟨_, rfl, ?_⟩; have n0_ := Aside0.mk (below_step (by repeat (first | (with_reducible first | exact HB.out | apply below_alloc | apply pw_below_drewN | apply below_drew1) | exact HB.out)) hb); clear HB; have HB := n0_; clear n0_; (try clear hb); (try clear hb2); (try clear hk); (try clear hi)) | ((with_reducible refine gate_callee (f := 21) rfl ?_); refine goesL_ (some 18) rfl rfl Tryd.func21 (by kernel_rfl) rfl #[.int .i32 a0, .string t106, .string t107] rfl (by (try simp only [List.map_toArray, List.map_cons, List.map_nil]); first | done | rfl | (simp only [List.length_drop, List.length_take]; rfl)) ?_; (with_reducible refine (platenref10_Verb.calls k a0 t106 t107 t109 _ A7.out).mono ?_); rintro e w52 ⟨rfl, hb⟩; refine ⟨_, rfl, ?_⟩; have n0_ := Aside0.mk (below_step (by repeat (first | (with_reducible first | exact HB.out | apply below_alloc | apply pw_below_drewN | apply below_drew1) | exact HB.out)) hb); clear HB; have HB := n0_; clear n0_; (try clear hb); (try clear hb2); (try clear hk); (try clear hi)) | (go_at_call 22; (with_reducible refine (bad_Nil.calls a0 t110 _ (by (try refine Aside0.mk ?_); first | exact hOK.out | exact (hOK.out).drewN _ | (refine (hOK.out).later ?_; (repeat (first | (with_reducible first | exact HB.out | apply below_alloc | apply pw_below_drewN | apply below_drew1) | exact HB.out))) | (refine Ok.drewN ?_ _; exact hOK.out)) A9.out).mono ?_); rintro e w53 ⟨rfl, hb⟩; have n0_ := Aside0.mk (below_step (by repeat (first | (with_reducible first | exact HB.out | apply below_alloc | apply pw_below_drewN | apply below_drew1) | exact HB.out)) hb); clear HB; have HB := n0_; clear n0_; (try clear hb); (try clear hb2); (try clear hk); (try clear hi)) | (go_at_call 23; (with_reducible refine (platenref10_Nil.calls k a0 t111 _ A10.out).mono ?_); rintro e w54 ⟨rfl, hb⟩; have n0_ := Aside0.mk (below_step (by repeat (first | (with_reducible first | exact HB.out | apply below_alloc | apply pw_below_drewN | apply below_drew1) | exact HB.out)) hb); clear HB; have HB := n0_; clear n0_; (try clear hb); (try clear hb2); (try clear hk); (try clear hi)) | (go_at_call 24; (with_reducible refine (bad_Missing.calls a0 t112 _ (by (try refine Aside0.mk ?_); first | exact hOK.out | exact (hOK.out).drewN _ | (refine (hOK.out).later ?_; (repeat (first | (with_reducible first | exact HB.out | apply below_alloc | apply pw_below_drewN | apply below_drew1) | exact HB.out))) | (refine Ok.drewN ?_ _; exact hOK.out)) A12.out).mono ?_); rintro e w55 ⟨rfl, hb⟩; have n0_ := Aside0.mk (below_step (by repeat (first | (with_reducible first | exact HB.out | apply below_alloc | apply pw_below_drewN | apply below_drew1) | exact HB.out)) hb); clear HB; have HB := n0_; clear n0_; (try clear hb); (try clear hb2); (try clear hk); (try clear hi)) | (go_at_call 25; (with_reducible refine (platenref10_Missing.calls k a0 t113 _ A13.out).mono ?_); rintro e w56 ⟨rfl, hb⟩; have n0_ := Aside0.mk (below_step (by repeat (first | (with_reducible first | exact HB.out | apply below_alloc | apply pw_below_drewN | apply below_drew1) | exact HB.out)) hb); clear HB; have HB := n0_; clear n0_; (try clear hb); (try clear hb2); (try clear hk); (try clear hi)))
        go_ret
        exact ⟨by first | rfl | (simp [errW_none, errW_some] <;> rfl) | (simp [*, errW_none, errW_some] <;> rfl), by repeat (first | (with_reducible first | exact HB.out | apply below_alloc | apply pw_below_drewN | apply below_drew1) | exact HB.out)⟩
    · rw [if_neg c11] at H
      have c11b0 : (t110.toList == t111.toList) = false := beq_eq_false_iff_ne.mpr c11
      have c11b1 : (t110.toList != t111.toList) = true := bne_iff_ne.mpr c11
      obtain rfl := Option.some.inj H
      go_enter Tryd.func7, Tryd.ntmps7
      go_wp2_with (first | ((with_reducible refine gate_callee (f := 13) rfl ?_); refine goesL_ (some 8) rfl rfl Tryd.func13 (by kernel_rfl) rfl #[.string a1] rfl (by (try simp only [List.map_toArray, List.map_cons, List.map_nil]); first | done | rfl | (simp only [List.length_drop, List.length_take]; rfl)) ?_; (with_reducible refine (PGBad.platenlaw10_cut.calls a1 t106 _ A4.out).mono ?_); rintro e w' ⟨rfl, ⟨nd, rfl⟩⟩; refine ⟨_, rfl, ?_⟩) | ((with_reducible refine gate_callee (f := 13) rfl ?_); refine goesL_ (some 10) rfl rfl Tryd.func13 (by kernel_rfl) rfl #[.string a2] rfl (by (try simp only [List.map_toArray, List.map_cons, List.map_nil]); first | done | rfl | (simp only [List.length_drop, List.length_take]; rfl)) ?_; (with_reducible refine (PGBad.platenlaw10_cut.calls a2 t107 _ A5.out).mono ?_); rintro e w' ⟨rfl, ⟨nd, rfl⟩⟩; refine ⟨_, rfl, ?_⟩) | ((with_reducible refine gate_callee (f := 16) rfl ?_); refine goesL_ (some 14) rfl rfl Tryd.func16 (by kernel_rfl) rfl #[.int .i32 a0, .string t106, .string t107] rfl (by (try simp only [List.map_toArray, List.map_cons, List.map_nil]); first | done | rfl | (simp only [List.length_drop, List.length_take]; rfl)) ?_; (with_reducible refine (bad_Verb.calls a0 t106 t107 t108 _ (by (try refine Aside0.mk ?_); first | exact hOK.out | exact (hOK.out).drewN _ | (refine (hOK.out).later ?_; (repeat (first | (with_reducible first | exact HB.out | apply below_alloc | apply pw_below_drewN | apply below_drew1) | exact HB.out))) | (refine Ok.drewN ?_ _; exact hOK.out)) A6.out).mono ?_); rintro e w57 ⟨rfl, hb⟩; refine ⟨_, rfl, ?_⟩; have n0_ := Aside0.mk (below_step (by repeat (first | (with_reducible first | exact HB.out | apply below_alloc | apply pw_below_drewN | apply below_drew1) | exact HB.out)) hb); clear HB; have HB := n0_; clear n0_; (try clear hb); (try clear hb2); (try clear hk); (try clear hi)) | ((with_reducible refine gate_callee (f := 21) rfl ?_); refine goesL_ (some 18) rfl rfl Tryd.func21 (by kernel_rfl) rfl #[.int .i32 a0, .string t106, .string t107] rfl (by (try simp only [List.map_toArray, List.map_cons, List.map_nil]); first | done | rfl | (simp only [List.length_drop, List.length_take]; rfl)) ?_; (with_reducible refine (platenref10_Verb.calls k a0 t106 t107 t109 _ A7.out).mono ?_); rintro e w58 ⟨rfl, hb⟩; refine ⟨_, rfl, ?_⟩; have n0_ := Aside0.mk (below_step (by repeat (first | (with_reducible first | exact HB.out | apply below_alloc | apply pw_below_drewN | apply below_drew1) | exact HB.out)) hb); clear HB; have HB := n0_; clear n0_; (try clear hb); (try clear hb2); (try clear hk); (try clear hi)) | (go_at_call 22; (with_reducible refine (bad_Nil.calls a0 t110 _ (by (try refine Aside0.mk ?_); first | exact hOK.out | exact (hOK.out).drewN _ | (refine (hOK.out).later ?_; (repeat (first | (with_reducible first | exact HB.out | apply below_alloc | apply pw_below_drewN | apply below_drew1) | exact HB.out))) | (refine Ok.drewN ?_ _; exact hOK.out)) A9.out).mono ?_); rintro e w59 ⟨rfl, hb⟩; have n0_ := Aside0.mk (below_step (by repeat (first | (with_reducible first | exact HB.out | apply below_alloc | apply pw_below_drewN | apply below_drew1) | exact HB.out)) hb); clear HB; have HB := n0_; clear n0_; (try clear hb); (try clear hb2); (try clear hk); (try clear hi)) | (go_at_call 23; (with_reducible refine (platenref10_Nil.calls k a0 t111 _ A10.out).mono ?_); rintro e w60 ⟨rfl, hb⟩; have n0_ := Aside0.mk (below_step (by repeat (first | (with_reducible first | exact HB.out | apply below_alloc | apply pw_below_drewN | apply below_drew1) | exact HB.out)) hb); clear HB; have HB := n0_; clear n0_; (try clear hb); (try clear hb2); (try clear hk); (try clear hi)))
      go_ret
      exact ⟨by first | rfl | (simp [errW_none, errW_some] <;> rfl) | (simp [*, errW_none, errW_some] <;> rfl), by repeat (first | (with_reducible first | exact HB.out | apply below_alloc | apply pw_below_drewN | apply below_drew1) | exact HB.out)⟩
  · rw [if_neg c8] at H
    have c8b0 : (t108.toList == t109.toList) = false := beq_eq_false_iff_ne.mpr c8
    have c8b1 : (t108.toList != t109.toList) = true := bne_iff_ne.mpr c8
    obtain rfl := Option.some.inj H
    go_enter Tryd.func7, Tryd.ntmps7
    go_wp2_with (first | ((with_reducible refine gate_callee (f := 13) rfl ?_); refine goesL_ (some 8) rfl rfl Tryd.func13 (by kernel_rfl) rfl #[.string a1] rfl (by (try simp only [List.map_toArray, List.map_cons, List.map_nil]); first | done | rfl | (simp only [List.length_drop, List.length_take]; rfl)) ?_; (with_reducible refine (PGBad.platenlaw10_cut.calls a1 t106 _ A4.out).mono ?_); rintro e w' ⟨rfl, ⟨nd, rfl⟩⟩; refine ⟨_, rfl, ?_⟩) | ((with_reducible refine gate_callee (f := 13) rfl ?_); refine goesL_ (some 10) rfl rfl Tryd.func13 (by kernel_rfl) rfl #[.string a2] rfl (by (try simp only [List.map_toArray, List.map_cons, List.map_nil]); first | done | rfl | (simp only [List.length_drop, List.length_take]; rfl)) ?_; (with_reducible refine (PGBad.platenlaw10_cut.calls a2 t107 _ A5.out).mono ?_); rintro e w' ⟨rfl, ⟨nd, rfl⟩⟩; refine ⟨_, rfl, ?_⟩) | ((with_reducible refine gate_callee (f := 16) rfl ?_); refine goesL_ (some 14) rfl rfl Tryd.func16 (by kernel_rfl) rfl #[.int .i32 a0, .string t106, .string t107] rfl (by (try simp only [List.map_toArray, List.map_cons, List.map_nil]); first | done | rfl | (simp only [List.length_drop, List.length_take]; rfl)) ?_; (with_reducible refine (bad_Verb.calls a0 t106 t107 t108 _ (by (try refine Aside0.mk ?_); first | exact hOK.out | exact (hOK.out).drewN _ | (refine (hOK.out).later ?_; (repeat (first | (with_reducible first | exact HB.out | apply below_alloc | apply pw_below_drewN | apply below_drew1) | exact HB.out))) | (refine Ok.drewN ?_ _; exact hOK.out)) A6.out).mono ?_); rintro e w61 ⟨rfl, hb⟩; refine ⟨_, rfl, ?_⟩; have n0_ := Aside0.mk (below_step (by repeat (first | (with_reducible first | exact HB.out | apply below_alloc | apply pw_below_drewN | apply below_drew1) | exact HB.out)) hb); clear HB; have HB := n0_; clear n0_; (try clear hb); (try clear hb2); (try clear hk); (try clear hi)) | ((with_reducible refine gate_callee (f := 21) rfl ?_); refine goesL_ (some 18) rfl rfl Tryd.func21 (by kernel_rfl) rfl #[.int .i32 a0, .string t106, .string t107] rfl (by (try simp only [List.map_toArray, List.map_cons, List.map_nil]); first | done | rfl | (simp only [List.length_drop, List.length_take]; rfl)) ?_; (with_reducible refine (platenref10_Verb.calls k a0 t106 t107 t109 _ A7.out).mono ?_); rintro e w62 ⟨rfl, hb⟩; refine ⟨_, rfl, ?_⟩; have n0_ := Aside0.mk (below_step (by repeat (first | (with_reducible first | exact HB.out | apply below_alloc | apply pw_below_drewN | apply below_drew1) | exact HB.out)) hb); clear HB; have HB := n0_; clear n0_; (try clear hb); (try clear hb2); (try clear hk); (try clear hi)))
    go_ret
    exact ⟨by first | rfl | (simp [errW_none, errW_some] <;> rfl) | (simp [*, errW_none, errW_some] <;> rfl), by repeat (first | (with_reducible first | exact HB.out | apply below_alloc | apply pw_below_drewN | apply below_drew1) | exact HB.out)⟩

end Go.Proofs.YtiaocdbgcjnceaaDoor.PGVerb
