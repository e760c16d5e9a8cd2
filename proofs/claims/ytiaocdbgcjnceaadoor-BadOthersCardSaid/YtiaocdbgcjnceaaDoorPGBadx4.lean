-- Printed by this session's program gprint.py over the kit's print.py.
import Derived.Test.YtiaocdbgcjnceaaDoorPGBadx0
namespace Go.Proofs.YtiaocdbgcjnceaaDoor.PGBad
open Go.RowKit Go.Proofs.YtiaocdbgcjnceaaDoorW.PrintWords Go.Proofs.YtiaocdbgcjnceaaDoorW.PrintLast Go.Proofs.YtiaocdbgcjnceaaDoorW.PrintMore
attribute [local go_sem] max2_int min2_int max_two min_two max_three min_three max_four min_four   -- for this text's walks alone
set_option linter.unusedVariables false
set_option linter.unusedSimpArgs false

/-! ### platenref10_Extra: function 11 -/
mutual
def platenref10_Extra.l0 : Nat → List ByteArray → List ByteArray → ByteArray → Int → Option (ByteArray)
  | 0, _, _, _, _ => none
  | k + 1, x0, x1, x5, x6 => if x6 < (x0.length : Int) then (platenref10_Extra.j1 k x0 x1 x5 x6 (decide (x6 < (x1.length : Int)))) else (platenref10_Extra.j1 k x0 x1 x5 x6 false)
def platenref10_Extra.j1 : Nat → List ByteArray → List ByteArray → ByteArray → Int → Bool → Option (ByteArray)
  | 0, _, _, _, _, _ => none
  | k + 1, x0, x1, x5, x6, x16 => if x16 = true then (if x6 > 0 then (if x5.size + 2 ≤ 9223372036854775807 then (if 0 ≤ x6 then (if x6 < (x0.length : Int) then (if (rdOf ByteArray.empty x0 x6).size + 1 ≤ 9223372036854775807 then (if x6 < (x1.length : Int) then (if ((rdOf ByteArray.empty x0 x6) ++ (⟨#[61]⟩ : ByteArray)).size + (rdOf ByteArray.empty x1 x6).size ≤ 9223372036854775807 then (if (x5 ++ (⟨#[44, 32]⟩ : ByteArray)).size + (((rdOf ByteArray.empty x0 x6) ++ (⟨#[61]⟩ : ByteArray)) ++ (rdOf ByteArray.empty x1 x6)).size ≤ 9223372036854775807 then (platenref10_Extra.l0 k x0 x1 ((x5 ++ (⟨#[44, 32]⟩ : ByteArray)) ++ (((rdOf ByteArray.empty x0 x6) ++ (⟨#[61]⟩ : ByteArray)) ++ (rdOf ByteArray.empty x1 x6))) (wrap64 (x6 + 1))) else (none)) else (none)) else (none)) else (none)) else (none)) else (none)) else (none)) else (if 0 ≤ x6 then (if x6 < (x0.length : Int) then (if (rdOf ByteArray.empty x0 x6).size + 1 ≤ 9223372036854775807 then (if x6 < (x1.length : Int) then (if ((rdOf ByteArray.empty x0 x6) ++ (⟨#[61]⟩ : ByteArray)).size + (rdOf ByteArray.empty x1 x6).size ≤ 9223372036854775807 then (if x5.size + (((rdOf ByteArray.empty x0 x6) ++ (⟨#[61]⟩ : ByteArray)) ++ (rdOf ByteArray.empty x1 x6)).size ≤ 9223372036854775807 then (platenref10_Extra.l0 k x0 x1 (x5 ++ (((rdOf ByteArray.empty x0 x6) ++ (⟨#[61]⟩ : ByteArray)) ++ (rdOf ByteArray.empty x1 x6))) (wrap64 (x6 + 1))) else (none)) else (none)) else (none)) else (none)) else (none)) else (none))) else (if x5.size + 1 ≤ 9223372036854775807 then (some (x5 ++ (⟨#[41]⟩ : ByteArray))) else (none))
end
def platenref10_Extra.f (k : Nat) (l0 : List ByteArray) (l1 : List ByteArray) : Option (ByteArray) := platenref10_Extra.l0 k l0 l1 (⟨#[37, 33, 40, 69, 88, 84, 82, 65, 32]⟩ : ByteArray) 0
theorem platenref10_Extra.mono_l : ∀ k, (∀ y0 y1 y2 y3, LeO (platenref10_Extra.l0 k y0 y1 y2 y3) (platenref10_Extra.l0 (k + 1) y0 y1 y2 y3)) ∧ (∀ y0 y1 y2 y3 y4, LeO (platenref10_Extra.j1 k y0 y1 y2 y3 y4) (platenref10_Extra.j1 (k + 1) y0 y1 y2 y3 y4))
  | 0 => ⟨fun _ _ _ _ r h => by simp [platenref10_Extra.l0] at h, fun _ _ _ _ _ r h => by simp [platenref10_Extra.j1] at h⟩
  | k + 1 => by
    obtain ⟨ih0, ih1⟩ := platenref10_Extra.mono_l k
    refine ⟨?_, ?_⟩
    · intro y0 y1 y2 y3
      unfold platenref10_Extra.l0
      repeat' first
      | (with_reducible exact ih0 _ _ _ _)
      | (with_reducible exact ih1 _ _ _ _ _)
      | (with_reducible exact LeO.refl _)
      | (with_reducible exact LeO.none _)
      | (with_reducible refine LeO.ite ?_ ?_)
      | (with_reducible refine LeO.bind ?_ (fun _ => ?_))
      | exact ih0 _ _ _ _
      | exact ih1 _ _ _ _ _
      | exact LeO.none _
      | refine LeO.ite ?_ ?_
      | refine LeO.bind ?_ (fun _ => ?_)
    · intro y0 y1 y2 y3 y4
      unfold platenref10_Extra.j1
      repeat' first
      | (with_reducible exact ih0 _ _ _ _)
      | (with_reducible exact ih1 _ _ _ _ _)
      | (with_reducible exact LeO.refl _)
      | (with_reducible exact LeO.none _)
      | (with_reducible refine LeO.ite ?_ ?_)
      | (with_reducible refine LeO.bind ?_ (fun _ => ?_))
      | exact ih0 _ _ _ _
      | exact ih1 _ _ _ _ _
      | exact LeO.none _
      | refine LeO.ite ?_ ?_
      | refine LeO.bind ?_ (fun _ => ?_)
theorem platenref10_Extra.mono : ∀ a0 a1 k, LeO (platenref10_Extra.f k a0 a1) (platenref10_Extra.f (k + 1) a0 a1) := by
  intro a0 a1 k
  obtain ⟨ih0, ih1⟩ := platenref10_Extra.mono_l k
  unfold platenref10_Extra.f
  repeat' first
      | (with_reducible exact ih0 _ _ _ _)
      | (with_reducible exact ih1 _ _ _ _ _)
      | (with_reducible exact LeO.refl _)
      | (with_reducible exact LeO.none _)
      | (with_reducible refine LeO.ite ?_ ?_)
      | (with_reducible refine LeO.bind ?_ (fun _ => ?_))
      | exact ih0 _ _ _ _
      | exact ih1 _ _ _ _ _
      | exact LeO.none _
      | refine LeO.ite ?_ ?_
      | refine LeO.bind ?_ (fun _ => ?_)
set_option maxHeartbeats 8000000 in
set_option maxRecDepth 100000 in
theorem platenref10_Extra.calls (k : Nat) (A0 : Option Addr) (c0 : Nat) (l0 : List ByteArray) (A1 : Option Addr) (c1 : Nat) (l1 : List ByteArray) (r : ByteArray) (w : World) (hr0 : Kd.C Kd.string w A0 l0.length l0) (hc0 : l0.length ≤ c0) (hr1 : Kd.C Kd.string w A1 l1.length l1) (hc1 : l1.length ≤ c1) (h : platenref10_Extra.f k l0 l1 = some r) :
    Calls Tryd.prog 11 #[.slice A0 l0.length c0, .slice A1 l1.length c1] w fun e w' => e = .returned (.string r) ∧ Drawn0 w w' := by
  have HR0 := Aside0.mk hr0
  have HC0 := Aside0.mk hc0
  clear hr0 hc0
  have HR1 := Aside0.mk hr1
  have HC1 := Aside0.mk hc1
  clear hr1 hc1
  have H : (platenref10_Extra.l0 k l0 l1 (⟨#[37, 33, 40, 69, 88, 84, 82, 65, 32]⟩ : ByteArray) 0) = some r := h
  clear h
  have H' := Aside0.mk H
  clear H
  go_enter Tryd.func11, Tryd.ntmps11
  go_wp2
  repeat (go_quiet (fail); try go_wp2)
  go_loopg [5, 6] k (fun kq v5 v6 w' => ∃ (x5_1 : ByteArray) (x6_1 : Int), v5 = .string x5_1 ∧ v6 = .int .i64 x6_1 ∧ Aside0 (platenref10_Extra.l0 kq l0 l1 x5_1 x6_1 = some r) ∧ Aside0 (kq ≤ k) ∧ Drawn0 w w')
  case atStart => exact ⟨((⟨#[37, 33, 40, 69, 88, 84, 82, 65, 32]⟩ : ByteArray)), (0), (by first | rfl | (simp; done) | (simp [*]; done)), (by first | rfl | (simp; done) | (simp [*]; done)), H', ⟨Nat.le_refl _⟩, by repeat (first | exact Drawn0.refl _ | apply Drawn0.step)⟩
  case round =>
    clear H'
    try clear c1
    try clear p2
    obtain ⟨x5_1, x6_1, rfl, rfl, HA, HK1, ⟨m1, rfl⟩⟩ := hrel
    cases gk with
    | zero => exact absurd HA.out (by simp [platenref10_Extra.l0])
    | succ k1 =>
      have H := HA.out
      clear HA
      simp only [platenref10_Extra.l0] at H
      have HC3 := Aside0.mk H
      clear H
      go_upto_region 3 with (fail)
      repeat (go_quiet (fail); go_upto_region 3 with (fail))
      go_cut [16] (fun v16 wc => ∃ (kq : Nat) (x16_2 : Bool), v16 = .bool x16_2 ∧ Aside0 (platenref10_Extra.j1 kq l0 l1 x5_1 x6_1 x16_2 = some r) ∧ Aside0 (kq ≤ k1) ∧ Drawn0 w wc)
      case first =>
        have H := HC3.out
        clear HC3
        by_cases c4 : x6_1 < (l0.length : Int)
        · rw [if_pos c4] at H
          have c4b0 : decide (x6_1 < (l0.length : Int)) = true := decide_eq_true c4
          clear c4
          (first | rw [c4b0] | (simp only [i64_w, i32_w]; rw [c4b0]) | skip)
          have H' := Aside0.mk H
          clear H
          go_wp2
          repeat (go_quiet (fail); try go_wp2)
          go_meet
          case rel => exact ⟨_, (decide (x6_1 < (l1.length : Int))), (by first | rfl | (simp; done) | (simp [*]; done)), H', ⟨by have := HK1.out; first | omega | exact Nat.le_refl _⟩, by repeat (first | exact Drawn0.refl _ | apply Drawn0.step)⟩
        · rw [if_neg c4] at H
          have c4b0 : decide (x6_1 < (l0.length : Int)) = false := decide_eq_false c4
          clear c4
          (first | rw [c4b0] | (simp only [i64_w, i32_w]; rw [c4b0]) | skip)
          have H' := Aside0.mk H
          clear H
          go_wp2
          repeat (go_quiet (fail); try go_wp2)
          go_meet
          case rel => exact ⟨_, (false), (by first | rfl | (simp; done) | (simp [*]; done)), H', ⟨by have := HK1.out; first | omega | exact Nat.le_refl _⟩, by repeat (first | exact Drawn0.refl _ | apply Drawn0.step)⟩
      case rest =>
        clear HC3
        try clear c1
        try clear p2
        try clear c4
        try clear c4b0
        try clear p2
        obtain ⟨kq, x16_2, rfl, HA, HJ2, ⟨mc2, rfl⟩⟩ := hcut
        cases kq with
        | zero => exact absurd HA.out (by simp [platenref10_Extra.j1])
        | succ kj2 =>
          have H := HA.out
          clear HA
          simp only [platenref10_Extra.j1] at H
          by_cases c5 : x16_2 = true
          · subst c5
            have H1 : (if x6_1 > 0 then (if x5_1.size + 2 ≤ 9223372036854775807 then (if 0 ≤ x6_1 then (if x6_1 < (l0.length : Int) then (if (rdOf ByteArray.empty l0 x6_1).size + 1 ≤ 9223372036854775807 then (if x6_1 < (l1.length : Int) then (if ((rdOf ByteArray.empty l0 x6_1) ++ (⟨#[61]⟩ : ByteArray)).size + (rdOf ByteArray.empty l1 x6_1).size ≤ 9223372036854775807 then (if (x5_1 ++ (⟨#[44, 32]⟩ : ByteArray)).size + (((rdOf ByteArray.empty l0 x6_1) ++ (⟨#[61]⟩ : ByteArray)) ++ (rdOf ByteArray.empty l1 x6_1)).size ≤ 9223372036854775807 then (platenref10_Extra.l0 kj2 l0 l1 ((x5_1 ++ (⟨#[44, 32]⟩ : ByteArray)) ++ (((rdOf ByteArray.empty l0 x6_1) ++ (⟨#[61]⟩ : ByteArray)) ++ (rdOf ByteArray.empty l1 x6_1))) (wrap64 (x6_1 + 1))) else (none)) else (none)) else (none)) else (none)) else (none)) else (none)) else (none)) else (if 0 ≤ x6_1 then (if x6_1 < (l0.length : Int) then (if (rdOf ByteArray.empty l0 x6_1).size + 1 ≤ 9223372036854775807 then (if x6_1 < (l1.length : Int) then (if ((rdOf ByteArray.empty l0 x6_1) ++ (⟨#[61]⟩ : ByteArray)).size + (rdOf ByteArray.empty l1 x6_1).size ≤ 9223372036854775807 then (if x5_1.size + (((rdOf ByteArray.empty l0 x6_1) ++ (⟨#[61]⟩ : ByteArray)) ++ (rdOf ByteArray.empty l1 x6_1)).size ≤ 9223372036854775807 then (platenref10_Extra.l0 kj2 l0 l1 (x5_1 ++ (((rdOf ByteArray.empty l0 x6_1) ++ (⟨#[61]⟩ : ByteArray)) ++ (rdOf ByteArray.empty l1 x6_1))) (wrap64 (x6_1 + 1))) else (none)) else (none)) else (none)) else (none)) else (none)) else (none))) = some r := by rw [if_pos rfl] at H; exact H
            clear H
            have H := H1
            clear H1
            by_cases c6 : x6_1 > 0
            · rw [if_pos c6] at H
              have c6b0 : decide (0 < x6_1) = true := decide_eq_true c6
              clear c6
              by_cases c7 : x5_1.size + 2 ≤ 9223372036854775807
              · rw [if_pos c7] at H
                have c7b0 := eq_true c7
                have c7b1 : decide (x5_1.size + 2 ≤ 9223372036854775807) = true := decide_eq_true c7
                try have c7b2 : (9223372036854775807 < x5_1.size + 2) = False := eq_false (Nat.not_lt.2 c7)
                by_cases c8 : 0 ≤ x6_1
                · rw [if_pos c8] at H
                  have c8b0 : decide (0 ≤ x6_1) = true := decide_eq_true c8
                  clear c8
                  by_cases c9 : x6_1 < (l0.length : Int)
                  · rw [if_pos c9] at H
                    have c9b0 : decide (x6_1 < (l0.length : Int)) = true := decide_eq_true c9
                    clear c9
                    by_cases c10 : (rdOf ByteArray.empty l0 x6_1).size + 1 ≤ 9223372036854775807
                    · rw [if_pos c10] at H
                      have c10b0 := eq_true c10
                      have c10b1 : decide ((rdOf ByteArray.empty l0 x6_1).size + 1 ≤ 9223372036854775807) = true := decide_eq_true c10
                      try have c10b2 : (9223372036854775807 < (rdOf ByteArray.empty l0 x6_1).size + 1) = False := eq_false (Nat.not_lt.2 c10)
                      by_cases c11 : x6_1 < (l1.length : Int)
                      · rw [if_pos c11] at H
                        have c11b0 : decide (x6_1 < (l1.length : Int)) = true := decide_eq_true c11
                        clear c11
                        by_cases c12 : ((rdOf ByteArray.empty l0 x6_1) ++ (⟨#[61]⟩ : ByteArray)).size + (rdOf ByteArray.empty l1 x6_1).size ≤ 9223372036854775807
                        · rw [if_pos c12] at H
                          have c12b0 := eq_true c12
                          have c12b1 : decide (((rdOf ByteArray.empty l0 x6_1) ++ (⟨#[61]⟩ : ByteArray)).size + (rdOf ByteArray.empty l1 x6_1).size ≤ 9223372036854775807) = true := decide_eq_true c12
                          try have c12b2 : (9223372036854775807 < ((rdOf ByteArray.empty l0 x6_1) ++ (⟨#[61]⟩ : ByteArray)).size + (rdOf ByteArray.empty l1 x6_1).size) = False := eq_false (Nat.not_lt.2 c12)
                          try have c12b4 : (9223372036854775807 < (rdOf ByteArray.empty l0 x6_1).size + 1 + (rdOf ByteArray.empty l1 x6_1).size) = False := eq_false (by have z_ := c12; simp only [ByteArray.size_append', ByteArray.size_mk', List.size_toArray, List.length_cons, List.length_nil] at z_; omega)
                          by_cases c13 : (x5_1 ++ (⟨#[44, 32]⟩ : ByteArray)).size + (((rdOf ByteArray.empty l0 x6_1) ++ (⟨#[61]⟩ : ByteArray)) ++ (rdOf ByteArray.empty l1 x6_1)).size ≤ 9223372036854775807
                          · rw [if_pos c13] at H
                            have c13b0 := eq_true c13
                            have c13b1 : decide ((x5_1 ++ (⟨#[44, 32]⟩ : ByteArray)).size + (((rdOf ByteArray.empty l0 x6_1) ++ (⟨#[61]⟩ : ByteArray)) ++ (rdOf ByteArray.empty l1 x6_1)).size ≤ 9223372036854775807) = true := decide_eq_true c13
                            try have c13b2 : (9223372036854775807 < (x5_1 ++ (⟨#[44, 32]⟩ : ByteArray)).size + (((rdOf ByteArray.empty l0 x6_1) ++ (⟨#[61]⟩ : ByteArray)) ++ (rdOf ByteArray.empty l1 x6_1)).size) = False := eq_false (Nat.not_lt.2 c13)
                            try have c13b4 : (9223372036854775807 < x5_1.size + 2 + ((rdOf ByteArray.empty l0 x6_1).size + 1 + (rdOf ByteArray.empty l1 x6_1).size)) = False := eq_false (by have z_ := c13; simp only [ByteArray.size_append', ByteArray.size_mk', List.size_toArray, List.length_cons, List.length_nil] at z_; omega)
                            have H' := Aside0.mk H
                            clear H
                            have p150 : 0 ≤ (x6_1 : Int) := of_decide_eq_true (by first | (with_reducible assumption) | assumption)
                            have q150 : x6_1 < (l0.length : Int) := of_decide_eq_true (by first | (with_reducible assumption) | assumption)
                            obtain ⟨ad150, e150, hx150_0⟩ := Kd.at_string HR0.out x6_1 p150 q150
                            cases e150
                            replace p150 := eq_true p150
                            replace q150 := eq_true q150
                            have p151 : 0 ≤ (x6_1 : Int) := of_decide_eq_true (by first | (with_reducible assumption) | assumption)
                            have q151 : x6_1 < (l1.length : Int) := of_decide_eq_true (by first | (with_reducible assumption) | assumption)
                            obtain ⟨ad151, e151, hx151_0⟩ := Kd.at_string HR1.out x6_1 p151 q151
                            cases e151
                            replace p151 := eq_true p151
                            replace q151 := eq_true q151
                            go_wp2
                            repeat (go_quiet (fail); try go_wp2)
                            go_roundg kj2
                            case measure => have := HK1.out; have := HJ2.out; omega
                            case rel => exact ⟨((x5_1 ++ (⟨#[44, 32]⟩ : ByteArray)) ++ (((rdOf ByteArray.empty l0 x6_1) ++ (⟨#[61]⟩ : ByteArray)) ++ (rdOf ByteArray.empty l1 x6_1))), (wrap64 (x6_1 + 1)), (by first | rfl | (simp; done) | (simp [*]; done)), (by first | rfl | (simp; done) | (simp [*]; done)), H', ⟨by have := HK1.out; have := HJ2.out; omega⟩, by repeat (first | exact Drawn0.refl _ | apply Drawn0.step)⟩
                          · rw [if_neg c13] at H
                            exact absurd H (by simp)
                        · rw [if_neg c12] at H
                          exact absurd H (by simp)
                      · rw [if_neg c11] at H
                        exact absurd H (by simp)
                    · rw [if_neg c10] at H
                      exact absurd H (by simp)
                  · rw [if_neg c9] at H
                    exact absurd H (by simp)
                · rw [if_neg c8] at H
                  exact absurd H (by simp)
              · rw [if_neg c7] at H
                exact absurd H (by simp)
            · rw [if_neg c6] at H
              have c6b0 : decide (0 < x6_1) = false := decide_eq_false c6
              clear c6
              by_cases c14 : 0 ≤ x6_1
              · rw [if_pos c14] at H
                have c14b0 : decide (0 ≤ x6_1) = true := decide_eq_true c14
                clear c14
                by_cases c15 : x6_1 < (l0.length : Int)
                · rw [if_pos c15] at H
                  have c15b0 : decide (x6_1 < (l0.length : Int)) = true := decide_eq_true c15
                  clear c15
                  by_cases c16 : (rdOf ByteArray.empty l0 x6_1).size + 1 ≤ 9223372036854775807
                  · rw [if_pos c16] at H
                    have c16b0 := eq_true c16
                    have c16b1 : decide ((rdOf ByteArray.empty l0 x6_1).size + 1 ≤ 9223372036854775807) = true := decide_eq_true c16
                    try have c16b2 : (9223372036854775807 < (rdOf ByteArray.empty l0 x6_1).size + 1) = False := eq_false (Nat.not_lt.2 c16)
                    by_cases c17 : x6_1 < (l1.length : Int)
                    · rw [if_pos c17] at H
                      have c17b0 : decide (x6_1 < (l1.length : Int)) = true := decide_eq_true c17
                      clear c17
                      by_cases c18 : ((rdOf ByteArray.empty l0 x6_1) ++ (⟨#[61]⟩ : ByteArray)).size + (rdOf ByteArray.empty l1 x6_1).size ≤ 9223372036854775807
                      · rw [if_pos c18] at H
                        have c18b0 := eq_true c18
                        have c18b1 : decide (((rdOf ByteArray.empty l0 x6_1) ++ (⟨#[61]⟩ : ByteArray)).size + (rdOf ByteArray.empty l1 x6_1).size ≤ 9223372036854775807) = true := decide_eq_true c18
                        try have c18b2 : (9223372036854775807 < ((rdOf ByteArray.empty l0 x6_1) ++ (⟨#[61]⟩ : ByteArray)).size + (rdOf ByteArray.empty l1 x6_1).size) = False := eq_false (Nat.not_lt.2 c18)
                        try have c18b4 : (9223372036854775807 < (rdOf ByteArray.empty l0 x6_1).size + 1 + (rdOf ByteArray.empty l1 x6_1).size) = False := eq_false (by have z_ := c18; simp only [ByteArray.size_append', ByteArray.size_mk', List.size_toArray, List.length_cons, List.length_nil] at z_; omega)
                        by_cases c19 : x5_1.size + (((rdOf ByteArray.empty l0 x6_1) ++ (⟨#[61]⟩ : ByteArray)) ++ (rdOf ByteArray.empty l1 x6_1)).size ≤ 9223372036854775807
                        · rw [if_pos c19] at H
                          have c19b0 := eq_true c19
                          have c19b1 : decide (x5_1.size + (((rdOf ByteArray.empty l0 x6_1) ++ (⟨#[61]⟩ : ByteArray)) ++ (rdOf ByteArray.empty l1 x6_1)).size ≤ 9223372036854775807) = true := decide_eq_true c19
                          try have c19b2 : (9223372036854775807 < x5_1.size + (((rdOf ByteArray.empty l0 x6_1) ++ (⟨#[61]⟩ : ByteArray)) ++ (rdOf ByteArray.empty l1 x6_1)).size) = False := eq_false (Nat.not_lt.2 c19)
                          try have c19b4 : (9223372036854775807 < x5_1.size + ((rdOf ByteArray.empty l0 x6_1).size + 1 + (rdOf ByteArray.empty l1 x6_1).size)) = False := eq_false (by have z_ := c19; simp only [ByteArray.size_append', ByteArray.size_mk', List.size_toArray, List.length_cons, List.length_nil] at z_; omega)
                          have H' := Aside0.mk H
                          clear H
                          have p152 : 0 ≤ (x6_1 : Int) := of_decide_eq_true (by first | (with_reducible assumption) | assumption)
                          have q152 : x6_1 < (l0.length : Int) := of_decide_eq_true (by first | (with_reducible assumption) | assumption)
                          obtain ⟨ad152, e152, hx152_0⟩ := Kd.at_string HR0.out x6_1 p152 q152
                          cases e152
                          replace p152 := eq_true p152
                          replace q152 := eq_true q152
                          have p153 : 0 ≤ (x6_1 : Int) := of_decide_eq_true (by first | (with_reducible assumption) | assumption)
                          have q153 : x6_1 < (l1.length : Int) := of_decide_eq_true (by first | (with_reducible assumption) | assumption)
                          obtain ⟨ad153, e153, hx153_0⟩ := Kd.at_string HR1.out x6_1 p153 q153
                          cases e153
                          replace p153 := eq_true p153
                          replace q153 := eq_true q153
                          go_wp2
                          repeat (go_quiet (fail); try go_wp2)
                          go_roundg kj2
                          case measure => have := HK1.out; have := HJ2.out; omega
                          case rel => exact ⟨(x5_1 ++ (((rdOf ByteArray.empty l0 x6_1) ++ (⟨#[61]⟩ : ByteArray)) ++ (rdOf ByteArray.empty l1 x6_1))), (wrap64 (x6_1 + 1)), (by first | rfl | (simp; done) | (simp [*]; done)), (by first | rfl | (simp; done) | (simp [*]; done)), H', ⟨by have := HK1.out; have := HJ2.out; omega⟩, by repeat (first | exact Drawn0.refl _ | apply Drawn0.step)⟩
                        · rw [if_neg c19] at H
                          exact absurd H (by simp)
                      · rw [if_neg c18] at H
                        exact absurd H (by simp)
                    · rw [if_neg c17] at H
                      exact absurd H (by simp)
                  · rw [if_neg c16] at H
                    exact absurd H (by simp)
                · rw [if_neg c15] at H
                  exact absurd H (by simp)
              · rw [if_neg c14] at H
                exact absurd H (by simp)
          · replace c5 := Bool.eq_false_iff.mpr c5
            subst c5
            have H1 : (if x5_1.size + 1 ≤ 9223372036854775807 then (some (x5_1 ++ (⟨#[41]⟩ : ByteArray))) else (none)) = some r := by rw [if_neg (show ¬ (false = true) by decide)] at H; exact H
            clear H
            have H := H1
            clear H1
            by_cases c20 : x5_1.size + 1 ≤ 9223372036854775807
            · rw [if_pos c20] at H
              have c20b0 := eq_true c20
              have c20b1 : decide (x5_1.size + 1 ≤ 9223372036854775807) = true := decide_eq_true c20
              try have c20b2 : (9223372036854775807 < x5_1.size + 1) = False := eq_false (Nat.not_lt.2 c20)
              obtain rfl := Option.some.inj H
              go_wp2
              repeat (go_quiet (fail); try go_wp2)
              go_ret
              exact ⟨by first | rfl | (simp; done) | (simp [*]; done), by repeat (first | exact Drawn0.refl _ | apply Drawn0.step)⟩
            · rw [if_neg c20] at H
              exact absurd H (by simp)

/-! ### platenlaw10_cut: function 13 -/
def platenlaw10_cut.f (a0 : ByteArray) : Option (ByteArray) := if (a0.size : Int) > 1000 then (if 0 ≤ 1000 then (if 1000 ≤ (a0.size : Int) then (some (a0.extract 0 1000)) else (none)) else (none)) else (some a0)
set_option maxHeartbeats 8000000 in
set_option maxRecDepth 100000 in
theorem platenlaw10_cut.calls (a0 : ByteArray) (r : ByteArray) (w : World) (h : platenlaw10_cut.f a0 = some r) :
    Calls Tryd.prog 13 #[.string a0] w fun e w' => e = .returned (.string r) ∧ Drawn0 w w' := by
  have H : (if (a0.size : Int) > 1000 then (if 0 ≤ 1000 then (if 1000 ≤ (a0.size : Int) then (some (a0.extract 0 1000)) else (none)) else (none)) else (some a0)) = some r := h
  clear h
  by_cases c2 : (a0.size : Int) > 1000
  · rw [if_pos c2] at H
    have c2b0 : decide (1000 < (a0.size : Int)) = true := decide_eq_true c2
    have c2b1 : decide (1000 < a0.size) = true := decide_eq_true (by omega)
    clear c2
    by_cases c3 : 0 ≤ 1000
    · rw [if_pos c3] at H
      have c3b0 := eq_true c3
      have c3b1 : decide (0 ≤ 1000) = true := decide_eq_true c3
      clear c3
      by_cases c4 : 1000 ≤ (a0.size : Int)
      · rw [if_pos c4] at H
        have c4b0 := eq_true c4
        have c4b1 : decide (1000 ≤ (a0.size : Int)) = true := decide_eq_true c4
        clear c4
        obtain rfl := Option.some.inj H
        go_enter Tryd.func13, Tryd.ntmps13
        go_wp2
        go_ret
        exact ⟨by first | rfl | (simp; done) | (simp [*]; done), by repeat (first | exact Drawn0.refl _ | apply Drawn0.step)⟩
      · rw [if_neg c4] at H
        exact absurd H (by simp)
    · rw [if_neg c3] at H
      exact absurd H (by simp)
  · rw [if_neg c2] at H
    have c2b0 : decide (1000 < (a0.size : Int)) = false := decide_eq_false c2
    have c2b1 : decide (1000 < a0.size) = false := decide_eq_false (by omega)
    clear c2
    obtain rfl := Option.some.inj H
    go_enter Tryd.func13, Tryd.ntmps13
    go_wp2
    go_ret
    exact ⟨by first | rfl | (simp; done) | (simp [*]; done), by repeat (first | exact Drawn0.refl _ | apply Drawn0.step)⟩

/-! ### platenlaw10_few: function 10 -/
def platenlaw10_few.l0 : Nat → List ByteArray → List ByteArray → Int → Option (List ByteArray)
  | 0, _, _, _ => none
  | k + 1, x0, x3, x4 => if x4 < (x0.length : Int) then (if x4 < 40 then (if 0 ≤ x4 then ((platenlaw10_cut.f (rdOf ByteArray.empty x0 x4)).bind fun t155 => (if x3.length < 8796093022208 then (platenlaw10_few.l0 k x0 (x3 ++ [t155]) (wrap64 (x4 + 1))) else (none))) else (none)) else (some x3)) else (some x3)
def platenlaw10_few.f (k : Nat) (l0 : List ByteArray) : Option (List ByteArray) := platenlaw10_few.l0 k l0 ([] : List ByteArray) 0
theorem platenlaw10_few.mono_l : ∀ k, (∀ y0 y1 y2, LeO (platenlaw10_few.l0 k y0 y1 y2) (platenlaw10_few.l0 (k + 1) y0 y1 y2))
  | 0 => fun _ _ _ r h => by simp [platenlaw10_few.l0] at h
  | k + 1 => by
    have ih0 := platenlaw10_few.mono_l k
    · intro y0 y1 y2
      unfold platenlaw10_few.l0
      repeat' first
      | (with_reducible exact ih0 _ _ _)
      | (with_reducible exact LeO.refl _)
      | (with_reducible exact LeO.none _)
      | (with_reducible refine LeO.ite ?_ ?_)
      | (with_reducible refine LeO.bind ?_ (fun _ => ?_))
      | exact ih0 _ _ _
      | exact LeO.none _
      | refine LeO.ite ?_ ?_
      | refine LeO.bind ?_ (fun _ => ?_)
theorem platenlaw10_few.mono : ∀ a0 k, LeO (platenlaw10_few.f k a0) (platenlaw10_few.f (k + 1) a0) := by
  intro a0 k
  have ih0 := platenlaw10_few.mono_l k
  unfold platenlaw10_few.f
  repeat' first
      | (with_reducible exact ih0 _ _ _)
      | (with_reducible exact LeO.refl _)
      | (with_reducible exact LeO.none _)
      | (with_reducible refine LeO.ite ?_ ?_)
      | (with_reducible refine LeO.bind ?_ (fun _ => ?_))
      | exact ih0 _ _ _
      | exact LeO.none _
      | refine LeO.ite ?_ ?_
      | refine LeO.bind ?_ (fun _ => ?_)
set_option maxHeartbeats 8000000 in
set_option maxRecDepth 100000 in
theorem platenlaw10_few.calls (k : Nat) (A0 : Option Addr) (c0 : Nat) (l0 : List ByteArray) (r : List ByteArray) (w : World) (hr0 : Kd.C Kd.string w A0 l0.length l0) (hc0 : l0.length ≤ c0) (h : platenlaw10_few.f k l0 = some r) :
    Calls Tryd.prog 10 #[.slice A0 l0.length c0] w fun e w' => ∃ v0_ : Value, e = .returned (v0_) ∧ Kd.R Kd.string 9 w' w.heap.size (fun _ => True) v0_ r ∧ Below w.heap.size w w' := by
  have HR0 := Aside0.mk hr0
  have HC0 := Aside0.mk hc0
  clear hr0 hc0
  have HB := Aside0.mk (Below.refl w.heap.size w)
  have H : (platenlaw10_few.l0 k l0 ([] : List ByteArray) 0) = some r := h
  clear h
  have H' := Aside0.mk H
  clear H
  go_enter Tryd.func10, Tryd.ntmps10
  go_wp2
  go_loopg [3, 4] k (fun kq v3 v4 w' => ∃ (x3_1 : List ByteArray) (x4_1 : Int), v4 = .int .i64 x4_1 ∧ Aside0 (platenlaw10_few.l0 kq l0 x3_1 x4_1 = some r) ∧ Aside0 (kq ≤ k) ∧ Aside0 (Kd.R Kd.string 9 w' w.heap.size (fun _ => True) v3 x3_1) ∧ Aside0 (Below w.heap.size w w'))
  case atStart => exact ⟨(([] : List ByteArray)), (0), (by first | rfl | (simp; done) | (simp [*]; done)), H', ⟨Nat.le_refl _⟩, ⟨by first | exact Kd.R_nil _ _ _ _ _ | exact Kd.N_nil _ _ _ _ _ | exact Kd.V_nil _ _ _ _ _ | exact Kd.Q_nil _ _ _ _ _ | exact Kd.S_nil _ _ _ _ _⟩, ⟨by repeat (first | (with_reducible first | exact HB.out | apply below_alloc | apply pw_below_drewN | apply below_drew1) | exact HB.out)⟩⟩
  case round =>
    clear H'
    try clear c1
    obtain ⟨x3_1, x4_1, rfl, HA, HK1, HO_3, HB⟩ := hrel
    cases gk with
    | zero => exact absurd HA.out (by simp [platenlaw10_few.l0])
    | succ k1 =>
      have H := HA.out
      clear HA
      simp only [platenlaw10_few.l0] at H
      by_cases c2 : x4_1 < (l0.length : Int)
      · rw [if_pos c2] at H
        have c2b0 : decide (x4_1 < (l0.length : Int)) = true := decide_eq_true c2
        clear c2
        by_cases c3 : x4_1 < 40
        · rw [if_pos c3] at H
          have c3b0 : decide (x4_1 < 40) = true := decide_eq_true c3
          clear c3
          by_cases c4 : 0 ≤ x4_1
          · rw [if_pos c4] at H
            have c4b0 : decide (0 ≤ x4_1) = true := decide_eq_true c4
            clear c4
            replace H := Option.bind_eq_some_iff.mp H
            obtain ⟨t155, A50, H⟩ := H
            replace H : (if x3_1.length < 8796093022208 then (platenlaw10_few.l0 k1 l0 (x3_1 ++ [t155]) (wrap64 (x4_1 + 1))) else (none)) = some r := H
            have A5 := Aside0.mk A50
            clear A50
            by_cases c6 : x3_1.length < 8796093022208
            · rw [if_pos c6] at H
              have LMc6 := Aside0.mk c6
              clear c6
              obtain ⟨y156, hy156⟩ : ∃ y_ : List ByteArray, y_ = (x3_1 ++ [t155]) := ⟨_, rfl⟩
              replace H : (platenlaw10_few.l0 k1 l0 y156 (wrap64 (x4_1 + 1))) = some r := by first | (rw [hy156]; with_reducible exact H) | (have H2_ := (Option.bind_some _ _).symm.trans H; rw [hy156]; with_reducible exact H2_) | (have H2_ := (Option.bind_some _ _).symm.trans H; with_reducible exact H2_) | with_reducible exact H | (rw [hy156]; exact H) | exact H
              have Ny156 := Aside0.mk hy156
              clear hy156
              have H' := Aside0.mk H
              clear H
              have p154 : 0 ≤ (x4_1 : Int) := of_decide_eq_true (by first | (with_reducible assumption) | assumption)
              have q154 : x4_1 < (l0.length : Int) := of_decide_eq_true (by first | (with_reducible assumption) | assumption)
              obtain ⟨ad154, e154, hx154_0⟩ := Kd.at_string HR0.out x4_1 p154 q154
              cases e154
              replace hx154_0 := (HB.out.cell (World.block_lt_of_cell? w _ hx154_0)).trans hx154_0
              replace p154 := eq_true p154
              replace q154 := eq_true q154
              go_wp2_with (first | ((with_reducible refine gate_callee (f := 13) rfl ?_); refine goesL_ (some 20) rfl rfl Tryd.func13 (by kernel_rfl) rfl #[.string (rdOf ByteArray.empty l0 x4_1)] rfl (by (try simp only [List.map_toArray, List.map_cons, List.map_nil]); first | done | rfl | (simp only [List.length_drop, List.length_take]; rfl)) ?_; (with_reducible refine (platenlaw10_cut.calls (rdOf ByteArray.empty l0 x4_1) t155 _ A5.out).mono ?_); rintro e w' ⟨rfl, ⟨nd, rfl⟩⟩; refine ⟨_, rfl, ?_⟩) | ((with_reducible refine gate_builtin (b := .append) (xs := #[.tmp 15, .tmp 21]) rfl ?_); at_builtin; refine Kd.R_append Kd.string (w0 := w) w.heap.size rfl (.tmp 15) (.tmp 21) 22 9 (.string ⟨#[]⟩) 16 rfl Tryd.underlying22 info9 rfl (by decide) (by omega) u3 x3_1 t155 [.string t155] (fun _ => True) (fun _ => False) rfl rfl ?aP (fun _ hk => hk.elim) ?aF ?aO ?aB ?aS ?aL ?_; (case aP => exact rfl); (case aB => exact (by repeat (first | (with_reducible first | exact HB.out | apply below_alloc | apply pw_below_drewN | apply below_drew1) | exact HB.out))); (case aF => exact (fun _ _ => trivial)); (case aO => exact (by (with_reducible repeat (first | apply Kd.R_alloc | apply Kd.R_drewN | apply Kd.R_drew)); exact HO_3.out)); (case aS => exact (below_size (by repeat (first | (with_reducible first | exact HB.out | apply below_alloc | apply pw_below_drewN | apply below_drew1) | exact HB.out)))); (case aL => have := LMc6.out; omega); intro v157 w7 ho hb hg hat; rw [← Ny156.out] at ho; have n0_ := Aside0.mk (hb); have n1_ := Aside0.mk (ho); clear HB; clear HO_3; have HB := n0_; have HO158 := n1_; clear n0_ n1_; clear ho hb hg hat))
              go_roundg k1
              case measure => have := HK1.out; omega
              case rel => exact ⟨(y156), (wrap64 (x4_1 + 1)), (by first | rfl | (simp; done) | (simp [*]; done)), H', ⟨by have := HK1.out; omega⟩, ⟨by (with_reducible repeat (first | apply Kd.R_alloc | apply Kd.R_drewN | apply Kd.R_drew)); exact HO158.out⟩, ⟨by repeat (first | (with_reducible first | exact HB.out | apply below_alloc | apply pw_below_drewN | apply below_drew1) | exact HB.out)⟩⟩
            · rw [if_neg c6] at H
              exact absurd H (by simp)
          · rw [if_neg c4] at H
            exact absurd H (by simp)
        · rw [if_neg c3] at H
          have c3b0 : decide (x4_1 < 40) = false := decide_eq_false c3
          clear c3
          obtain rfl := Option.some.inj H
          go_wp2
          go_ret
          exact ⟨_, by first | rfl | (simp [errW_none, errW_some] <;> rfl) | (simp [*, errW_none, errW_some] <;> rfl), by (with_reducible repeat (first | apply Kd.R_alloc | apply Kd.R_drewN | apply Kd.R_drew)); exact HO_3.out, by repeat (first | (with_reducible first | exact HB.out | apply below_alloc | apply pw_below_drewN | apply below_drew1) | exact HB.out)⟩
      · rw [if_neg c2] at H
        have c2b0 : decide (x4_1 < (l0.length : Int)) = false := decide_eq_false c2
        clear c2
        obtain rfl := Option.some.inj H
        go_wp2
        go_ret
        exact ⟨_, by first | rfl | (simp [errW_none, errW_some] <;> rfl) | (simp [*, errW_none, errW_some] <;> rfl), by (with_reducible repeat (first | apply Kd.R_alloc | apply Kd.R_drewN | apply Kd.R_drew)); exact HO_3.out, by repeat (first | (with_reducible first | exact HB.out | apply below_alloc | apply pw_below_drewN | apply below_drew1) | exact HB.out)⟩

end Go.Proofs.YtiaocdbgcjnceaaDoor.PGBad
