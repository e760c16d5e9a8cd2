-- Printed by this session's program gprint.py over the kit's print.py.
import Derived.Test.YtiaocdbgcjnceaaDoorPGBadx0
import Derived.Test.YtiaocdbgcjnceaaDoorPGBadx1
import Derived.Test.YtiaocdbgcjnceaaDoorPGBadx2
namespace Go.Proofs.YtiaocdbgcjnceaaDoor.PGBad
open Go.RowKit Go.Proofs.YtiaocdbgcjnceaaDoorW.PrintWords Go.Proofs.YtiaocdbgcjnceaaDoorW.PrintLast Go.Proofs.YtiaocdbgcjnceaaDoorW.PrintMore
attribute [local go_sem] max2_int min2_int max_two min_two max_three min_three max_four min_four   -- for this text's walks alone
set_option linter.unusedVariables false
set_option linter.unusedSimpArgs false

/-! ### platenref10_Read: function 15 -/
mutual
def platenref10_Read.j0 : Nat → ByteArray → Int → Bool → Option (Int × Int × ByteArray)
  | 0, _, _, _ => none
  | k + 1, x0, x5, x28 => if x28 = true then (some (0, 0, (⟨#[]⟩ : ByteArray))) else (if 2 < (x0.size : Int) then (if (bt x0 2) = 40 then (if 3 < (x0.size : Int) then (platenref10_Read.j1 k x0 x5 ((bt x0 3) != 40)) else (none)) else (platenref10_Read.j1 k x0 x5 false)) else (none))
def platenref10_Read.j1 : Nat → ByteArray → Int → Bool → Option (Int × Int × ByteArray)
  | 0, _, _, _ => none
  | k + 1, x0, x5, x36 => if x36 = true then (if 3 ≤ (wrap64 (x5 - 1)) then (if (wrap64 (x5 - 1)) ≤ (x0.size : Int) then ((some (([(⟨#[78, 79, 86, 69, 82, 66]⟩ : ByteArray), (⟨#[66, 65, 68, 87, 73, 68, 84, 72]⟩ : ByteArray), (⟨#[66, 65, 68, 80, 82, 69, 67]⟩ : ByteArray), (⟨#[68, 69, 80, 84, 72]⟩ : ByteArray)] : List ByteArray) : List ByteArray)).bind fun y139 => (platenref10_Read.l0 k (x0.extract 3 ((wrap64 (x5 - 1)) : Int).toNat) y139 (y139.length : Int) 0)) else (none)) else (none)) else (if 2 ≤ (x0.size : Int) then ((platenref01_Decode.f k (x0.extract 2 x0.size)).bind fun bt144 => (if bt144.2.2 = true then (platenref10_Read.j3 k x0 x5 bt144.1 bt144.2.1 true) else (if (wrap64 ((wrap64 (2 + bt144.2.1)) + 1)) > (wrap64 (x5 - 1)) then (platenref10_Read.j3 k x0 x5 bt144.1 bt144.2.1 true) else (if 0 ≤ (wrap64 (2 + bt144.2.1)) then (if (wrap64 (2 + bt144.2.1)) < (x0.size : Int) then (platenref10_Read.j3 k x0 x5 bt144.1 bt144.2.1 ((bt x0 (wrap64 (2 + bt144.2.1))) != 40)) else (none)) else (none))))) else (none))
def platenref10_Read.l0 : Nat → ByteArray → List ByteArray → Int → Int → Option (Int × Int × ByteArray)
  | 0, _, _, _, _ => none
  | k + 1, x6, x41, x42, x43 => if x43 < x42 then (if 0 ≤ x43 then (if x43 < (x41.length : Int) then (if x6.toList = (rdOf ByteArray.empty x41 x43).toList then (some (wrap64 (6 + x43), 0, x6)) else (platenref10_Read.l0 k x6 x41 x42 (wrap64 (x43 + 1)))) else (none)) else (none)) else ((platenref10_begins.f x6 (⟨#[69, 88, 84, 82, 65, 32]⟩ : ByteArray)).bind fun t143 => (if t143 = true then (some (10, 0, x6)) else (some (0, 0, (⟨#[]⟩ : ByteArray)))))
def platenref10_Read.j3 : Nat → ByteArray → Int → Int → Int → Bool → Option (Int × Int × ByteArray)
  | 0, _, _, _, _, _ => none
  | k + 1, x0, x5, x9, x10, x80 => if x80 = true then (some (0, 0, (⟨#[]⟩ : ByteArray))) else (if 0 ≤ (wrap64 (3 + x10)) then (if (wrap64 (3 + x10)) ≤ (wrap64 (x5 - 1)) then (if (wrap64 (x5 - 1)) ≤ (x0.size : Int) then (if (x0.extract ((wrap64 (3 + x10)) : Int).toNat ((wrap64 (x5 - 1)) : Int).toNat).toList = ([77, 73, 83, 83, 73, 78, 71] : List UInt8) then (some (3, x9, x0.extract ((wrap64 (3 + x10)) : Int).toNat ((wrap64 (x5 - 1)) : Int).toNat)) else (if (x0.extract ((wrap64 (3 + x10)) : Int).toNat ((wrap64 (x5 - 1)) : Int).toNat).toList = ([66, 65, 68, 73, 78, 68, 69, 88] : List UInt8) then (some (4, x9, x0.extract ((wrap64 (3 + x10)) : Int).toNat ((wrap64 (x5 - 1)) : Int).toNat)) else (if (x0.extract ((wrap64 (3 + x10)) : Int).toNat ((wrap64 (x5 - 1)) : Int).toNat).toList = ([60, 110, 105, 108, 62] : List UInt8) then (some (2, x9, x0.extract ((wrap64 (3 + x10)) : Int).toNat ((wrap64 (x5 - 1)) : Int).toNat)) else ((platenref10_begins.f (x0.extract ((wrap64 (3 + x10)) : Int).toNat ((wrap64 (x5 - 1)) : Int).toNat) (⟨#[80, 65, 78, 73, 67, 61]⟩ : ByteArray)).bind fun t147 => (if t147 = true then ((platenref10_has.f k (x0.extract ((wrap64 (3 + x10)) : Int).toNat ((wrap64 (x5 - 1)) : Int).toNat) (⟨#[32, 109, 101, 116, 104, 111, 100, 58, 32]⟩ : ByteArray)).bind fun t148 => (platenref10_Read.j4 k x9 (x0.extract ((wrap64 (3 + x10)) : Int).toNat ((wrap64 (x5 - 1)) : Int).toNat) t148)) else (platenref10_Read.j4 k x9 (x0.extract ((wrap64 (3 + x10)) : Int).toNat ((wrap64 (x5 - 1)) : Int).toNat) false)))))) else (none)) else (none)) else (none))
def platenref10_Read.j4 : Nat → Int → ByteArray → Bool → Option (Int × Int × ByteArray)
  | 0, _, _, _ => none
  | k + 1, x9, x12, x102 => if x102 = true then (some (5, x9, x12)) else ((platenref10_has.f k x12 (⟨#[61]⟩ : ByteArray)).bind fun t149 => (if t149 = true then (some (1, x9, x12)) else (some (0, 0, (⟨#[]⟩ : ByteArray)))))
end
def platenref10_Read.f (k : Nat) (a0 : ByteArray) : Option (Int × Int × ByteArray) := if (a0.size : Int) < 4 then (platenref10_Read.j0 k a0 (a0.size : Int) true) else ((platenref10_begins.f a0 (⟨#[37, 33]⟩ : ByteArray)).bind fun t138 => (if t138 = true then (if 0 ≤ (wrap64 ((a0.size : Int) - 1)) then (if (wrap64 ((a0.size : Int) - 1)) < (a0.size : Int) then (platenref10_Read.j0 k a0 (a0.size : Int) ((bt a0 (wrap64 ((a0.size : Int) - 1))) != 41)) else (none)) else (none)) else (platenref10_Read.j0 k a0 (a0.size : Int) true)))
theorem platenref10_Read.mono_l : ∀ k, (∀ y0 y1 y2, LeO (platenref10_Read.j0 k y0 y1 y2) (platenref10_Read.j0 (k + 1) y0 y1 y2)) ∧ (∀ y0 y1 y2, LeO (platenref10_Read.j1 k y0 y1 y2) (platenref10_Read.j1 (k + 1) y0 y1 y2)) ∧ (∀ y0 y1 y2 y3, LeO (platenref10_Read.l0 k y0 y1 y2 y3) (platenref10_Read.l0 (k + 1) y0 y1 y2 y3)) ∧ (∀ y0 y1 y2 y3 y4, LeO (platenref10_Read.j3 k y0 y1 y2 y3 y4) (platenref10_Read.j3 (k + 1) y0 y1 y2 y3 y4)) ∧ (∀ y0 y1 y2, LeO (platenref10_Read.j4 k y0 y1 y2) (platenref10_Read.j4 (k + 1) y0 y1 y2))
  | 0 => ⟨fun _ _ _ r h => by simp [platenref10_Read.j0] at h, fun _ _ _ r h => by simp [platenref10_Read.j1] at h, fun _ _ _ _ r h => by simp [platenref10_Read.l0] at h, fun _ _ _ _ _ r h => by simp [platenref10_Read.j3] at h, fun _ _ _ r h => by simp [platenref10_Read.j4] at h⟩
  | k + 1 => by
    obtain ⟨ih0, ih1, ih2, ih3, ih4⟩ := platenref10_Read.mono_l k
    refine ⟨?_, ?_, ?_, ?_, ?_⟩
    · intro y0 y1 y2
      unfold platenref10_Read.j0
      repeat' first
      | (with_reducible exact ih0 _ _ _)
      | (with_reducible exact ih1 _ _ _)
      | (with_reducible exact ih2 _ _ _ _)
      | (with_reducible exact ih3 _ _ _ _ _)
      | (with_reducible exact ih4 _ _ _)
      | (with_reducible exact platenref01_Decode.mono _ _)
      | (with_reducible exact platenref10_has.mono _ _ _)
      | (with_reducible exact LeO.refl _)
      | (with_reducible exact LeO.none _)
      | (with_reducible refine LeO.ite ?_ ?_)
      | (with_reducible refine LeO.bind ?_ (fun _ => ?_))
      | exact ih0 _ _ _
      | exact ih1 _ _ _
      | exact ih2 _ _ _ _
      | exact ih3 _ _ _ _ _
      | exact ih4 _ _ _
      | exact platenref01_Decode.mono _ _
      | exact platenref10_has.mono _ _ _
      | exact LeO.none _
      | refine LeO.ite ?_ ?_
      | refine LeO.bind ?_ (fun _ => ?_)
    · intro y0 y1 y2
      unfold platenref10_Read.j1
      repeat' first
      | (with_reducible exact ih0 _ _ _)
      | (with_reducible exact ih1 _ _ _)
      | (with_reducible exact ih2 _ _ _ _)
      | (with_reducible exact ih3 _ _ _ _ _)
      | (with_reducible exact ih4 _ _ _)
      | (with_reducible exact platenref01_Decode.mono _ _)
      | (with_reducible exact platenref10_has.mono _ _ _)
      | (with_reducible exact LeO.refl _)
      | (with_reducible exact LeO.none _)
      | (with_reducible refine LeO.ite ?_ ?_)
      | (with_reducible refine LeO.bind ?_ (fun _ => ?_))
      | exact ih0 _ _ _
      | exact ih1 _ _ _
      | exact ih2 _ _ _ _
      | exact ih3 _ _ _ _ _
      | exact ih4 _ _ _
      | exact platenref01_Decode.mono _ _
      | exact platenref10_has.mono _ _ _
      | exact LeO.none _
      | refine LeO.ite ?_ ?_
      | refine LeO.bind ?_ (fun _ => ?_)
    · intro y0 y1 y2 y3
      unfold platenref10_Read.l0
      repeat' first
      | (with_reducible exact ih0 _ _ _)
      | (with_reducible exact ih1 _ _ _)
      | (with_reducible exact ih2 _ _ _ _)
      | (with_reducible exact ih3 _ _ _ _ _)
      | (with_reducible exact ih4 _ _ _)
      | (with_reducible exact platenref01_Decode.mono _ _)
      | (with_reducible exact platenref10_has.mono _ _ _)
      | (with_reducible exact LeO.refl _)
      | (with_reducible exact LeO.none _)
      | (with_reducible refine LeO.ite ?_ ?_)
      | (with_reducible refine LeO.bind ?_ (fun _ => ?_))
      | exact ih0 _ _ _
      | exact ih1 _ _ _
      | exact ih2 _ _ _ _
      | exact ih3 _ _ _ _ _
      | exact ih4 _ _ _
      | exact platenref01_Decode.mono _ _
      | exact platenref10_has.mono _ _ _
      | exact LeO.none _
      | refine LeO.ite ?_ ?_
      | refine LeO.bind ?_ (fun _ => ?_)
    · intro y0 y1 y2 y3 y4
      unfold platenref10_Read.j3
      repeat' first
      | (with_reducible exact ih0 _ _ _)
      | (with_reducible exact ih1 _ _ _)
      | (with_reducible exact ih2 _ _ _ _)
      | (with_reducible exact ih3 _ _ _ _ _)
      | (with_reducible exact ih4 _ _ _)
      | (with_reducible exact platenref01_Decode.mono _ _)
      | (with_reducible exact platenref10_has.mono _ _ _)
      | (with_reducible exact LeO.refl _)
      | (with_reducible exact LeO.none _)
      | (with_reducible refine LeO.ite ?_ ?_)
      | (with_reducible refine LeO.bind ?_ (fun _ => ?_))
      | exact ih0 _ _ _
      | exact ih1 _ _ _
      | exact ih2 _ _ _ _
      | exact ih3 _ _ _ _ _
      | exact ih4 _ _ _
      | exact platenref01_Decode.mono _ _
      | exact platenref10_has.mono _ _ _
      | exact LeO.none _
      | refine LeO.ite ?_ ?_
      | refine LeO.bind ?_ (fun _ => ?_)
    · intro y0 y1 y2
      unfold platenref10_Read.j4
      repeat' first
      | (with_reducible exact ih0 _ _ _)
      | (with_reducible exact ih1 _ _ _)
      | (with_reducible exact ih2 _ _ _ _)
      | (with_reducible exact ih3 _ _ _ _ _)
      | (with_reducible exact ih4 _ _ _)
      | (with_reducible exact platenref01_Decode.mono _ _)
      | (with_reducible exact platenref10_has.mono _ _ _)
      | (with_reducible exact LeO.refl _)
      | (with_reducible exact LeO.none _)
      | (with_reducible refine LeO.ite ?_ ?_)
      | (with_reducible refine LeO.bind ?_ (fun _ => ?_))
      | exact ih0 _ _ _
      | exact ih1 _ _ _
      | exact ih2 _ _ _ _
      | exact ih3 _ _ _ _ _
      | exact ih4 _ _ _
      | exact platenref01_Decode.mono _ _
      | exact platenref10_has.mono _ _ _
      | exact LeO.none _
      | refine LeO.ite ?_ ?_
      | refine LeO.bind ?_ (fun _ => ?_)
theorem platenref10_Read.mono : ∀ a0 k, LeO (platenref10_Read.f k a0) (platenref10_Read.f (k + 1) a0) := by
  intro a0 k
  obtain ⟨ih0, ih1, ih2, ih3, ih4⟩ := platenref10_Read.mono_l k
  unfold platenref10_Read.f
  repeat' first
      | (with_reducible exact ih0 _ _ _)
      | (with_reducible exact ih1 _ _ _)
      | (with_reducible exact ih2 _ _ _ _)
      | (with_reducible exact ih3 _ _ _ _ _)
      | (with_reducible exact ih4 _ _ _)
      | (with_reducible exact platenref01_Decode.mono _ _)
      | (with_reducible exact platenref10_has.mono _ _ _)
      | (with_reducible exact LeO.refl _)
      | (with_reducible exact LeO.none _)
      | (with_reducible refine LeO.ite ?_ ?_)
      | (with_reducible refine LeO.bind ?_ (fun _ => ?_))
      | exact ih0 _ _ _
      | exact ih1 _ _ _
      | exact ih2 _ _ _ _
      | exact ih3 _ _ _ _ _
      | exact ih4 _ _ _
      | exact platenref01_Decode.mono _ _
      | exact platenref10_has.mono _ _ _
      | exact LeO.none _
      | refine LeO.ite ?_ ?_
      | refine LeO.bind ?_ (fun _ => ?_)
set_option maxHeartbeats 8000000 in
set_option maxRecDepth 100000 in
theorem platenref10_Read.calls (k : Nat) (a0 : ByteArray) (r1 : Int) (r2 : Int) (r3 : ByteArray) (w : World) (h : platenref10_Read.f k a0 = some (r1, r2, r3)) :
    Calls Tryd.prog 15 #[.string a0] w fun e w' => e = .returned (.tuple #[.int .i64 r1, .int .i32 r2, .string r3]) ∧ Below w.heap.size w w' := by
  have HB := Aside0.mk (Below.refl w.heap.size w)
  have H : (if (a0.size : Int) < 4 then (platenref10_Read.j0 k a0 (a0.size : Int) true) else ((platenref10_begins.f a0 (⟨#[37, 33]⟩ : ByteArray)).bind fun t138 => (if t138 = true then (if 0 ≤ (wrap64 ((a0.size : Int) - 1)) then (if (wrap64 ((a0.size : Int) - 1)) < (a0.size : Int) then (platenref10_Read.j0 k a0 (a0.size : Int) ((bt a0 (wrap64 ((a0.size : Int) - 1))) != 41)) else (none)) else (none)) else (platenref10_Read.j0 k a0 (a0.size : Int) true)))) = some (r1, r2, r3) := h
  clear h
  have HC2 := Aside0.mk H
  clear H
  go_enter Tryd.func15, Tryd.ntmps15
  go_upto_region 2 with (fail)
  go_cut [28] (fun v28 wc => ∃ (kq : Nat) (x28_1 : Bool), v28 = .bool x28_1 ∧ Aside0 (platenref10_Read.j0 kq a0 (a0.size : Int) x28_1 = some (r1, r2, r3)) ∧ Aside0 (kq ≤ k) ∧ Aside0 (Below w.heap.size w wc))
  case first =>
    have H := HC2.out
    clear HC2
    by_cases c3 : (a0.size : Int) < 4
    · rw [if_pos c3] at H
      have c3b0 : decide ((a0.size : Int) < 4) = true := decide_eq_true c3
      have c3b1 : decide (a0.size < 4) = true := decide_eq_true (by omega)
      clear c3
      (first | rw [c3b0] | (simp only [i64_w, i32_w]; rw [c3b0]) | skip)
      have H' := Aside0.mk H
      clear H
      go_wp2
      go_meet
      case rel => exact ⟨_, (true), (by first | rfl | (simp; done) | (simp [*]; done)), H', ⟨by first | omega | exact Nat.le_refl _⟩, ⟨by repeat (first | (with_reducible first | exact HB.out | apply below_alloc | apply pw_below_drewN | apply below_drew1) | exact HB.out)⟩⟩
    · rw [if_neg c3] at H
      have c3b0 : decide ((a0.size : Int) < 4) = false := decide_eq_false c3
      have c3b1 : decide (a0.size < 4) = false := decide_eq_false (by omega)
      clear c3
      (first | rw [c3b0] | (simp only [i64_w, i32_w]; rw [c3b0]) | skip)
      replace H := Option.bind_eq_some_iff.mp H
      obtain ⟨t138, A40, H⟩ := H
      replace H : (if t138 = true then (if 0 ≤ (wrap64 ((a0.size : Int) - 1)) then (if (wrap64 ((a0.size : Int) - 1)) < (a0.size : Int) then (platenref10_Read.j0 k a0 (a0.size : Int) ((bt a0 (wrap64 ((a0.size : Int) - 1))) != 41)) else (none)) else (none)) else (platenref10_Read.j0 k a0 (a0.size : Int) true)) = some (r1, r2, r3) := H
      have A4 := Aside0.mk A40
      clear A40
      by_cases c5 : t138 = true
      · subst c5
        have H1 : (if 0 ≤ (wrap64 ((a0.size : Int) - 1)) then (if (wrap64 ((a0.size : Int) - 1)) < (a0.size : Int) then (platenref10_Read.j0 k a0 (a0.size : Int) ((bt a0 (wrap64 ((a0.size : Int) - 1))) != 41)) else (none)) else (none)) = some (r1, r2, r3) := by rw [if_pos rfl] at H; exact H
        clear H
        have H := H1
        clear H1
        obtain ⟨ji6, hji6⟩ : ∃ j_ : Int, (wrap64 ((a0.size : Int) - 1)) = j_ := ⟨_, rfl⟩
        replace H : (if 0 ≤ (ji6) then (if (ji6) < (a0.size : Int) then (platenref10_Read.j0 k a0 (a0.size : Int) ((bt a0 (ji6)) != 41)) else (none)) else (none)) = some (r1, r2, r3) := by first | (rw [hji6] at H; exact H) | (simp only [hji6] at H ⊢; exact H)
        (try rw [hji6] at A4)
        have hji6w : (IntKind.i64.wrap ((a0.size : Int) - 1)) = ji6 := (i64_w _).trans hji6
        by_cases c7 : 0 ≤ (ji6)
        · rw [if_pos c7] at H
          have c7b0 : decide (0 ≤ (ji6)) = true := decide_eq_true c7
          clear c7
          by_cases c8 : (ji6) < (a0.size : Int)
          · rw [if_pos c8] at H
            have c8b0 : decide ((ji6) < (a0.size : Int)) = true := decide_eq_true c8
            clear c8
            have H' := Aside0.mk H
            clear H
            go_wp2_with (first | (go_at_call 38; (with_reducible refine (platenref10_begins.calls a0 (⟨#[37, 33]⟩ : ByteArray) true _ A4.out).mono ?_); rintro e w' ⟨rfl, ⟨nd, rfl⟩⟩; have p9 : 0 ≤ ((ji6) : Int) := of_decide_eq_true (by first | (with_reducible assumption) | assumption); have q9 : (ji6) < (a0.size : Int) := of_decide_eq_true (by first | (with_reducible assumption) | assumption); have hx9 := bt_at a0 (ji6); replace p9 := eq_true p9; replace q9 := eq_true q9))
            go_meet
            case rel => exact ⟨_, (((bt a0 (ji6)) != 41)), (by first | rfl | (simp; done) | (simp only [← hji6] <;> (first | rfl | simp)) | (simp [*]; done)), H', ⟨by first | omega | exact Nat.le_refl _⟩, ⟨by repeat (first | (with_reducible first | exact HB.out | apply below_alloc | apply pw_below_drewN | apply below_drew1) | exact HB.out)⟩⟩
          · rw [if_neg c8] at H
            exact absurd H (by simp)
        · rw [if_neg c7] at H
          exact absurd H (by simp)
      · replace c5 := Bool.eq_false_iff.mpr c5
        subst c5
        have H1 : (platenref10_Read.j0 k a0 (a0.size : Int) true) = some (r1, r2, r3) := by rw [if_neg (show ¬ (false = true) by decide)] at H; exact H
        clear H
        have H := H1
        clear H1
        have H' := Aside0.mk H
        clear H
        go_wp2_with (first | (go_at_call 38; (with_reducible refine (platenref10_begins.calls a0 (⟨#[37, 33]⟩ : ByteArray) false _ A4.out).mono ?_); rintro e w' ⟨rfl, ⟨nd, rfl⟩⟩))
        go_meet
        case rel => exact ⟨_, (true), (by first | rfl | (simp; done) | (simp [*]; done)), H', ⟨by first | omega | exact Nat.le_refl _⟩, ⟨by repeat (first | (with_reducible first | exact HB.out | apply below_alloc | apply pw_below_drewN | apply below_drew1) | exact HB.out)⟩⟩
  case rest =>
    clear HC2
    try clear c1
    try clear p2
    try clear c3
    try clear c3b0
    try clear c3b1
    try clear c5
    try clear p6
    try clear c7
    try clear c7b0
    try clear c8
    try clear c8b0
    try clear p9
    try clear q9
    try clear hx9
    try clear p9
    try clear q9
    obtain ⟨kq, x28_1, rfl, HA, HJ1, HB⟩ := hcut
    cases kq with
    | zero => exact absurd HA.out (by simp [platenref10_Read.j0])
    | succ kj1 =>
      have H := HA.out
      clear HA
      simp only [platenref10_Read.j0] at H
      by_cases c10 : x28_1 = true
      · subst c10
        have H1 : (some (0, 0, (⟨#[]⟩ : ByteArray))) = some (r1, r2, r3) := by rw [if_pos rfl] at H; exact H
        clear H
        have H := H1
        clear H1
        simp only [Option.some.injEq, Prod.mk.injEq] at H
        obtain ⟨rfl, rfl, rfl⟩ := H
        go_wp2
        go_ret3
        exact ⟨by first | rfl | (simp [errW_none, errW_some] <;> rfl) | (simp [*, errW_none, errW_some] <;> rfl), by repeat (first | (with_reducible first | exact HB.out | apply below_alloc | apply pw_below_drewN | apply below_drew1) | exact HB.out)⟩
      · replace c10 := Bool.eq_false_iff.mpr c10
        subst c10
        have H1 : (if 2 < (a0.size : Int) then (if (bt a0 2) = 40 then (if 3 < (a0.size : Int) then (platenref10_Read.j1 kj1 a0 (a0.size : Int) ((bt a0 3) != 40)) else (none)) else (platenref10_Read.j1 kj1 a0 (a0.size : Int) false)) else (none)) = some (r1, r2, r3) := by rw [if_neg (show ¬ (false = true) by decide)] at H; exact H
        clear H
        have H := H1
        clear H1
        have HC11 := Aside0.mk H
        clear H
        go_upto_region 4 with (fail)
        go_cut [36] (fun v36 wc => ∃ (kq : Nat) (x36_10 : Bool), v36 = .bool x36_10 ∧ Aside0 (platenref10_Read.j1 kq a0 (a0.size : Int) x36_10 = some (r1, r2, r3)) ∧ Aside0 (kq ≤ kj1) ∧ Aside0 (Below w.heap.size w wc))
        case first =>
          have H := HC11.out
          clear HC11
          by_cases c12 : 2 < (a0.size : Int)
          · rw [if_pos c12] at H
            have c12b0 : decide (2 < (a0.size : Int)) = true := decide_eq_true c12
            have c12b1 : decide (2 < a0.size) = true := decide_eq_true (by omega)
            clear c12
            (first | rw [c12b0] | (simp only [i64_w, i32_w]; rw [c12b0]) | skip)
            by_cases c14 : (bt a0 2) = 40
            · rw [if_pos c14] at H
              have c14b0 : ((bt a0 2) == 40) = true := beq_iff_eq.mpr c14
              have c14b1 : ((bt a0 2) != 40) = false := bne_eq_false_iff_eq.mpr c14
              clear c14
              by_cases c15 : 3 < (a0.size : Int)
              · rw [if_pos c15] at H
                have c15b0 : decide (3 < (a0.size : Int)) = true := decide_eq_true c15
                have c15b1 : decide (3 < a0.size) = true := decide_eq_true (by omega)
                clear c15
                have H' := Aside0.mk H
                clear H
                have p13 : 0 ≤ (2 : Int) := (by omega)
                have q13 : 2 < a0.size := (by have : (2 : Int) < (a0.size : Int) := of_decide_eq_true (by first | (with_reducible assumption) | assumption); omega)
                have hx13 : ∀ h : 2 < a0.size, ((a0[2]'h).toNat : Int) = bt a0 2 := bt_at a0 2
                clear p13
                have qi13 : (2 < (a0.size : Int)) = True := eq_true (of_decide_eq_true (by first | (with_reducible assumption) | assumption))
                replace q13 := eq_true q13
                have p16 : 0 ≤ (3 : Int) := (by omega)
                have q16 : 3 < a0.size := (by have : (3 : Int) < (a0.size : Int) := of_decide_eq_true (by first | (with_reducible assumption) | assumption); omega)
                have hx16 : ∀ h : 3 < a0.size, ((a0[3]'h).toNat : Int) = bt a0 3 := bt_at a0 3
                clear p16
                have qi16 : (3 < (a0.size : Int)) = True := eq_true (of_decide_eq_true (by first | (with_reducible assumption) | assumption))
                replace q16 := eq_true q16
                go_wp2
                go_meet
                case rel => exact ⟨_, (((bt a0 3) != 40)), (by first | rfl | (simp; done) | (simp [*]; done)), H', ⟨by have := HJ1.out; first | omega | exact Nat.le_refl _⟩, ⟨by repeat (first | (with_reducible first | exact HB.out | apply below_alloc | apply pw_below_drewN | apply below_drew1) | exact HB.out)⟩⟩
              · rw [if_neg c15] at H
                exact absurd H (by simp)
            · rw [if_neg c14] at H
              have c14b0 : ((bt a0 2) == 40) = false := beq_eq_false_iff_ne.mpr c14
              have c14b1 : ((bt a0 2) != 40) = true := bne_iff_ne.mpr c14
              have H' := Aside0.mk H
              clear H
              have p13 : 0 ≤ (2 : Int) := (by omega)
              have q13 : 2 < a0.size := (by have : (2 : Int) < (a0.size : Int) := of_decide_eq_true (by first | (with_reducible assumption) | assumption); omega)
              have hx13 : ∀ h : 2 < a0.size, ((a0[2]'h).toNat : Int) = bt a0 2 := bt_at a0 2
              clear p13
              have qi13 : (2 < (a0.size : Int)) = True := eq_true (of_decide_eq_true (by first | (with_reducible assumption) | assumption))
              replace q13 := eq_true q13
              go_wp2
              go_meet
              case rel => exact ⟨_, (false), (by first | rfl | (simp; done) | (simp [*]; done)), H', ⟨by have := HJ1.out; first | omega | exact Nat.le_refl _⟩, ⟨by repeat (first | (with_reducible first | exact HB.out | apply below_alloc | apply pw_below_drewN | apply below_drew1) | exact HB.out)⟩⟩
          · rw [if_neg c12] at H
            exact absurd H (by simp)
        case rest =>
          clear HC11
          try clear c1
          try clear p1
          try clear q1
          try clear hx1
          try clear qi1
          try clear p2
          try clear c3
          try clear c3b0
          try clear c3b1
          try clear c5
          try clear p6
          try clear c7
          try clear c7b0
          try clear c8
          try clear c8b0
          try clear p9
          try clear q9
          try clear hx9
          try clear c10
          try clear c12
          try clear c12b0
          try clear c12b1
          try clear p13
          try clear q13
          try clear hx13
          try clear qi13
          try clear c14
          try clear c14b0
          try clear c14b1
          try clear c15
          try clear c15b0
          try clear c15b1
          try clear p16
          try clear q16
          try clear hx16
          try clear qi16
          try clear p13
          try clear p16
          try clear p2
          try clear p6
          try clear p9
          try clear q13
          try clear q16
          try clear q9
          obtain ⟨kq, x36_10, rfl, HA, HJ10, HB⟩ := hcut
          cases kq with
          | zero => exact absurd HA.out (by simp [platenref10_Read.j1])
          | succ kj10 =>
            have H := HA.out
            clear HA
            simp only [platenref10_Read.j1] at H
            by_cases c17 : x36_10 = true
            · subst c17
              have H1 : (if 3 ≤ (wrap64 ((a0.size : Int) - 1)) then (if (wrap64 ((a0.size : Int) - 1)) ≤ (a0.size : Int) then ((some (([(⟨#[78, 79, 86, 69, 82, 66]⟩ : ByteArray), (⟨#[66, 65, 68, 87, 73, 68, 84, 72]⟩ : ByteArray), (⟨#[66, 65, 68, 80, 82, 69, 67]⟩ : ByteArray), (⟨#[68, 69, 80, 84, 72]⟩ : ByteArray)] : List ByteArray) : List ByteArray)).bind fun y139 => (platenref10_Read.l0 kj10 (a0.extract 3 ((wrap64 ((a0.size : Int) - 1)) : Int).toNat) y139 (y139.length : Int) 0)) else (none)) else (none)) = some (r1, r2, r3) := by rw [if_pos rfl] at H; exact H
              clear H
              have H := H1
              clear H1
              by_cases c18 : 3 ≤ (wrap64 ((a0.size : Int) - 1))
              · rw [if_pos c18] at H
                have c18b0 := eq_true c18
                have c18b1 : decide (3 ≤ (wrap64 ((a0.size : Int) - 1))) = true := decide_eq_true c18
                clear c18
                by_cases c19 : (wrap64 ((a0.size : Int) - 1)) ≤ (a0.size : Int)
                · rw [if_pos c19] at H
                  have c19b0 := eq_true c19
                  have c19b1 : decide ((wrap64 ((a0.size : Int) - 1)) ≤ (a0.size : Int)) = true := decide_eq_true c19
                  clear c19
                  obtain ⟨y139, hy139⟩ : ∃ y_ : List ByteArray, y_ = (([(⟨#[78, 79, 86, 69, 82, 66]⟩ : ByteArray), (⟨#[66, 65, 68, 87, 73, 68, 84, 72]⟩ : ByteArray), (⟨#[66, 65, 68, 80, 82, 69, 67]⟩ : ByteArray), (⟨#[68, 69, 80, 84, 72]⟩ : ByteArray)] : List ByteArray)) := ⟨_, rfl⟩
                  replace H : (platenref10_Read.l0 kj10 (a0.extract 3 ((wrap64 ((a0.size : Int) - 1)) : Int).toNat) y139 (y139.length : Int) 0) = some (r1, r2, r3) := by first | (rw [hy139]; with_reducible exact H) | (have H2_ := (Option.bind_some _ _).symm.trans H; rw [hy139]; with_reducible exact H2_) | (have H2_ := (Option.bind_some _ _).symm.trans H; with_reducible exact H2_) | with_reducible exact H | (rw [hy139]; exact H) | exact H
                  have Ny139 := Aside0.mk hy139
                  clear hy139
                  have H' := Aside0.mk H
                  clear H
                  go_wp2_with (first | ((with_reducible refine gate_dst (N := 41) rfl ?_); refine Kd.R_lit Kd.string _ 9 ?hg (N := 41) ?hd (xs := ([(⟨#[78, 79, 86, 69, 82, 66]⟩ : ByteArray), (⟨#[66, 65, 68, 87, 73, 68, 84, 72]⟩ : ByteArray), (⟨#[66, 65, 68, 80, 82, 69, 67]⟩ : ByteArray), (⟨#[68, 69, 80, 84, 72]⟩ : ByteArray)] : List ByteArray)) (inner := [.string (⟨#[78, 79, 86, 69, 82, 66]⟩ : ByteArray), .string (⟨#[66, 65, 68, 87, 73, 68, 84, 72]⟩ : ByteArray), .string (⟨#[66, 65, 68, 80, 82, 69, 67]⟩ : ByteArray), .string (⟨#[68, 69, 80, 84, 72]⟩ : ByteArray)]) (ok := fun _ => True) (okp := fun _ => True) ?hr ?hp (fun _ hk => hk) trivial (Below.refl _ _) (Nat.le_refl _) (by simp) ?_; (case hd => rfl); (case hg => rfl); (case hr => first | (go_simp; done) | (go_simp; rfl)); (case hp => exact (Reps.one (show Kd.M Kd.string _ _ _ (⟨#[78, 79, 86, 69, 82, 66]⟩ : ByteArray) [.string (⟨#[78, 79, 86, 69, 82, 66]⟩ : ByteArray)] from rfl) (Reps.one (show Kd.M Kd.string _ _ _ (⟨#[66, 65, 68, 87, 73, 68, 84, 72]⟩ : ByteArray) [.string (⟨#[66, 65, 68, 87, 73, 68, 84, 72]⟩ : ByteArray)] from rfl) (Reps.one (show Kd.M Kd.string _ _ _ (⟨#[66, 65, 68, 80, 82, 69, 67]⟩ : ByteArray) [.string (⟨#[66, 65, 68, 80, 82, 69, 67]⟩ : ByteArray)] from rfl) (Reps.one (show Kd.M Kd.string _ _ _ (⟨#[68, 69, 80, 84, 72]⟩ : ByteArray) [.string (⟨#[68, 69, 80, 84, 72]⟩ : ByteArray)] from rfl) (Reps.none _ _)))))); intro v140 w20 ho21 hb hg_ hnew_; clear hg_ hnew_; (first | rw [← Ny139.out] at ho21 | (simp only [Int.reduceToNat] at ho21; rw [← Ny139.out] at ho21)); have n0_ := Aside0.mk (Kd.R_lower ho21 (below_size (by repeat (first | (with_reducible first | exact HB.out | apply below_alloc | apply pw_below_drewN | apply below_drew1) | exact HB.out)))); have n1_ := Aside0.mk (below_step (by repeat (first | (with_reducible first | exact HB.out | apply below_alloc | apply pw_below_drewN | apply below_drew1) | exact HB.out)) hb); clear HB; have HO141 := n0_; have HB := n1_; clear n0_ n1_; clear hb ho21; obtain ⟨Ao22, co22, eo22⟩ := Kd.R_slice HO141.out; subst eo22))
                  go_loopg [43] kj10 (fun kq v43 w' => ∃ (x43_3 : Int), v43 = .int .i64 x43_3 ∧ Aside0 (platenref10_Read.l0 kq (a0.extract 3 ((wrap64 ((a0.size : Int) - 1)) : Int).toNat) y139 (y139.length : Int) x43_3 = some (r1, r2, r3)) ∧ Aside0 (kq ≤ kj10) ∧ Aside0 (Kd.R Kd.string 9 w' w.heap.size (fun _ => True) (.slice Ao22 y139.length co22) y139) ∧ Aside0 (Below w.heap.size w w'))
                  case atStart => exact ⟨(0), (by first | rfl | (simp; done) | (simp [*]; done)), H', ⟨Nat.le_refl _⟩, ⟨by (with_reducible repeat (first | apply Kd.R_alloc | apply Kd.R_drewN | apply Kd.R_drew)); exact HO141.out⟩, ⟨by repeat (first | (with_reducible first | exact HB.out | apply below_alloc | apply pw_below_drewN | apply below_drew1) | exact HB.out)⟩⟩
                  case round =>
                    clear H'
                    try clear c1
                    try clear p1
                    try clear q1
                    try clear hx1
                    try clear qi1
                    try clear p2
                    try clear c3
                    try clear c3b0
                    try clear c3b1
                    try clear c5
                    try clear p6
                    try clear c7
                    try clear c7b0
                    try clear c8
                    try clear c8b0
                    try clear p9
                    try clear q9
                    try clear hx9
                    try clear c10
                    try clear c12
                    try clear c12b0
                    try clear c12b1
                    try clear p13
                    try clear q13
                    try clear hx13
                    try clear qi13
                    try clear c14
                    try clear c14b0
                    try clear c14b1
                    try clear c15
                    try clear c15b0
                    try clear c15b1
                    try clear p16
                    try clear q16
                    try clear hx16
                    try clear qi16
                    try clear c17
                    try clear c18
                    try clear c18b0
                    try clear c18b1
                    try clear c19
                    try clear c19b0
                    try clear c19b1
                    try clear p1
                    try clear p13
                    try clear p16
                    try clear p2
                    try clear p6
                    try clear p9
                    try clear q1
                    try clear q13
                    try clear q16
                    try clear q9
                    obtain ⟨x43_3, rfl, HA, HK3, HO_41, HB⟩ := hrel
                    cases gk with
                    | zero => exact absurd HA.out (by simp [platenref10_Read.l0])
                    | succ k3 =>
                      have H := HA.out
                      clear HA
                      simp only [platenref10_Read.l0] at H
                      by_cases c23 : x43_3 < (y139.length : Int)
                      · rw [if_pos c23] at H
                        have c23b0 : decide (x43_3 < (y139.length : Int)) = true := decide_eq_true c23
                        clear c23
                        by_cases c24 : 0 ≤ x43_3
                        · rw [if_pos c24] at H
                          have c24b0 : decide (0 ≤ x43_3) = true := decide_eq_true c24
                          clear c24
                          by_cases c25 : x43_3 < (y139.length : Int)
                          · rw [if_pos c25] at H
                            have c25b0 : decide (x43_3 < (y139.length : Int)) = true := decide_eq_true c25
                            clear c25
                            by_cases c26 : (a0.extract 3 ((wrap64 ((a0.size : Int) - 1)) : Int).toNat).toList = (rdOf ByteArray.empty y139 x43_3).toList
                            · rw [if_pos c26] at H
                              have c26b0 : ((a0.extract 3 ((wrap64 ((a0.size : Int) - 1)) : Int).toNat).toList == (rdOf ByteArray.empty y139 x43_3).toList) = true := beq_iff_eq.mpr c26
                              have c26b1 : ((a0.extract 3 ((wrap64 ((a0.size : Int) - 1)) : Int).toNat).toList != (rdOf ByteArray.empty y139 x43_3).toList) = false := bne_eq_false_iff_eq.mpr c26
                              clear c26
                              simp only [Option.some.injEq, Prod.mk.injEq] at H
                              obtain ⟨rfl, rfl, rfl⟩ := H
                              have p142 : 0 ≤ (x43_3 : Int) := of_decide_eq_true (by first | (with_reducible assumption) | assumption)
                              have q142 : x43_3 < (y139.length : Int) := of_decide_eq_true (by first | (with_reducible assumption) | assumption)
                              obtain ⟨ad142, e142, hx142_0⟩ := Kd.at_string (Kd.R_reads' HO_41.out).2.2 x43_3 p142 q142
                              cases e142
                              replace p142 := eq_true p142
                              replace q142 := eq_true q142
                              go_wp2
                              go_ret3
                              exact ⟨by first | rfl | (simp [errW_none, errW_some] <;> rfl) | (simp [*, errW_none, errW_some] <;> rfl), by repeat (first | (with_reducible first | exact HB.out | apply below_alloc | apply pw_below_drewN | apply below_drew1) | exact HB.out)⟩
                            · rw [if_neg c26] at H
                              have c26b0 : ((a0.extract 3 ((wrap64 ((a0.size : Int) - 1)) : Int).toNat).toList == (rdOf ByteArray.empty y139 x43_3).toList) = false := beq_eq_false_iff_ne.mpr c26
                              have c26b1 : ((a0.extract 3 ((wrap64 ((a0.size : Int) - 1)) : Int).toNat).toList != (rdOf ByteArray.empty y139 x43_3).toList) = true := bne_iff_ne.mpr c26
                              have H' := Aside0.mk H
                              clear H
                              have p142 : 0 ≤ (x43_3 : Int) := of_decide_eq_true (by first | (with_reducible assumption) | assumption)
                              have q142 : x43_3 < (y139.length : Int) := of_decide_eq_true (by first | (with_reducible assumption) | assumption)
                              obtain ⟨ad142, e142, hx142_0⟩ := Kd.at_string (Kd.R_reads' HO_41.out).2.2 x43_3 p142 q142
                              cases e142
                              replace p142 := eq_true p142
                              replace q142 := eq_true q142
                              go_wp2
                              go_roundg k3
                              case measure => have := HJ1.out; have := HJ10.out; have := HK3.out; omega
                              case rel => exact ⟨(wrap64 (x43_3 + 1)), (by first | rfl | (simp; done) | (simp [*]; done)), H', ⟨by have := HJ1.out; have := HJ10.out; have := HK3.out; omega⟩, ⟨by (with_reducible repeat (first | apply Kd.R_alloc | apply Kd.R_drewN | apply Kd.R_drew)); exact HO_41.out⟩, ⟨by repeat (first | (with_reducible first | exact HB.out | apply below_alloc | apply pw_below_drewN | apply below_drew1) | exact HB.out)⟩⟩
                          · rw [if_neg c25] at H
                            exact absurd H (by simp)
                        · rw [if_neg c24] at H
                          exact absurd H (by simp)
                      · rw [if_neg c23] at H
                        have c23b0 : decide (x43_3 < (y139.length : Int)) = false := decide_eq_false c23
                        clear c23
                        replace H := Option.bind_eq_some_iff.mp H
                        obtain ⟨t143, A270, H⟩ := H
                        replace H : (if t143 = true then (some (10, 0, (a0.extract 3 ((wrap64 ((a0.size : Int) - 1)) : Int).toNat))) else (some (0, 0, (⟨#[]⟩ : ByteArray)))) = some (r1, r2, r3) := H
                        have A27 := Aside0.mk A270
                        clear A270
                        by_cases c28 : t143 = true
                        · subst c28
                          have H1 : (some (10, 0, (a0.extract 3 ((wrap64 ((a0.size : Int) - 1)) : Int).toNat))) = some (r1, r2, r3) := by rw [if_pos rfl] at H; exact H
                          clear H
                          have H := H1
                          clear H1
                          simp only [Option.some.injEq, Prod.mk.injEq] at H
                          obtain ⟨rfl, rfl, rfl⟩ := H
                          go_wp2_with (first | ((with_reducible refine gate_callee (f := 38) rfl ?_); refine goesL_ (some 56) rfl rfl Tryd.func38 (by kernel_rfl) rfl #[.string (a0.extract 3 ((wrap64 ((a0.size : Int) - 1)) : Int).toNat), .string (⟨#[69, 88, 84, 82, 65, 32]⟩ : ByteArray)] rfl (by (try simp only [List.map_toArray, List.map_cons, List.map_nil]); first | done | rfl | (simp only [List.length_drop, List.length_take]; rfl)) ?_; (with_reducible refine (platenref10_begins.calls (a0.extract 3 ((wrap64 ((a0.size : Int) - 1)) : Int).toNat) (⟨#[69, 88, 84, 82, 65, 32]⟩ : ByteArray) true _ A27.out).mono ?_); rintro e w' ⟨rfl, ⟨nd, rfl⟩⟩; refine ⟨_, rfl, ?_⟩))
                          go_ret3
                          exact ⟨by first | rfl | (simp [errW_none, errW_some] <;> rfl) | (simp [*, errW_none, errW_some] <;> rfl), by repeat (first | (with_reducible first | exact HB.out | apply below_alloc | apply pw_below_drewN | apply below_drew1) | exact HB.out)⟩
                        · replace c28 := Bool.eq_false_iff.mpr c28
                          subst c28
                          have H1 : (some (0, 0, (⟨#[]⟩ : ByteArray))) = some (r1, r2, r3) := by rw [if_neg (show ¬ (false = true) by decide)] at H; exact H
                          clear H
                          have H := H1
                          clear H1
                          simp only [Option.some.injEq, Prod.mk.injEq] at H
                          obtain ⟨rfl, rfl, rfl⟩ := H
                          go_wp2_with (first | ((with_reducible refine gate_callee (f := 38) rfl ?_); refine goesL_ (some 56) rfl rfl Tryd.func38 (by kernel_rfl) rfl #[.string (a0.extract 3 ((wrap64 ((a0.size : Int) - 1)) : Int).toNat), .string (⟨#[69, 88, 84, 82, 65, 32]⟩ : ByteArray)] rfl (by (try simp only [List.map_toArray, List.map_cons, List.map_nil]); first | done | rfl | (simp only [List.length_drop, List.length_take]; rfl)) ?_; (with_reducible refine (platenref10_begins.calls (a0.extract 3 ((wrap64 ((a0.size : Int) - 1)) : Int).toNat) (⟨#[69, 88, 84, 82, 65, 32]⟩ : ByteArray) false _ A27.out).mono ?_); rintro e w' ⟨rfl, ⟨nd, rfl⟩⟩; refine ⟨_, rfl, ?_⟩))
                          go_ret3
                          exact ⟨by first | rfl | (simp [errW_none, errW_some] <;> rfl) | (simp [*, errW_none, errW_some] <;> rfl), by repeat (first | (with_reducible first | exact HB.out | apply below_alloc | apply pw_below_drewN | apply below_drew1) | exact HB.out)⟩
                · rw [if_neg c19] at H
                  exact absurd H (by simp)
              · rw [if_neg c18] at H
                exact absurd H (by simp)
            · replace c17 := Bool.eq_false_iff.mpr c17
              subst c17
              have H1 : (if 2 ≤ (a0.size : Int) then ((platenref01_Decode.f kj10 (a0.extract 2 a0.size)).bind fun bt144 => (if bt144.2.2 = true then (platenref10_Read.j3 kj10 a0 (a0.size : Int) bt144.1 bt144.2.1 true) else (if (wrap64 ((wrap64 (2 + bt144.2.1)) + 1)) > (wrap64 ((a0.size : Int) - 1)) then (platenref10_Read.j3 kj10 a0 (a0.size : Int) bt144.1 bt144.2.1 true) else (if 0 ≤ (wrap64 (2 + bt144.2.1)) then (if (wrap64 (2 + bt144.2.1)) < (a0.size : Int) then (platenref10_Read.j3 kj10 a0 (a0.size : Int) bt144.1 bt144.2.1 ((bt a0 (wrap64 (2 + bt144.2.1))) != 40)) else (none)) else (none))))) else (none)) = some (r1, r2, r3) := by rw [if_neg (show ¬ (false = true) by decide)] at H; exact H
              clear H
              have H := H1
              clear H1
              by_cases c29 : 2 ≤ (a0.size : Int)
              · rw [if_pos c29] at H
                have c29b0 := eq_true c29
                have c29b1 : decide (2 ≤ (a0.size : Int)) = true := decide_eq_true c29
                clear c29
                replace H := Option.bind_eq_some_iff.mp H
                obtain ⟨⟨t144, t145, t146⟩, A300, H⟩ := H
                replace H : (if t146 = true then (platenref10_Read.j3 kj10 a0 (a0.size : Int) t144 t145 true) else (if (wrap64 ((wrap64 (2 + t145)) + 1)) > (wrap64 ((a0.size : Int) - 1)) then (platenref10_Read.j3 kj10 a0 (a0.size : Int) t144 t145 true) else (if 0 ≤ (wrap64 (2 + t145)) then (if (wrap64 (2 + t145)) < (a0.size : Int) then (platenref10_Read.j3 kj10 a0 (a0.size : Int) t144 t145 ((bt a0 (wrap64 (2 + t145))) != 40)) else (none)) else (none)))) = some (r1, r2, r3) := H
                have A30 := Aside0.mk A300
                clear A300
                have HC31 := Aside0.mk H
                clear H
                go_upto_region 16 with (first | ((with_reducible refine gate_callee (f := 39) rfl ?_); refine goesL_ (some 61) rfl rfl Tryd.func39 (by kernel_rfl) rfl #[.string (a0.extract 2 a0.size)] rfl (by (try simp only [List.map_toArray, List.map_cons, List.map_nil]); first | done | rfl | (simp only [List.length_drop, List.length_take]; rfl)) ?_; (with_reducible refine (platenref01_Decode.calls kj10 (a0.extract 2 a0.size) t144 t145 t146 _ A30.out).mono ?_); rintro e w32 ⟨rfl, hb⟩; refine ⟨_, rfl, ?_⟩; have n0_ := Aside0.mk (below_step (by repeat (first | (with_reducible first | exact HB.out | apply below_alloc | apply pw_below_drewN | apply below_drew1) | exact HB.out)) hb); clear HB; have HB := n0_; clear n0_; (try clear hb); (try clear hb2); (try clear hk); (try clear hi)))
                (try simp only [Act.put, List.setIfInBounds_toArray, List.set_cons_zero, List.set_cons_succ])
                go_cut [80] (fun v80 wc => ∃ (kq : Nat) (x80_30 : Bool), v80 = .bool x80_30 ∧ Aside0 (platenref10_Read.j3 kq a0 (a0.size : Int) t144 t145 x80_30 = some (r1, r2, r3)) ∧ Aside0 (kq ≤ kj10) ∧ Aside0 (Below w.heap.size w wc))
                case first =>
                  have H := HC31.out
                  clear HC31
                  by_cases c33 : t146 = true
                  · subst c33
                    have H1 : (platenref10_Read.j3 kj10 a0 (a0.size : Int) t144 t145 true) = some (r1, r2, r3) := by rw [if_pos rfl] at H; exact H
                    clear H
                    have H := H1
                    clear H1
                    have H' := Aside0.mk H
                    clear H
                    go_wp2
                    go_meet
                    case rel => exact ⟨_, (true), (by first | rfl | (simp; done) | (simp [*]; done)), H', ⟨by have := HJ1.out; have := HJ10.out; first | omega | exact Nat.le_refl _⟩, ⟨by repeat (first | (with_reducible first | exact HB.out | apply below_alloc | apply pw_below_drewN | apply below_drew1) | exact HB.out)⟩⟩
                  · replace c33 := Bool.eq_false_iff.mpr c33
                    subst c33
                    have H1 : (if (wrap64 ((wrap64 (2 + t145)) + 1)) > (wrap64 ((a0.size : Int) - 1)) then (platenref10_Read.j3 kj10 a0 (a0.size : Int) t144 t145 true) else (if 0 ≤ (wrap64 (2 + t145)) then (if (wrap64 (2 + t145)) < (a0.size : Int) then (platenref10_Read.j3 kj10 a0 (a0.size : Int) t144 t145 ((bt a0 (wrap64 (2 + t145))) != 40)) else (none)) else (none))) = some (r1, r2, r3) := by rw [if_neg (show ¬ (false = true) by decide)] at H; exact H
                    clear H
                    have H := H1
                    clear H1
                    by_cases c34 : (wrap64 ((wrap64 (2 + t145)) + 1)) > (wrap64 ((a0.size : Int) - 1))
                    · rw [if_pos c34] at H
                      have c34b0 : decide ((wrap64 ((a0.size : Int) - 1)) < (wrap64 ((wrap64 (2 + t145)) + 1))) = true := decide_eq_true c34
                      clear c34
                      (first | rw [c34b0] | (simp only [i64_w, i32_w]; rw [c34b0]) | skip)
                      have H' := Aside0.mk H
                      clear H
                      go_wp2
                      go_meet
                      case rel => exact ⟨_, (true), (by first | rfl | (simp; done) | (simp [*]; done)), H', ⟨by have := HJ1.out; have := HJ10.out; first | omega | exact Nat.le_refl _⟩, ⟨by repeat (first | (with_reducible first | exact HB.out | apply below_alloc | apply pw_below_drewN | apply below_drew1) | exact HB.out)⟩⟩
                    · rw [if_neg c34] at H
                      have c34b0 : decide ((wrap64 ((a0.size : Int) - 1)) < (wrap64 ((wrap64 (2 + t145)) + 1))) = false := decide_eq_false c34
                      clear c34
                      (first | rw [c34b0] | (simp only [i64_w, i32_w]; rw [c34b0]) | skip)
                      obtain ⟨ji35, hji35⟩ : ∃ j_ : Int, (wrap64 (2 + t145)) = j_ := ⟨_, rfl⟩
                      replace H : (if 0 ≤ (ji35) then (if (ji35) < (a0.size : Int) then (platenref10_Read.j3 kj10 a0 (a0.size : Int) t144 t145 ((bt a0 (ji35)) != 40)) else (none)) else (none)) = some (r1, r2, r3) := by first | (rw [hji35] at H; exact H) | (simp only [hji35] at H ⊢; exact H)
                      (try rw [hji35] at c34b0)
                      have hji35w : (IntKind.i64.wrap (2 + t145)) = ji35 := (i64_w _).trans hji35
                      by_cases c36 : 0 ≤ (ji35)
                      · rw [if_pos c36] at H
                        have c36b0 : decide (0 ≤ (ji35)) = true := decide_eq_true c36
                        clear c36
                        by_cases c37 : (ji35) < (a0.size : Int)
                        · rw [if_pos c37] at H
                          have c37b0 : decide ((ji35) < (a0.size : Int)) = true := decide_eq_true c37
                          clear c37
                          have H' := Aside0.mk H
                          clear H
                          have p38 : 0 ≤ ((ji35) : Int) := of_decide_eq_true (by first | (with_reducible assumption) | assumption)
                          have q38 : (ji35) < (a0.size : Int) := of_decide_eq_true (by first | (with_reducible assumption) | assumption)
                          have hx38 := bt_at a0 (ji35)
                          replace p38 := eq_true p38
                          replace q38 := eq_true q38
                          go_wp2
                          go_meet
                          case rel => exact ⟨_, (((bt a0 (ji35)) != 40)), (by first | rfl | (simp; done) | (simp only [← hji35] <;> (first | rfl | simp)) | (simp [*]; done)), H', ⟨by have := HJ1.out; have := HJ10.out; first | omega | exact Nat.le_refl _⟩, ⟨by repeat (first | (with_reducible first | exact HB.out | apply below_alloc | apply pw_below_drewN | apply below_drew1) | exact HB.out)⟩⟩
                        · rw [if_neg c37] at H
                          exact absurd H (by simp)
                      · rw [if_neg c36] at H
                        exact absurd H (by simp)
                case rest =>
                  clear HC31
                  try clear c1
                  try clear p1
                  try clear q1
                  try clear hx1
                  try clear qi1
                  try clear c2
                  try clear p2
                  try clear c3
                  try clear c3b0
                  try clear c3b1
                  try clear p3
                  try clear q3
                  try clear hx3
                  try clear c5
                  try clear p6
                  try clear c7
                  try clear c7b0
                  try clear c8
                  try clear c8b0
                  try clear p9
                  try clear q9
                  try clear hx9
                  try clear c10
                  try clear c12
                  try clear c12b0
                  try clear c12b1
                  try clear p13
                  try clear q13
                  try clear hx13
                  try clear qi13
                  try clear c14
                  try clear c14b0
                  try clear c14b1
                  try clear p14
                  try clear q14
                  try clear hx14
                  try clear c15
                  try clear c15b0
                  try clear c15b1
                  try clear p16
                  try clear q16
                  try clear hx16
                  try clear qi16
                  try clear c17
                  try clear c18
                  try clear c18b0
                  try clear c18b1
                  try clear c19
                  try clear c19b0
                  try clear c19b1
                  try clear c23
                  try clear c23b0
                  try clear c24
                  try clear c24b0
                  try clear c25
                  try clear c25b0
                  try clear c26
                  try clear c26b0
                  try clear c26b1
                  try clear c28
                  try clear c29
                  try clear c29b0
                  try clear c29b1
                  try clear c33
                  try clear c34
                  try clear c34b0
                  try clear c36
                  try clear c36b0
                  try clear c37
                  try clear c37b0
                  try clear c38
                  try clear p38
                  try clear q38
                  try clear hx38
                  try clear hx142_0
                  try clear p1
                  try clear p13
                  try clear p142
                  try clear p16
                  try clear p2
                  try clear p38
                  try clear p6
                  try clear p9
                  try clear q1
                  try clear q13
                  try clear q142
                  try clear q16
                  try clear q38
                  try clear q9
                  obtain ⟨kq, x80_30, rfl, HA, HJ30, HB⟩ := hcut
                  cases kq with
                  | zero => exact absurd HA.out (by simp [platenref10_Read.j3])
                  | succ kj30 =>
                    have H := HA.out
                    clear HA
                    simp only [platenref10_Read.j3] at H
                    by_cases c39 : x80_30 = true
                    · subst c39
                      have H1 : (some (0, 0, (⟨#[]⟩ : ByteArray))) = some (r1, r2, r3) := by rw [if_pos rfl] at H; exact H
                      clear H
                      have H := H1
                      clear H1
                      simp only [Option.some.injEq, Prod.mk.injEq] at H
                      obtain ⟨rfl, rfl, rfl⟩ := H
                      go_wp2
                      go_ret3
                      exact ⟨by first | rfl | (simp [errW_none, errW_some] <;> rfl) | (simp [*, errW_none, errW_some] <;> rfl), by repeat (first | (with_reducible first | exact HB.out | apply below_alloc | apply pw_below_drewN | apply below_drew1) | exact HB.out)⟩
                    · replace c39 := Bool.eq_false_iff.mpr c39
                      subst c39
                      have H1 : (if 0 ≤ (wrap64 (3 + t145)) then (if (wrap64 (3 + t145)) ≤ (wrap64 ((a0.size : Int) - 1)) then (if (wrap64 ((a0.size : Int) - 1)) ≤ (a0.size : Int) then (if (a0.extract ((wrap64 (3 + t145)) : Int).toNat ((wrap64 ((a0.size : Int) - 1)) : Int).toNat).toList = ([77, 73, 83, 83, 73, 78, 71] : List UInt8) then (some (3, t144, a0.extract ((wrap64 (3 + t145)) : Int).toNat ((wrap64 ((a0.size : Int) - 1)) : Int).toNat)) else (if (a0.extract ((wrap64 (3 + t145)) : Int).toNat ((wrap64 ((a0.size : Int) - 1)) : Int).toNat).toList = ([66, 65, 68, 73, 78, 68, 69, 88] : List UInt8) then (some (4, t144, a0.extract ((wrap64 (3 + t145)) : Int).toNat ((wrap64 ((a0.size : Int) - 1)) : Int).toNat)) else (if (a0.extract ((wrap64 (3 + t145)) : Int).toNat ((wrap64 ((a0.size : Int) - 1)) : Int).toNat).toList = ([60, 110, 105, 108, 62] : List UInt8) then (some (2, t144, a0.extract ((wrap64 (3 + t145)) : Int).toNat ((wrap64 ((a0.size : Int) - 1)) : Int).toNat)) else ((platenref10_begins.f (a0.extract ((wrap64 (3 + t145)) : Int).toNat ((wrap64 ((a0.size : Int) - 1)) : Int).toNat) (⟨#[80, 65, 78, 73, 67, 61]⟩ : ByteArray)).bind fun t147 => (if t147 = true then ((platenref10_has.f kj30 (a0.extract ((wrap64 (3 + t145)) : Int).toNat ((wrap64 ((a0.size : Int) - 1)) : Int).toNat) (⟨#[32, 109, 101, 116, 104, 111, 100, 58, 32]⟩ : ByteArray)).bind fun t148 => (platenref10_Read.j4 kj30 t144 (a0.extract ((wrap64 (3 + t145)) : Int).toNat ((wrap64 ((a0.size : Int) - 1)) : Int).toNat) t148)) else (platenref10_Read.j4 kj30 t144 (a0.extract ((wrap64 (3 + t145)) : Int).toNat ((wrap64 ((a0.size : Int) - 1)) : Int).toNat) false)))))) else (none)) else (none)) else (none)) = some (r1, r2, r3) := by rw [if_neg (show ¬ (false = true) by decide)] at H; exact H
                      clear H
                      have H := H1
                      clear H1
                      obtain ⟨ji40, hji40⟩ : ∃ j_ : Int, (wrap64 (3 + t145)) = j_ := ⟨_, rfl⟩
                      replace H : (if 0 ≤ (ji40) then (if (ji40) ≤ (wrap64 ((a0.size : Int) - 1)) then (if (wrap64 ((a0.size : Int) - 1)) ≤ (a0.size : Int) then (if (a0.extract ((ji40) : Int).toNat ((wrap64 ((a0.size : Int) - 1)) : Int).toNat).toList = ([77, 73, 83, 83, 73, 78, 71] : List UInt8) then (some (3, t144, a0.extract ((ji40) : Int).toNat ((wrap64 ((a0.size : Int) - 1)) : Int).toNat)) else (if (a0.extract ((ji40) : Int).toNat ((wrap64 ((a0.size : Int) - 1)) : Int).toNat).toList = ([66, 65, 68, 73, 78, 68, 69, 88] : List UInt8) then (some (4, t144, a0.extract ((ji40) : Int).toNat ((wrap64 ((a0.size : Int) - 1)) : Int).toNat)) else (if (a0.extract ((ji40) : Int).toNat ((wrap64 ((a0.size : Int) - 1)) : Int).toNat).toList = ([60, 110, 105, 108, 62] : List UInt8) then (some (2, t144, a0.extract ((ji40) : Int).toNat ((wrap64 ((a0.size : Int) - 1)) : Int).toNat)) else ((platenref10_begins.f (a0.extract ((ji40) : Int).toNat ((wrap64 ((a0.size : Int) - 1)) : Int).toNat) (⟨#[80, 65, 78, 73, 67, 61]⟩ : ByteArray)).bind fun t147 => (if t147 = true then ((platenref10_has.f kj30 (a0.extract ((ji40) : Int).toNat ((wrap64 ((a0.size : Int) - 1)) : Int).toNat) (⟨#[32, 109, 101, 116, 104, 111, 100, 58, 32]⟩ : ByteArray)).bind fun t148 => (platenref10_Read.j4 kj30 t144 (a0.extract ((ji40) : Int).toNat ((wrap64 ((a0.size : Int) - 1)) : Int).toNat) t148)) else (platenref10_Read.j4 kj30 t144 (a0.extract ((ji40) : Int).toNat ((wrap64 ((a0.size : Int) - 1)) : Int).toNat) false)))))) else (none)) else (none)) else (none)) = some (r1, r2, r3) := by first | (rw [hji40] at H; exact H) | (simp only [hji40] at H ⊢; exact H)
                      have hji40w : (IntKind.i64.wrap (3 + t145)) = ji40 := (i64_w _).trans hji40
                      by_cases c41 : 0 ≤ (ji40)
                      · rw [if_pos c41] at H
                        have c41b0 := eq_true c41
                        have c41b1 : decide (0 ≤ (ji40)) = true := decide_eq_true c41
                        clear c41
                        by_cases c42 : (ji40) ≤ (wrap64 ((a0.size : Int) - 1))
                        · rw [if_pos c42] at H
                          have c42b0 := eq_true c42
                          have c42b1 : decide ((ji40) ≤ (wrap64 ((a0.size : Int) - 1))) = true := decide_eq_true c42
                          clear c42
                          by_cases c43 : (wrap64 ((a0.size : Int) - 1)) ≤ (a0.size : Int)
                          · rw [if_pos c43] at H
                            have c43b0 := eq_true c43
                            have c43b1 : decide ((wrap64 ((a0.size : Int) - 1)) ≤ (a0.size : Int)) = true := decide_eq_true c43
                            clear c43
                            by_cases c44 : (a0.extract ((ji40) : Int).toNat ((wrap64 ((a0.size : Int) - 1)) : Int).toNat).toList = ([77, 73, 83, 83, 73, 78, 71] : List UInt8)
                            · rw [if_pos c44] at H
                              have c44b0 : ((a0.extract ((ji40) : Int).toNat ((wrap64 ((a0.size : Int) - 1)) : Int).toNat).toList == ([77, 73, 83, 83, 73, 78, 71] : List UInt8)) = true := beq_iff_eq.mpr c44
                              have c44b1 : ((a0.extract ((ji40) : Int).toNat ((wrap64 ((a0.size : Int) - 1)) : Int).toNat).toList != ([77, 73, 83, 83, 73, 78, 71] : List UInt8)) = false := bne_eq_false_iff_eq.mpr c44
                              clear c44
                              simp only [Option.some.injEq, Prod.mk.injEq] at H
                              obtain ⟨rfl, rfl, rfl⟩ := H
                              go_wp2
                              go_ret3
                              exact ⟨by first | rfl | (simp [errW_none, errW_some] <;> rfl) | (simp only [← hji40]; first | rfl | (simp [errW_none, errW_some] <;> rfl)) | (simp [*, errW_none, errW_some] <;> rfl), by repeat (first | (with_reducible first | exact HB.out | apply below_alloc | apply pw_below_drewN | apply below_drew1) | exact HB.out)⟩
                            · rw [if_neg c44] at H
                              have c44b0 : ((a0.extract ((ji40) : Int).toNat ((wrap64 ((a0.size : Int) - 1)) : Int).toNat).toList == ([77, 73, 83, 83, 73, 78, 71] : List UInt8)) = false := beq_eq_false_iff_ne.mpr c44
                              have c44b1 : ((a0.extract ((ji40) : Int).toNat ((wrap64 ((a0.size : Int) - 1)) : Int).toNat).toList != ([77, 73, 83, 83, 73, 78, 71] : List UInt8)) = true := bne_iff_ne.mpr c44
                              by_cases c45 : (a0.extract ((ji40) : Int).toNat ((wrap64 ((a0.size : Int) - 1)) : Int).toNat).toList = ([66, 65, 68, 73, 78, 68, 69, 88] : List UInt8)
                              · rw [if_pos c45] at H
                                have c45b0 : ((a0.extract ((ji40) : Int).toNat ((wrap64 ((a0.size : Int) - 1)) : Int).toNat).toList == ([66, 65, 68, 73, 78, 68, 69, 88] : List UInt8)) = true := beq_iff_eq.mpr c45
                                have c45b1 : ((a0.extract ((ji40) : Int).toNat ((wrap64 ((a0.size : Int) - 1)) : Int).toNat).toList != ([66, 65, 68, 73, 78, 68, 69, 88] : List UInt8)) = false := bne_eq_false_iff_eq.mpr c45
                                clear c45
                                simp only [Option.some.injEq, Prod.mk.injEq] at H
                                obtain ⟨rfl, rfl, rfl⟩ := H
                                go_wp2
                                go_ret3
                                exact ⟨by first | rfl | (simp [errW_none, errW_some] <;> rfl) | (simp only [← hji40]; first | rfl | (simp [errW_none, errW_some] <;> rfl)) | (simp [*, errW_none, errW_some] <;> rfl), by repeat (first | (with_reducible first | exact HB.out | apply below_alloc | apply pw_below_drewN | apply below_drew1) | exact HB.out)⟩
                              · rw [if_neg c45] at H
                                have c45b0 : ((a0.extract ((ji40) : Int).toNat ((wrap64 ((a0.size : Int) - 1)) : Int).toNat).toList == ([66, 65, 68, 73, 78, 68, 69, 88] : List UInt8)) = false := beq_eq_false_iff_ne.mpr c45
                                have c45b1 : ((a0.extract ((ji40) : Int).toNat ((wrap64 ((a0.size : Int) - 1)) : Int).toNat).toList != ([66, 65, 68, 73, 78, 68, 69, 88] : List UInt8)) = true := bne_iff_ne.mpr c45
                                by_cases c46 : (a0.extract ((ji40) : Int).toNat ((wrap64 ((a0.size : Int) - 1)) : Int).toNat).toList = ([60, 110, 105, 108, 62] : List UInt8)
                                · rw [if_pos c46] at H
                                  have c46b0 : ((a0.extract ((ji40) : Int).toNat ((wrap64 ((a0.size : Int) - 1)) : Int).toNat).toList == ([60, 110, 105, 108, 62] : List UInt8)) = true := beq_iff_eq.mpr c46
                                  have c46b1 : ((a0.extract ((ji40) : Int).toNat ((wrap64 ((a0.size : Int) - 1)) : Int).toNat).toList != ([60, 110, 105, 108, 62] : List UInt8)) = false := bne_eq_false_iff_eq.mpr c46
                                  clear c46
                                  simp only [Option.some.injEq, Prod.mk.injEq] at H
                                  obtain ⟨rfl, rfl, rfl⟩ := H
                                  go_wp2
                                  go_ret3
                                  exact ⟨by first | rfl | (simp [errW_none, errW_some] <;> rfl) | (simp only [← hji40]; first | rfl | (simp [errW_none, errW_some] <;> rfl)) | (simp [*, errW_none, errW_some] <;> rfl), by repeat (first | (with_reducible first | exact HB.out | apply below_alloc | apply pw_below_drewN | apply below_drew1) | exact HB.out)⟩
                                · rw [if_neg c46] at H
                                  have c46b0 : ((a0.extract ((ji40) : Int).toNat ((wrap64 ((a0.size : Int) - 1)) : Int).toNat).toList == ([60, 110, 105, 108, 62] : List UInt8)) = false := beq_eq_false_iff_ne.mpr c46
                                  have c46b1 : ((a0.extract ((ji40) : Int).toNat ((wrap64 ((a0.size : Int) - 1)) : Int).toNat).toList != ([60, 110, 105, 108, 62] : List UInt8)) = true := bne_iff_ne.mpr c46
                                  have HC47 := Aside0.mk H
                                  clear H
                                  go_upto_region 25 with (fail)
                                  go_cut [102] (fun v102 wc => ∃ (kq : Nat) (x102_46 : Bool), v102 = .bool x102_46 ∧ Aside0 (platenref10_Read.j4 kq t144 (a0.extract ((ji40) : Int).toNat ((wrap64 ((a0.size : Int) - 1)) : Int).toNat) x102_46 = some (r1, r2, r3)) ∧ Aside0 (kq ≤ kj30) ∧ Aside0 (Below w.heap.size w wc))
                                  case first =>
                                    have H := HC47.out
                                    clear HC47
                                    replace H := Option.bind_eq_some_iff.mp H
                                    obtain ⟨t147, A480, H⟩ := H
                                    replace H : (if t147 = true then ((platenref10_has.f kj30 (a0.extract ((ji40) : Int).toNat ((wrap64 ((a0.size : Int) - 1)) : Int).toNat) (⟨#[32, 109, 101, 116, 104, 111, 100, 58, 32]⟩ : ByteArray)).bind fun t148 => (platenref10_Read.j4 kj30 t144 (a0.extract ((ji40) : Int).toNat ((wrap64 ((a0.size : Int) - 1)) : Int).toNat) t148)) else (platenref10_Read.j4 kj30 t144 (a0.extract ((ji40) : Int).toNat ((wrap64 ((a0.size : Int) - 1)) : Int).toNat) false)) = some (r1, r2, r3) := H
                                    have A48 := Aside0.mk A480
                                    clear A480
                                    by_cases c49 : t147 = true
                                    · subst c49
                                      have H1 : ((platenref10_has.f kj30 (a0.extract ((ji40) : Int).toNat ((wrap64 ((a0.size : Int) - 1)) : Int).toNat) (⟨#[32, 109, 101, 116, 104, 111, 100, 58, 32]⟩ : ByteArray)).bind fun t148 => (platenref10_Read.j4 kj30 t144 (a0.extract ((ji40) : Int).toNat ((wrap64 ((a0.size : Int) - 1)) : Int).toNat) t148)) = some (r1, r2, r3) := by rw [if_pos rfl] at H; exact H
                                      clear H
                                      have H := H1
                                      clear H1
                                      replace H := Option.bind_eq_some_iff.mp H
                                      obtain ⟨t148, A500, H⟩ := H
                                      replace H : (platenref10_Read.j4 kj30 t144 (a0.extract ((ji40) : Int).toNat ((wrap64 ((a0.size : Int) - 1)) : Int).toNat) t148) = some (r1, r2, r3) := H
                                      have A50 := Aside0.mk A500
                                      clear A500
                                      have H' := Aside0.mk H
                                      clear H
                                      go_wp2_with (first | ((with_reducible refine gate_callee (f := 38) rfl ?_); refine goesL_ (some 104) rfl rfl Tryd.func38 (by kernel_rfl) rfl #[.string (a0.extract ((ji40) : Int).toNat ((wrap64 ((a0.size : Int) - 1)) : Int).toNat), .string (⟨#[80, 65, 78, 73, 67, 61]⟩ : ByteArray)] rfl (by (try simp only [List.map_toArray, List.map_cons, List.map_nil]); first | done | (simp only [hji40]; rfl) | rfl | (simp only [List.length_drop, List.length_take]; rfl)) ?_; (with_reducible refine (platenref10_begins.calls (a0.extract ((ji40) : Int).toNat ((wrap64 ((a0.size : Int) - 1)) : Int).toNat) (⟨#[80, 65, 78, 73, 67, 61]⟩ : ByteArray) true _ A48.out).mono ?_); rintro e w' ⟨rfl, ⟨nd, rfl⟩⟩; refine ⟨_, rfl, ?_⟩) | (go_at_call 40; (with_reducible refine (platenref10_has.calls kj30 (a0.extract ((ji40) : Int).toNat ((wrap64 ((a0.size : Int) - 1)) : Int).toNat) (⟨#[32, 109, 101, 116, 104, 111, 100, 58, 32]⟩ : ByteArray) t148 _ A50.out).mono ?_); rintro e w' ⟨rfl, ⟨nd, rfl⟩⟩))
                                      go_meet
                                      case rel => exact ⟨_, (t148), (by first | rfl | (simp; done) | (simp [*]; done)), H', ⟨by have := HJ1.out; have := HJ10.out; have := HJ30.out; first | omega | exact Nat.le_refl _⟩, ⟨by repeat (first | (with_reducible first | exact HB.out | apply below_alloc | apply pw_below_drewN | apply below_drew1) | exact HB.out)⟩⟩
                                    · replace c49 := Bool.eq_false_iff.mpr c49
                                      subst c49
                                      have H1 : (platenref10_Read.j4 kj30 t144 (a0.extract ((ji40) : Int).toNat ((wrap64 ((a0.size : Int) - 1)) : Int).toNat) false) = some (r1, r2, r3) := by rw [if_neg (show ¬ (false = true) by decide)] at H; exact H
                                      clear H
                                      have H := H1
                                      clear H1
                                      have H' := Aside0.mk H
                                      clear H
                                      go_wp2_with (first | ((with_reducible refine gate_callee (f := 38) rfl ?_); refine goesL_ (some 104) rfl rfl Tryd.func38 (by kernel_rfl) rfl #[.string (a0.extract ((ji40) : Int).toNat ((wrap64 ((a0.size : Int) - 1)) : Int).toNat), .string (⟨#[80, 65, 78, 73, 67, 61]⟩ : ByteArray)] rfl (by (try simp only [List.map_toArray, List.map_cons, List.map_nil]); first | done | (simp only [hji40]; rfl) | rfl | (simp only [List.length_drop, List.length_take]; rfl)) ?_; (with_reducible refine (platenref10_begins.calls (a0.extract ((ji40) : Int).toNat ((wrap64 ((a0.size : Int) - 1)) : Int).toNat) (⟨#[80, 65, 78, 73, 67, 61]⟩ : ByteArray) false _ A48.out).mono ?_); rintro e w' ⟨rfl, ⟨nd, rfl⟩⟩; refine ⟨_, rfl, ?_⟩))
                                      go_meet
                                      case rel => exact ⟨_, (false), (by first | rfl | (simp; done) | (simp [*]; done)), H', ⟨by have := HJ1.out; have := HJ10.out; have := HJ30.out; first | omega | exact Nat.le_refl _⟩, ⟨by repeat (first | (with_reducible first | exact HB.out | apply below_alloc | apply pw_below_drewN | apply below_drew1) | exact HB.out)⟩⟩
                                  case rest =>
                                    clear HC47
                                    try clear c1
                                    try clear p1
                                    try clear q1
                                    try clear hx1
                                    try clear qi1
                                    try clear c2
                                    try clear p2
                                    try clear c3
                                    try clear c3b0
                                    try clear c3b1
                                    try clear p3
                                    try clear q3
                                    try clear hx3
                                    try clear c4
                                    try clear c5
                                    try clear p6
                                    try clear c7
                                    try clear c7b0
                                    try clear c8
                                    try clear c8b0
                                    try clear p9
                                    try clear q9
                                    try clear hx9
                                    try clear c10
                                    try clear c12
                                    try clear c12b0
                                    try clear c12b1
                                    try clear p13
                                    try clear q13
                                    try clear hx13
                                    try clear qi13
                                    try clear c14
                                    try clear c14b0
                                    try clear c14b1
                                    try clear p14
                                    try clear q14
                                    try clear hx14
                                    try clear c15
                                    try clear c15b0
                                    try clear c15b1
                                    try clear p16
                                    try clear q16
                                    try clear hx16
                                    try clear qi16
                                    try clear c17
                                    try clear c18
                                    try clear c18b0
                                    try clear c18b1
                                    try clear c19
                                    try clear c19b0
                                    try clear c19b1
                                    try clear c23
                                    try clear c23b0
                                    try clear c24
                                    try clear c24b0
                                    try clear c25
                                    try clear c25b0
                                    try clear c26
                                    try clear c26b0
                                    try clear c26b1
                                    try clear c28
                                    try clear c29
                                    try clear c29b0
                                    try clear c29b1
                                    try clear c33
                                    try clear c34
                                    try clear c34b0
                                    try clear c36
                                    try clear c36b0
                                    try clear c37
                                    try clear c37b0
                                    try clear c38
                                    try clear p38
                                    try clear q38
                                    try clear hx38
                                    try clear c39
                                    try clear c41
                                    try clear c41b0
                                    try clear c41b1
                                    try clear c42
                                    try clear c42b0
                                    try clear c42b1
                                    try clear c43
                                    try clear c43b0
                                    try clear c43b1
                                    try clear c44
                                    try clear c44b0
                                    try clear c44b1
                                    try clear c45
                                    try clear c45b0
                                    try clear c45b1
                                    try clear c46
                                    try clear c46b0
                                    try clear c46b1
                                    try clear c49
                                    try clear hx142_0
                                    try clear p1
                                    try clear p13
                                    try clear p14
                                    try clear p142
                                    try clear p16
                                    try clear p2
                                    try clear p3
                                    try clear p38
                                    try clear p6
                                    try clear p9
                                    try clear q1
                                    try clear q13
                                    try clear q14
                                    try clear q142
                                    try clear q16
                                    try clear q3
                                    try clear q38
                                    try clear q9
                                    obtain ⟨kq, x102_46, rfl, HA, HJ46, HB⟩ := hcut
                                    cases kq with
                                    | zero => exact absurd HA.out (by simp [platenref10_Read.j4])
                                    | succ kj46 =>
                                      have H := HA.out
                                      clear HA
                                      simp only [platenref10_Read.j4] at H
                                      by_cases c51 : x102_46 = true
                                      · subst c51
                                        have H1 : (some (5, t144, (a0.extract ((ji40) : Int).toNat ((wrap64 ((a0.size : Int) - 1)) : Int).toNat))) = some (r1, r2, r3) := by rw [if_pos rfl] at H; exact H
                                        clear H
                                        have H := H1
                                        clear H1
                                        simp only [Option.some.injEq, Prod.mk.injEq] at H
                                        obtain ⟨rfl, rfl, rfl⟩ := H
                                        go_wp2
                                        go_ret3
                                        exact ⟨by first | rfl | (simp [errW_none, errW_some] <;> rfl) | (simp only [← hji40]; first | rfl | (simp [errW_none, errW_some] <;> rfl)) | (simp [*, errW_none, errW_some] <;> rfl), by repeat (first | (with_reducible first | exact HB.out | apply below_alloc | apply pw_below_drewN | apply below_drew1) | exact HB.out)⟩
                                      · replace c51 := Bool.eq_false_iff.mpr c51
                                        subst c51
                                        have H1 : ((platenref10_has.f kj46 (a0.extract ((ji40) : Int).toNat ((wrap64 ((a0.size : Int) - 1)) : Int).toNat) (⟨#[61]⟩ : ByteArray)).bind fun t149 => (if t149 = true then (some (1, t144, (a0.extract ((ji40) : Int).toNat ((wrap64 ((a0.size : Int) - 1)) : Int).toNat))) else (some (0, 0, (⟨#[]⟩ : ByteArray))))) = some (r1, r2, r3) := by rw [if_neg (show ¬ (false = true) by decide)] at H; exact H
                                        clear H
                                        have H := H1
                                        clear H1
                                        replace H := Option.bind_eq_some_iff.mp H
                                        obtain ⟨t149, A520, H⟩ := H
                                        replace H : (if t149 = true then (some (1, t144, (a0.extract ((ji40) : Int).toNat ((wrap64 ((a0.size : Int) - 1)) : Int).toNat))) else (some (0, 0, (⟨#[]⟩ : ByteArray)))) = some (r1, r2, r3) := H
                                        have A52 := Aside0.mk A520
                                        clear A520
                                        by_cases c53 : t149 = true
                                        · subst c53
                                          have H1 : (some (1, t144, (a0.extract ((ji40) : Int).toNat ((wrap64 ((a0.size : Int) - 1)) : Int).toNat))) = some (r1, r2, r3) := by rw [if_pos rfl] at H; exact H
                                          clear H
                                          have H := H1
                                          clear H1
                                          simp only [Option.some.injEq, Prod.mk.injEq] at H
                                          obtain ⟨rfl, rfl, rfl⟩ := H
                                          go_wp2_with (first | ((with_reducible refine gate_callee (f := 40) rfl ?_); refine goesL_ (some 113) rfl rfl Tryd.func40 (by kernel_rfl) rfl #[.string (a0.extract ((ji40) : Int).toNat ((wrap64 ((a0.size : Int) - 1)) : Int).toNat), .string (⟨#[61]⟩ : ByteArray)] rfl (by (try simp only [List.map_toArray, List.map_cons, List.map_nil]); first | done | (simp only [hji40]; rfl) | rfl | (simp only [List.length_drop, List.length_take]; rfl)) ?_; (with_reducible refine (platenref10_has.calls kj46 (a0.extract ((ji40) : Int).toNat ((wrap64 ((a0.size : Int) - 1)) : Int).toNat) (⟨#[61]⟩ : ByteArray) true _ A52.out).mono ?_); rintro e w' ⟨rfl, ⟨nd, rfl⟩⟩; refine ⟨_, rfl, ?_⟩))
                                          go_ret3
                                          exact ⟨by first | rfl | (simp [errW_none, errW_some] <;> rfl) | (simp only [← hji40]; first | rfl | (simp [errW_none, errW_some] <;> rfl)) | (simp [*, errW_none, errW_some] <;> rfl), by repeat (first | (with_reducible first | exact HB.out | apply below_alloc | apply pw_below_drewN | apply below_drew1) | exact HB.out)⟩
                                        · replace c53 := Bool.eq_false_iff.mpr c53
                                          subst c53
                                          have H1 : (some (0, 0, (⟨#[]⟩ : ByteArray))) = some (r1, r2, r3) := by rw [if_neg (show ¬ (false = true) by decide)] at H; exact H
                                          clear H
                                          have H := H1
                                          clear H1
                                          simp only [Option.some.injEq, Prod.mk.injEq] at H
                                          obtain ⟨rfl, rfl, rfl⟩ := H
                                          go_wp2_with (first | ((with_reducible refine gate_callee (f := 40) rfl ?_); refine goesL_ (some 113) rfl rfl Tryd.func40 (by kernel_rfl) rfl #[.string (a0.extract ((ji40) : Int).toNat ((wrap64 ((a0.size : Int) - 1)) : Int).toNat), .string (⟨#[61]⟩ : ByteArray)] rfl (by (try simp only [List.map_toArray, List.map_cons, List.map_nil]); first | done | (simp only [hji40]; rfl) | rfl | (simp only [List.length_drop, List.length_take]; rfl)) ?_; (with_reducible refine (platenref10_has.calls kj46 (a0.extract ((ji40) : Int).toNat ((wrap64 ((a0.size : Int) - 1)) : Int).toNat) (⟨#[61]⟩ : ByteArray) false _ A52.out).mono ?_); rintro e w' ⟨rfl, ⟨nd, rfl⟩⟩; refine ⟨_, rfl, ?_⟩))
                                          go_ret3
                                          exact ⟨by first | rfl | (simp [errW_none, errW_some] <;> rfl) | (simp only [← hji40]; first | rfl | (simp [errW_none, errW_some] <;> rfl)) | (simp [*, errW_none, errW_some] <;> rfl), by repeat (first | (with_reducible first | exact HB.out | apply below_alloc | apply pw_below_drewN | apply below_drew1) | exact HB.out)⟩
                          · rw [if_neg c43] at H
                            exact absurd H (by simp)
                        · rw [if_neg c42] at H
                          exact absurd H (by simp)
                      · rw [if_neg c41] at H
                        exact absurd H (by simp)
              · rw [if_neg c29] at H
                exact absurd H (by simp)

end Go.Proofs.YtiaocdbgcjnceaaDoor.PGBad
