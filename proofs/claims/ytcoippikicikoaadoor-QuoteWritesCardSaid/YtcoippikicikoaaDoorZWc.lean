/- Part of the proof of lawQuoteWrites.card: texts merged by this session's bundle.py. -/
import Derived.Test.YtcoippikicikoaaDoorZWb
namespace Go.Proofs.YtcoippikicikoaaDoor.PQRef
open Go.RowKit Go.Proofs.YtcoippikicikoaaDoorW.PrintWords Go.Proofs.YtcoippikicikoaaDoorW.PrintLast Go.Proofs.YtcoippikicikoaaDoorW.PrintMore
attribute [local go_sem] max2_int min2_int max_two min_two
set_option linter.unusedVariables false
set_option linter.unusedSimpArgs false
end Go.Proofs.YtcoippikicikoaaDoor.PQRef
namespace Go.Proofs.YtcoippikicikoaaDoor.PQRef
open Go.RowKit Go.Proofs.YtcoippikicikoaaDoorW.PrintWords Go.Proofs.YtcoippikicikoaaDoorW.PrintLast Go.Proofs.YtcoippikicikoaaDoorW.PrintMore
attribute [local go_sem] max2_int min2_int max_two min_two
set_option linter.unusedVariables false
set_option linter.unusedSimpArgs false
def platenref01_Width.f (a0 : Int) : Option (Int) := if a0 < 0 then (some (-1)) else (if a0 > 1000 then (some 1000) else (some a0))
set_option maxHeartbeats 8000000 in
set_option maxRecDepth 100000 in
theorem platenref01_Width.calls (a0 : Int) (r : Int) (w : World) (h : platenref01_Width.f a0 = some r) :
 Calls Tryd.prog 51 #[.int .i64 a0] w fun e w' => e = .returned (.int .i64 r) ∧ Drawn0 w w' := by
 have H : (if a0 < 0 then (some (-1)) else (if a0 > 1000 then (some 1000) else (some a0))) = some r := h
 clear h
 by_cases c2 : a0 < 0
 ·
  rw [if_pos c2] at H
  have c2b0 : decide (a0 < 0) = true := decide_eq_true c2
  clear c2
  obtain rfl := Option.some.inj H
  go_enter Tryd.func51, Tryd.ntmps51
  go_wp2
  go_ret
  exact ⟨by first | rfl | (simp; done) | (simp [*]; done), by repeat (first | exact Drawn0.refl _ | apply Drawn0.step)⟩
 ·
  rw [if_neg c2] at H
  have c2b0 : decide (a0 < 0) = false := decide_eq_false c2
  clear c2
  by_cases c3 : a0 > 1000
  ·
   rw [if_pos c3] at H
   have c3b0 : decide (1000 < a0) = true := decide_eq_true c3
   clear c3
   obtain rfl := Option.some.inj H
   go_enter Tryd.func51, Tryd.ntmps51
   go_wp2
   go_ret
   exact ⟨by first | rfl | (simp; done) | (simp [*]; done), by repeat (first | exact Drawn0.refl _ | apply Drawn0.step)⟩
  ·
   rw [if_neg c3] at H
   have c3b0 : decide (1000 < a0) = false := decide_eq_false c3
   clear c3
   obtain rfl := Option.some.inj H
   go_enter Tryd.func51, Tryd.ntmps51
   go_wp2
   go_ret
   exact ⟨by first | rfl | (simp; done) | (simp [*]; done), by repeat (first | exact Drawn0.refl _ | apply Drawn0.step)⟩
def platenref01_Count.l0 : Nat → ByteArray → Int → Option (Int)
 | 0, _, _ => none
 | k + 1, x0, x3 => if x0.toList = ([] : List UInt8) then (some x3) else ((platenref01_Decode.f k x0).bind fun bt160 => (if 0 ≤ bt160.2.1 then (if bt160.2.1 ≤ (x0.size : Int) then (platenref01_Count.l0 k (x0.extract (bt160.2.1 : Int).toNat x0.size) (wrap64 (x3 + 1))) else (none)) else (none)))
def platenref01_Count.f (k : Nat) (a0 : ByteArray) : Option (Int) := platenref01_Count.l0 k a0 0
set_option maxHeartbeats 8000000 in
set_option maxRecDepth 100000 in
theorem platenref01_Count.calls (k : Nat) (a0 : ByteArray) (r : Int) (w : World) (h : platenref01_Count.f k a0 = some r) :
 Calls Tryd.prog 52 #[.string a0] w fun e w' => e = .returned (.int .i64 r) ∧ Below w.heap.size w w' := by
 have HB := Aside0.mk (Below.refl w.heap.size w)
 have H : (platenref01_Count.l0 k a0 0) = some r := h
 clear h
 have H' := Aside0.mk H
 clear H
 go_enter Tryd.func52, Tryd.ntmps52
 go_wp2
 go_loopg [0, 3] k (fun kq v0 v3 w' => ∃ (x0_1 : ByteArray) (x3_1 : Int), v0 = .string x0_1 ∧ v3 = .int .i64 x3_1 ∧ Aside0 (platenref01_Count.l0 kq x0_1 x3_1 = some r) ∧ Aside0 (kq ≤ k) ∧ Aside0 (Below w.heap.size w w'))
 case atStart => exact ⟨(a0), (0), (by first | rfl | (simp; done) | (simp [*]; done)), (by first | rfl | (simp; done) | (simp [*]; done)), H', ⟨Nat.le_refl _⟩, ⟨by repeat (first | (with_reducible first | exact HB.out | apply below_alloc | apply pw_below_drewN | apply below_drew1) | exact HB.out)⟩⟩
 case round =>
  clear H'
  obtain ⟨x0_1, x3_1, rfl, rfl, HA, HK1, HB⟩ := hrel
  cases gk with
  | zero => exact absurd HA.out (by simp [platenref01_Count.l0])
  | succ k1 =>
   have H := HA.out
   clear HA
   simp only [platenref01_Count.l0] at H
   by_cases c2 : x0_1.toList = ([] : List UInt8)
   ·
    rw [if_pos c2] at H
    have c2b0 : (x0_1.toList == ([] : List UInt8)) = true := beq_iff_eq.mpr c2
    have c2b1 : (x0_1.toList != ([] : List UInt8)) = false := bne_eq_false_iff_eq.mpr c2
    clear c2
    obtain rfl := Option.some.inj H
    go_wp2
    go_ret
    exact ⟨by first | rfl | (simp [errW_none, errW_some] <;> rfl) | (simp [*, errW_none, errW_some] <;> rfl), by repeat (first | (with_reducible first | exact HB.out | apply below_alloc | apply pw_below_drewN | apply below_drew1) | exact HB.out)⟩
   ·
    rw [if_neg c2] at H
    have c2b0 : (x0_1.toList == ([] : List UInt8)) = false := beq_eq_false_iff_ne.mpr c2
    have c2b1 : (x0_1.toList != ([] : List UInt8)) = true := bne_iff_ne.mpr c2
    replace H := Option.bind_eq_some_iff.mp H
    obtain ⟨⟨t160, t161, t162⟩, A30, H⟩ := H
    replace H : (if 0 ≤ t161 then (if t161 ≤ (x0_1.size : Int) then (platenref01_Count.l0 k1 (x0_1.extract (t161 : Int).toNat x0_1.size) (wrap64 (x3_1 + 1))) else (none)) else (none)) = some r := H
    have A3 := Aside0.mk A30
    clear A30
    by_cases c4 : 0 ≤ t161
    ·
     rw [if_pos c4] at H
     have c4b0 := eq_true c4
     have c4b1 : decide (0 ≤ t161) = true := decide_eq_true c4
     clear c4
     by_cases c5 : t161 ≤ (x0_1.size : Int)
     ·
      rw [if_pos c5] at H
      have c5b0 := eq_true c5
      have c5b1 : decide (t161 ≤ (x0_1.size : Int)) = true := decide_eq_true c5
      clear c5
      have H' := Aside0.mk H
      clear H
      go_wp2_with (first | ((with_reducible refine gate_callee (f := 48) rfl ?_); refine goesL_ (some 11) rfl rfl Tryd.func48 (by kernel_rfl) rfl #[.string x0_1] rfl (by (try simp only [List.map_toArray, List.map_cons, List.map_nil]); first | done | rfl | (simp only [List.length_drop, List.length_take]; rfl)) ?_; (with_reducible refine (platenref01_Decode.calls k1 x0_1 t160 t161 t162 _ A3.out).mono ?_); rintro e w6 ⟨rfl, hb⟩; refine ⟨_, rfl, ?_⟩; have n0_ := Aside0.mk (below_step (by repeat (first | (with_reducible first | exact HB.out | apply below_alloc | apply pw_below_drewN | apply below_drew1) | exact HB.out)) hb); clear HB; have HB := n0_; clear n0_; (try clear hb); (try clear hb2); (try clear hk); (try clear hi)))
      go_roundg k1
      case measure => have := HK1.out; omega
      case rel => exact ⟨(x0_1.extract (t161 : Int).toNat x0_1.size), (wrap64 (x3_1 + 1)), (by first | rfl | (simp; done) | (simp [*]; done)), (by first | rfl | (simp; done) | (simp [*]; done)), H', ⟨by have := HK1.out; omega⟩, ⟨by repeat (first | (with_reducible first | exact HB.out | apply below_alloc | apply pw_below_drewN | apply below_drew1) | exact HB.out)⟩⟩
     ·
      rw [if_neg c5] at H
      exact absurd H (by simp)
    ·
     rw [if_neg c4] at H
     exact absurd H (by simp)
mutual
def platenref01_Fill.j0 : Nat → Int → Int → Option (ByteArray)
 | 0, _, _ => none
 | k + 1, x0, x1 => platenref01_Fill.l0 k x0 x1 (⟨#[]⟩ : ByteArray) 0
def platenref01_Fill.l0 : Nat → Int → Int → ByteArray → Int → Option (ByteArray)
 | 0, _, _, _, _ => none
 | k + 1, x0, x1, x5, x6 => if x6 < x1 then ((some (([x0] : List Int) : List Int)).bind fun y163 => (if x5.size + (strOfNums y163).size ≤ 9223372036854775807 then (platenref01_Fill.l0 k x0 x1 (x5 ++ (strOfNums y163)) (wrap64 (x6 + 1))) else (none))) else (some x5)
end
def platenref01_Fill.f (k : Nat) (a0 : Int) (a1 : Int) : Option (ByteArray) := if a1 > 1000 then (platenref01_Fill.j0 k a0 1000) else (platenref01_Fill.j0 k a0 a1)
set_option maxHeartbeats 8000000 in
set_option maxRecDepth 100000 in
theorem platenref01_Fill.calls (k : Nat) (a0 : Int) (a1 : Int) (r : ByteArray) (w : World) (h : platenref01_Fill.f k a0 a1 = some r) :
 Calls Tryd.prog 53 #[.int .u8 a0, .int .i64 a1] w fun e w' => e = .returned (.string r) ∧ Below w.heap.size w w' := by
 have HB := Aside0.mk (Below.refl w.heap.size w)
 have H : (if a1 > 1000 then (platenref01_Fill.j0 k a0 1000) else (platenref01_Fill.j0 k a0 a1)) = some r := h
 clear h
 have HC3 := Aside0.mk H
 clear H
 go_enter Tryd.func53, Tryd.ntmps53
 go_upto_if 8 with (fail)
 go_cut [1] (fun v1 wc => ∃ (kq : Nat) (x1_2 : Int), v1 = .int .i64 x1_2 ∧ Aside0 (platenref01_Fill.j0 kq a0 x1_2 = some r) ∧ Aside0 (kq ≤ k) ∧ Aside0 (Below w.heap.size w wc))
 case first =>
  have H := HC3.out
  clear HC3
  by_cases c4 : a1 > 1000
  ·
   rw [if_pos c4] at H
   have c4b0 : decide (1000 < a1) = true := decide_eq_true c4
   clear c4
   (first | rw [c4b0] | (simp only [i64_w, i32_w]; rw [c4b0]) | skip)
   have H' := Aside0.mk H
   clear H
   go_wp2
   go_meet
   case rel => exact ⟨_, (1000), (by first | rfl | (simp; done) | (simp [*]; done)), H', ⟨by first | omega | exact Nat.le_refl _⟩, ⟨by repeat (first | (with_reducible first | exact HB.out | apply below_alloc | apply pw_below_drewN | apply below_drew1) | exact HB.out)⟩⟩
  ·
   rw [if_neg c4] at H
   have c4b0 : decide (1000 < a1) = false := decide_eq_false c4
   clear c4
   (first | rw [c4b0] | (simp only [i64_w, i32_w]; rw [c4b0]) | skip)
   have H' := Aside0.mk H
   clear H
   go_wp2
   go_meet
   case rel => exact ⟨_, (a1), (by first | rfl | (simp; done) | (simp [*]; done)), H', ⟨by first | omega | exact Nat.le_refl _⟩, ⟨by repeat (first | (with_reducible first | exact HB.out | apply below_alloc | apply pw_below_drewN | apply below_drew1) | exact HB.out)⟩⟩
 case rest =>
  clear HC3
  try clear p2
  try clear c4
  try clear c4b0
  obtain ⟨kq, x1_2, rfl, HA, HJ2, HB⟩ := hcut
  cases kq with
  | zero => exact absurd HA.out (by simp [platenref01_Fill.j0])
  | succ kj2 =>
   have H := HA.out
   clear HA
   simp only [platenref01_Fill.j0] at H
   have H' := Aside0.mk H
   clear H
   go_wp2
   go_loopg [5, 6] kj2 (fun kq v5 v6 w' => ∃ (x5_2 : ByteArray) (x6_2 : Int), v5 = .string x5_2 ∧ v6 = .int .i64 x6_2 ∧ Aside0 (platenref01_Fill.l0 kq a0 x1_2 x5_2 x6_2 = some r) ∧ Aside0 (kq ≤ kj2) ∧ Aside0 (Below w.heap.size w w'))
   case atStart => exact ⟨((⟨#[]⟩ : ByteArray)), (0), (by first | rfl | (simp; done) | (simp [*]; done)), (by first | rfl | (simp; done) | (simp [*]; done)), H', ⟨Nat.le_refl _⟩, ⟨by repeat (first | (with_reducible first | exact HB.out | apply below_alloc | apply pw_below_drewN | apply below_drew1) | exact HB.out)⟩⟩
   case round =>
    clear H'
    try clear p2
    try clear c4
    try clear c4b0
    try clear p2
    obtain ⟨x5_2, x6_2, rfl, rfl, HA, HK2, HB⟩ := hrel
    cases gk with
    | zero => exact absurd HA.out (by simp [platenref01_Fill.l0])
    | succ k2 =>
     have H := HA.out
     clear HA
     simp only [platenref01_Fill.l0] at H
     by_cases c5 : x6_2 < x1_2
     ·
      rw [if_pos c5] at H
      have c5b0 : decide (x6_2 < x1_2) = true := decide_eq_true c5
      clear c5
      obtain ⟨y163, hy163⟩ : ∃ y_ : List Int, y_ = (([a0] : List Int)) := ⟨_, rfl⟩
      replace H : (if x5_2.size + (strOfNums y163).size ≤ 9223372036854775807 then (platenref01_Fill.l0 k2 a0 x1_2 (x5_2 ++ (strOfNums y163)) (wrap64 (x6_2 + 1))) else (none)) = some r := by first | (rw [hy163]; with_reducible exact H) | (have H2_ := (Option.bind_some _ _).symm.trans H; rw [hy163]; with_reducible exact H2_) | (have H2_ := (Option.bind_some _ _).symm.trans H; with_reducible exact H2_) | with_reducible exact H | (rw [hy163]; exact H) | exact H
      have Ny163 := Aside0.mk hy163
      clear hy163
      by_cases c6 : x5_2.size + (strOfNums y163).size ≤ 9223372036854775807
      ·
       rw [if_pos c6] at H
       have c6b0 := eq_true c6
       have c6b1 : decide (x5_2.size + (strOfNums y163).size ≤ 9223372036854775807) = true := decide_eq_true c6
       try have c6b2 : (9223372036854775807 < x5_2.size + (strOfNums y163).size) = False := eq_false (Nat.not_lt.2 c6)
       have H' := Aside0.mk H
       clear H
       go_wp2_with (first | ((with_reducible refine gate_dst (N := 16) rfl ?_); refine Kd.R_lit (Kd.int .u8) _ 5 ?hg (N := 16) ?hd (xs := ([a0] : List Int)) (inner := [.int .u8 a0]) (ok := fun _ => True) (okp := fun _ => True) ?hr ?hp (fun _ hk => hk) trivial (Below.refl _ _) (Nat.le_refl _) (by simp) ?_; (case hd => rfl); (case hg => rfl); (case hr => first | (go_simp; done) | (go_simp; rfl)); (case hp => exact (Reps.one (show Kd.M (Kd.int .u8) _ _ _ a0 [.int .u8 a0] from rfl) (Reps.none _ _))); intro v164 w7 ho8 hb hg_ hnew_; clear hg_ hnew_; (first | rw [← Ny163.out] at ho8 | (simp only [Int.reduceToNat] at ho8; rw [← Ny163.out] at ho8)); have n0_ := Aside0.mk (Kd.R_lower ho8 (below_size (by repeat (first | (with_reducible first | exact HB.out | apply below_alloc | apply pw_below_drewN | apply below_drew1) | exact HB.out)))); have n1_ := Aside0.mk (below_step (by repeat (first | (with_reducible first | exact HB.out | apply below_alloc | apply pw_below_drewN | apply below_drew1) | exact HB.out)) hb); clear HB; have HO165 := n0_; have HB := n1_; clear n0_ n1_; clear hb ho8; have hcv9 := own_string (P := Tryd.prog) Tryd.underlying44 Tryd.underlying5 Tryd.underlying9 (Kd.own_of_R HO165.out)))
       go_roundg k2
       case measure => have := HJ2.out; have := HK2.out; omega
       case rel => exact ⟨(x5_2 ++ (strOfNums y163)), (wrap64 (x6_2 + 1)), (by first | rfl | (simp; done) | (simp [*]; done)), (by first | rfl | (simp; done) | (simp [*]; done)), H', ⟨by have := HJ2.out; have := HK2.out; omega⟩, ⟨by repeat (first | (with_reducible first | exact HB.out | apply below_alloc | apply pw_below_drewN | apply below_drew1) | exact HB.out)⟩⟩
      ·
       rw [if_neg c6] at H
       exact absurd H (by simp)
     ·
      rw [if_neg c5] at H
      have c5b0 : decide (x6_2 < x1_2) = false := decide_eq_false c5
      clear c5
      obtain rfl := Option.some.inj H
      go_wp2
      go_ret
      exact ⟨by first | rfl | (simp [errW_none, errW_some] <;> rfl) | (simp [*, errW_none, errW_some] <;> rfl), by repeat (first | (with_reducible first | exact HB.out | apply below_alloc | apply pw_below_drewN | apply below_drew1) | exact HB.out)⟩
def platenref01_Pad.f (k : Nat) (a0 : ByteArray) (a1_0 : Bool) (a1_1 : Bool) (a1_2 : Bool) (a1_3 : Bool) (a1_4 : Bool) (a1_5 : Int) (a1_6 : Int) (a1_7 : Int) : Option (ByteArray) := (platenref01_Width.f a1_5).bind fun t167 => ((platenref01_Count.f k a0).bind fun t168 => (if (wrap64 (t167 - t168)) ≤ 0 then (some a0) else (if a1_1 = true then ((platenref01_Fill.f k 32 (wrap64 (t167 - t168))).bind fun t169 => (if a0.size + t169.size ≤ 9223372036854775807 then (some (a0 ++ t169)) else (none))) else (if a1_4 = true then ((platenref01_Fill.f k 48 (wrap64 (t167 - t168))).bind fun t170 => (if t170.size + a0.size ≤ 9223372036854775807 then (some (t170 ++ a0)) else (none))) else ((platenref01_Fill.f k 32 (wrap64 (t167 - t168))).bind fun t171 => (if t171.size + a0.size ≤ 9223372036854775807 then (some (t171 ++ a0)) else (none)))))))
set_option maxHeartbeats 8000000 in
set_option maxRecDepth 100000 in
theorem platenref01_Pad.calls (k : Nat) (a0 : ByteArray) (a1_0 : Bool) (a1_1 : Bool) (a1_2 : Bool) (a1_3 : Bool) (a1_4 : Bool) (a1_5 : Int) (a1_6 : Int) (a1_7 : Int) (r : ByteArray) (w : World) (h : platenref01_Pad.f k a0 a1_0 a1_1 a1_2 a1_3 a1_4 a1_5 a1_6 a1_7 = some r) :
 Calls Tryd.prog 34 #[.string a0, .agg #[.bool a1_0, .bool a1_1, .bool a1_2, .bool a1_3, .bool a1_4, .int .i64 a1_5, .int .i64 a1_6, .int .i32 a1_7]] w fun e w' => e = .returned (.string r) ∧ Below w.heap.size w w' := by
 have hu28 := Tryd.underlying28
 have HB := Aside0.mk (Below.refl w.heap.size w)
 have H : ((platenref01_Width.f a1_5).bind fun t167 => ((platenref01_Count.f k a0).bind fun t168 => (if (wrap64 (t167 - t168)) ≤ 0 then (some a0) else (if a1_1 = true then ((platenref01_Fill.f k 32 (wrap64 (t167 - t168))).bind fun t169 => (if a0.size + t169.size ≤ 9223372036854775807 then (some (a0 ++ t169)) else (none))) else (if a1_4 = true then ((platenref01_Fill.f k 48 (wrap64 (t167 - t168))).bind fun t170 => (if t170.size + a0.size ≤ 9223372036854775807 then (some (t170 ++ a0)) else (none))) else ((platenref01_Fill.f k 32 (wrap64 (t167 - t168))).bind fun t171 => (if t171.size + a0.size ≤ 9223372036854775807 then (some (t171 ++ a0)) else (none)))))))) = some r := h
 clear h
 replace H := Option.bind_eq_some_iff.mp H
 obtain ⟨t167, A30, H⟩ := H
 replace H : ((platenref01_Count.f k a0).bind fun t168 => (if (wrap64 (t167 - t168)) ≤ 0 then (some a0) else (if a1_1 = true then ((platenref01_Fill.f k 32 (wrap64 (t167 - t168))).bind fun t169 => (if a0.size + t169.size ≤ 9223372036854775807 then (some (a0 ++ t169)) else (none))) else (if a1_4 = true then ((platenref01_Fill.f k 48 (wrap64 (t167 - t168))).bind fun t170 => (if t170.size + a0.size ≤ 9223372036854775807 then (some (t170 ++ a0)) else (none))) else ((platenref01_Fill.f k 32 (wrap64 (t167 - t168))).bind fun t171 => (if t171.size + a0.size ≤ 9223372036854775807 then (some (t171 ++ a0)) else (none))))))) = some r := H
 have A3 := Aside0.mk A30
 clear A30
 replace H := Option.bind_eq_some_iff.mp H
 obtain ⟨t168, A40, H⟩ := H
 replace H : (if (wrap64 (t167 - t168)) ≤ 0 then (some a0) else (if a1_1 = true then ((platenref01_Fill.f k 32 (wrap64 (t167 - t168))).bind fun t169 => (if a0.size + t169.size ≤ 9223372036854775807 then (some (a0 ++ t169)) else (none))) else (if a1_4 = true then ((platenref01_Fill.f k 48 (wrap64 (t167 - t168))).bind fun t170 => (if t170.size + a0.size ≤ 9223372036854775807 then (some (t170 ++ a0)) else (none))) else ((platenref01_Fill.f k 32 (wrap64 (t167 - t168))).bind fun t171 => (if t171.size + a0.size ≤ 9223372036854775807 then (some (t171 ++ a0)) else (none)))))) = some r := H
 have A4 := Aside0.mk A40
 clear A40
 by_cases c5 : (wrap64 (t167 - t168)) ≤ 0
 ·
  rw [if_pos c5] at H
  have c5b0 : decide ((wrap64 (t167 - t168)) ≤ 0) = true := decide_eq_true c5
  clear c5
  obtain rfl := Option.some.inj H
  go_enter Tryd.func34, Tryd.ntmps34
  go_wp2_with (first | ((with_reducible refine gate_dst (N := 3) rfl ?_); refine box_event ?hg (N := 3) ?hd (cs := #[.bool a1_0, .bool a1_1, .bool a1_2, .bool a1_3, .bool a1_4, .int .i64 a1_5, .int .i64 a1_6, .int .i32 a1_7]) (t := 28) ?hr ?_; (case hd => rfl); (case hg => rfl); (case hr => first | (go_simp; done) | (go_simp; rfl)); intro gb166 hg w6 hbox hb; have n0_ := Aside0.mk (below_step (by repeat (first | (with_reducible first | exact HB.out | apply below_alloc | apply pw_below_drewN | apply below_drew1) | exact HB.out)) hb); have n1_ := Aside0.mk (hbox); have n2_ := Aside0.mk ((by rw [hg]; exact (below_size (by repeat (first | (with_reducible first | exact HB.out | apply below_alloc | apply pw_below_drewN | apply below_drew1) | exact HB.out))) : w.heap.size ≤ gb166)); have n3_ := Aside0.mk ((by rw [hg]; exact (below_size (by repeat (first | (with_reducible first | exact HB.out | apply below_alloc | apply pw_below_drewN | apply below_drew1) | exact HB.out))) : w.heap.size ≤ gb166)); clear HB; have HB := n0_; have BK166 := n1_; have GW166 := n2_; have GE166 := n3_; clear n0_ n1_ n2_ n3_; clear hb hbox hg; have hcz7_0 : w6.cell? ⟨gb166, 0, none⟩ = some (.bool a1_0) := (blk_cell BK166.out 0).trans rfl; have hcz7_1 : w6.cell? ⟨gb166, 1, none⟩ = some (.bool a1_1) := (blk_cell BK166.out 1).trans rfl; have hcz7_2 : w6.cell? ⟨gb166, 2, none⟩ = some (.bool a1_2) := (blk_cell BK166.out 2).trans rfl; have hcz7_3 : w6.cell? ⟨gb166, 3, none⟩ = some (.bool a1_3) := (blk_cell BK166.out 3).trans rfl; have hcz7_4 : w6.cell? ⟨gb166, 4, none⟩ = some (.bool a1_4) := (blk_cell BK166.out 4).trans rfl; have hcz7_5 : w6.cell? ⟨gb166, 5, none⟩ = some (.int .i64 a1_5) := (blk_cell BK166.out 5).trans rfl; have hcz7_6 : w6.cell? ⟨gb166, 6, none⟩ = some (.int .i64 a1_6) := (blk_cell BK166.out 6).trans rfl; have hcz7_7 : w6.cell? ⟨gb166, 7, none⟩ = some (.int .i32 a1_7) := (blk_cell BK166.out 7).trans rfl; have hfz7_0 := blk_frozen BK166.out 0; have hfz7_1 := blk_frozen BK166.out 1; have hfz7_2 := blk_frozen BK166.out 2; have hfz7_3 := blk_frozen BK166.out 3; have hfz7_4 := blk_frozen BK166.out 4; have hfz7_5 := blk_frozen BK166.out 5; have hfz7_6 := blk_frozen BK166.out 6; have hfz7_7 := blk_frozen BK166.out 7) | ((with_reducible refine gate_callee (f := 51) rfl ?_); refine goesL_ (some 8) rfl rfl Tryd.func51 (by kernel_rfl) rfl #[.int .i64 a1_5] rfl (by (try simp only [List.map_toArray, List.map_cons, List.map_nil]); first | done | rfl | (simp only [List.length_drop, List.length_take]; rfl)) ?_; (with_reducible refine (platenref01_Width.calls a1_5 t167 _ A3.out).mono ?_); rintro e w' ⟨rfl, ⟨nd, rfl⟩⟩; refine ⟨_, rfl, ?_⟩) | ((with_reducible refine gate_callee (f := 52) rfl ?_); refine goesL_ (some 10) rfl rfl Tryd.func52 (by kernel_rfl) rfl #[.string a0] rfl (by (try simp only [List.map_toArray, List.map_cons, List.map_nil]); first | done | rfl | (simp only [List.length_drop, List.length_take]; rfl)) ?_; (with_reducible refine (platenref01_Count.calls k a0 t168 _ A4.out).mono ?_); rintro e w8 ⟨rfl, hb⟩; refine ⟨_, rfl, ?_⟩; have n0_ := Aside0.mk (blk_below (g := gb166) (o := .cells #[.bool a1_0, .bool a1_1, .bool a1_2, .bool a1_3, .bool a1_4, .int .i64 a1_5, .int .i64 a1_6, .int .i32 a1_7] 28 (0, 0)) (by (with_reducible repeat (first | refine blk_drewN ?_ _ | refine blk_drew ?_ | refine blk_alloc ?_ _)); exact BK166.out) hb); have n1_ := Aside0.mk (below_step (by repeat (first | (with_reducible first | exact HB.out | apply below_alloc | apply pw_below_drewN | apply below_drew1 | refine below_set ?_ GE166.out) | exact HB.out)) hb); clear BK166; clear HB; have BK166 := n0_; have HB := n1_; clear n0_ n1_; (try clear hb); (try clear hb2); (try clear hk); (try clear hi)))
  go_ret
  exact ⟨by first | rfl | (simp [errW_none, errW_some] <;> rfl) | (simp [*, errW_none, errW_some] <;> rfl), by repeat (first | (with_reducible first | exact HB.out | apply below_alloc | apply pw_below_drewN | apply below_drew1 | refine below_set ?_ GE166.out) | exact HB.out)⟩
 ·
  rw [if_neg c5] at H
  have c5b0 : decide ((wrap64 (t167 - t168)) ≤ 0) = false := decide_eq_false c5
  clear c5
  by_cases c9 : a1_1 = true
  ·
   subst c9
   have H1 : ((platenref01_Fill.f k 32 (wrap64 (t167 - t168))).bind fun t169 => (if a0.size + t169.size ≤ 9223372036854775807 then (some (a0 ++ t169)) else (none))) = some r := by rw [if_pos rfl] at H; exact H
   clear H
   have H := H1
   clear H1
   replace H := Option.bind_eq_some_iff.mp H
   obtain ⟨t169, A100, H⟩ := H
   replace H : (if a0.size + t169.size ≤ 9223372036854775807 then (some (a0 ++ t169)) else (none)) = some r := H
   have A10 := Aside0.mk A100
   clear A100
   by_cases c11 : a0.size + t169.size ≤ 9223372036854775807
   ·
    rw [if_pos c11] at H
    have c11b0 := eq_true c11
    have c11b1 : decide (a0.size + t169.size ≤ 9223372036854775807) = true := decide_eq_true c11
    try have c11b2 : (9223372036854775807 < a0.size + t169.size) = False := eq_false (Nat.not_lt.2 c11)
    obtain rfl := Option.some.inj H
    go_enter Tryd.func34, Tryd.ntmps34
    go_wp2_with (first | ((with_reducible refine gate_dst (N := 3) rfl ?_); refine box_event ?hg (N := 3) ?hd (cs := #[.bool a1_0, .bool true, .bool a1_2, .bool a1_3, .bool a1_4, .int .i64 a1_5, .int .i64 a1_6, .int .i32 a1_7]) (t := 28) ?hr ?_; (case hd => rfl); (case hg => rfl); (case hr => first | (go_simp; done) | (go_simp; rfl)); intro gb166 hg w12 hbox hb; have n0_ := Aside0.mk (below_step (by repeat (first | (with_reducible first | exact HB.out | apply below_alloc | apply pw_below_drewN | apply below_drew1) | exact HB.out)) hb); have n1_ := Aside0.mk (hbox); have n2_ := Aside0.mk ((by rw [hg]; exact (below_size (by repeat (first | (with_reducible first | exact HB.out | apply below_alloc | apply pw_below_drewN | apply below_drew1) | exact HB.out))) : w.heap.size ≤ gb166)); have n3_ := Aside0.mk ((by rw [hg]; exact (below_size (by repeat (first | (with_reducible first | exact HB.out | apply below_alloc | apply pw_below_drewN | apply below_drew1) | exact HB.out))) : w.heap.size ≤ gb166)); clear HB; have HB := n0_; have BK166 := n1_; have GW166 := n2_; have GE166 := n3_; clear n0_ n1_ n2_ n3_; clear hb hbox hg; have hcz13_0 : w12.cell? ⟨gb166, 0, none⟩ = some (.bool a1_0) := (blk_cell BK166.out 0).trans rfl; have hcz13_1 : w12.cell? ⟨gb166, 1, none⟩ = some (.bool true) := (blk_cell BK166.out 1).trans rfl; have hcz13_2 : w12.cell? ⟨gb166, 2, none⟩ = some (.bool a1_2) := (blk_cell BK166.out 2).trans rfl; have hcz13_3 : w12.cell? ⟨gb166, 3, none⟩ = some (.bool a1_3) := (blk_cell BK166.out 3).trans rfl; have hcz13_4 : w12.cell? ⟨gb166, 4, none⟩ = some (.bool a1_4) := (blk_cell BK166.out 4).trans rfl; have hcz13_5 : w12.cell? ⟨gb166, 5, none⟩ = some (.int .i64 a1_5) := (blk_cell BK166.out 5).trans rfl; have hcz13_6 : w12.cell? ⟨gb166, 6, none⟩ = some (.int .i64 a1_6) := (blk_cell BK166.out 6).trans rfl; have hcz13_7 : w12.cell? ⟨gb166, 7, none⟩ = some (.int .i32 a1_7) := (blk_cell BK166.out 7).trans rfl; have hfz13_0 := blk_frozen BK166.out 0; have hfz13_1 := blk_frozen BK166.out 1; have hfz13_2 := blk_frozen BK166.out 2; have hfz13_3 := blk_frozen BK166.out 3; have hfz13_4 := blk_frozen BK166.out 4; have hfz13_5 := blk_frozen BK166.out 5; have hfz13_6 := blk_frozen BK166.out 6; have hfz13_7 := blk_frozen BK166.out 7) | ((with_reducible refine gate_callee (f := 51) rfl ?_); refine goesL_ (some 8) rfl rfl Tryd.func51 (by kernel_rfl) rfl #[.int .i64 a1_5] rfl (by (try simp only [List.map_toArray, List.map_cons, List.map_nil]); first | done | rfl | (simp only [List.length_drop, List.length_take]; rfl)) ?_; (with_reducible refine (platenref01_Width.calls a1_5 t167 _ A3.out).mono ?_); rintro e w' ⟨rfl, ⟨nd, rfl⟩⟩; refine ⟨_, rfl, ?_⟩) | ((with_reducible refine gate_callee (f := 52) rfl ?_); refine goesL_ (some 10) rfl rfl Tryd.func52 (by kernel_rfl) rfl #[.string a0] rfl (by (try simp only [List.map_toArray, List.map_cons, List.map_nil]); first | done | rfl | (simp only [List.length_drop, List.length_take]; rfl)) ?_; (with_reducible refine (platenref01_Count.calls k a0 t168 _ A4.out).mono ?_); rintro e w14 ⟨rfl, hb⟩; refine ⟨_, rfl, ?_⟩; have n0_ := Aside0.mk (blk_below (g := gb166) (o := .cells #[.bool a1_0, .bool true, .bool a1_2, .bool a1_3, .bool a1_4, .int .i64 a1_5, .int .i64 a1_6, .int .i32 a1_7] 28 (0, 0)) (by (with_reducible repeat (first | refine blk_drewN ?_ _ | refine blk_drew ?_ | refine blk_alloc ?_ _)); exact BK166.out) hb); have n1_ := Aside0.mk (below_step (by repeat (first | (with_reducible first | exact HB.out | apply below_alloc | apply pw_below_drewN | apply below_drew1 | refine below_set ?_ GE166.out) | exact HB.out)) hb); clear BK166; clear HB; have BK166 := n0_; have HB := n1_; clear n0_ n1_; (try clear hb); (try clear hb2); (try clear hk); (try clear hi); have hcz15_0 : w14.cell? ⟨gb166, 0, none⟩ = some (.bool a1_0) := (blk_cell BK166.out 0).trans rfl; have hcz15_1 : w14.cell? ⟨gb166, 1, none⟩ = some (.bool true) := (blk_cell BK166.out 1).trans rfl; have hcz15_2 : w14.cell? ⟨gb166, 2, none⟩ = some (.bool a1_2) := (blk_cell BK166.out 2).trans rfl; have hcz15_3 : w14.cell? ⟨gb166, 3, none⟩ = some (.bool a1_3) := (blk_cell BK166.out 3).trans rfl; have hcz15_4 : w14.cell? ⟨gb166, 4, none⟩ = some (.bool a1_4) := (blk_cell BK166.out 4).trans rfl; have hcz15_5 : w14.cell? ⟨gb166, 5, none⟩ = some (.int .i64 a1_5) := (blk_cell BK166.out 5).trans rfl; have hcz15_6 : w14.cell? ⟨gb166, 6, none⟩ = some (.int .i64 a1_6) := (blk_cell BK166.out 6).trans rfl; have hcz15_7 : w14.cell? ⟨gb166, 7, none⟩ = some (.int .i32 a1_7) := (blk_cell BK166.out 7).trans rfl; have hfz15_0 := blk_frozen BK166.out 0; have hfz15_1 := blk_frozen BK166.out 1; have hfz15_2 := blk_frozen BK166.out 2; have hfz15_3 := blk_frozen BK166.out 3; have hfz15_4 := blk_frozen BK166.out 4; have hfz15_5 := blk_frozen BK166.out 5; have hfz15_6 := blk_frozen BK166.out 6; have hfz15_7 := blk_frozen BK166.out 7) | ((with_reducible refine gate_callee (f := 53) rfl ?_); refine goesL_ (some 19) rfl rfl Tryd.func53 (by kernel_rfl) rfl #[.int .u8 32, .int .i64 (wrap64 (t167 - t168))] rfl (by (try simp only [List.map_toArray, List.map_cons, List.map_nil]); first | done | rfl | (simp only [List.length_drop, List.length_take]; rfl)) ?_; (first | (with_reducible refine (platenref01_Fill.calls k 32 (wrap64 (t167 - t168)) t169 _ A10.out).mono ?_) | (simp only [i64_w]; (with_reducible refine (platenref01_Fill.calls k 32 (wrap64 (t167 - t168)) t169 _ A10.out).mono ?_))); rintro e w16 ⟨rfl, hb⟩; refine ⟨_, rfl, ?_⟩; have n0_ := Aside0.mk (blk_below (g := gb166) (o := .cells #[.bool a1_0, .bool true, .bool a1_2, .bool a1_3, .bool a1_4, .int .i64 a1_5, .int .i64 a1_6, .int .i32 a1_7] 28 (0, 0)) (by (with_reducible repeat (first | refine blk_drewN ?_ _ | refine blk_drew ?_ | refine blk_alloc ?_ _)); exact BK166.out) hb); have n1_ := Aside0.mk (below_step (by repeat (first | (with_reducible first | exact HB.out | apply below_alloc | apply pw_below_drewN | apply below_drew1 | refine below_set ?_ GE166.out) | exact HB.out)) hb); clear BK166; clear HB; have BK166 := n0_; have HB := n1_; clear n0_ n1_; (try clear hb); (try clear hb2); (try clear hk); (try clear hi)))
    go_ret
    exact ⟨by first | rfl | (simp [errW_none, errW_some] <;> rfl) | (simp [*, errW_none, errW_some] <;> rfl), by repeat (first | (with_reducible first | exact HB.out | apply below_alloc | apply pw_below_drewN | apply below_drew1 | refine below_set ?_ GE166.out) | exact HB.out)⟩
   ·
    rw [if_neg c11] at H
    exact absurd H (by simp)
  ·
   replace c9 := Bool.eq_false_iff.mpr c9
   subst c9
   have H1 : (if a1_4 = true then ((platenref01_Fill.f k 48 (wrap64 (t167 - t168))).bind fun t170 => (if t170.size + a0.size ≤ 9223372036854775807 then (some (t170 ++ a0)) else (none))) else ((platenref01_Fill.f k 32 (wrap64 (t167 - t168))).bind fun t171 => (if t171.size + a0.size ≤ 9223372036854775807 then (some (t171 ++ a0)) else (none)))) = some r := by rw [if_neg (show ¬ (false = true) by decide)] at H; exact H
   clear H
   have H := H1
   clear H1
   by_cases c17 : a1_4 = true
   ·
    subst c17
    have H1 : ((platenref01_Fill.f k 48 (wrap64 (t167 - t168))).bind fun t170 => (if t170.size + a0.size ≤ 9223372036854775807 then (some (t170 ++ a0)) else (none))) = some r := by rw [if_pos rfl] at H; exact H
    clear H
    have H := H1
    clear H1
    replace H := Option.bind_eq_some_iff.mp H
    obtain ⟨t170, A180, H⟩ := H
    replace H : (if t170.size + a0.size ≤ 9223372036854775807 then (some (t170 ++ a0)) else (none)) = some r := H
    have A18 := Aside0.mk A180
    clear A180
    by_cases c19 : t170.size + a0.size ≤ 9223372036854775807
    ·
     rw [if_pos c19] at H
     have c19b0 := eq_true c19
     have c19b1 : decide (t170.size + a0.size ≤ 9223372036854775807) = true := decide_eq_true c19
     try have c19b2 : (9223372036854775807 < t170.size + a0.size) = False := eq_false (Nat.not_lt.2 c19)
     obtain rfl := Option.some.inj H
     go_enter Tryd.func34, Tryd.ntmps34
     go_wp2_with (first | ((with_reducible refine gate_dst (N := 3) rfl ?_); refine box_event ?hg (N := 3) ?hd (cs := #[.bool a1_0, .bool false, .bool a1_2, .bool a1_3, .bool true, .int .i64 a1_5, .int .i64 a1_6, .int .i32 a1_7]) (t := 28) ?hr ?_; (case hd => rfl); (case hg => rfl); (case hr => first | (go_simp; done) | (go_simp; rfl)); intro gb166 hg w20 hbox hb; have n0_ := Aside0.mk (below_step (by repeat (first | (with_reducible first | exact HB.out | apply below_alloc | apply pw_below_drewN | apply below_drew1) | exact HB.out)) hb); have n1_ := Aside0.mk (hbox); have n2_ := Aside0.mk ((by rw [hg]; exact (below_size (by repeat (first | (with_reducible first | exact HB.out | apply below_alloc | apply pw_below_drewN | apply below_drew1) | exact HB.out))) : w.heap.size ≤ gb166)); have n3_ := Aside0.mk ((by rw [hg]; exact (below_size (by repeat (first | (with_reducible first | exact HB.out | apply below_alloc | apply pw_below_drewN | apply below_drew1) | exact HB.out))) : w.heap.size ≤ gb166)); clear HB; have HB := n0_; have BK166 := n1_; have GW166 := n2_; have GE166 := n3_; clear n0_ n1_ n2_ n3_; clear hb hbox hg; have hcz21_0 : w20.cell? ⟨gb166, 0, none⟩ = some (.bool a1_0) := (blk_cell BK166.out 0).trans rfl; have hcz21_1 : w20.cell? ⟨gb166, 1, none⟩ = some (.bool false) := (blk_cell BK166.out 1).trans rfl; have hcz21_2 : w20.cell? ⟨gb166, 2, none⟩ = some (.bool a1_2) := (blk_cell BK166.out 2).trans rfl; have hcz21_3 : w20.cell? ⟨gb166, 3, none⟩ = some (.bool a1_3) := (blk_cell BK166.out 3).trans rfl; have hcz21_4 : w20.cell? ⟨gb166, 4, none⟩ = some (.bool true) := (blk_cell BK166.out 4).trans rfl; have hcz21_5 : w20.cell? ⟨gb166, 5, none⟩ = some (.int .i64 a1_5) := (blk_cell BK166.out 5).trans rfl; have hcz21_6 : w20.cell? ⟨gb166, 6, none⟩ = some (.int .i64 a1_6) := (blk_cell BK166.out 6).trans rfl; have hcz21_7 : w20.cell? ⟨gb166, 7, none⟩ = some (.int .i32 a1_7) := (blk_cell BK166.out 7).trans rfl; have hfz21_0 := blk_frozen BK166.out 0; have hfz21_1 := blk_frozen BK166.out 1; have hfz21_2 := blk_frozen BK166.out 2; have hfz21_3 := blk_frozen BK166.out 3; have hfz21_4 := blk_frozen BK166.out 4; have hfz21_5 := blk_frozen BK166.out 5; have hfz21_6 := blk_frozen BK166.out 6; have hfz21_7 := blk_frozen BK166.out 7) | ((with_reducible refine gate_callee (f := 51) rfl ?_); refine goesL_ (some 8) rfl rfl Tryd.func51 (by kernel_rfl) rfl #[.int .i64 a1_5] rfl (by (try simp only [List.map_toArray, List.map_cons, List.map_nil]); first | done | rfl | (simp only [List.length_drop, List.length_take]; rfl)) ?_; (with_reducible refine (platenref01_Width.calls a1_5 t167 _ A3.out).mono ?_); rintro e w' ⟨rfl, ⟨nd, rfl⟩⟩; refine ⟨_, rfl, ?_⟩) | ((with_reducible refine gate_callee (f := 52) rfl ?_); refine goesL_ (some 10) rfl rfl Tryd.func52 (by kernel_rfl) rfl #[.string a0] rfl (by (try simp only [List.map_toArray, List.map_cons, List.map_nil]); first | done | rfl | (simp only [List.length_drop, List.length_take]; rfl)) ?_; (with_reducible refine (platenref01_Count.calls k a0 t168 _ A4.out).mono ?_); rintro e w22 ⟨rfl, hb⟩; refine ⟨_, rfl, ?_⟩; have n0_ := Aside0.mk (blk_below (g := gb166) (o := .cells #[.bool a1_0, .bool false, .bool a1_2, .bool a1_3, .bool true, .int .i64 a1_5, .int .i64 a1_6, .int .i32 a1_7] 28 (0, 0)) (by (with_reducible repeat (first | refine blk_drewN ?_ _ | refine blk_drew ?_ | refine blk_alloc ?_ _)); exact BK166.out) hb); have n1_ := Aside0.mk (below_step (by repeat (first | (with_reducible first | exact HB.out | apply below_alloc | apply pw_below_drewN | apply below_drew1 | refine below_set ?_ GE166.out) | exact HB.out)) hb); clear BK166; clear HB; have BK166 := n0_; have HB := n1_; clear n0_ n1_; (try clear hb); (try clear hb2); (try clear hk); (try clear hi); have hcz23_0 : w22.cell? ⟨gb166, 0, none⟩ = some (.bool a1_0) := (blk_cell BK166.out 0).trans rfl; have hcz23_1 : w22.cell? ⟨gb166, 1, none⟩ = some (.bool false) := (blk_cell BK166.out 1).trans rfl; have hcz23_2 : w22.cell? ⟨gb166, 2, none⟩ = some (.bool a1_2) := (blk_cell BK166.out 2).trans rfl; have hcz23_3 : w22.cell? ⟨gb166, 3, none⟩ = some (.bool a1_3) := (blk_cell BK166.out 3).trans rfl; have hcz23_4 : w22.cell? ⟨gb166, 4, none⟩ = some (.bool true) := (blk_cell BK166.out 4).trans rfl; have hcz23_5 : w22.cell? ⟨gb166, 5, none⟩ = some (.int .i64 a1_5) := (blk_cell BK166.out 5).trans rfl; have hcz23_6 : w22.cell? ⟨gb166, 6, none⟩ = some (.int .i64 a1_6) := (blk_cell BK166.out 6).trans rfl; have hcz23_7 : w22.cell? ⟨gb166, 7, none⟩ = some (.int .i32 a1_7) := (blk_cell BK166.out 7).trans rfl; have hfz23_0 := blk_frozen BK166.out 0; have hfz23_1 := blk_frozen BK166.out 1; have hfz23_2 := blk_frozen BK166.out 2; have hfz23_3 := blk_frozen BK166.out 3; have hfz23_4 := blk_frozen BK166.out 4; have hfz23_5 := blk_frozen BK166.out 5; have hfz23_6 := blk_frozen BK166.out 6; have hfz23_7 := blk_frozen BK166.out 7) | ((with_reducible refine gate_callee (f := 53) rfl ?_); refine goesL_ (some 24) rfl rfl Tryd.func53 (by kernel_rfl) rfl #[.int .u8 48, .int .i64 (wrap64 (t167 - t168))] rfl (by (try simp only [List.map_toArray, List.map_cons, List.map_nil]); first | done | rfl | (simp only [List.length_drop, List.length_take]; rfl)) ?_; (first | (with_reducible refine (platenref01_Fill.calls k 48 (wrap64 (t167 - t168)) t170 _ A18.out).mono ?_) | (simp only [i64_w]; (with_reducible refine (platenref01_Fill.calls k 48 (wrap64 (t167 - t168)) t170 _ A18.out).mono ?_))); rintro e w24 ⟨rfl, hb⟩; refine ⟨_, rfl, ?_⟩; have n0_ := Aside0.mk (blk_below (g := gb166) (o := .cells #[.bool a1_0, .bool false, .bool a1_2, .bool a1_3, .bool true, .int .i64 a1_5, .int .i64 a1_6, .int .i32 a1_7] 28 (0, 0)) (by (with_reducible repeat (first | refine blk_drewN ?_ _ | refine blk_drew ?_ | refine blk_alloc ?_ _)); exact BK166.out) hb); have n1_ := Aside0.mk (below_step (by repeat (first | (with_reducible first | exact HB.out | apply below_alloc | apply pw_below_drewN | apply below_drew1 | refine below_set ?_ GE166.out) | exact HB.out)) hb); clear BK166; clear HB; have BK166 := n0_; have HB := n1_; clear n0_ n1_; (try clear hb); (try clear hb2); (try clear hk); (try clear hi)))
     go_ret
     exact ⟨by first | rfl | (simp [errW_none, errW_some] <;> rfl) | (simp [*, errW_none, errW_some] <;> rfl), by repeat (first | (with_reducible first | exact HB.out | apply below_alloc | apply pw_below_drewN | apply below_drew1 | refine below_set ?_ GE166.out) | exact HB.out)⟩
    ·
     rw [if_neg c19] at H
     exact absurd H (by simp)
   ·
    replace c17 := Bool.eq_false_iff.mpr c17
    subst c17
    have H1 : ((platenref01_Fill.f k 32 (wrap64 (t167 - t168))).bind fun t171 => (if t171.size + a0.size ≤ 9223372036854775807 then (some (t171 ++ a0)) else (none))) = some r := by rw [if_neg (show ¬ (false = true) by decide)] at H; exact H
    clear H
    have H := H1
    clear H1
    replace H := Option.bind_eq_some_iff.mp H
    obtain ⟨t171, A250, H⟩ := H
    replace H : (if t171.size + a0.size ≤ 9223372036854775807 then (some (t171 ++ a0)) else (none)) = some r := H
    have A25 := Aside0.mk A250
    clear A250
    by_cases c26 : t171.size + a0.size ≤ 9223372036854775807
    ·
     rw [if_pos c26] at H
     have c26b0 := eq_true c26
     have c26b1 : decide (t171.size + a0.size ≤ 9223372036854775807) = true := decide_eq_true c26
     try have c26b2 : (9223372036854775807 < t171.size + a0.size) = False := eq_false (Nat.not_lt.2 c26)
     obtain rfl := Option.some.inj H
     go_enter Tryd.func34, Tryd.ntmps34
     go_wp2_with (first | ((with_reducible refine gate_dst (N := 3) rfl ?_); refine box_event ?hg (N := 3) ?hd (cs := #[.bool a1_0, .bool false, .bool a1_2, .bool a1_3, .bool false, .int .i64 a1_5, .int .i64 a1_6, .int .i32 a1_7]) (t := 28) ?hr ?_; (case hd => rfl); (case hg => rfl); (case hr => first | (go_simp; done) | (go_simp; rfl)); intro gb166 hg w27 hbox hb; have n0_ := Aside0.mk (below_step (by repeat (first | (with_reducible first | exact HB.out | apply below_alloc | apply pw_below_drewN | apply below_drew1) | exact HB.out)) hb); have n1_ := Aside0.mk (hbox); have n2_ := Aside0.mk ((by rw [hg]; exact (below_size (by repeat (first | (with_reducible first | exact HB.out | apply below_alloc | apply pw_below_drewN | apply below_drew1) | exact HB.out))) : w.heap.size ≤ gb166)); have n3_ := Aside0.mk ((by rw [hg]; exact (below_size (by repeat (first | (with_reducible first | exact HB.out | apply below_alloc | apply pw_below_drewN | apply below_drew1) | exact HB.out))) : w.heap.size ≤ gb166)); clear HB; have HB := n0_; have BK166 := n1_; have GW166 := n2_; have GE166 := n3_; clear n0_ n1_ n2_ n3_; clear hb hbox hg; have hcz28_0 : w27.cell? ⟨gb166, 0, none⟩ = some (.bool a1_0) := (blk_cell BK166.out 0).trans rfl; have hcz28_1 : w27.cell? ⟨gb166, 1, none⟩ = some (.bool false) := (blk_cell BK166.out 1).trans rfl; have hcz28_2 : w27.cell? ⟨gb166, 2, none⟩ = some (.bool a1_2) := (blk_cell BK166.out 2).trans rfl; have hcz28_3 : w27.cell? ⟨gb166, 3, none⟩ = some (.bool a1_3) := (blk_cell BK166.out 3).trans rfl; have hcz28_4 : w27.cell? ⟨gb166, 4, none⟩ = some (.bool false) := (blk_cell BK166.out 4).trans rfl; have hcz28_5 : w27.cell? ⟨gb166, 5, none⟩ = some (.int .i64 a1_5) := (blk_cell BK166.out 5).trans rfl; have hcz28_6 : w27.cell? ⟨gb166, 6, none⟩ = some (.int .i64 a1_6) := (blk_cell BK166.out 6).trans rfl; have hcz28_7 : w27.cell? ⟨gb166, 7, none⟩ = some (.int .i32 a1_7) := (blk_cell BK166.out 7).trans rfl; have hfz28_0 := blk_frozen BK166.out 0; have hfz28_1 := blk_frozen BK166.out 1; have hfz28_2 := blk_frozen BK166.out 2; have hfz28_3 := blk_frozen BK166.out 3; have hfz28_4 := blk_frozen BK166.out 4; have hfz28_5 := blk_frozen BK166.out 5; have hfz28_6 := blk_frozen BK166.out 6; have hfz28_7 := blk_frozen BK166.out 7) | ((with_reducible refine gate_callee (f := 51) rfl ?_); refine goesL_ (some 8) rfl rfl Tryd.func51 (by kernel_rfl) rfl #[.int .i64 a1_5] rfl (by (try simp only [List.map_toArray, List.map_cons, List.map_nil]); first | done | rfl | (simp only [List.length_drop, List.length_take]; rfl)) ?_; (with_reducible refine (platenref01_Width.calls a1_5 t167 _ A3.out).mono ?_); rintro e w' ⟨rfl, ⟨nd, rfl⟩⟩; refine ⟨_, rfl, ?_⟩) | ((with_reducible refine gate_callee (f := 52) rfl ?_); refine goesL_ (some 10) rfl rfl Tryd.func52 (by kernel_rfl) rfl #[.string a0] rfl (by (try simp only [List.map_toArray, List.map_cons, List.map_nil]); first | done | rfl | (simp only [List.length_drop, List.length_take]; rfl)) ?_; (with_reducible refine (platenref01_Count.calls k a0 t168 _ A4.out).mono ?_); rintro e w29 ⟨rfl, hb⟩; refine ⟨_, rfl, ?_⟩; have n0_ := Aside0.mk (blk_below (g := gb166) (o := .cells #[.bool a1_0, .bool false, .bool a1_2, .bool a1_3, .bool false, .int .i64 a1_5, .int .i64 a1_6, .int .i32 a1_7] 28 (0, 0)) (by (with_reducible repeat (first | refine blk_drewN ?_ _ | refine blk_drew ?_ | refine blk_alloc ?_ _)); exact BK166.out) hb); have n1_ := Aside0.mk (below_step (by repeat (first | (with_reducible first | exact HB.out | apply below_alloc | apply pw_below_drewN | apply below_drew1 | refine below_set ?_ GE166.out) | exact HB.out)) hb); clear BK166; clear HB; have BK166 := n0_; have HB := n1_; clear n0_ n1_; (try clear hb); (try clear hb2); (try clear hk); (try clear hi); have hcz30_0 : w29.cell? ⟨gb166, 0, none⟩ = some (.bool a1_0) := (blk_cell BK166.out 0).trans rfl; have hcz30_1 : w29.cell? ⟨gb166, 1, none⟩ = some (.bool false) := (blk_cell BK166.out 1).trans rfl; have hcz30_2 : w29.cell? ⟨gb166, 2, none⟩ = some (.bool a1_2) := (blk_cell BK166.out 2).trans rfl; have hcz30_3 : w29.cell? ⟨gb166, 3, none⟩ = some (.bool a1_3) := (blk_cell BK166.out 3).trans rfl; have hcz30_4 : w29.cell? ⟨gb166, 4, none⟩ = some (.bool false) := (blk_cell BK166.out 4).trans rfl; have hcz30_5 : w29.cell? ⟨gb166, 5, none⟩ = some (.int .i64 a1_5) := (blk_cell BK166.out 5).trans rfl; have hcz30_6 : w29.cell? ⟨gb166, 6, none⟩ = some (.int .i64 a1_6) := (blk_cell BK166.out 6).trans rfl; have hcz30_7 : w29.cell? ⟨gb166, 7, none⟩ = some (.int .i32 a1_7) := (blk_cell BK166.out 7).trans rfl; have hfz30_0 := blk_frozen BK166.out 0; have hfz30_1 := blk_frozen BK166.out 1; have hfz30_2 := blk_frozen BK166.out 2; have hfz30_3 := blk_frozen BK166.out 3; have hfz30_4 := blk_frozen BK166.out 4; have hfz30_5 := blk_frozen BK166.out 5; have hfz30_6 := blk_frozen BK166.out 6; have hfz30_7 := blk_frozen BK166.out 7) | ((with_reducible refine gate_callee (f := 53) rfl ?_); refine goesL_ (some 28) rfl rfl Tryd.func53 (by kernel_rfl) rfl #[.int .u8 32, .int .i64 (wrap64 (t167 - t168))] rfl (by (try simp only [List.map_toArray, List.map_cons, List.map_nil]); first | done | rfl | (simp only [List.length_drop, List.length_take]; rfl)) ?_; (first | (with_reducible refine (platenref01_Fill.calls k 32 (wrap64 (t167 - t168)) t171 _ A25.out).mono ?_) | (simp only [i64_w]; (with_reducible refine (platenref01_Fill.calls k 32 (wrap64 (t167 - t168)) t171 _ A25.out).mono ?_))); rintro e w31 ⟨rfl, hb⟩; refine ⟨_, rfl, ?_⟩; have n0_ := Aside0.mk (blk_below (g := gb166) (o := .cells #[.bool a1_0, .bool false, .bool a1_2, .bool a1_3, .bool false, .int .i64 a1_5, .int .i64 a1_6, .int .i32 a1_7] 28 (0, 0)) (by (with_reducible repeat (first | refine blk_drewN ?_ _ | refine blk_drew ?_ | refine blk_alloc ?_ _)); exact BK166.out) hb); have n1_ := Aside0.mk (below_step (by repeat (first | (with_reducible first | exact HB.out | apply below_alloc | apply pw_below_drewN | apply below_drew1 | refine below_set ?_ GE166.out) | exact HB.out)) hb); clear BK166; clear HB; have BK166 := n0_; have HB := n1_; clear n0_ n1_; (try clear hb); (try clear hb2); (try clear hk); (try clear hi)))
     go_ret
     exact ⟨by first | rfl | (simp [errW_none, errW_some] <;> rfl) | (simp [*, errW_none, errW_some] <;> rfl), by repeat (first | (with_reducible first | exact HB.out | apply below_alloc | apply pw_below_drewN | apply below_drew1 | refine below_set ?_ GE166.out) | exact HB.out)⟩
    ·
     rw [if_neg c26] at H
     exact absurd H (by simp)
end Go.Proofs.YtcoippikicikoaaDoor.PQRef
namespace Go.Proofs.YtcoippikicikoaaDoor.PQRef
open Go.RowKit Go.Proofs.YtcoippikicikoaaDoorW.PrintWords Go.Proofs.YtcoippikicikoaaDoorW.PrintLast Go.Proofs.YtcoippikicikoaaDoorW.PrintMore
attribute [local go_sem] max2_int min2_int max_two min_two
set_option linter.unusedVariables false
set_option linter.unusedSimpArgs false
mutual
def platenref02_Hex.j0 : Nat → ByteArray → Bool → Bool → Bool → Bool → Bool → Bool → Int → Int → Int → Option (ByteArray)
 | 0, _, _, _, _, _, _, _, _, _, _ => none
 | k + 1, x0, x18, x173000, x173001, x173002, x173003, x173004, x173005, x173006, x173007 => if x18 = true then (if 0 ≤ x173006 then (if x173006 ≤ (x0.size : Int) then (platenref02_Hex.j1 k (x0.extract 0 (x173006 : Int).toNat) x173000 x173001 x173002 x173003 x173004 x173005 x173006 x173007) else (none)) else (none)) else (platenref02_Hex.j1 k x0 x173000 x173001 x173002 x173003 x173004 x173005 x173006 x173007)
def platenref02_Hex.j1 : Nat → ByteArray → Bool → Bool → Bool → Bool → Bool → Int → Int → Int → Option (ByteArray)
 | 0, _, _, _, _, _, _, _, _, _ => none
 | k + 1, x0, x173000, x173001, x173002, x173003, x173004, x173005, x173006, x173007 => if x173002 = true then (if x173007 = 88 then (platenref02_Hex.j2 k x0 (x173007 == 88) (⟨#[48, 88]⟩ : ByteArray) x173000 x173001 x173002 x173003 x173004 x173005 x173006 x173007) else (platenref02_Hex.j2 k x0 (x173007 == 88) (⟨#[48, 120]⟩ : ByteArray) x173000 x173001 x173002 x173003 x173004 x173005 x173006 x173007)) else (platenref02_Hex.j2 k x0 (x173007 == 88) (⟨#[]⟩ : ByteArray) x173000 x173001 x173002 x173003 x173004 x173005 x173006 x173007)
def platenref02_Hex.j2 : Nat → ByteArray → Bool → ByteArray → Bool → Bool → Bool → Bool → Bool → Int → Int → Int → Option (ByteArray)
 | 0, _, _, _, _, _, _, _, _, _, _, _ => none
 | k + 1, x0, x5, x6, x173000, x173001, x173002, x173003, x173004, x173005, x173006, x173007 => platenref02_Hex.l0 k x0 x5 x6 (⟨#[]⟩ : ByteArray) 0 x173000 x173001 x173002 x173003 x173004 x173005 x173006 x173007
def platenref02_Hex.l0 : Nat → ByteArray → Bool → ByteArray → ByteArray → Int → Bool → Bool → Bool → Bool → Bool → Int → Int → Int → Option (ByteArray)
 | 0, _, _, _, _, _, _, _, _, _, _, _, _, _ => none
 | k + 1, x0, x5, x6, x7, x8, x173000, x173001, x173002, x173003, x173004, x173005, x173006, x173007 => if x8 < (x0.size : Int) then (if x8 > 0 then (platenref02_Hex.j4 k x0 x5 x6 x7 x8 x173003 x173000 x173001 x173002 x173003 x173004 x173005 x173006 x173007) else (platenref02_Hex.j4 k x0 x5 x6 x7 x8 false x173000 x173001 x173002 x173003 x173004 x173005 x173006 x173007)) else ((platenref01_Pad.f k x7 x173000 x173001 x173002 x173003 x173004 x173005 x173006 x173007).bind fun t173 => (some t173))
def platenref02_Hex.j4 : Nat → ByteArray → Bool → ByteArray → ByteArray → Int → Bool → Bool → Bool → Bool → Bool → Bool → Int → Int → Int → Option (ByteArray)
 | 0, _, _, _, _, _, _, _, _, _, _, _, _, _, _ => none
 | k + 1, x0, x5, x6, x7, x8, x40, x173000, x173001, x173002, x173003, x173004, x173005, x173006, x173007 => if x40 = true then (if 1 + x6.size ≤ 9223372036854775807 then (if x7.size + ((⟨#[32]⟩ : ByteArray) ++ x6).size ≤ 9223372036854775807 then (platenref02_Hex.j5 k x0 x5 x6 (x7 ++ ((⟨#[32]⟩ : ByteArray) ++ x6)) x8 x173000 x173001 x173002 x173003 x173004 x173005 x173006 x173007) else (none)) else (none)) else (platenref02_Hex.j5 k x0 x5 x6 x7 x8 x173000 x173001 x173002 x173003 x173004 x173005 x173006 x173007)
def platenref02_Hex.j5 : Nat → ByteArray → Bool → ByteArray → ByteArray → Int → Bool → Bool → Bool → Bool → Bool → Int → Int → Int → Option (ByteArray)
 | 0, _, _, _, _, _, _, _, _, _, _, _, _, _ => none
 | k + 1, x0, x5, x6, x7, x8, x173000, x173001, x173002, x173003, x173004, x173005, x173006, x173007 => if x8 = 0 then (if x7.size + x6.size ≤ 9223372036854775807 then (if 0 ≤ x8 then (if x8 < (x0.size : Int) then ((platenref02_Digit.f (wrap64 (Int.tdiv (wrap64 (bt x0 x8)) 16)) x5).bind fun t174 => ((platenref02_Digit.f (Int.tmod (wrap64 (bt x0 x8)) 16) x5).bind fun t175 => (if t174.size + t175.size ≤ 9223372036854775807 then (if (x7 ++ x6).size + (t174 ++ t175).size ≤ 9223372036854775807 then (platenref02_Hex.l0 k x0 x5 x6 ((x7 ++ x6) ++ (t174 ++ t175)) (wrap64 (x8 + 1)) x173000 x173001 x173002 x173003 x173004 x173005 x173006 x173007) else (none)) else (none)))) else (none)) else (none)) else (none)) else (if 0 ≤ x8 then (if x8 < (x0.size : Int) then ((platenref02_Digit.f (wrap64 (Int.tdiv (wrap64 (bt x0 x8)) 16)) x5).bind fun t176 => ((platenref02_Digit.f (Int.tmod (wrap64 (bt x0 x8)) 16) x5).bind fun t177 => (if t176.size + t177.size ≤ 9223372036854775807 then (if x7.size + (t176 ++ t177).size ≤ 9223372036854775807 then (platenref02_Hex.l0 k x0 x5 x6 (x7 ++ (t176 ++ t177)) (wrap64 (x8 + 1)) x173000 x173001 x173002 x173003 x173004 x173005 x173006 x173007) else (none)) else (none)))) else (none)) else (none))
end
def platenref02_Hex.f (k : Nat) (a0 : ByteArray) (a1_0 : Bool) (a1_1 : Bool) (a1_2 : Bool) (a1_3 : Bool) (a1_4 : Bool) (a1_5 : Int) (a1_6 : Int) (a1_7 : Int) : Option (ByteArray) := if a1_6 ≥ 0 then (platenref02_Hex.j0 k a0 (decide (a1_6 < (a0.size : Int))) a1_0 a1_1 a1_2 a1_3 a1_4 a1_5 a1_6 a1_7) else (platenref02_Hex.j0 k a0 false a1_0 a1_1 a1_2 a1_3 a1_4 a1_5 a1_6 a1_7)
set_option maxHeartbeats 8000000 in
set_option maxRecDepth 100000 in
theorem platenref02_Hex.calls (k : Nat) (a0 : ByteArray) (a1_0 : Bool) (a1_1 : Bool) (a1_2 : Bool) (a1_3 : Bool) (a1_4 : Bool) (a1_5 : Int) (a1_6 : Int) (a1_7 : Int) (r : ByteArray) (w : World) (h : platenref02_Hex.f k a0 a1_0 a1_1 a1_2 a1_3 a1_4 a1_5 a1_6 a1_7 = some r) :
 Calls Tryd.prog 16 #[.string a0, .agg #[.bool a1_0, .bool a1_1, .bool a1_2, .bool a1_3, .bool a1_4, .int .i64 a1_5, .int .i64 a1_6, .int .i32 a1_7]] w fun e w' => e = .returned (.string r) ∧ Below w.heap.size w w' := by
 have hu28 := Tryd.underlying28
 have HB := Aside0.mk (Below.refl w.heap.size w)
 have H : (if a1_6 ≥ 0 then (platenref02_Hex.j0 k a0 (decide (a1_6 < (a0.size : Int))) a1_0 a1_1 a1_2 a1_3 a1_4 a1_5 a1_6 a1_7) else (platenref02_Hex.j0 k a0 false a1_0 a1_1 a1_2 a1_3 a1_4 a1_5 a1_6 a1_7)) = some r := h
 clear h
 have HC3 := Aside0.mk H
 clear H
 go_enter Tryd.func16, Tryd.ntmps16
 go_upto_region 1 with (first | ((with_reducible refine gate_dst (N := 3) rfl ?_); (try (refine gate_guard (by rfl) ?_; dsimp only)); refine box_event ?hg (N := 3) ?hd (cs := #[.bool a1_0, .bool a1_1, .bool a1_2, .bool a1_3, .bool a1_4, .int .i64 a1_5, .int .i64 a1_6, .int .i32 a1_7]) (t := 28) ?hr ?_; (case hd => rfl); (case hg => rfl); (case hr => first | (go_simp; done) | (go_simp; rfl)); intro gb172 hg w4 hbox hb; have n0_ := Aside0.mk (below_step (by repeat (first | (with_reducible first | exact HB.out | apply below_alloc | apply pw_below_drewN | apply below_drew1) | exact HB.out)) hb); have n1_ := Aside0.mk (hbox); have n2_ := Aside0.mk ((by rw [hg]; exact (below_size (by repeat (first | (with_reducible first | exact HB.out | apply below_alloc | apply pw_below_drewN | apply below_drew1) | exact HB.out))) : w.heap.size ≤ gb172)); have n3_ := Aside0.mk ((by rw [hg]; exact (below_size (by repeat (first | (with_reducible first | exact HB.out | apply below_alloc | apply pw_below_drewN | apply below_drew1) | exact HB.out))) : w.heap.size ≤ gb172)); clear HB; have HB := n0_; have BK172 := n1_; have GW172 := n2_; have GE172 := n3_; clear n0_ n1_ n2_ n3_; clear hb hbox hg))
 repeat (go_quiet (first | ((with_reducible refine gate_dst (N := 3) rfl ?_); (try (refine gate_guard (by rfl) ?_; dsimp only)); refine box_event ?hg (N := 3) ?hd (cs := #[.bool a1_0, .bool a1_1, .bool a1_2, .bool a1_3, .bool a1_4, .int .i64 a1_5, .int .i64 a1_6, .int .i32 a1_7]) (t := 28) ?hr ?_; (case hd => rfl); (case hg => rfl); (case hr => first | (go_simp; done) | (go_simp; rfl)); intro gb172 hg w4 hbox hb; have n0_ := Aside0.mk (below_step (by repeat (first | (with_reducible first | exact HB.out | apply below_alloc | apply pw_below_drewN | apply below_drew1) | exact HB.out)) hb); have n1_ := Aside0.mk (hbox); have n2_ := Aside0.mk ((by rw [hg]; exact (below_size (by repeat (first | (with_reducible first | exact HB.out | apply below_alloc | apply pw_below_drewN | apply below_drew1) | exact HB.out))) : w.heap.size ≤ gb172)); have n3_ := Aside0.mk ((by rw [hg]; exact (below_size (by repeat (first | (with_reducible first | exact HB.out | apply below_alloc | apply pw_below_drewN | apply below_drew1) | exact HB.out))) : w.heap.size ≤ gb172)); clear HB; have HB := n0_; have BK172 := n1_; have GW172 := n2_; have GE172 := n3_; clear n0_ n1_ n2_ n3_; clear hb hbox hg)); go_upto_region 1 with (first | ((with_reducible refine gate_dst (N := 3) rfl ?_); (try (refine gate_guard (by rfl) ?_; dsimp only)); refine box_event ?hg (N := 3) ?hd (cs := #[.bool a1_0, .bool a1_1, .bool a1_2, .bool a1_3, .bool a1_4, .int .i64 a1_5, .int .i64 a1_6, .int .i32 a1_7]) (t := 28) ?hr ?_; (case hd => rfl); (case hg => rfl); (case hr => first | (go_simp; done) | (go_simp; rfl)); intro gb172 hg w4 hbox hb; have n0_ := Aside0.mk (below_step (by repeat (first | (with_reducible first | exact HB.out | apply below_alloc | apply pw_below_drewN | apply below_drew1) | exact HB.out)) hb); have n1_ := Aside0.mk (hbox); have n2_ := Aside0.mk ((by rw [hg]; exact (below_size (by repeat (first | (with_reducible first | exact HB.out | apply below_alloc | apply pw_below_drewN | apply below_drew1) | exact HB.out))) : w.heap.size ≤ gb172)); have n3_ := Aside0.mk ((by rw [hg]; exact (below_size (by repeat (first | (with_reducible first | exact HB.out | apply below_alloc | apply pw_below_drewN | apply below_drew1) | exact HB.out))) : w.heap.size ≤ gb172)); clear HB; have HB := n0_; have BK172 := n1_; have GW172 := n2_; have GE172 := n3_; clear n0_ n1_ n2_ n3_; clear hb hbox hg)))
 (try simp only [Act.put, List.setIfInBounds_toArray, List.set_cons_zero, List.set_cons_succ])
 go_cut [18] (fun v18 wc => ∃ (kq : Nat) (x18_2 : Bool), v18 = .bool x18_2 ∧ Aside0 (platenref02_Hex.j0 kq a0 x18_2 a1_0 a1_1 a1_2 a1_3 a1_4 a1_5 a1_6 a1_7 = some r) ∧ Aside0 (kq ≤ k) ∧ Aside0 (wc.heap[gb172]? = some (.cells #[.bool a1_0, .bool a1_1, .bool a1_2, .bool a1_3, .bool a1_4, .int .i64 a1_5, .int .i64 a1_6, .int .i32 a1_7] 28 (0, 0))) ∧ Aside0 (Below w.heap.size w wc))
 case first =>
  have H := HC3.out
  clear HC3
  by_cases c5 : a1_6 ≥ 0
  ·
   rw [if_pos c5] at H
   have c5b0 : decide (0 ≤ a1_6) = true := decide_eq_true c5
   clear c5
   (first | rw [c5b0] | (simp only [i64_w, i32_w]; rw [c5b0]) | skip)
   have H' := Aside0.mk H
   clear H
   have hcz6_0 : w4.cell? ⟨gb172, 0, none⟩ = some (.bool a1_0) := (blk_cell BK172.out 0).trans rfl
   have hcz6_1 : w4.cell? ⟨gb172, 1, none⟩ = some (.bool a1_1) := (blk_cell BK172.out 1).trans rfl
   have hcz6_2 : w4.cell? ⟨gb172, 2, none⟩ = some (.bool a1_2) := (blk_cell BK172.out 2).trans rfl
   have hcz6_3 : w4.cell? ⟨gb172, 3, none⟩ = some (.bool a1_3) := (blk_cell BK172.out 3).trans rfl
   have hcz6_4 : w4.cell? ⟨gb172, 4, none⟩ = some (.bool a1_4) := (blk_cell BK172.out 4).trans rfl
   have hcz6_5 : w4.cell? ⟨gb172, 5, none⟩ = some (.int .i64 a1_5) := (blk_cell BK172.out 5).trans rfl
   have hcz6_6 : w4.cell? ⟨gb172, 6, none⟩ = some (.int .i64 a1_6) := (blk_cell BK172.out 6).trans rfl
   have hcz6_7 : w4.cell? ⟨gb172, 7, none⟩ = some (.int .i32 a1_7) := (blk_cell BK172.out 7).trans rfl
   have hfz6_0 := blk_frozen BK172.out 0
   have hfz6_1 := blk_frozen BK172.out 1
   have hfz6_2 := blk_frozen BK172.out 2
   have hfz6_3 := blk_frozen BK172.out 3
   have hfz6_4 := blk_frozen BK172.out 4
   have hfz6_5 := blk_frozen BK172.out 5
   have hfz6_6 := blk_frozen BK172.out 6
   have hfz6_7 := blk_frozen BK172.out 7
   go_wp2
   repeat (go_quiet (fail); try go_wp2)
   go_meet
   case rel => exact ⟨_, (decide (a1_6 < (a0.size : Int))), (by first | rfl | (simp; done) | (simp [*]; done)), H', ⟨by first | omega | exact Nat.le_refl _⟩, ⟨by (with_reducible repeat (first | refine blk_drewN ?_ _ | refine blk_drew ?_ | refine blk_alloc ?_ _)); exact BK172.out⟩, ⟨by repeat (first | (with_reducible first | exact HB.out | apply below_alloc | apply pw_below_drewN | apply below_drew1 | refine below_set ?_ GE172.out) | exact HB.out)⟩⟩
  ·
   rw [if_neg c5] at H
   have c5b0 : decide (0 ≤ a1_6) = false := decide_eq_false c5
   clear c5
   (first | rw [c5b0] | (simp only [i64_w, i32_w]; rw [c5b0]) | skip)
   have H' := Aside0.mk H
   clear H
   have hcz7_0 : w4.cell? ⟨gb172, 0, none⟩ = some (.bool a1_0) := (blk_cell BK172.out 0).trans rfl
   have hcz7_1 : w4.cell? ⟨gb172, 1, none⟩ = some (.bool a1_1) := (blk_cell BK172.out 1).trans rfl
   have hcz7_2 : w4.cell? ⟨gb172, 2, none⟩ = some (.bool a1_2) := (blk_cell BK172.out 2).trans rfl
   have hcz7_3 : w4.cell? ⟨gb172, 3, none⟩ = some (.bool a1_3) := (blk_cell BK172.out 3).trans rfl
   have hcz7_4 : w4.cell? ⟨gb172, 4, none⟩ = some (.bool a1_4) := (blk_cell BK172.out 4).trans rfl
   have hcz7_5 : w4.cell? ⟨gb172, 5, none⟩ = some (.int .i64 a1_5) := (blk_cell BK172.out 5).trans rfl
   have hcz7_6 : w4.cell? ⟨gb172, 6, none⟩ = some (.int .i64 a1_6) := (blk_cell BK172.out 6).trans rfl
   have hcz7_7 : w4.cell? ⟨gb172, 7, none⟩ = some (.int .i32 a1_7) := (blk_cell BK172.out 7).trans rfl
   have hfz7_0 := blk_frozen BK172.out 0
   have hfz7_1 := blk_frozen BK172.out 1
   have hfz7_2 := blk_frozen BK172.out 2
   have hfz7_3 := blk_frozen BK172.out 3
   have hfz7_4 := blk_frozen BK172.out 4
   have hfz7_5 := blk_frozen BK172.out 5
   have hfz7_6 := blk_frozen BK172.out 6
   have hfz7_7 := blk_frozen BK172.out 7
   go_wp2
   repeat (go_quiet (fail); try go_wp2)
   go_meet
   case rel => exact ⟨_, (false), (by first | rfl | (simp; done) | (simp [*]; done)), H', ⟨by first | omega | exact Nat.le_refl _⟩, ⟨by (with_reducible repeat (first | refine blk_drewN ?_ _ | refine blk_drew ?_ | refine blk_alloc ?_ _)); exact BK172.out⟩, ⟨by repeat (first | (with_reducible first | exact HB.out | apply below_alloc | apply pw_below_drewN | apply below_drew1 | refine below_set ?_ GE172.out) | exact HB.out)⟩⟩
 case rest =>
  clear HC3
  try clear c1
  try clear p2
  try clear c5
  try clear c5b0
  try clear hcz6_0
  try clear hcz6_1
  try clear hcz6_2
  try clear hcz6_3
  try clear hcz6_4
  try clear hcz6_5
  try clear hcz6_6
  try clear hcz6_7
  try clear hcz7_0
  try clear hcz7_1
  try clear hcz7_2
  try clear hcz7_3
  try clear hcz7_4
  try clear hcz7_5
  try clear hcz7_6
  try clear hcz7_7
  try clear hfz6_0
  try clear hfz6_1
  try clear hfz6_2
  try clear hfz6_3
  try clear hfz6_4
  try clear hfz6_5
  try clear hfz6_6
  try clear hfz6_7
  try clear hfz7_0
  try clear hfz7_1
  try clear hfz7_2
  try clear hfz7_3
  try clear hfz7_4
  try clear hfz7_5
  try clear hfz7_6
  try clear hfz7_7
  obtain ⟨kq, x18_2, rfl, HA, HJ2, BK172, HB⟩ := hcut
  cases kq with
  | zero => exact absurd HA.out (by simp [platenref02_Hex.j0])
  | succ kj2 =>
   have H := HA.out
   clear HA
   simp only [platenref02_Hex.j0] at H
   have HC8 := Aside0.mk H
   clear H
   go_upto_if 18 with (fail)
   repeat (go_quiet (fail); go_upto_if 18 with (fail))
   go_cut [0] (fun v0 wc => ∃ (kq : Nat) (x0_7 : ByteArray), v0 = .string x0_7 ∧ Aside0 (platenref02_Hex.j1 kq x0_7 a1_0 a1_1 a1_2 a1_3 a1_4 a1_5 a1_6 a1_7 = some r) ∧ Aside0 (kq ≤ kj2) ∧ Aside0 (wc.heap[gb172]? = some (.cells #[.bool a1_0, .bool a1_1, .bool a1_2, .bool a1_3, .bool a1_4, .int .i64 a1_5, .int .i64 a1_6, .int .i32 a1_7] 28 (0, 0))) ∧ Aside0 (Below w.heap.size w wc))
   case first =>
    have H := HC8.out
    clear HC8
    by_cases c9 : x18_2 = true
    ·
     subst c9
     have H1 : (if 0 ≤ a1_6 then (if a1_6 ≤ (a0.size : Int) then (platenref02_Hex.j1 kj2 (a0.extract 0 (a1_6 : Int).toNat) a1_0 a1_1 a1_2 a1_3 a1_4 a1_5 a1_6 a1_7) else (none)) else (none)) = some r := by rw [if_pos rfl] at H; exact H
     clear H
     have H := H1
     clear H1
     by_cases c10 : 0 ≤ a1_6
     ·
      rw [if_pos c10] at H
      have c10b0 := eq_true c10
      have c10b1 : decide (0 ≤ a1_6) = true := decide_eq_true c10
      clear c10
      by_cases c11 : a1_6 ≤ (a0.size : Int)
      ·
       rw [if_pos c11] at H
       have c11b0 := eq_true c11
       have c11b1 : decide (a1_6 ≤ (a0.size : Int)) = true := decide_eq_true c11
       clear c11
       have H' := Aside0.mk H
       clear H
       have hcz12_0 : wc.cell? ⟨gb172, 0, none⟩ = some (.bool a1_0) := (blk_cell BK172.out 0).trans rfl
       have hcz12_1 : wc.cell? ⟨gb172, 1, none⟩ = some (.bool a1_1) := (blk_cell BK172.out 1).trans rfl
       have hcz12_2 : wc.cell? ⟨gb172, 2, none⟩ = some (.bool a1_2) := (blk_cell BK172.out 2).trans rfl
       have hcz12_3 : wc.cell? ⟨gb172, 3, none⟩ = some (.bool a1_3) := (blk_cell BK172.out 3).trans rfl
       have hcz12_4 : wc.cell? ⟨gb172, 4, none⟩ = some (.bool a1_4) := (blk_cell BK172.out 4).trans rfl
       have hcz12_5 : wc.cell? ⟨gb172, 5, none⟩ = some (.int .i64 a1_5) := (blk_cell BK172.out 5).trans rfl
       have hcz12_6 : wc.cell? ⟨gb172, 6, none⟩ = some (.int .i64 a1_6) := (blk_cell BK172.out 6).trans rfl
       have hcz12_7 : wc.cell? ⟨gb172, 7, none⟩ = some (.int .i32 a1_7) := (blk_cell BK172.out 7).trans rfl
       have hfz12_0 := blk_frozen BK172.out 0
       have hfz12_1 := blk_frozen BK172.out 1
       have hfz12_2 := blk_frozen BK172.out 2
       have hfz12_3 := blk_frozen BK172.out 3
       have hfz12_4 := blk_frozen BK172.out 4
       have hfz12_5 := blk_frozen BK172.out 5
       have hfz12_6 := blk_frozen BK172.out 6
       have hfz12_7 := blk_frozen BK172.out 7
       go_wp2
       repeat (go_quiet (fail); try go_wp2)
       go_meet
       case rel => exact ⟨_, (a0.extract 0 (a1_6 : Int).toNat), (by first | rfl | (simp; done) | (simp [*]; done)), H', ⟨by have := HJ2.out; first | omega | exact Nat.le_refl _⟩, ⟨by (with_reducible repeat (first | refine blk_drewN ?_ _ | refine blk_drew ?_ | refine blk_alloc ?_ _)); exact BK172.out⟩, ⟨by repeat (first | (with_reducible first | exact HB.out | apply below_alloc | apply pw_below_drewN | apply below_drew1 | refine below_set ?_ GE172.out) | exact HB.out)⟩⟩
      ·
       rw [if_neg c11] at H
       exact absurd H (by simp)
     ·
      rw [if_neg c10] at H
      exact absurd H (by simp)
    ·
     replace c9 := Bool.eq_false_iff.mpr c9
     subst c9
     have H1 : (platenref02_Hex.j1 kj2 a0 a1_0 a1_1 a1_2 a1_3 a1_4 a1_5 a1_6 a1_7) = some r := by rw [if_neg (show ¬ (false = true) by decide)] at H; exact H
     clear H
     have H := H1
     clear H1
     have H' := Aside0.mk H
     clear H
     go_wp2
     repeat (go_quiet (fail); try go_wp2)
     go_meet
     case rel => exact ⟨_, (a0), (by first | rfl | (simp; done) | (simp [*]; done)), H', ⟨by have := HJ2.out; first | omega | exact Nat.le_refl _⟩, ⟨by (with_reducible repeat (first | refine blk_drewN ?_ _ | refine blk_drew ?_ | refine blk_alloc ?_ _)); exact BK172.out⟩, ⟨by repeat (first | (with_reducible first | exact HB.out | apply below_alloc | apply pw_below_drewN | apply below_drew1 | refine below_set ?_ GE172.out) | exact HB.out)⟩⟩
   case rest =>
    clear HC8
    try clear c1
    try clear p2
    try clear c5
    try clear c5b0
    try clear c9
    try clear c10
    try clear c10b0
    try clear c10b1
    try clear c11
    try clear c11b0
    try clear c11b1
    try clear hcz12_0
    try clear hcz12_1
    try clear hcz12_2
    try clear hcz12_3
    try clear hcz12_4
    try clear hcz12_5
    try clear hcz12_6
    try clear hcz12_7
    try clear hcz6_0
    try clear hcz6_1
    try clear hcz6_2
    try clear hcz6_3
    try clear hcz6_4
    try clear hcz6_5
    try clear hcz6_6
    try clear hcz6_7
    try clear hcz7_0
    try clear hcz7_1
    try clear hcz7_2
    try clear hcz7_3
    try clear hcz7_4
    try clear hcz7_5
    try clear hcz7_6
    try clear hcz7_7
    try clear hfz12_0
    try clear hfz12_1
    try clear hfz12_2
    try clear hfz12_3
    try clear hfz12_4
    try clear hfz12_5
    try clear hfz12_6
    try clear hfz12_7
    try clear hfz6_0
    try clear hfz6_1
    try clear hfz6_2
    try clear hfz6_3
    try clear hfz6_4
    try clear hfz6_5
    try clear hfz6_6
    try clear hfz6_7
    try clear hfz7_0
    try clear hfz7_1
    try clear hfz7_2
    try clear hfz7_3
    try clear hfz7_4
    try clear hfz7_5
    try clear hfz7_6
    try clear hfz7_7
    try clear p2
    obtain ⟨kq, x0_7, rfl, HA, HJ7, BK172, HB⟩ := hcut
    cases kq with
    | zero => exact absurd HA.out (by simp [platenref02_Hex.j1])
    | succ kj7 =>
     have H := HA.out
     clear HA
     simp only [platenref02_Hex.j1] at H
     have HC13 := Aside0.mk H
     clear H
     have hcz14_0 : wc.cell? ⟨gb172, 0, none⟩ = some (.bool a1_0) := (blk_cell BK172.out 0).trans rfl
     have hcz14_1 : wc.cell? ⟨gb172, 1, none⟩ = some (.bool a1_1) := (blk_cell BK172.out 1).trans rfl
     have hcz14_2 : wc.cell? ⟨gb172, 2, none⟩ = some (.bool a1_2) := (blk_cell BK172.out 2).trans rfl
     have hcz14_3 : wc.cell? ⟨gb172, 3, none⟩ = some (.bool a1_3) := (blk_cell BK172.out 3).trans rfl
     have hcz14_4 : wc.cell? ⟨gb172, 4, none⟩ = some (.bool a1_4) := (blk_cell BK172.out 4).trans rfl
     have hcz14_5 : wc.cell? ⟨gb172, 5, none⟩ = some (.int .i64 a1_5) := (blk_cell BK172.out 5).trans rfl
     have hcz14_6 : wc.cell? ⟨gb172, 6, none⟩ = some (.int .i64 a1_6) := (blk_cell BK172.out 6).trans rfl
     have hcz14_7 : wc.cell? ⟨gb172, 7, none⟩ = some (.int .i32 a1_7) := (blk_cell BK172.out 7).trans rfl
     have hfz14_0 := blk_frozen BK172.out 0
     have hfz14_1 := blk_frozen BK172.out 1
     have hfz14_2 := blk_frozen BK172.out 2
     have hfz14_3 := blk_frozen BK172.out 3
     have hfz14_4 := blk_frozen BK172.out 4
     have hfz14_5 := blk_frozen BK172.out 5
     have hfz14_6 := blk_frozen BK172.out 6
     have hfz14_7 := blk_frozen BK172.out 7
     go_upto_if 27 with (fail)
     repeat (go_quiet (fail); go_upto_if 27 with (fail))
     go_cut [6] (fun v6 wc => ∃ (kq : Nat) (x6_12 : ByteArray), v6 = .string x6_12 ∧ Aside0 (platenref02_Hex.j2 kq x0_7 (a1_7 == 88) x6_12 a1_0 a1_1 a1_2 a1_3 a1_4 a1_5 a1_6 a1_7 = some r) ∧ Aside0 (kq ≤ kj7) ∧ Aside0 (wc.heap[gb172]? = some (.cells #[.bool a1_0, .bool a1_1, .bool a1_2, .bool a1_3, .bool a1_4, .int .i64 a1_5, .int .i64 a1_6, .int .i32 a1_7] 28 (0, 0))) ∧ Aside0 (Below w.heap.size w wc))
     case first =>
      have H := HC13.out
      clear HC13
      by_cases c15 : a1_2 = true
      ·
       subst c15
       have H1 : (if a1_7 = 88 then (platenref02_Hex.j2 kj7 x0_7 (a1_7 == 88) (⟨#[48, 88]⟩ : ByteArray) a1_0 a1_1 true a1_3 a1_4 a1_5 a1_6 a1_7) else (platenref02_Hex.j2 kj7 x0_7 (a1_7 == 88) (⟨#[48, 120]⟩ : ByteArray) a1_0 a1_1 true a1_3 a1_4 a1_5 a1_6 a1_7)) = some r := by rw [if_pos rfl] at H; exact H
       clear H
       have H := H1
       clear H1
       by_cases c16 : a1_7 = 88
       ·
        rw [if_pos c16] at H
        have c16b0 : (a1_7 == 88) = true := beq_iff_eq.mpr c16
        have c16b1 : (a1_7 != 88) = false := bne_eq_false_iff_eq.mpr c16
        clear c16
        (first | rw [c16b0] | (simp only [i64_w, i32_w]; rw [c16b0]) | skip)
        have H' := Aside0.mk H
        clear H
        go_wp2
        repeat (go_quiet (fail); try go_wp2)
        (first | go_meet | (refine Met.intro ?_; go_step; (repeat apply Exists.intro); refine ⟨?rel, (by first | rfl | (simp only [c16b0]; rfl))⟩))
        case rel => exact ⟨_, ((⟨#[48, 88]⟩ : ByteArray)), (by first | rfl | (simp; done) | (simp [*]; done)), H', ⟨by have := HJ2.out; have := HJ7.out; first | omega | exact Nat.le_refl _⟩, ⟨by (with_reducible repeat (first | refine blk_drewN ?_ _ | refine blk_drew ?_ | refine blk_alloc ?_ _)); exact BK172.out⟩, ⟨by repeat (first | (with_reducible first | exact HB.out | apply below_alloc | apply pw_below_drewN | apply below_drew1 | refine below_set ?_ GE172.out) | exact HB.out)⟩⟩
       ·
        rw [if_neg c16] at H
        have c16b0 : (a1_7 == 88) = false := beq_eq_false_iff_ne.mpr c16
        have c16b1 : (a1_7 != 88) = true := bne_iff_ne.mpr c16
        (first | rw [c16b0] | (simp only [i64_w, i32_w]; rw [c16b0]) | skip)
        have H' := Aside0.mk H
        clear H
        go_wp2
        repeat (go_quiet (fail); try go_wp2)
        (first | go_meet | (refine Met.intro ?_; go_step; (repeat apply Exists.intro); refine ⟨?rel, (by first | rfl | (simp only [c16b0]; rfl))⟩))
        case rel => exact ⟨_, ((⟨#[48, 120]⟩ : ByteArray)), (by first | rfl | (simp; done) | (simp [*]; done)), H', ⟨by have := HJ2.out; have := HJ7.out; first | omega | exact Nat.le_refl _⟩, ⟨by (with_reducible repeat (first | refine blk_drewN ?_ _ | refine blk_drew ?_ | refine blk_alloc ?_ _)); exact BK172.out⟩, ⟨by repeat (first | (with_reducible first | exact HB.out | apply below_alloc | apply pw_below_drewN | apply below_drew1 | refine below_set ?_ GE172.out) | exact HB.out)⟩⟩
      ·
       replace c15 := Bool.eq_false_iff.mpr c15
       subst c15
       have H1 : (platenref02_Hex.j2 kj7 x0_7 (a1_7 == 88) (⟨#[]⟩ : ByteArray) a1_0 a1_1 false a1_3 a1_4 a1_5 a1_6 a1_7) = some r := by rw [if_neg (show ¬ (false = true) by decide)] at H; exact H
       clear H
       have H := H1
       clear H1
       have H' := Aside0.mk H
       clear H
       go_wp2
       repeat (go_quiet (fail); try go_wp2)
       go_meet
       case rel => exact ⟨_, ((⟨#[]⟩ : ByteArray)), (by first | rfl | (simp; done) | (simp [*]; done)), H', ⟨by have := HJ2.out; have := HJ7.out; first | omega | exact Nat.le_refl _⟩, ⟨by (with_reducible repeat (first | refine blk_drewN ?_ _ | refine blk_drew ?_ | refine blk_alloc ?_ _)); exact BK172.out⟩, ⟨by repeat (first | (with_reducible first | exact HB.out | apply below_alloc | apply pw_below_drewN | apply below_drew1 | refine below_set ?_ GE172.out) | exact HB.out)⟩⟩
     case rest =>
      clear HC13
      try clear c1
      try clear p2
      try clear c5
      try clear c5b0
      try clear c9
      try clear c10
      try clear c10b0
      try clear c10b1
      try clear c11
      try clear c11b0
      try clear c11b1
      try clear c15
      try clear c16
      try clear c16b0
      try clear c16b1
      try clear hcz12_0
      try clear hcz12_1
      try clear hcz12_2
      try clear hcz12_3
      try clear hcz12_4
      try clear hcz12_5
      try clear hcz12_6
      try clear hcz12_7
      try clear hcz14_0
      try clear hcz14_1
      try clear hcz14_2
      try clear hcz14_3
      try clear hcz14_4
      try clear hcz14_5
      try clear hcz14_6
      try clear hcz14_7
      try clear hcz6_0
      try clear hcz6_1
      try clear hcz6_2
      try clear hcz6_3
      try clear hcz6_4
      try clear hcz6_5
      try clear hcz6_6
      try clear hcz6_7
      try clear hcz7_0
      try clear hcz7_1
      try clear hcz7_2
      try clear hcz7_3
      try clear hcz7_4
      try clear hcz7_5
      try clear hcz7_6
      try clear hcz7_7
      try clear hfz12_0
      try clear hfz12_1
      try clear hfz12_2
      try clear hfz12_3
      try clear hfz12_4
      try clear hfz12_5
      try clear hfz12_6
      try clear hfz12_7
      try clear hfz14_0
      try clear hfz14_1
      try clear hfz14_2
      try clear hfz14_3
      try clear hfz14_4
      try clear hfz14_5
      try clear hfz14_6
      try clear hfz14_7
      try clear hfz6_0
      try clear hfz6_1
      try clear hfz6_2
      try clear hfz6_3
      try clear hfz6_4
      try clear hfz6_5
      try clear hfz6_6
      try clear hfz6_7
      try clear hfz7_0
      try clear hfz7_1
      try clear hfz7_2
      try clear hfz7_3
      try clear hfz7_4
      try clear hfz7_5
      try clear hfz7_6
      try clear hfz7_7
      try clear p2
      obtain ⟨kq, x6_12, rfl, HA, HJ12, BK172, HB⟩ := hcut
      cases kq with
      | zero => exact absurd HA.out (by simp [platenref02_Hex.j2])
      | succ kj12 =>
       have H := HA.out
       clear HA
       simp only [platenref02_Hex.j2] at H
       have H' := Aside0.mk H
       clear H
       go_wp2
       repeat (go_quiet (fail); try go_wp2)
       go_loopg [7, 8] kj12 (fun kq v7 v8 w' => ∃ (x7_4 : ByteArray) (x8_4 : Int), v7 = .string x7_4 ∧ v8 = .int .i64 x8_4 ∧ Aside0 (platenref02_Hex.l0 kq x0_7 (a1_7 == 88) x6_12 x7_4 x8_4 a1_0 a1_1 a1_2 a1_3 a1_4 a1_5 a1_6 a1_7 = some r) ∧ Aside0 (kq ≤ kj12) ∧ Aside0 (w'.heap[gb172]? = some (.cells #[.bool a1_0, .bool a1_1, .bool a1_2, .bool a1_3, .bool a1_4, .int .i64 a1_5, .int .i64 a1_6, .int .i32 a1_7] 28 (0, 0))) ∧ Aside0 (Below w.heap.size w w'))
       case atStart => exact ⟨((⟨#[]⟩ : ByteArray)), (0), (by first | rfl | (simp; done) | (simp [*]; done)), (by first | rfl | (simp; done) | (simp [*]; done)), H', ⟨Nat.le_refl _⟩, ⟨by (with_reducible repeat (first | refine blk_drewN ?_ _ | refine blk_drew ?_ | refine blk_alloc ?_ _)); exact BK172.out⟩, ⟨by repeat (first | (with_reducible first | exact HB.out | apply below_alloc | apply pw_below_drewN | apply below_drew1 | refine below_set ?_ GE172.out) | exact HB.out)⟩⟩
       case round =>
        clear H'
        try clear c1
        try clear p2
        try clear c5
        try clear c5b0
        try clear c9
        try clear c10
        try clear c10b0
        try clear c10b1
        try clear c11
        try clear c11b0
        try clear c11b1
        try clear c15
        try clear c16
        try clear c16b0
        try clear c16b1
        try clear hcz12_0
        try clear hcz12_1
        try clear hcz12_2
        try clear hcz12_3
        try clear hcz12_4
        try clear hcz12_5
        try clear hcz12_6
        try clear hcz12_7
        try clear hcz14_0
        try clear hcz14_1
        try clear hcz14_2
        try clear hcz14_3
        try clear hcz14_4
        try clear hcz14_5
        try clear hcz14_6
        try clear hcz14_7
        try clear hcz6_0
        try clear hcz6_1
        try clear hcz6_2
        try clear hcz6_3
        try clear hcz6_4
        try clear hcz6_5
        try clear hcz6_6
        try clear hcz6_7
        try clear hcz7_0
        try clear hcz7_1
        try clear hcz7_2
        try clear hcz7_3
        try clear hcz7_4
        try clear hcz7_5
        try clear hcz7_6
        try clear hcz7_7
        try clear hfz12_0
        try clear hfz12_1
        try clear hfz12_2
        try clear hfz12_3
        try clear hfz12_4
        try clear hfz12_5
        try clear hfz12_6
        try clear hfz12_7
        try clear hfz14_0
        try clear hfz14_1
        try clear hfz14_2
        try clear hfz14_3
        try clear hfz14_4
        try clear hfz14_5
        try clear hfz14_6
        try clear hfz14_7
        try clear hfz6_0
        try clear hfz6_1
        try clear hfz6_2
        try clear hfz6_3
        try clear hfz6_4
        try clear hfz6_5
        try clear hfz6_6
        try clear hfz6_7
        try clear hfz7_0
        try clear hfz7_1
        try clear hfz7_2
        try clear hfz7_3
        try clear hfz7_4
        try clear hfz7_5
        try clear hfz7_6
        try clear hfz7_7
        try clear p2
        obtain ⟨x7_4, x8_4, rfl, rfl, HA, HK4, BK172, HB⟩ := hrel
        cases gk with
        | zero => exact absurd HA.out (by simp [platenref02_Hex.l0])
        | succ k4 =>
         have H := HA.out
         clear HA
         simp only [platenref02_Hex.l0] at H
         by_cases c17 : x8_4 < (x0_7.size : Int)
         ·
          rw [if_pos c17] at H
          have c17b0 : decide (x8_4 < (x0_7.size : Int)) = true := decide_eq_true c17
          clear c17
          have HC18 := Aside0.mk H
          clear H
          go_upto_region 13 with (fail)
          repeat (go_quiet (fail); go_upto_region 13 with (fail))
          go_cut [40] (fun v40 wc => ∃ (kq : Nat) (x40_17 : Bool), v40 = .bool x40_17 ∧ Aside0 (platenref02_Hex.j4 kq x0_7 (a1_7 == 88) x6_12 x7_4 x8_4 x40_17 a1_0 a1_1 a1_2 a1_3 a1_4 a1_5 a1_6 a1_7 = some r) ∧ Aside0 (kq ≤ k4) ∧ Aside0 (wc.heap[gb172]? = some (.cells #[.bool a1_0, .bool a1_1, .bool a1_2, .bool a1_3, .bool a1_4, .int .i64 a1_5, .int .i64 a1_6, .int .i32 a1_7] 28 (0, 0))) ∧ Aside0 (Below w.heap.size w wc))
          case first =>
           have H := HC18.out
           clear HC18
           by_cases c19 : x8_4 > 0
           ·
            rw [if_pos c19] at H
            have c19b0 : decide (0 < x8_4) = true := decide_eq_true c19
            clear c19
            (first | rw [c19b0] | (simp only [i64_w, i32_w]; rw [c19b0]) | skip)
            have H' := Aside0.mk H
            clear H
            have hcz20_0 : wr.cell? ⟨gb172, 0, none⟩ = some (.bool a1_0) := (blk_cell BK172.out 0).trans rfl
            have hcz20_1 : wr.cell? ⟨gb172, 1, none⟩ = some (.bool a1_1) := (blk_cell BK172.out 1).trans rfl
            have hcz20_2 : wr.cell? ⟨gb172, 2, none⟩ = some (.bool a1_2) := (blk_cell BK172.out 2).trans rfl
            have hcz20_3 : wr.cell? ⟨gb172, 3, none⟩ = some (.bool a1_3) := (blk_cell BK172.out 3).trans rfl
            have hcz20_4 : wr.cell? ⟨gb172, 4, none⟩ = some (.bool a1_4) := (blk_cell BK172.out 4).trans rfl
            have hcz20_5 : wr.cell? ⟨gb172, 5, none⟩ = some (.int .i64 a1_5) := (blk_cell BK172.out 5).trans rfl
            have hcz20_6 : wr.cell? ⟨gb172, 6, none⟩ = some (.int .i64 a1_6) := (blk_cell BK172.out 6).trans rfl
            have hcz20_7 : wr.cell? ⟨gb172, 7, none⟩ = some (.int .i32 a1_7) := (blk_cell BK172.out 7).trans rfl
            have hfz20_0 := blk_frozen BK172.out 0
            have hfz20_1 := blk_frozen BK172.out 1
            have hfz20_2 := blk_frozen BK172.out 2
            have hfz20_3 := blk_frozen BK172.out 3
            have hfz20_4 := blk_frozen BK172.out 4
            have hfz20_5 := blk_frozen BK172.out 5
            have hfz20_6 := blk_frozen BK172.out 6
            have hfz20_7 := blk_frozen BK172.out 7
            go_wp2
            repeat (go_quiet (fail); try go_wp2)
            go_meet
            case rel => exact ⟨_, (a1_3), (by first | rfl | (simp; done) | (simp [*]; done)), H', ⟨by have := HJ2.out; have := HJ7.out; have := HJ12.out; have := HK4.out; first | omega | exact Nat.le_refl _⟩, ⟨by (with_reducible repeat (first | refine blk_drewN ?_ _ | refine blk_drew ?_ | refine blk_alloc ?_ _)); exact BK172.out⟩, ⟨by repeat (first | (with_reducible first | exact HB.out | apply below_alloc | apply pw_below_drewN | apply below_drew1 | refine below_set ?_ GE172.out) | exact HB.out)⟩⟩
           ·
            rw [if_neg c19] at H
            have c19b0 : decide (0 < x8_4) = false := decide_eq_false c19
            clear c19
            (first | rw [c19b0] | (simp only [i64_w, i32_w]; rw [c19b0]) | skip)
            have H' := Aside0.mk H
            clear H
            go_wp2
            repeat (go_quiet (fail); try go_wp2)
            go_meet
            case rel => exact ⟨_, (false), (by first | rfl | (simp; done) | (simp [*]; done)), H', ⟨by have := HJ2.out; have := HJ7.out; have := HJ12.out; have := HK4.out; first | omega | exact Nat.le_refl _⟩, ⟨by (with_reducible repeat (first | refine blk_drewN ?_ _ | refine blk_drew ?_ | refine blk_alloc ?_ _)); exact BK172.out⟩, ⟨by repeat (first | (with_reducible first | exact HB.out | apply below_alloc | apply pw_below_drewN | apply below_drew1 | refine below_set ?_ GE172.out) | exact HB.out)⟩⟩
          case rest =>
           clear HC18
           try clear c1
           try clear p2
           try clear c5
           try clear c5b0
           try clear c9
           try clear c10
           try clear c10b0
           try clear c10b1
           try clear c11
           try clear c11b0
           try clear c11b1
           try clear c15
           try clear c16
           try clear c16b0
           try clear c16b1
           try clear c17
           try clear c17b0
           try clear c19
           try clear c19b0
           try clear hcz12_0
           try clear hcz12_1
           try clear hcz12_2
           try clear hcz12_3
           try clear hcz12_4
           try clear hcz12_5
           try clear hcz12_6
           try clear hcz12_7
           try clear hcz14_0
           try clear hcz14_1
           try clear hcz14_2
           try clear hcz14_3
           try clear hcz14_4
           try clear hcz14_5
           try clear hcz14_6
           try clear hcz14_7
           try clear hcz20_0
           try clear hcz20_1
           try clear hcz20_2
           try clear hcz20_3
           try clear hcz20_4
           try clear hcz20_5
           try clear hcz20_6
           try clear hcz20_7
           try clear hcz6_0
           try clear hcz6_1
           try clear hcz6_2
           try clear hcz6_3
           try clear hcz6_4
           try clear hcz6_5
           try clear hcz6_6
           try clear hcz6_7
           try clear hcz7_0
           try clear hcz7_1
           try clear hcz7_2
           try clear hcz7_3
           try clear hcz7_4
           try clear hcz7_5
           try clear hcz7_6
           try clear hcz7_7
           try clear hfz12_0
           try clear hfz12_1
           try clear hfz12_2
           try clear hfz12_3
           try clear hfz12_4
           try clear hfz12_5
           try clear hfz12_6
           try clear hfz12_7
           try clear hfz14_0
           try clear hfz14_1
           try clear hfz14_2
           try clear hfz14_3
           try clear hfz14_4
           try clear hfz14_5
           try clear hfz14_6
           try clear hfz14_7
           try clear hfz20_0
           try clear hfz20_1
           try clear hfz20_2
           try clear hfz20_3
           try clear hfz20_4
           try clear hfz20_5
           try clear hfz20_6
           try clear hfz20_7
           try clear hfz6_0
           try clear hfz6_1
           try clear hfz6_2
           try clear hfz6_3
           try clear hfz6_4
           try clear hfz6_5
           try clear hfz6_6
           try clear hfz6_7
           try clear hfz7_0
           try clear hfz7_1
           try clear hfz7_2
           try clear hfz7_3
           try clear hfz7_4
           try clear hfz7_5
           try clear hfz7_6
           try clear hfz7_7
           try clear p2
           obtain ⟨kq, x40_17, rfl, HA, HJ17, BK172, HB⟩ := hcut
           cases kq with
           | zero => exact absurd HA.out (by simp [platenref02_Hex.j4])
           | succ kj17 =>
            have H := HA.out
            clear HA
            simp only [platenref02_Hex.j4] at H
            have HC21 := Aside0.mk H
            clear H
            go_upto_if 40 with (fail)
            repeat (go_quiet (fail); go_upto_if 40 with (fail))
            go_cut [7] (fun v7 wc => ∃ (kq : Nat) (x7_20 : ByteArray), v7 = .string x7_20 ∧ Aside0 (platenref02_Hex.j5 kq x0_7 (a1_7 == 88) x6_12 x7_20 x8_4 a1_0 a1_1 a1_2 a1_3 a1_4 a1_5 a1_6 a1_7 = some r) ∧ Aside0 (kq ≤ kj17) ∧ Aside0 (wc.heap[gb172]? = some (.cells #[.bool a1_0, .bool a1_1, .bool a1_2, .bool a1_3, .bool a1_4, .int .i64 a1_5, .int .i64 a1_6, .int .i32 a1_7] 28 (0, 0))) ∧ Aside0 (Below w.heap.size w wc))
            case first =>
             have H := HC21.out
             clear HC21
             by_cases c22 : x40_17 = true
             ·
              subst c22
              have H1 : (if 1 + x6_12.size ≤ 9223372036854775807 then (if x7_4.size + ((⟨#[32]⟩ : ByteArray) ++ x6_12).size ≤ 9223372036854775807 then (platenref02_Hex.j5 kj17 x0_7 (a1_7 == 88) x6_12 (x7_4 ++ ((⟨#[32]⟩ : ByteArray) ++ x6_12)) x8_4 a1_0 a1_1 a1_2 a1_3 a1_4 a1_5 a1_6 a1_7) else (none)) else (none)) = some r := by rw [if_pos rfl] at H; exact H
              clear H
              have H := H1
              clear H1
              by_cases c23 : 1 + x6_12.size ≤ 9223372036854775807
              ·
               rw [if_pos c23] at H
               have c23b0 := eq_true c23
               have c23b1 : decide (1 + x6_12.size ≤ 9223372036854775807) = true := decide_eq_true c23
               try have c23b2 : (9223372036854775807 < 1 + x6_12.size) = False := eq_false (Nat.not_lt.2 c23)
               by_cases c24 : x7_4.size + ((⟨#[32]⟩ : ByteArray) ++ x6_12).size ≤ 9223372036854775807
               ·
                rw [if_pos c24] at H
                have c24b0 := eq_true c24
                have c24b1 : decide (x7_4.size + ((⟨#[32]⟩ : ByteArray) ++ x6_12).size ≤ 9223372036854775807) = true := decide_eq_true c24
                try have c24b2 : (9223372036854775807 < x7_4.size + ((⟨#[32]⟩ : ByteArray) ++ x6_12).size) = False := eq_false (Nat.not_lt.2 c24)
                try have c24b4 : (9223372036854775807 < x7_4.size + (1 + x6_12.size)) = False := eq_false (by have z_ := c24; simp only [ByteArray.size_append', ByteArray.size_mk', List.size_toArray, List.length_cons, List.length_nil] at z_; omega)
                have H' := Aside0.mk H
                clear H
                go_wp2
                repeat (go_quiet (fail); try go_wp2)
                go_meet
                case rel => exact ⟨_, (x7_4 ++ ((⟨#[32]⟩ : ByteArray) ++ x6_12)), (by first | rfl | (simp; done) | (simp [*]; done)), H', ⟨by have := HJ2.out; have := HJ7.out; have := HJ12.out; have := HK4.out; have := HJ17.out; first | omega | exact Nat.le_refl _⟩, ⟨by (with_reducible repeat (first | refine blk_drewN ?_ _ | refine blk_drew ?_ | refine blk_alloc ?_ _)); exact BK172.out⟩, ⟨by repeat (first | (with_reducible first | exact HB.out | apply below_alloc | apply pw_below_drewN | apply below_drew1 | refine below_set ?_ GE172.out) | exact HB.out)⟩⟩
               ·
                rw [if_neg c24] at H
                exact absurd H (by simp)
              ·
               rw [if_neg c23] at H
               exact absurd H (by simp)
             ·
              replace c22 := Bool.eq_false_iff.mpr c22
              subst c22
              have H1 : (platenref02_Hex.j5 kj17 x0_7 (a1_7 == 88) x6_12 x7_4 x8_4 a1_0 a1_1 a1_2 a1_3 a1_4 a1_5 a1_6 a1_7) = some r := by rw [if_neg (show ¬ (false = true) by decide)] at H; exact H
              clear H
              have H := H1
              clear H1
              have H' := Aside0.mk H
              clear H
              go_wp2
              repeat (go_quiet (fail); try go_wp2)
              go_meet
              case rel => exact ⟨_, (x7_4), (by first | rfl | (simp; done) | (simp [*]; done)), H', ⟨by have := HJ2.out; have := HJ7.out; have := HJ12.out; have := HK4.out; have := HJ17.out; first | omega | exact Nat.le_refl _⟩, ⟨by (with_reducible repeat (first | refine blk_drewN ?_ _ | refine blk_drew ?_ | refine blk_alloc ?_ _)); exact BK172.out⟩, ⟨by repeat (first | (with_reducible first | exact HB.out | apply below_alloc | apply pw_below_drewN | apply below_drew1 | refine below_set ?_ GE172.out) | exact HB.out)⟩⟩
            case rest =>
             clear HC21
             try clear c1
             try clear c2
             try clear p2
             try clear c5
             try clear c5b0
             try clear c9
             try clear c10
             try clear c10b0
             try clear c10b1
             try clear c11
             try clear c11b0
             try clear c11b1
             try clear c15
             try clear c16
             try clear c16b0
             try clear c16b1
             try clear c17
             try clear c17b0
             try clear c19
             try clear c19b0
             try clear c22
             try clear c23
             try clear c23b0
             try clear c23b1
             try clear c23b2
             try clear c24
             try clear c24b0
             try clear c24b1
             try clear c24b2
             try clear hcz12_0
             try clear hcz12_1
             try clear hcz12_2
             try clear hcz12_3
             try clear hcz12_4
             try clear hcz12_5
             try clear hcz12_6
             try clear hcz12_7
             try clear hcz14_0
             try clear hcz14_1
             try clear hcz14_2
             try clear hcz14_3
             try clear hcz14_4
             try clear hcz14_5
             try clear hcz14_6
             try clear hcz14_7
             try clear hcz20_0
             try clear hcz20_1
             try clear hcz20_2
             try clear hcz20_3
             try clear hcz20_4
             try clear hcz20_5
             try clear hcz20_6
             try clear hcz20_7
             try clear hcz6_0
             try clear hcz6_1
             try clear hcz6_2
             try clear hcz6_3
             try clear hcz6_4
             try clear hcz6_5
             try clear hcz6_6
             try clear hcz6_7
             try clear hcz7_0
             try clear hcz7_1
             try clear hcz7_2
             try clear hcz7_3
             try clear hcz7_4
             try clear hcz7_5
             try clear hcz7_6
             try clear hcz7_7
             try clear hfz12_0
             try clear hfz12_1
             try clear hfz12_2
             try clear hfz12_3
             try clear hfz12_4
             try clear hfz12_5
             try clear hfz12_6
             try clear hfz12_7
             try clear hfz14_0
             try clear hfz14_1
             try clear hfz14_2
             try clear hfz14_3
             try clear hfz14_4
             try clear hfz14_5
             try clear hfz14_6
             try clear hfz14_7
             try clear hfz20_0
             try clear hfz20_1
             try clear hfz20_2
             try clear hfz20_3
             try clear hfz20_4
             try clear hfz20_5
             try clear hfz20_6
             try clear hfz20_7
             try clear hfz6_0
             try clear hfz6_1
             try clear hfz6_2
             try clear hfz6_3
             try clear hfz6_4
             try clear hfz6_5
             try clear hfz6_6
             try clear hfz6_7
             try clear hfz7_0
             try clear hfz7_1
             try clear hfz7_2
             try clear hfz7_3
             try clear hfz7_4
             try clear hfz7_5
             try clear hfz7_6
             try clear hfz7_7
             try clear p2
             obtain ⟨kq, x7_20, rfl, HA, HJ20, BK172, HB⟩ := hcut
             cases kq with
             | zero => exact absurd HA.out (by simp [platenref02_Hex.j5])
             | succ kj20 =>
              have H := HA.out
              clear HA
              simp only [platenref02_Hex.j5] at H
              by_cases c25 : x8_4 = 0
              ·
               rw [if_pos c25] at H
               have c25b0 : (x8_4 == 0) = true := beq_iff_eq.mpr c25
               have c25b1 : (x8_4 != 0) = false := bne_eq_false_iff_eq.mpr c25
               clear c25
               by_cases c26 : x7_20.size + x6_12.size ≤ 9223372036854775807
               ·
                rw [if_pos c26] at H
                have c26b0 := eq_true c26
                have c26b1 : decide (x7_20.size + x6_12.size ≤ 9223372036854775807) = true := decide_eq_true c26
                try have c26b2 : (9223372036854775807 < x7_20.size + x6_12.size) = False := eq_false (Nat.not_lt.2 c26)
                by_cases c27 : 0 ≤ x8_4
                ·
                 rw [if_pos c27] at H
                 have c27b0 : decide (0 ≤ x8_4) = true := decide_eq_true c27
                 clear c27
                 by_cases c28 : x8_4 < (x0_7.size : Int)
                 ·
                  rw [if_pos c28] at H
                  have c28b0 : decide (x8_4 < (x0_7.size : Int)) = true := decide_eq_true c28
                  clear c28
                  replace H := Option.bind_eq_some_iff.mp H
                  obtain ⟨t174, A300, H⟩ := H
                  replace H : ((platenref02_Digit.f (Int.tmod (wrap64 (bt x0_7 x8_4)) 16) (a1_7 == 88)).bind fun t175 => (if t174.size + t175.size ≤ 9223372036854775807 then (if (x7_20 ++ x6_12).size + (t174 ++ t175).size ≤ 9223372036854775807 then (platenref02_Hex.l0 kj20 x0_7 (a1_7 == 88) x6_12 ((x7_20 ++ x6_12) ++ (t174 ++ t175)) (wrap64 (x8_4 + 1)) a1_0 a1_1 a1_2 a1_3 a1_4 a1_5 a1_6 a1_7) else (none)) else (none))) = some r := H
                  have A30 := Aside0.mk A300
                  clear A300
                  replace H := Option.bind_eq_some_iff.mp H
                  obtain ⟨t175, A320, H⟩ := H
                  replace H : (if t174.size + t175.size ≤ 9223372036854775807 then (if (x7_20 ++ x6_12).size + (t174 ++ t175).size ≤ 9223372036854775807 then (platenref02_Hex.l0 kj20 x0_7 (a1_7 == 88) x6_12 ((x7_20 ++ x6_12) ++ (t174 ++ t175)) (wrap64 (x8_4 + 1)) a1_0 a1_1 a1_2 a1_3 a1_4 a1_5 a1_6 a1_7) else (none)) else (none)) = some r := H
                  have A32 := Aside0.mk A320
                  clear A320
                  by_cases c33 : t174.size + t175.size ≤ 9223372036854775807
                  ·
                   rw [if_pos c33] at H
                   have c33b0 := eq_true c33
                   have c33b1 : decide (t174.size + t175.size ≤ 9223372036854775807) = true := decide_eq_true c33
                   try have c33b2 : (9223372036854775807 < t174.size + t175.size) = False := eq_false (Nat.not_lt.2 c33)
                   by_cases c34 : (x7_20 ++ x6_12).size + (t174 ++ t175).size ≤ 9223372036854775807
                   ·
                    rw [if_pos c34] at H
                    have c34b0 := eq_true c34
                    have c34b1 : decide ((x7_20 ++ x6_12).size + (t174 ++ t175).size ≤ 9223372036854775807) = true := decide_eq_true c34
                    try have c34b2 : (9223372036854775807 < (x7_20 ++ x6_12).size + (t174 ++ t175).size) = False := eq_false (Nat.not_lt.2 c34)
                    try have c34b4 : (9223372036854775807 < x7_20.size + x6_12.size + (t174.size + t175.size)) = False := eq_false (by have z_ := c34; simp only [ByteArray.size_append', ByteArray.size_mk', List.size_toArray, List.length_cons, List.length_nil] at z_; omega)
                    have H' := Aside0.mk H
                    clear H
                    have p29 : 0 ≤ (x8_4 : Int) := of_decide_eq_true (by first | (with_reducible assumption) | assumption)
                    have q29 : x8_4 < (x0_7.size : Int) := of_decide_eq_true (by first | (with_reducible assumption) | assumption)
                    have hx29 := bt_at x0_7 x8_4
                    replace p29 := eq_true p29
                    replace q29 := eq_true q29
                    go_wp2_with (first | (go_at_call 33; (first | (with_reducible refine (platenref02_Digit.calls (wrap64 (Int.tdiv (wrap64 (bt x0_7 x8_4)) 16)) (a1_7 == 88) t174 _ A30.out).mono ?_) | (simp only [i64_w]; (with_reducible refine (platenref02_Digit.calls (wrap64 (Int.tdiv (wrap64 (bt x0_7 x8_4)) 16)) (a1_7 == 88) t174 _ A30.out).mono ?_))); rintro e w' ⟨rfl, ⟨nd, rfl⟩⟩; (try first | exact ⟨rfl, _, World.drewN_drewN _ _ _⟩ | exact ⟨rfl, _, Eq.trans (World.drewN_drewN _ _ _) (congrArg (World.drewN _) (Nat.add_assoc _ _ _))⟩); have p31 : 0 ≤ (x8_4 : Int) := of_decide_eq_true (by first | (with_reducible assumption) | assumption); have q31 : x8_4 < (x0_7.size : Int) := of_decide_eq_true (by first | (with_reducible assumption) | assumption); have hx31 := bt_at x0_7 x8_4; replace p31 := eq_true p31; replace q31 := eq_true q31) | (go_at_call 33; (first | (with_reducible refine (platenref02_Digit.calls (Int.tmod (wrap64 (bt x0_7 x8_4)) 16) (a1_7 == 88) t175 _ A32.out).mono ?_) | (simp only [i64_w]; (with_reducible refine (platenref02_Digit.calls (Int.tmod (wrap64 (bt x0_7 x8_4)) 16) (a1_7 == 88) t175 _ A32.out).mono ?_))); rintro e w' ⟨rfl, ⟨nd, rfl⟩⟩; (try first | exact ⟨rfl, _, World.drewN_drewN _ _ _⟩ | exact ⟨rfl, _, Eq.trans (World.drewN_drewN _ _ _) (congrArg (World.drewN _) (Nat.add_assoc _ _ _))⟩)))
                    repeat (go_quiet (first | (go_at_call 33; (first | (with_reducible refine (platenref02_Digit.calls (wrap64 (Int.tdiv (wrap64 (bt x0_7 x8_4)) 16)) (a1_7 == 88) t174 _ A30.out).mono ?_) | (simp only [i64_w]; (with_reducible refine (platenref02_Digit.calls (wrap64 (Int.tdiv (wrap64 (bt x0_7 x8_4)) 16)) (a1_7 == 88) t174 _ A30.out).mono ?_))); rintro e w' ⟨rfl, ⟨nd, rfl⟩⟩; (try first | exact ⟨rfl, _, World.drewN_drewN _ _ _⟩ | exact ⟨rfl, _, Eq.trans (World.drewN_drewN _ _ _) (congrArg (World.drewN _) (Nat.add_assoc _ _ _))⟩); have p31 : 0 ≤ (x8_4 : Int) := of_decide_eq_true (by first | (with_reducible assumption) | assumption); have q31 : x8_4 < (x0_7.size : Int) := of_decide_eq_true (by first | (with_reducible assumption) | assumption); have hx31 := bt_at x0_7 x8_4; replace p31 := eq_true p31; replace q31 := eq_true q31) | (go_at_call 33; (first | (with_reducible refine (platenref02_Digit.calls (Int.tmod (wrap64 (bt x0_7 x8_4)) 16) (a1_7 == 88) t175 _ A32.out).mono ?_) | (simp only [i64_w]; (with_reducible refine (platenref02_Digit.calls (Int.tmod (wrap64 (bt x0_7 x8_4)) 16) (a1_7 == 88) t175 _ A32.out).mono ?_))); rintro e w' ⟨rfl, ⟨nd, rfl⟩⟩; (try first | exact ⟨rfl, _, World.drewN_drewN _ _ _⟩ | exact ⟨rfl, _, Eq.trans (World.drewN_drewN _ _ _) (congrArg (World.drewN _) (Nat.add_assoc _ _ _))⟩))); try go_wp2_with (first | (go_at_call 33; (first | (with_reducible refine (platenref02_Digit.calls (wrap64 (Int.tdiv (wrap64 (bt x0_7 x8_4)) 16)) (a1_7 == 88) t174 _ A30.out).mono ?_) | (simp only [i64_w]; (with_reducible refine (platenref02_Digit.calls (wrap64 (Int.tdiv (wrap64 (bt x0_7 x8_4)) 16)) (a1_7 == 88) t174 _ A30.out).mono ?_))); rintro e w' ⟨rfl, ⟨nd, rfl⟩⟩; (try first | exact ⟨rfl, _, World.drewN_drewN _ _ _⟩ | exact ⟨rfl, _, Eq.trans (World.drewN_drewN _ _ _) (congrArg (World.drewN _) (Nat.add_assoc _ _ _))⟩); have p31 : 0 ≤ (x8_4 : Int) := of_decide_eq_true (by first | (with_reducible assumption) | assumption); have q31 : x8_4 < (x0_7.size : Int) := of_decide_eq_true (by first | (with_reducible assumption) | assumption); have hx31 := bt_at x0_7 x8_4; replace p31 := eq_true p31; replace q31 := eq_true q31) | (go_at_call 33; (first | (with_reducible refine (platenref02_Digit.calls (Int.tmod (wrap64 (bt x0_7 x8_4)) 16) (a1_7 == 88) t175 _ A32.out).mono ?_) | (simp only [i64_w]; (with_reducible refine (platenref02_Digit.calls (Int.tmod (wrap64 (bt x0_7 x8_4)) 16) (a1_7 == 88) t175 _ A32.out).mono ?_))); rintro e w' ⟨rfl, ⟨nd, rfl⟩⟩; (try first | exact ⟨rfl, _, World.drewN_drewN _ _ _⟩ | exact ⟨rfl, _, Eq.trans (World.drewN_drewN _ _ _) (congrArg (World.drewN _) (Nat.add_assoc _ _ _))⟩))))
                    go_roundg kj20
                    case measure => have := HJ2.out; have := HJ7.out; have := HJ12.out; have := HK4.out; have := HJ17.out; have := HJ20.out; omega
                    case rel => exact ⟨((x7_20 ++ x6_12) ++ (t174 ++ t175)), (wrap64 (x8_4 + 1)), (by first | rfl | (simp; done) | (simp [*]; done)), (by first | rfl | (simp; done) | (simp [*]; done)), H', ⟨by have := HJ2.out; have := HJ7.out; have := HJ12.out; have := HK4.out; have := HJ17.out; have := HJ20.out; omega⟩, ⟨by (with_reducible repeat (first | refine blk_drewN ?_ _ | refine blk_drew ?_ | refine blk_alloc ?_ _)); exact BK172.out⟩, ⟨by repeat (first | (with_reducible first | exact HB.out | apply below_alloc | apply pw_below_drewN | apply below_drew1 | refine below_set ?_ GE172.out) | exact HB.out)⟩⟩
                   ·
                    rw [if_neg c34] at H
                    exact absurd H (by simp)
                  ·
                   rw [if_neg c33] at H
                   exact absurd H (by simp)
                 ·
                  rw [if_neg c28] at H
                  exact absurd H (by simp)
                ·
                 rw [if_neg c27] at H
                 exact absurd H (by simp)
               ·
                rw [if_neg c26] at H
                exact absurd H (by simp)
              ·
               rw [if_neg c25] at H
               have c25b0 : (x8_4 == 0) = false := beq_eq_false_iff_ne.mpr c25
               have c25b1 : (x8_4 != 0) = true := bne_iff_ne.mpr c25
               by_cases c35 : 0 ≤ x8_4
               ·
                rw [if_pos c35] at H
                have c35b0 : decide (0 ≤ x8_4) = true := decide_eq_true c35
                clear c35
                by_cases c36 : x8_4 < (x0_7.size : Int)
                ·
                 rw [if_pos c36] at H
                 have c36b0 : decide (x8_4 < (x0_7.size : Int)) = true := decide_eq_true c36
                 clear c36
                 replace H := Option.bind_eq_some_iff.mp H
                 obtain ⟨t176, A380, H⟩ := H
                 replace H : ((platenref02_Digit.f (Int.tmod (wrap64 (bt x0_7 x8_4)) 16) (a1_7 == 88)).bind fun t177 => (if t176.size + t177.size ≤ 9223372036854775807 then (if x7_20.size + (t176 ++ t177).size ≤ 9223372036854775807 then (platenref02_Hex.l0 kj20 x0_7 (a1_7 == 88) x6_12 (x7_20 ++ (t176 ++ t177)) (wrap64 (x8_4 + 1)) a1_0 a1_1 a1_2 a1_3 a1_4 a1_5 a1_6 a1_7) else (none)) else (none))) = some r := H
                 have A38 := Aside0.mk A380
                 clear A380
                 replace H := Option.bind_eq_some_iff.mp H
                 obtain ⟨t177, A400, H⟩ := H
                 replace H : (if t176.size + t177.size ≤ 9223372036854775807 then (if x7_20.size + (t176 ++ t177).size ≤ 9223372036854775807 then (platenref02_Hex.l0 kj20 x0_7 (a1_7 == 88) x6_12 (x7_20 ++ (t176 ++ t177)) (wrap64 (x8_4 + 1)) a1_0 a1_1 a1_2 a1_3 a1_4 a1_5 a1_6 a1_7) else (none)) else (none)) = some r := H
                 have A40 := Aside0.mk A400
                 clear A400
                 by_cases c41 : t176.size + t177.size ≤ 9223372036854775807
                 ·
                  rw [if_pos c41] at H
                  have c41b0 := eq_true c41
                  have c41b1 : decide (t176.size + t177.size ≤ 9223372036854775807) = true := decide_eq_true c41
                  try have c41b2 : (9223372036854775807 < t176.size + t177.size) = False := eq_false (Nat.not_lt.2 c41)
                  by_cases c42 : x7_20.size + (t176 ++ t177).size ≤ 9223372036854775807
                  ·
                   rw [if_pos c42] at H
                   have c42b0 := eq_true c42
                   have c42b1 : decide (x7_20.size + (t176 ++ t177).size ≤ 9223372036854775807) = true := decide_eq_true c42
                   try have c42b2 : (9223372036854775807 < x7_20.size + (t176 ++ t177).size) = False := eq_false (Nat.not_lt.2 c42)
                   try have c42b4 : (9223372036854775807 < x7_20.size + (t176.size + t177.size)) = False := eq_false (by have z_ := c42; simp only [ByteArray.size_append', ByteArray.size_mk', List.size_toArray, List.length_cons, List.length_nil] at z_; omega)
                   have H' := Aside0.mk H
                   clear H
                   have p37 : 0 ≤ (x8_4 : Int) := of_decide_eq_true (by first | (with_reducible assumption) | assumption)
                   have q37 : x8_4 < (x0_7.size : Int) := of_decide_eq_true (by first | (with_reducible assumption) | assumption)
                   have hx37 := bt_at x0_7 x8_4
                   replace p37 := eq_true p37
                   replace q37 := eq_true q37
                   go_wp2_with (first | (go_at_call 33; (first | (with_reducible refine (platenref02_Digit.calls (wrap64 (Int.tdiv (wrap64 (bt x0_7 x8_4)) 16)) (a1_7 == 88) t176 _ A38.out).mono ?_) | (simp only [i64_w]; (with_reducible refine (platenref02_Digit.calls (wrap64 (Int.tdiv (wrap64 (bt x0_7 x8_4)) 16)) (a1_7 == 88) t176 _ A38.out).mono ?_))); rintro e w' ⟨rfl, ⟨nd, rfl⟩⟩; (try first | exact ⟨rfl, _, World.drewN_drewN _ _ _⟩ | exact ⟨rfl, _, Eq.trans (World.drewN_drewN _ _ _) (congrArg (World.drewN _) (Nat.add_assoc _ _ _))⟩); have p39 : 0 ≤ (x8_4 : Int) := of_decide_eq_true (by first | (with_reducible assumption) | assumption); have q39 : x8_4 < (x0_7.size : Int) := of_decide_eq_true (by first | (with_reducible assumption) | assumption); have hx39 := bt_at x0_7 x8_4; replace p39 := eq_true p39; replace q39 := eq_true q39) | (go_at_call 33; (first | (with_reducible refine (platenref02_Digit.calls (Int.tmod (wrap64 (bt x0_7 x8_4)) 16) (a1_7 == 88) t177 _ A40.out).mono ?_) | (simp only [i64_w]; (with_reducible refine (platenref02_Digit.calls (Int.tmod (wrap64 (bt x0_7 x8_4)) 16) (a1_7 == 88) t177 _ A40.out).mono ?_))); rintro e w' ⟨rfl, ⟨nd, rfl⟩⟩; (try first | exact ⟨rfl, _, World.drewN_drewN _ _ _⟩ | exact ⟨rfl, _, Eq.trans (World.drewN_drewN _ _ _) (congrArg (World.drewN _) (Nat.add_assoc _ _ _))⟩)))
                   repeat (go_quiet (first | (go_at_call 33; (first | (with_reducible refine (platenref02_Digit.calls (wrap64 (Int.tdiv (wrap64 (bt x0_7 x8_4)) 16)) (a1_7 == 88) t176 _ A38.out).mono ?_) | (simp only [i64_w]; (with_reducible refine (platenref02_Digit.calls (wrap64 (Int.tdiv (wrap64 (bt x0_7 x8_4)) 16)) (a1_7 == 88) t176 _ A38.out).mono ?_))); rintro e w' ⟨rfl, ⟨nd, rfl⟩⟩; (try first | exact ⟨rfl, _, World.drewN_drewN _ _ _⟩ | exact ⟨rfl, _, Eq.trans (World.drewN_drewN _ _ _) (congrArg (World.drewN _) (Nat.add_assoc _ _ _))⟩); have p39 : 0 ≤ (x8_4 : Int) := of_decide_eq_true (by first | (with_reducible assumption) | assumption); have q39 : x8_4 < (x0_7.size : Int) := of_decide_eq_true (by first | (with_reducible assumption) | assumption); have hx39 := bt_at x0_7 x8_4; replace p39 := eq_true p39; replace q39 := eq_true q39) | (go_at_call 33; (first | (with_reducible refine (platenref02_Digit.calls (Int.tmod (wrap64 (bt x0_7 x8_4)) 16) (a1_7 == 88) t177 _ A40.out).mono ?_) | (simp only [i64_w]; (with_reducible refine (platenref02_Digit.calls (Int.tmod (wrap64 (bt x0_7 x8_4)) 16) (a1_7 == 88) t177 _ A40.out).mono ?_))); rintro e w' ⟨rfl, ⟨nd, rfl⟩⟩; (try first | exact ⟨rfl, _, World.drewN_drewN _ _ _⟩ | exact ⟨rfl, _, Eq.trans (World.drewN_drewN _ _ _) (congrArg (World.drewN _) (Nat.add_assoc _ _ _))⟩))); try go_wp2_with (first | (go_at_call 33; (first | (with_reducible refine (platenref02_Digit.calls (wrap64 (Int.tdiv (wrap64 (bt x0_7 x8_4)) 16)) (a1_7 == 88) t176 _ A38.out).mono ?_) | (simp only [i64_w]; (with_reducible refine (platenref02_Digit.calls (wrap64 (Int.tdiv (wrap64 (bt x0_7 x8_4)) 16)) (a1_7 == 88) t176 _ A38.out).mono ?_))); rintro e w' ⟨rfl, ⟨nd, rfl⟩⟩; (try first | exact ⟨rfl, _, World.drewN_drewN _ _ _⟩ | exact ⟨rfl, _, Eq.trans (World.drewN_drewN _ _ _) (congrArg (World.drewN _) (Nat.add_assoc _ _ _))⟩); have p39 : 0 ≤ (x8_4 : Int) := of_decide_eq_true (by first | (with_reducible assumption) | assumption); have q39 : x8_4 < (x0_7.size : Int) := of_decide_eq_true (by first | (with_reducible assumption) | assumption); have hx39 := bt_at x0_7 x8_4; replace p39 := eq_true p39; replace q39 := eq_true q39) | (go_at_call 33; (first | (with_reducible refine (platenref02_Digit.calls (Int.tmod (wrap64 (bt x0_7 x8_4)) 16) (a1_7 == 88) t177 _ A40.out).mono ?_) | (simp only [i64_w]; (with_reducible refine (platenref02_Digit.calls (Int.tmod (wrap64 (bt x0_7 x8_4)) 16) (a1_7 == 88) t177 _ A40.out).mono ?_))); rintro e w' ⟨rfl, ⟨nd, rfl⟩⟩; (try first | exact ⟨rfl, _, World.drewN_drewN _ _ _⟩ | exact ⟨rfl, _, Eq.trans (World.drewN_drewN _ _ _) (congrArg (World.drewN _) (Nat.add_assoc _ _ _))⟩))))
                   go_roundg kj20
                   case measure => have := HJ2.out; have := HJ7.out; have := HJ12.out; have := HK4.out; have := HJ17.out; have := HJ20.out; omega
                   case rel => exact ⟨(x7_20 ++ (t176 ++ t177)), (wrap64 (x8_4 + 1)), (by first | rfl | (simp; done) | (simp [*]; done)), (by first | rfl | (simp; done) | (simp [*]; done)), H', ⟨by have := HJ2.out; have := HJ7.out; have := HJ12.out; have := HK4.out; have := HJ17.out; have := HJ20.out; omega⟩, ⟨by (with_reducible repeat (first | refine blk_drewN ?_ _ | refine blk_drew ?_ | refine blk_alloc ?_ _)); exact BK172.out⟩, ⟨by repeat (first | (with_reducible first | exact HB.out | apply below_alloc | apply pw_below_drewN | apply below_drew1 | refine below_set ?_ GE172.out) | exact HB.out)⟩⟩
                  ·
                   rw [if_neg c42] at H
                   exact absurd H (by simp)
                 ·
                  rw [if_neg c41] at H
                  exact absurd H (by simp)
                ·
                 rw [if_neg c36] at H
                 exact absurd H (by simp)
               ·
                rw [if_neg c35] at H
                exact absurd H (by simp)
         ·
          rw [if_neg c17] at H
          have c17b0 : decide (x8_4 < (x0_7.size : Int)) = false := decide_eq_false c17
          clear c17
          replace H := Option.bind_eq_some_iff.mp H
          obtain ⟨t173, A430, H⟩ := H
          replace H : (some t173) = some r := H
          have A43 := Aside0.mk A430
          clear A430
          obtain rfl := Option.some.inj H
          have hcz44_0 : wr.cell? ⟨gb172, 0, none⟩ = some (.bool a1_0) := (blk_cell BK172.out 0).trans rfl
          have hcz44_1 : wr.cell? ⟨gb172, 1, none⟩ = some (.bool a1_1) := (blk_cell BK172.out 1).trans rfl
          have hcz44_2 : wr.cell? ⟨gb172, 2, none⟩ = some (.bool a1_2) := (blk_cell BK172.out 2).trans rfl
          have hcz44_3 : wr.cell? ⟨gb172, 3, none⟩ = some (.bool a1_3) := (blk_cell BK172.out 3).trans rfl
          have hcz44_4 : wr.cell? ⟨gb172, 4, none⟩ = some (.bool a1_4) := (blk_cell BK172.out 4).trans rfl
          have hcz44_5 : wr.cell? ⟨gb172, 5, none⟩ = some (.int .i64 a1_5) := (blk_cell BK172.out 5).trans rfl
          have hcz44_6 : wr.cell? ⟨gb172, 6, none⟩ = some (.int .i64 a1_6) := (blk_cell BK172.out 6).trans rfl
          have hcz44_7 : wr.cell? ⟨gb172, 7, none⟩ = some (.int .i32 a1_7) := (blk_cell BK172.out 7).trans rfl
          have hfz44_0 := blk_frozen BK172.out 0
          have hfz44_1 := blk_frozen BK172.out 1
          have hfz44_2 := blk_frozen BK172.out 2
          have hfz44_3 := blk_frozen BK172.out 3
          have hfz44_4 := blk_frozen BK172.out 4
          have hfz44_5 := blk_frozen BK172.out 5
          have hfz44_6 := blk_frozen BK172.out 6
          have hfz44_7 := blk_frozen BK172.out 7
          go_wp2_with (first | (go_at_call 34; (with_reducible refine (platenref01_Pad.calls k4 x7_4 a1_0 a1_1 a1_2 a1_3 a1_4 a1_5 a1_6 a1_7 t173 _ A43.out).mono ?_); rintro e w45 ⟨rfl, hb⟩; have n0_ := Aside0.mk (blk_below (g := gb172) (o := .cells #[.bool a1_0, .bool a1_1, .bool a1_2, .bool a1_3, .bool a1_4, .int .i64 a1_5, .int .i64 a1_6, .int .i32 a1_7] 28 (0, 0)) (by (with_reducible repeat (first | refine blk_drewN ?_ _ | refine blk_drew ?_ | refine blk_alloc ?_ _)); exact BK172.out) hb); have n1_ := Aside0.mk (below_step (by repeat (first | (with_reducible first | exact HB.out | apply below_alloc | apply pw_below_drewN | apply below_drew1 | refine below_set ?_ GE172.out) | exact HB.out)) hb); clear BK172; clear HB; have BK172 := n0_; have HB := n1_; clear n0_ n1_; (try clear hb); (try clear hb2); (try clear hk); (try clear hi)))
          repeat (go_quiet (first | (go_at_call 34; (with_reducible refine (platenref01_Pad.calls k4 x7_4 a1_0 a1_1 a1_2 a1_3 a1_4 a1_5 a1_6 a1_7 t173 _ A43.out).mono ?_); rintro e w45 ⟨rfl, hb⟩; have n0_ := Aside0.mk (blk_below (g := gb172) (o := .cells #[.bool a1_0, .bool a1_1, .bool a1_2, .bool a1_3, .bool a1_4, .int .i64 a1_5, .int .i64 a1_6, .int .i32 a1_7] 28 (0, 0)) (by (with_reducible repeat (first | refine blk_drewN ?_ _ | refine blk_drew ?_ | refine blk_alloc ?_ _)); exact BK172.out) hb); have n1_ := Aside0.mk (below_step (by repeat (first | (with_reducible first | exact HB.out | apply below_alloc | apply pw_below_drewN | apply below_drew1 | refine below_set ?_ GE172.out) | exact HB.out)) hb); clear BK172; clear HB; have BK172 := n0_; have HB := n1_; clear n0_ n1_; (try clear hb); (try clear hb2); (try clear hk); (try clear hi))); try go_wp2_with (first | (go_at_call 34; (with_reducible refine (platenref01_Pad.calls k4 x7_4 a1_0 a1_1 a1_2 a1_3 a1_4 a1_5 a1_6 a1_7 t173 _ A43.out).mono ?_); rintro e w45 ⟨rfl, hb⟩; have n0_ := Aside0.mk (blk_below (g := gb172) (o := .cells #[.bool a1_0, .bool a1_1, .bool a1_2, .bool a1_3, .bool a1_4, .int .i64 a1_5, .int .i64 a1_6, .int .i32 a1_7] 28 (0, 0)) (by (with_reducible repeat (first | refine blk_drewN ?_ _ | refine blk_drew ?_ | refine blk_alloc ?_ _)); exact BK172.out) hb); have n1_ := Aside0.mk (below_step (by repeat (first | (with_reducible first | exact HB.out | apply below_alloc | apply pw_below_drewN | apply below_drew1 | refine below_set ?_ GE172.out) | exact HB.out)) hb); clear BK172; clear HB; have BK172 := n0_; have HB := n1_; clear n0_ n1_; (try clear hb); (try clear hb2); (try clear hk); (try clear hi))))
          go_ret
          exact ⟨by first | rfl | (simp [errW_none, errW_some] <;> rfl) | (simp [*, errW_none, errW_some] <;> rfl), by repeat (first | (with_reducible first | exact HB.out | apply below_alloc | apply pw_below_drewN | apply below_drew1 | refine below_set ?_ GE172.out) | exact HB.out)⟩
end Go.Proofs.YtcoippikicikoaaDoor.PQRef
namespace Go.Proofs.YtcoippikicikoaaDoor.PQRef
open Go.RowKit Go.Proofs.YtcoippikicikoaaDoorW.PrintWords Go.Proofs.YtcoippikicikoaaDoorW.PrintLast Go.Proofs.YtcoippikicikoaaDoorW.PrintMore
attribute [local go_sem] max2_int min2_int max_two min_two
set_option linter.unusedVariables false
set_option linter.unusedSimpArgs false
def platenref01_Cut.l0 : Nat → ByteArray → Int → Int → Int → Option (ByteArray)
 | 0, _, _, _, _ => none
 | k + 1, x0, x1, x5, x6 => if x6 < x1 then (if x5 < (x0.size : Int) then (if 0 ≤ x5 then (if x5 ≤ (x0.size : Int) then ((platenref01_Decode.f k (x0.extract (x5 : Int).toNat x0.size)).bind fun bt178 => (platenref01_Cut.l0 k x0 x1 (wrap64 (x5 + bt178.2.1)) (wrap64 (x6 + 1)))) else (none)) else (none)) else (if 0 ≤ x5 then (if x5 ≤ (x0.size : Int) then (some (x0.extract 0 (x5 : Int).toNat)) else (none)) else (none))) else (if 0 ≤ x5 then (if x5 ≤ (x0.size : Int) then (some (x0.extract 0 (x5 : Int).toNat)) else (none)) else (none))
def platenref01_Cut.f (k : Nat) (a0 : ByteArray) (a1 : Int) : Option (ByteArray) := if a1 < 0 then (some a0) else (platenref01_Cut.l0 k a0 a1 0 0)
set_option maxHeartbeats 8000000 in
set_option maxRecDepth 100000 in
theorem platenref01_Cut.calls (k : Nat) (a0 : ByteArray) (a1 : Int) (r : ByteArray) (w : World) (h : platenref01_Cut.f k a0 a1 = some r) :
 Calls Tryd.prog 37 #[.string a0, .int .i64 a1] w fun e w' => e = .returned (.string r) ∧ Below w.heap.size w w' := by
 have HB := Aside0.mk (Below.refl w.heap.size w)
 have H : (if a1 < 0 then (some a0) else (platenref01_Cut.l0 k a0 a1 0 0)) = some r := h
 clear h
 by_cases c3 : a1 < 0
 ·
  rw [if_pos c3] at H
  have c3b0 : decide (a1 < 0) = true := decide_eq_true c3
  clear c3
  obtain rfl := Option.some.inj H
  go_enter Tryd.func37, Tryd.ntmps37
  go_wp2
  go_ret
  exact ⟨by first | rfl | (simp [errW_none, errW_some] <;> rfl) | (simp [*, errW_none, errW_some] <;> rfl), by repeat (first | (with_reducible first | exact HB.out | apply below_alloc | apply pw_below_drewN | apply below_drew1) | exact HB.out)⟩
 ·
  rw [if_neg c3] at H
  have c3b0 : decide (a1 < 0) = false := decide_eq_false c3
  clear c3
  have H' := Aside0.mk H
  clear H
  go_enter Tryd.func37, Tryd.ntmps37
  go_wp2
  go_loopg [5, 6] k (fun kq v5 v6 w' => ∃ (x5_1 : Int) (x6_1 : Int), v5 = .int .i64 x5_1 ∧ v6 = .int .i64 x6_1 ∧ Aside0 (platenref01_Cut.l0 kq a0 a1 x5_1 x6_1 = some r) ∧ Aside0 (kq ≤ k) ∧ Aside0 (Below w.heap.size w w'))
  case atStart => exact ⟨(0), (0), (by first | rfl | (simp; done) | (simp [*]; done)), (by first | rfl | (simp; done) | (simp [*]; done)), H', ⟨Nat.le_refl _⟩, ⟨by repeat (first | (with_reducible first | exact HB.out | apply below_alloc | apply pw_below_drewN | apply below_drew1) | exact HB.out)⟩⟩
  case round =>
   clear H'
   try clear p2
   try clear c3
   try clear c3b0
   obtain ⟨x5_1, x6_1, rfl, rfl, HA, HK1, HB⟩ := hrel
   cases gk with
   | zero => exact absurd HA.out (by simp [platenref01_Cut.l0])
   | succ k1 =>
    have H := HA.out
    clear HA
    simp only [platenref01_Cut.l0] at H
    by_cases c4 : x6_1 < a1
    ·
     rw [if_pos c4] at H
     have c4b0 : decide (x6_1 < a1) = true := decide_eq_true c4
     clear c4
     by_cases c5 : x5_1 < (a0.size : Int)
     ·
      rw [if_pos c5] at H
      have c5b0 : decide (x5_1 < (a0.size : Int)) = true := decide_eq_true c5
      clear c5
      by_cases c6 : 0 ≤ x5_1
      ·
       rw [if_pos c6] at H
       have c6b0 := eq_true c6
       have c6b1 : decide (0 ≤ x5_1) = true := decide_eq_true c6
       clear c6
       by_cases c7 : x5_1 ≤ (a0.size : Int)
       ·
        rw [if_pos c7] at H
        have c7b0 := eq_true c7
        have c7b1 : decide (x5_1 ≤ (a0.size : Int)) = true := decide_eq_true c7
        clear c7
        replace H := Option.bind_eq_some_iff.mp H
        obtain ⟨⟨t178, t179, t180⟩, A80, H⟩ := H
        replace H : (platenref01_Cut.l0 k1 a0 a1 (wrap64 (x5_1 + t179)) (wrap64 (x6_1 + 1))) = some r := H
        have A8 := Aside0.mk A80
        clear A80
        have H' := Aside0.mk H
        clear H
        go_wp2_with (first | ((with_reducible refine gate_callee (f := 48) rfl ?_); refine goesL_ (some 28) rfl rfl Tryd.func48 (by kernel_rfl) rfl #[.string (a0.extract (x5_1 : Int).toNat a0.size)] rfl (by (try simp only [List.map_toArray, List.map_cons, List.map_nil]); first | done | rfl | (simp only [List.length_drop, List.length_take]; rfl)) ?_; (with_reducible refine (platenref01_Decode.calls k1 (a0.extract (x5_1 : Int).toNat a0.size) t178 t179 t180 _ A8.out).mono ?_); rintro e w9 ⟨rfl, hb⟩; refine ⟨_, rfl, ?_⟩; have n0_ := Aside0.mk (below_step (by repeat (first | (with_reducible first | exact HB.out | apply below_alloc | apply pw_below_drewN | apply below_drew1) | exact HB.out)) hb); clear HB; have HB := n0_; clear n0_; (try clear hb); (try clear hb2); (try clear hk); (try clear hi)))
        go_roundg k1
        case measure => have := HK1.out; omega
        case rel => exact ⟨(wrap64 (x5_1 + t179)), (wrap64 (x6_1 + 1)), (by first | rfl | (simp; done) | (simp [*]; done)), (by first | rfl | (simp; done) | (simp [*]; done)), H', ⟨by have := HK1.out; omega⟩, ⟨by repeat (first | (with_reducible first | exact HB.out | apply below_alloc | apply pw_below_drewN | apply below_drew1) | exact HB.out)⟩⟩
       ·
        rw [if_neg c7] at H
        exact absurd H (by simp)
      ·
       rw [if_neg c6] at H
       exact absurd H (by simp)
     ·
      rw [if_neg c5] at H
      have c5b0 : decide (x5_1 < (a0.size : Int)) = false := decide_eq_false c5
      clear c5
      by_cases c10 : 0 ≤ x5_1
      ·
       rw [if_pos c10] at H
       have c10b0 := eq_true c10
       have c10b1 : decide (0 ≤ x5_1) = true := decide_eq_true c10
       clear c10
       by_cases c11 : x5_1 ≤ (a0.size : Int)
       ·
        rw [if_pos c11] at H
        have c11b0 := eq_true c11
        have c11b1 : decide (x5_1 ≤ (a0.size : Int)) = true := decide_eq_true c11
        clear c11
        obtain rfl := Option.some.inj H
        go_wp2
        go_ret
        exact ⟨by first | rfl | (simp [errW_none, errW_some] <;> rfl) | (simp [*, errW_none, errW_some] <;> rfl), by repeat (first | (with_reducible first | exact HB.out | apply below_alloc | apply pw_below_drewN | apply below_drew1) | exact HB.out)⟩
       ·
        rw [if_neg c11] at H
        exact absurd H (by simp)
      ·
       rw [if_neg c10] at H
       exact absurd H (by simp)
    ·
     rw [if_neg c4] at H
     have c4b0 : decide (x6_1 < a1) = false := decide_eq_false c4
     clear c4
     by_cases c12 : 0 ≤ x5_1
     ·
      rw [if_pos c12] at H
      have c12b0 := eq_true c12
      have c12b1 : decide (0 ≤ x5_1) = true := decide_eq_true c12
      clear c12
      by_cases c13 : x5_1 ≤ (a0.size : Int)
      ·
       rw [if_pos c13] at H
       have c13b0 := eq_true c13
       have c13b1 : decide (x5_1 ≤ (a0.size : Int)) = true := decide_eq_true c13
       clear c13
       obtain rfl := Option.some.inj H
       go_wp2
       go_ret
       exact ⟨by first | rfl | (simp [errW_none, errW_some] <;> rfl) | (simp [*, errW_none, errW_some] <;> rfl), by repeat (first | (with_reducible first | exact HB.out | apply below_alloc | apply pw_below_drewN | apply below_drew1) | exact HB.out)⟩
      ·
       rw [if_neg c13] at H
       exact absurd H (by simp)
     ·
      rw [if_neg c12] at H
      exact absurd H (by simp)
def platenref02_Raw.l0 : Nat → ByteArray → ByteArray → Option (ByteArray × Bool)
 | 0, _, _ => none
 | k + 1, x0, x4 => if x4.toList = ([] : List UInt8) then (if 1 + x0.size ≤ 9223372036854775807 then (if ((⟨#[96]⟩ : ByteArray) ++ x0).size + 1 ≤ 9223372036854775807 then (some (((⟨#[96]⟩ : ByteArray) ++ x0) ++ (⟨#[96]⟩ : ByteArray), true)) else (none)) else (none)) else ((platenref01_Decode.f k x4).bind fun bt181 => (if bt181.2.2 = true then (some ((⟨#[]⟩ : ByteArray), false)) else (if bt181.1 = 96 then (some ((⟨#[]⟩ : ByteArray), false)) else (if bt181.1 < 32 then (if bt181.1 = 9 then (if bt181.1 = 127 then (some ((⟨#[]⟩ : ByteArray), false)) else (if bt181.1 = 65279 then (some ((⟨#[]⟩ : ByteArray), false)) else (if 0 ≤ bt181.2.1 then (if bt181.2.1 ≤ (x4.size : Int) then (platenref02_Raw.l0 k x0 (x4.extract (bt181.2.1 : Int).toNat x4.size)) else (none)) else (none)))) else (some ((⟨#[]⟩ : ByteArray), false))) else (if bt181.1 = 127 then (some ((⟨#[]⟩ : ByteArray), false)) else (if bt181.1 = 65279 then (some ((⟨#[]⟩ : ByteArray), false)) else (if 0 ≤ bt181.2.1 then (if bt181.2.1 ≤ (x4.size : Int) then (platenref02_Raw.l0 k x0 (x4.extract (bt181.2.1 : Int).toNat x4.size)) else (none)) else (none))))))))
def platenref02_Raw.f (k : Nat) (a0 : ByteArray) : Option (ByteArray × Bool) := platenref02_Raw.l0 k a0 a0
set_option maxHeartbeats 8000000 in
set_option maxRecDepth 100000 in
theorem platenref02_Raw.calls (k : Nat) (a0 : ByteArray) (r1 : ByteArray) (r2 : Bool) (w : World) (h : platenref02_Raw.f k a0 = some (r1, r2)) :
 Calls Tryd.prog 38 #[.string a0] w fun e w' => e = .returned (.tuple #[.string r1, .bool r2]) ∧ Below w.heap.size w w' := by
 have HB := Aside0.mk (Below.refl w.heap.size w)
 have H : (platenref02_Raw.l0 k a0 a0) = some (r1, r2) := h
 clear h
 have H' := Aside0.mk H
 clear H
 go_enter Tryd.func38, Tryd.ntmps38
 go_wp2
 go_loopg [4] k (fun kq v4 w' => ∃ (x4_1 : ByteArray), v4 = .string x4_1 ∧ Aside0 (platenref02_Raw.l0 kq a0 x4_1 = some (r1, r2)) ∧ Aside0 (kq ≤ k) ∧ Aside0 (Below w.heap.size w w'))
 case atStart => exact ⟨(a0), (by first | rfl | (simp; done) | (simp [*]; done)), H', ⟨Nat.le_refl _⟩, ⟨by repeat (first | (with_reducible first | exact HB.out | apply below_alloc | apply pw_below_drewN | apply below_drew1) | exact HB.out)⟩⟩
 case round =>
  clear H'
  obtain ⟨x4_1, rfl, HA, HK1, HB⟩ := hrel
  cases gk with
  | zero => exact absurd HA.out (by simp [platenref02_Raw.l0])
  | succ k1 =>
   have H := HA.out
   clear HA
   simp only [platenref02_Raw.l0] at H
   by_cases c2 : x4_1.toList = ([] : List UInt8)
   ·
    rw [if_pos c2] at H
    have c2b0 : (x4_1.toList == ([] : List UInt8)) = true := beq_iff_eq.mpr c2
    have c2b1 : (x4_1.toList != ([] : List UInt8)) = false := bne_eq_false_iff_eq.mpr c2
    clear c2
    by_cases c3 : 1 + a0.size ≤ 9223372036854775807
    ·
     rw [if_pos c3] at H
     have c3b0 := eq_true c3
     have c3b1 : decide (1 + a0.size ≤ 9223372036854775807) = true := decide_eq_true c3
     try have c3b2 : (9223372036854775807 < 1 + a0.size) = False := eq_false (Nat.not_lt.2 c3)
     by_cases c4 : ((⟨#[96]⟩ : ByteArray) ++ a0).size + 1 ≤ 9223372036854775807
     ·
      rw [if_pos c4] at H
      have c4b0 := eq_true c4
      have c4b1 : decide (((⟨#[96]⟩ : ByteArray) ++ a0).size + 1 ≤ 9223372036854775807) = true := decide_eq_true c4
      try have c4b2 : (9223372036854775807 < ((⟨#[96]⟩ : ByteArray) ++ a0).size + 1) = False := eq_false (Nat.not_lt.2 c4)
      try have c4b4 : (9223372036854775807 < 1 + a0.size + 1) = False := eq_false (by have z_ := c4; simp only [ByteArray.size_append', ByteArray.size_mk', List.size_toArray, List.length_cons, List.length_nil] at z_; omega)
      simp only [Option.some.injEq, Prod.mk.injEq] at H
      obtain ⟨rfl, rfl⟩ := H
      go_wp2
      go_ret2
      exact ⟨by first | rfl | (simp [errW_none, errW_some] <;> rfl) | (simp [*, errW_none, errW_some] <;> rfl), by repeat (first | (with_reducible first | exact HB.out | apply below_alloc | apply pw_below_drewN | apply below_drew1) | exact HB.out)⟩
     ·
      rw [if_neg c4] at H
      exact absurd H (by simp)
    ·
     rw [if_neg c3] at H
     exact absurd H (by simp)
   ·
    rw [if_neg c2] at H
    have c2b0 : (x4_1.toList == ([] : List UInt8)) = false := beq_eq_false_iff_ne.mpr c2
    have c2b1 : (x4_1.toList != ([] : List UInt8)) = true := bne_iff_ne.mpr c2
    replace H := Option.bind_eq_some_iff.mp H
    obtain ⟨⟨t181, t182, t183⟩, A50, H⟩ := H
    replace H : (if t183 = true then (some ((⟨#[]⟩ : ByteArray), false)) else (if t181 = 96 then (some ((⟨#[]⟩ : ByteArray), false)) else (if t181 < 32 then (if t181 = 9 then (if t181 = 127 then (some ((⟨#[]⟩ : ByteArray), false)) else (if t181 = 65279 then (some ((⟨#[]⟩ : ByteArray), false)) else (if 0 ≤ t182 then (if t182 ≤ (x4_1.size : Int) then (platenref02_Raw.l0 k1 a0 (x4_1.extract (t182 : Int).toNat x4_1.size)) else (none)) else (none)))) else (some ((⟨#[]⟩ : ByteArray), false))) else (if t181 = 127 then (some ((⟨#[]⟩ : ByteArray), false)) else (if t181 = 65279 then (some ((⟨#[]⟩ : ByteArray), false)) else (if 0 ≤ t182 then (if t182 ≤ (x4_1.size : Int) then (platenref02_Raw.l0 k1 a0 (x4_1.extract (t182 : Int).toNat x4_1.size)) else (none)) else (none))))))) = some (r1, r2) := H
    have A5 := Aside0.mk A50
    clear A50
    by_cases c6 : t183 = true
    ·
     subst c6
     have H1 : (some ((⟨#[]⟩ : ByteArray), false)) = some (r1, r2) := by rw [if_pos rfl] at H; exact H
     clear H
     have H := H1
     clear H1
     simp only [Option.some.injEq, Prod.mk.injEq] at H
     obtain ⟨rfl, rfl⟩ := H
     go_wp2_with (first | ((with_reducible refine gate_callee (f := 48) rfl ?_); refine goesL_ (some 13) rfl rfl Tryd.func48 (by kernel_rfl) rfl #[.string x4_1] rfl (by (try simp only [List.map_toArray, List.map_cons, List.map_nil]); first | done | rfl | (simp only [List.length_drop, List.length_take]; rfl)) ?_; (with_reducible refine (platenref01_Decode.calls k1 x4_1 t181 t182 true _ A5.out).mono ?_); rintro e w7 ⟨rfl, hb⟩; refine ⟨_, rfl, ?_⟩; have n0_ := Aside0.mk (below_step (by repeat (first | (with_reducible first | exact HB.out | apply below_alloc | apply pw_below_drewN | apply below_drew1) | exact HB.out)) hb); clear HB; have HB := n0_; clear n0_; (try clear hb); (try clear hb2); (try clear hk); (try clear hi)))
     go_ret2
     exact ⟨by first | rfl | (simp [errW_none, errW_some] <;> rfl) | (simp [*, errW_none, errW_some] <;> rfl), by repeat (first | (with_reducible first | exact HB.out | apply below_alloc | apply pw_below_drewN | apply below_drew1) | exact HB.out)⟩
    ·
     replace c6 := Bool.eq_false_iff.mpr c6
     subst c6
     have H1 : (if t181 = 96 then (some ((⟨#[]⟩ : ByteArray), false)) else (if t181 < 32 then (if t181 = 9 then (if t181 = 127 then (some ((⟨#[]⟩ : ByteArray), false)) else (if t181 = 65279 then (some ((⟨#[]⟩ : ByteArray), false)) else (if 0 ≤ t182 then (if t182 ≤ (x4_1.size : Int) then (platenref02_Raw.l0 k1 a0 (x4_1.extract (t182 : Int).toNat x4_1.size)) else (none)) else (none)))) else (some ((⟨#[]⟩ : ByteArray), false))) else (if t181 = 127 then (some ((⟨#[]⟩ : ByteArray), false)) else (if t181 = 65279 then (some ((⟨#[]⟩ : ByteArray), false)) else (if 0 ≤ t182 then (if t182 ≤ (x4_1.size : Int) then (platenref02_Raw.l0 k1 a0 (x4_1.extract (t182 : Int).toNat x4_1.size)) else (none)) else (none)))))) = some (r1, r2) := by rw [if_neg (show ¬ (false = true) by decide)] at H; exact H
     clear H
     have H := H1
     clear H1
     by_cases c8 : t181 = 96
     ·
      rw [if_pos c8] at H
      have c8b0 : (t181 == 96) = true := beq_iff_eq.mpr c8
      have c8b1 : (t181 != 96) = false := bne_eq_false_iff_eq.mpr c8
      clear c8
      simp only [Option.some.injEq, Prod.mk.injEq] at H
      obtain ⟨rfl, rfl⟩ := H
      go_wp2_with (first | ((with_reducible refine gate_callee (f := 48) rfl ?_); refine goesL_ (some 13) rfl rfl Tryd.func48 (by kernel_rfl) rfl #[.string x4_1] rfl (by (try simp only [List.map_toArray, List.map_cons, List.map_nil]); first | done | rfl | (simp only [List.length_drop, List.length_take]; rfl)) ?_; (with_reducible refine (platenref01_Decode.calls k1 x4_1 t181 t182 false _ A5.out).mono ?_); rintro e w9 ⟨rfl, hb⟩; refine ⟨_, rfl, ?_⟩; have n0_ := Aside0.mk (below_step (by repeat (first | (with_reducible first | exact HB.out | apply below_alloc | apply pw_below_drewN | apply below_drew1) | exact HB.out)) hb); clear HB; have HB := n0_; clear n0_; (try clear hb); (try clear hb2); (try clear hk); (try clear hi)))
      go_ret2
      exact ⟨by first | rfl | (simp [errW_none, errW_some] <;> rfl) | (simp [*, errW_none, errW_some] <;> rfl), by repeat (first | (with_reducible first | exact HB.out | apply below_alloc | apply pw_below_drewN | apply below_drew1) | exact HB.out)⟩
     ·
      rw [if_neg c8] at H
      have c8b0 : (t181 == 96) = false := beq_eq_false_iff_ne.mpr c8
      have c8b1 : (t181 != 96) = true := bne_iff_ne.mpr c8
      by_cases c10 : t181 < 32
      ·
       rw [if_pos c10] at H
       have c10b0 : decide (t181 < 32) = true := decide_eq_true c10
       clear c10
       by_cases c11 : t181 = 9
       ·
        rw [if_pos c11] at H
        have c11b0 : (t181 == 9) = true := beq_iff_eq.mpr c11
        have c11b1 : (t181 != 9) = false := bne_eq_false_iff_eq.mpr c11
        clear c11
        by_cases c12 : t181 = 127
        ·
         rw [if_pos c12] at H
         have c12b0 : (t181 == 127) = true := beq_iff_eq.mpr c12
         have c12b1 : (t181 != 127) = false := bne_eq_false_iff_eq.mpr c12
         clear c12
         simp only [Option.some.injEq, Prod.mk.injEq] at H
         obtain ⟨rfl, rfl⟩ := H
         go_wp2_with (first | ((with_reducible refine gate_callee (f := 48) rfl ?_); refine goesL_ (some 13) rfl rfl Tryd.func48 (by kernel_rfl) rfl #[.string x4_1] rfl (by (try simp only [List.map_toArray, List.map_cons, List.map_nil]); first | done | rfl | (simp only [List.length_drop, List.length_take]; rfl)) ?_; (with_reducible refine (platenref01_Decode.calls k1 x4_1 t181 t182 false _ A5.out).mono ?_); rintro e w13 ⟨rfl, hb⟩; refine ⟨_, rfl, ?_⟩; have n0_ := Aside0.mk (below_step (by repeat (first | (with_reducible first | exact HB.out | apply below_alloc | apply pw_below_drewN | apply below_drew1) | exact HB.out)) hb); clear HB; have HB := n0_; clear n0_; (try clear hb); (try clear hb2); (try clear hk); (try clear hi)))
         go_ret2
         exact ⟨by first | rfl | (simp [errW_none, errW_some] <;> rfl) | (simp [*, errW_none, errW_some] <;> rfl), by repeat (first | (with_reducible first | exact HB.out | apply below_alloc | apply pw_below_drewN | apply below_drew1) | exact HB.out)⟩
        ·
         rw [if_neg c12] at H
         have c12b0 : (t181 == 127) = false := beq_eq_false_iff_ne.mpr c12
         have c12b1 : (t181 != 127) = true := bne_iff_ne.mpr c12
         by_cases c14 : t181 = 65279
         ·
          rw [if_pos c14] at H
          have c14b0 : (t181 == 65279) = true := beq_iff_eq.mpr c14
          have c14b1 : (t181 != 65279) = false := bne_eq_false_iff_eq.mpr c14
          clear c14
          simp only [Option.some.injEq, Prod.mk.injEq] at H
          obtain ⟨rfl, rfl⟩ := H
          go_wp2_with (first | ((with_reducible refine gate_callee (f := 48) rfl ?_); refine goesL_ (some 13) rfl rfl Tryd.func48 (by kernel_rfl) rfl #[.string x4_1] rfl (by (try simp only [List.map_toArray, List.map_cons, List.map_nil]); first | done | rfl | (simp only [List.length_drop, List.length_take]; rfl)) ?_; (with_reducible refine (platenref01_Decode.calls k1 x4_1 t181 t182 false _ A5.out).mono ?_); rintro e w15 ⟨rfl, hb⟩; refine ⟨_, rfl, ?_⟩; have n0_ := Aside0.mk (below_step (by repeat (first | (with_reducible first | exact HB.out | apply below_alloc | apply pw_below_drewN | apply below_drew1) | exact HB.out)) hb); clear HB; have HB := n0_; clear n0_; (try clear hb); (try clear hb2); (try clear hk); (try clear hi)))
          go_ret2
          exact ⟨by first | rfl | (simp [errW_none, errW_some] <;> rfl) | (simp [*, errW_none, errW_some] <;> rfl), by repeat (first | (with_reducible first | exact HB.out | apply below_alloc | apply pw_below_drewN | apply below_drew1) | exact HB.out)⟩
         ·
          rw [if_neg c14] at H
          have c14b0 : (t181 == 65279) = false := beq_eq_false_iff_ne.mpr c14
          have c14b1 : (t181 != 65279) = true := bne_iff_ne.mpr c14
          by_cases c16 : 0 ≤ t182
          ·
           rw [if_pos c16] at H
           have c16b0 := eq_true c16
           have c16b1 : decide (0 ≤ t182) = true := decide_eq_true c16
           clear c16
           by_cases c17 : t182 ≤ (x4_1.size : Int)
           ·
            rw [if_pos c17] at H
            have c17b0 := eq_true c17
            have c17b1 : decide (t182 ≤ (x4_1.size : Int)) = true := decide_eq_true c17
            clear c17
            have H' := Aside0.mk H
            clear H
            go_wp2_with (first | ((with_reducible refine gate_callee (f := 48) rfl ?_); refine goesL_ (some 13) rfl rfl Tryd.func48 (by kernel_rfl) rfl #[.string x4_1] rfl (by (try simp only [List.map_toArray, List.map_cons, List.map_nil]); first | done | rfl | (simp only [List.length_drop, List.length_take]; rfl)) ?_; (with_reducible refine (platenref01_Decode.calls k1 x4_1 t181 t182 false _ A5.out).mono ?_); rintro e w18 ⟨rfl, hb⟩; refine ⟨_, rfl, ?_⟩; have n0_ := Aside0.mk (below_step (by repeat (first | (with_reducible first | exact HB.out | apply below_alloc | apply pw_below_drewN | apply below_drew1) | exact HB.out)) hb); clear HB; have HB := n0_; clear n0_; (try clear hb); (try clear hb2); (try clear hk); (try clear hi)))
            go_roundg k1
            case measure => have := HK1.out; omega
            case rel => exact ⟨(x4_1.extract (t182 : Int).toNat x4_1.size), (by first | rfl | (simp; done) | (simp [*]; done)), H', ⟨by have := HK1.out; omega⟩, ⟨by repeat (first | (with_reducible first | exact HB.out | apply below_alloc | apply pw_below_drewN | apply below_drew1) | exact HB.out)⟩⟩
           ·
            rw [if_neg c17] at H
            exact absurd H (by simp)
          ·
           rw [if_neg c16] at H
           exact absurd H (by simp)
       ·
        rw [if_neg c11] at H
        have c11b0 : (t181 == 9) = false := beq_eq_false_iff_ne.mpr c11
        have c11b1 : (t181 != 9) = true := bne_iff_ne.mpr c11
        simp only [Option.some.injEq, Prod.mk.injEq] at H
        obtain ⟨rfl, rfl⟩ := H
        go_wp2_with (first | ((with_reducible refine gate_callee (f := 48) rfl ?_); refine goesL_ (some 13) rfl rfl Tryd.func48 (by kernel_rfl) rfl #[.string x4_1] rfl (by (try simp only [List.map_toArray, List.map_cons, List.map_nil]); first | done | rfl | (simp only [List.length_drop, List.length_take]; rfl)) ?_; (with_reducible refine (platenref01_Decode.calls k1 x4_1 t181 t182 false _ A5.out).mono ?_); rintro e w19 ⟨rfl, hb⟩; refine ⟨_, rfl, ?_⟩; have n0_ := Aside0.mk (below_step (by repeat (first | (with_reducible first | exact HB.out | apply below_alloc | apply pw_below_drewN | apply below_drew1) | exact HB.out)) hb); clear HB; have HB := n0_; clear n0_; (try clear hb); (try clear hb2); (try clear hk); (try clear hi)))
        go_ret2
        exact ⟨by first | rfl | (simp [errW_none, errW_some] <;> rfl) | (simp [*, errW_none, errW_some] <;> rfl), by repeat (first | (with_reducible first | exact HB.out | apply below_alloc | apply pw_below_drewN | apply below_drew1) | exact HB.out)⟩
      ·
       rw [if_neg c10] at H
       have c10b0 : decide (t181 < 32) = false := decide_eq_false c10
       clear c10
       by_cases c20 : t181 = 127
       ·
        rw [if_pos c20] at H
        have c20b0 : (t181 == 127) = true := beq_iff_eq.mpr c20
        have c20b1 : (t181 != 127) = false := bne_eq_false_iff_eq.mpr c20
        clear c20
        simp only [Option.some.injEq, Prod.mk.injEq] at H
        obtain ⟨rfl, rfl⟩ := H
        go_wp2_with (first | ((with_reducible refine gate_callee (f := 48) rfl ?_); refine goesL_ (some 13) rfl rfl Tryd.func48 (by kernel_rfl) rfl #[.string x4_1] rfl (by (try simp only [List.map_toArray, List.map_cons, List.map_nil]); first | done | rfl | (simp only [List.length_drop, List.length_take]; rfl)) ?_; (with_reducible refine (platenref01_Decode.calls k1 x4_1 t181 t182 false _ A5.out).mono ?_); rintro e w21 ⟨rfl, hb⟩; refine ⟨_, rfl, ?_⟩; have n0_ := Aside0.mk (below_step (by repeat (first | (with_reducible first | exact HB.out | apply below_alloc | apply pw_below_drewN | apply below_drew1) | exact HB.out)) hb); clear HB; have HB := n0_; clear n0_; (try clear hb); (try clear hb2); (try clear hk); (try clear hi)))
        go_ret2
        exact ⟨by first | rfl | (simp [errW_none, errW_some] <;> rfl) | (simp [*, errW_none, errW_some] <;> rfl), by repeat (first | (with_reducible first | exact HB.out | apply below_alloc | apply pw_below_drewN | apply below_drew1) | exact HB.out)⟩
       ·
        rw [if_neg c20] at H
        have c20b0 : (t181 == 127) = false := beq_eq_false_iff_ne.mpr c20
        have c20b1 : (t181 != 127) = true := bne_iff_ne.mpr c20
        by_cases c22 : t181 = 65279
        ·
         rw [if_pos c22] at H
         have c22b0 : (t181 == 65279) = true := beq_iff_eq.mpr c22
         have c22b1 : (t181 != 65279) = false := bne_eq_false_iff_eq.mpr c22
         clear c22
         simp only [Option.some.injEq, Prod.mk.injEq] at H
         obtain ⟨rfl, rfl⟩ := H
         go_wp2_with (first | ((with_reducible refine gate_callee (f := 48) rfl ?_); refine goesL_ (some 13) rfl rfl Tryd.func48 (by kernel_rfl) rfl #[.string x4_1] rfl (by (try simp only [List.map_toArray, List.map_cons, List.map_nil]); first | done | rfl | (simp only [List.length_drop, List.length_take]; rfl)) ?_; (with_reducible refine (platenref01_Decode.calls k1 x4_1 t181 t182 false _ A5.out).mono ?_); rintro e w23 ⟨rfl, hb⟩; refine ⟨_, rfl, ?_⟩; have n0_ := Aside0.mk (below_step (by repeat (first | (with_reducible first | exact HB.out | apply below_alloc | apply pw_below_drewN | apply below_drew1) | exact HB.out)) hb); clear HB; have HB := n0_; clear n0_; (try clear hb); (try clear hb2); (try clear hk); (try clear hi)))
         go_ret2
         exact ⟨by first | rfl | (simp [errW_none, errW_some] <;> rfl) | (simp [*, errW_none, errW_some] <;> rfl), by repeat (first | (with_reducible first | exact HB.out | apply below_alloc | apply pw_below_drewN | apply below_drew1) | exact HB.out)⟩
        ·
         rw [if_neg c22] at H
         have c22b0 : (t181 == 65279) = false := beq_eq_false_iff_ne.mpr c22
         have c22b1 : (t181 != 65279) = true := bne_iff_ne.mpr c22
         by_cases c24 : 0 ≤ t182
         ·
          rw [if_pos c24] at H
          have c24b0 := eq_true c24
          have c24b1 : decide (0 ≤ t182) = true := decide_eq_true c24
          clear c24
          by_cases c25 : t182 ≤ (x4_1.size : Int)
          ·
           rw [if_pos c25] at H
           have c25b0 := eq_true c25
           have c25b1 : decide (t182 ≤ (x4_1.size : Int)) = true := decide_eq_true c25
           clear c25
           have H' := Aside0.mk H
           clear H
           go_wp2_with (first | ((with_reducible refine gate_callee (f := 48) rfl ?_); refine goesL_ (some 13) rfl rfl Tryd.func48 (by kernel_rfl) rfl #[.string x4_1] rfl (by (try simp only [List.map_toArray, List.map_cons, List.map_nil]); first | done | rfl | (simp only [List.length_drop, List.length_take]; rfl)) ?_; (with_reducible refine (platenref01_Decode.calls k1 x4_1 t181 t182 false _ A5.out).mono ?_); rintro e w26 ⟨rfl, hb⟩; refine ⟨_, rfl, ?_⟩; have n0_ := Aside0.mk (below_step (by repeat (first | (with_reducible first | exact HB.out | apply below_alloc | apply pw_below_drewN | apply below_drew1) | exact HB.out)) hb); clear HB; have HB := n0_; clear n0_; (try clear hb); (try clear hb2); (try clear hk); (try clear hi)))
           go_roundg k1
           case measure => have := HK1.out; omega
           case rel => exact ⟨(x4_1.extract (t182 : Int).toNat x4_1.size), (by first | rfl | (simp; done) | (simp [*]; done)), H', ⟨by have := HK1.out; omega⟩, ⟨by repeat (first | (with_reducible first | exact HB.out | apply below_alloc | apply pw_below_drewN | apply below_drew1) | exact HB.out)⟩⟩
          ·
           rw [if_neg c25] at H
           exact absurd H (by simp)
         ·
          rw [if_neg c24] at H
          exact absurd H (by simp)
end Go.Proofs.YtcoippikicikoaaDoor.PQRef
namespace Go.Proofs.YtcoippikicikoaaDoor.PQRef
open Go.RowKit Go.Proofs.YtcoippikicikoaaDoorW.PrintWords Go.Proofs.YtcoippikicikoaaDoorW.PrintLast Go.Proofs.YtcoippikicikoaaDoorW.PrintMore
attribute [local go_sem] max2_int min2_int max_two min_two
set_option linter.unusedVariables false
set_option linter.unusedSimpArgs false
def platenref02_Text.j0 : Nat → ByteArray → ByteArray → Bool → Bool → Bool → Bool → Bool → Bool → Int → Int → Int → Option (ByteArray × Bool)
 | 0, _, _, _, _, _, _, _, _, _, _, _ => none
 | k + 1, x6, x7, x42, x185000, x185001, x185002, x185003, x185004, x185005, x185006, x185007 => if x42 = true then ((platenref01_Pad.f k x7 x185000 x185001 x185002 x185003 x185004 x185005 x185006 x185007).bind fun t192 => (some (t192, true))) else ((platenref02_Quote.f k x6 x185000).bind fun t193 => ((platenref01_Pad.f k t193 x185000 x185001 x185002 x185003 x185004 x185005 x185006 x185007).bind fun t194 => (some (t194, true))))
def platenref02_Text.f (k : Nat) (a0 : ByteArray) (a1_0 : Bool) (a1_1 : Bool) (a1_2 : Bool) (a1_3 : Bool) (a1_4 : Bool) (a1_5 : Int) (a1_6 : Int) (a1_7 : Int) : Option (ByteArray × Bool) := (platenref01_Cut.f k a0 a1_6).bind fun t185 => (if a1_7 = 118 then (if a1_2 = true then ((platenref02_Quote.f k a0 false).bind fun t186 => ((platenref01_Pad.f k t186 a1_0 a1_1 a1_2 a1_3 a1_4 a1_5 a1_6 a1_7).bind fun t187 => (some (t187, true)))) else ((platenref01_Pad.f k t185 a1_0 a1_1 a1_2 a1_3 a1_4 a1_5 a1_6 a1_7).bind fun t188 => (some (t188, true)))) else (if a1_7 = 115 then ((platenref01_Pad.f k t185 a1_0 a1_1 a1_2 a1_3 a1_4 a1_5 a1_6 a1_7).bind fun t189 => (some (t189, true))) else (if a1_7 = 113 then ((platenref02_Raw.f k t185).bind fun bt190 => (if a1_2 = true then (platenref02_Text.j0 k t185 bt190.1 bt190.2 a1_0 a1_1 a1_2 a1_3 a1_4 a1_5 a1_6 a1_7) else (platenref02_Text.j0 k t185 bt190.1 false a1_0 a1_1 a1_2 a1_3 a1_4 a1_5 a1_6 a1_7))) else (if a1_7 = 120 then ((platenref02_Hex.f k a0 a1_0 a1_1 a1_2 a1_3 a1_4 a1_5 a1_6 a1_7).bind fun t195 => (some (t195, true))) else (if a1_7 = 88 then ((platenref02_Hex.f k a0 a1_0 a1_1 a1_2 a1_3 a1_4 a1_5 a1_6 a1_7).bind fun t196 => (some (t196, true))) else (some ((⟨#[]⟩ : ByteArray), false)))))))
def platenref02_Text.T13 : Bool × List (List Nat × List Nat) := (true, [([], []), ([], []), ([1], [1]), ([0, 2], [0, 2]), ([], []), ([3, 4, 3], [3, 4]), ([5, 5, 0, 1, 2, 3, 4, 5], [5]), ([6, 0, 1, 2, 3, 4, 5, 6], [])])
def platenref02_Text.B13 : List Nat := [0, 0, 2, 7, 0, 31, 63, 127]
theorem platenref02_Text.tab13 : rtab .any (opsOf Tryd.f18 13) = platenref02_Text.T13 := by kernel_rfl
theorem platenref02_Text.bits13 : waitsOk platenref02_Text.T13.2 platenref02_Text.B13 = true := by kernel_rfl
set_option maxHeartbeats 8000000 in
set_option maxRecDepth 100000 in
theorem platenref02_Text.calls (k : Nat) (a0 : ByteArray) (a1_0 : Bool) (a1_1 : Bool) (a1_2 : Bool) (a1_3 : Bool) (a1_4 : Bool) (a1_5 : Int) (a1_6 : Int) (a1_7 : Int) (r1 : ByteArray) (r2 : Bool) (w : World) (h : platenref02_Text.f k a0 a1_0 a1_1 a1_2 a1_3 a1_4 a1_5 a1_6 a1_7 = some (r1, r2)) :
 Calls Tryd.prog 18 #[.string a0, .agg #[.bool a1_0, .bool a1_1, .bool a1_2, .bool a1_3, .bool a1_4, .int .i64 a1_5, .int .i64 a1_6, .int .i32 a1_7]] w fun e w' => e = .returned (.tuple #[.string r1, .bool r2]) ∧ Below w.heap.size w w' := by
 have hu28 := Tryd.underlying28
 have HB := Aside0.mk (Below.refl w.heap.size w)
 have H : ((platenref01_Cut.f k a0 a1_6).bind fun t185 => (if a1_7 = 118 then (if a1_2 = true then ((platenref02_Quote.f k a0 false).bind fun t186 => ((platenref01_Pad.f k t186 a1_0 a1_1 a1_2 a1_3 a1_4 a1_5 a1_6 a1_7).bind fun t187 => (some (t187, true)))) else ((platenref01_Pad.f k t185 a1_0 a1_1 a1_2 a1_3 a1_4 a1_5 a1_6 a1_7).bind fun t188 => (some (t188, true)))) else (if a1_7 = 115 then ((platenref01_Pad.f k t185 a1_0 a1_1 a1_2 a1_3 a1_4 a1_5 a1_6 a1_7).bind fun t189 => (some (t189, true))) else (if a1_7 = 113 then ((platenref02_Raw.f k t185).bind fun bt190 => (if a1_2 = true then (platenref02_Text.j0 k t185 bt190.1 bt190.2 a1_0 a1_1 a1_2 a1_3 a1_4 a1_5 a1_6 a1_7) else (platenref02_Text.j0 k t185 bt190.1 false a1_0 a1_1 a1_2 a1_3 a1_4 a1_5 a1_6 a1_7))) else (if a1_7 = 120 then ((platenref02_Hex.f k a0 a1_0 a1_1 a1_2 a1_3 a1_4 a1_5 a1_6 a1_7).bind fun t195 => (some (t195, true))) else (if a1_7 = 88 then ((platenref02_Hex.f k a0 a1_0 a1_1 a1_2 a1_3 a1_4 a1_5 a1_6 a1_7).bind fun t196 => (some (t196, true))) else (some ((⟨#[]⟩ : ByteArray), false)))))))) = some (r1, r2) := h
 clear h
 replace H := Option.bind_eq_some_iff.mp H
 obtain ⟨t185, A30, H⟩ := H
 replace H : (if a1_7 = 118 then (if a1_2 = true then ((platenref02_Quote.f k a0 false).bind fun t186 => ((platenref01_Pad.f k t186 a1_0 a1_1 a1_2 a1_3 a1_4 a1_5 a1_6 a1_7).bind fun t187 => (some (t187, true)))) else ((platenref01_Pad.f k t185 a1_0 a1_1 a1_2 a1_3 a1_4 a1_5 a1_6 a1_7).bind fun t188 => (some (t188, true)))) else (if a1_7 = 115 then ((platenref01_Pad.f k t185 a1_0 a1_1 a1_2 a1_3 a1_4 a1_5 a1_6 a1_7).bind fun t189 => (some (t189, true))) else (if a1_7 = 113 then ((platenref02_Raw.f k t185).bind fun bt190 => (if a1_2 = true then (platenref02_Text.j0 k t185 bt190.1 bt190.2 a1_0 a1_1 a1_2 a1_3 a1_4 a1_5 a1_6 a1_7) else (platenref02_Text.j0 k t185 bt190.1 false a1_0 a1_1 a1_2 a1_3 a1_4 a1_5 a1_6 a1_7))) else (if a1_7 = 120 then ((platenref02_Hex.f k a0 a1_0 a1_1 a1_2 a1_3 a1_4 a1_5 a1_6 a1_7).bind fun t195 => (some (t195, true))) else (if a1_7 = 88 then ((platenref02_Hex.f k a0 a1_0 a1_1 a1_2 a1_3 a1_4 a1_5 a1_6 a1_7).bind fun t196 => (some (t196, true))) else (some ((⟨#[]⟩ : ByteArray), false))))))) = some (r1, r2) := H
 have A3 := Aside0.mk A30
 clear A30
 by_cases c4 : a1_7 = 118
 ·
  rw [if_pos c4] at H
  have c4b0 : (a1_7 == 118) = true := beq_iff_eq.mpr c4
  have c4b1 : (a1_7 != 118) = false := bne_eq_false_iff_eq.mpr c4
  clear c4
  by_cases c5 : a1_2 = true
  ·
   subst c5
   have H1 : ((platenref02_Quote.f k a0 false).bind fun t186 => ((platenref01_Pad.f k t186 a1_0 a1_1 true a1_3 a1_4 a1_5 a1_6 a1_7).bind fun t187 => (some (t187, true)))) = some (r1, r2) := by rw [if_pos rfl] at H; exact H
   clear H
   have H := H1
   clear H1
   replace H := Option.bind_eq_some_iff.mp H
   obtain ⟨t186, A60, H⟩ := H
   replace H : ((platenref01_Pad.f k t186 a1_0 a1_1 true a1_3 a1_4 a1_5 a1_6 a1_7).bind fun t187 => (some (t187, true))) = some (r1, r2) := H
   have A6 := Aside0.mk A60
   clear A60
   replace H := Option.bind_eq_some_iff.mp H
   obtain ⟨t187, A70, H⟩ := H
   replace H : (some (t187, true)) = some (r1, r2) := H
   have A7 := Aside0.mk A70
   clear A70
   simp only [Option.some.injEq, Prod.mk.injEq] at H
   obtain ⟨rfl, rfl⟩ := H
   go_enter Tryd.func18, Tryd.ntmps18
   try go_wp2_with (first | ((with_reducible refine gate_dst (N := 3) rfl ?_); refine box_event ?hg (N := 3) ?hd (cs := #[.bool a1_0, .bool a1_1, .bool true, .bool a1_3, .bool a1_4, .int .i64 a1_5, .int .i64 a1_6, .int .i32 a1_7]) (t := 28) ?hr ?_; (case hd => rfl); (case hg => rfl); (case hr => first | (go_simp; done) | (go_simp; rfl)); intro gb184 hg w8 hbox hb; have n0_ := Aside0.mk (below_step (by repeat (first | (with_reducible first | exact HB.out | apply below_alloc | apply pw_below_drewN | apply below_drew1) | exact HB.out)) hb); have n1_ := Aside0.mk (hbox); have n2_ := Aside0.mk ((by rw [hg]; exact (below_size (by repeat (first | (with_reducible first | exact HB.out | apply below_alloc | apply pw_below_drewN | apply below_drew1) | exact HB.out))) : w.heap.size ≤ gb184)); have n3_ := Aside0.mk ((by rw [hg]; exact (below_size (by repeat (first | (with_reducible first | exact HB.out | apply below_alloc | apply pw_below_drewN | apply below_drew1) | exact HB.out))) : w.heap.size ≤ gb184)); clear HB; have HB := n0_; have BK184 := n1_; have GW184 := n2_; have GE184 := n3_; clear n0_ n1_ n2_ n3_; clear hb hbox hg; have hcz9_0 : w8.cell? ⟨gb184, 0, none⟩ = some (.bool a1_0) := (blk_cell BK184.out 0).trans rfl; have hcz9_1 : w8.cell? ⟨gb184, 1, none⟩ = some (.bool a1_1) := (blk_cell BK184.out 1).trans rfl; have hcz9_2 : w8.cell? ⟨gb184, 2, none⟩ = some (.bool true) := (blk_cell BK184.out 2).trans rfl; have hcz9_3 : w8.cell? ⟨gb184, 3, none⟩ = some (.bool a1_3) := (blk_cell BK184.out 3).trans rfl; have hcz9_4 : w8.cell? ⟨gb184, 4, none⟩ = some (.bool a1_4) := (blk_cell BK184.out 4).trans rfl; have hcz9_5 : w8.cell? ⟨gb184, 5, none⟩ = some (.int .i64 a1_5) := (blk_cell BK184.out 5).trans rfl; have hcz9_6 : w8.cell? ⟨gb184, 6, none⟩ = some (.int .i64 a1_6) := (blk_cell BK184.out 6).trans rfl; have hcz9_7 : w8.cell? ⟨gb184, 7, none⟩ = some (.int .i32 a1_7) := (blk_cell BK184.out 7).trans rfl; have hfz9_0 := blk_frozen BK184.out 0; have hfz9_1 := blk_frozen BK184.out 1; have hfz9_2 := blk_frozen BK184.out 2; have hfz9_3 := blk_frozen BK184.out 3; have hfz9_4 := blk_frozen BK184.out 4; have hfz9_5 := blk_frozen BK184.out 5; have hfz9_6 := blk_frozen BK184.out 6; have hfz9_7 := blk_frozen BK184.out 7) | ((with_reducible refine gate_callee (f := 37) rfl ?_); refine goesL_ (some 12) rfl rfl Tryd.func37 (by kernel_rfl) rfl #[.string a0, .int .i64 a1_6] rfl (by (try simp only [List.map_toArray, List.map_cons, List.map_nil]); first | done | rfl | (simp only [List.length_drop, List.length_take]; rfl)) ?_; (with_reducible refine (platenref01_Cut.calls k a0 a1_6 t185 _ A3.out).mono ?_); rintro e w10 ⟨rfl, hb⟩; refine ⟨_, rfl, ?_⟩; have n0_ := Aside0.mk (blk_below (g := gb184) (o := .cells #[.bool a1_0, .bool a1_1, .bool true, .bool a1_3, .bool a1_4, .int .i64 a1_5, .int .i64 a1_6, .int .i32 a1_7] 28 (0, 0)) (by (with_reducible repeat (first | refine blk_drewN ?_ _ | refine blk_drew ?_ | refine blk_alloc ?_ _)); exact BK184.out) hb); have n1_ := Aside0.mk (below_step (by repeat (first | (with_reducible first | exact HB.out | apply below_alloc | apply pw_below_drewN | apply below_drew1 | refine below_set ?_ GE184.out) | exact HB.out)) hb); clear BK184; clear HB; have BK184 := n0_; have HB := n1_; clear n0_ n1_; (try clear hb); (try clear hb2); (try clear hk); (try clear hi); have hcz11_0 : w10.cell? ⟨gb184, 0, none⟩ = some (.bool a1_0) := (blk_cell BK184.out 0).trans rfl; have hcz11_1 : w10.cell? ⟨gb184, 1, none⟩ = some (.bool a1_1) := (blk_cell BK184.out 1).trans rfl; have hcz11_2 : w10.cell? ⟨gb184, 2, none⟩ = some (.bool true) := (blk_cell BK184.out 2).trans rfl; have hcz11_3 : w10.cell? ⟨gb184, 3, none⟩ = some (.bool a1_3) := (blk_cell BK184.out 3).trans rfl; have hcz11_4 : w10.cell? ⟨gb184, 4, none⟩ = some (.bool a1_4) := (blk_cell BK184.out 4).trans rfl; have hcz11_5 : w10.cell? ⟨gb184, 5, none⟩ = some (.int .i64 a1_5) := (blk_cell BK184.out 5).trans rfl; have hcz11_6 : w10.cell? ⟨gb184, 6, none⟩ = some (.int .i64 a1_6) := (blk_cell BK184.out 6).trans rfl; have hcz11_7 : w10.cell? ⟨gb184, 7, none⟩ = some (.int .i32 a1_7) := (blk_cell BK184.out 7).trans rfl; have hfz11_0 := blk_frozen BK184.out 0; have hfz11_1 := blk_frozen BK184.out 1; have hfz11_2 := blk_frozen BK184.out 2; have hfz11_3 := blk_frozen BK184.out 3; have hfz11_4 := blk_frozen BK184.out 4; have hfz11_5 := blk_frozen BK184.out 5; have hfz11_6 := blk_frozen BK184.out 6; have hfz11_7 := blk_frozen BK184.out 7))
   have n0_ := Aside0.mk (blk_drew BK184.out)
   have n1_ := Aside0.mk (below_drew1 HB.out)
   clear BK184
   clear HB
   have BK184 := n0_
   have HB := n1_
   clear n0_ n1_
   refine start_ (n := 6) (S := fun w' => w'.cell? ⟨gb184, 0, none⟩ = some (.bool a1_0) ∧ w'.cell? ⟨gb184, 1, none⟩ = some (.bool a1_1) ∧ w'.cell? ⟨gb184, 2, none⟩ = some (.bool true) ∧ w'.cell? ⟨gb184, 3, none⟩ = some (.bool a1_3) ∧ w'.cell? ⟨gb184, 4, none⟩ = some (.bool a1_4) ∧ w'.cell? ⟨gb184, 5, none⟩ = some (.int .i64 a1_5) ∧ w'.cell? ⟨gb184, 6, none⟩ = some (.int .i64 a1_6) ∧ w'.cell? ⟨gb184, 7, none⟩ = some (.int .i32 a1_7)) (ds := []) #[false, false, false, false, false, false] (by kernel_rfl) rfl rfl ⟨(blk_cell BK184.out 0).trans rfl, (blk_cell BK184.out 1).trans rfl, (blk_cell BK184.out 2).trans rfl, (blk_cell BK184.out 3).trans rfl, (blk_cell BK184.out 4).trans rfl, (blk_cell BK184.out 5).trans rfl, (blk_cell BK184.out 6).trans rfl, (blk_cell BK184.out 7).trans rfl⟩ (fun hHeld => ?_)
   generalize w10.drew = w12 at BK184 HB hHeld ⊢
   refine pure_ (i := 0) (N := some 19) (v := ?_) (a' := ?_) #[true, false, false, false, false, false] rfl rfl (by kernel_rfl) (fun _ _ _ h => h) (Or.inl ⟨by rfl, ?_⟩) ?_ ?_
   rotate_left
   ·
    intro w'
    go_simp
    with_reducible rfl
   rotate_left
   ·
    simp only [Act.put, List.setIfInBounds_toArray, List.set_cons_zero, List.set_cons_succ, i64_w, i32_w]
    rfl
   refine take_ (i := 2) (N := some 21) (v := ?_) (a' := ?_) #[true, false, true, false, false, false] rfl rfl (by kernel_rfl) (fun _ _ _ h => h) (Or.inl ⟨by rfl, ?_⟩) hHeld ?_ ?_
   rotate_left
   ·
    rintro w' ⟨s0, s1, s2, s3, s4, s5, s6, s7⟩
    go_simp
    with_reducible rfl
   rotate_left
   ·
    simp only [Act.put, List.setIfInBounds_toArray, List.set_cons_zero, List.set_cons_succ, i64_w, i32_w]
    rfl
   refine one_ (i := 1) (N := some 20) #[true, true, true, false, false, false] rfl rfl (by kernel_rfl) (by decide) (fun K hK => ?_)
   refine goes_ Tryd.func31 (by kernel_rfl) rfl #[.string a0, .bool false] (by rfl) rfl rfl (by (try simp only [List.map_toArray, List.map_cons, List.map_nil]); first | done | rfl | (simp only [List.length_drop, List.length_take]; rfl)) ?_
   with_reducible refine (platenref02_Quote.calls k a0 false t186 _ A6.out).mono ?_
   rintro e w13 ⟨rfl, hb⟩
   refine ⟨_, rfl, ?_⟩
   have n0_ := Aside0.mk (blk_below (g := gb184) (o := .cells #[.bool a1_0, .bool a1_1, .bool true, .bool a1_3, .bool a1_4, .int .i64 a1_5, .int .i64 a1_6, .int .i32 a1_7] 28 (0, 0)) (by (with_reducible repeat (first | refine blk_drewN ?_ _ | refine blk_drew ?_ | refine blk_alloc ?_ _)); exact BK184.out) hb)
   have n1_ := Aside0.mk (below_step (by repeat (first | (with_reducible first | exact HB.out | apply below_alloc | apply pw_below_drewN | apply below_drew1 | refine below_set ?_ GE184.out) | exact HB.out)) hb)
   clear BK184
   clear HB
   have BK184 := n0_
   have HB := n1_
   clear n0_ n1_
   (try clear hb)
   (try clear hb2)
   (try clear hk)
   (try clear hi)
   refine hK.out _ _ ⟨(blk_cell BK184.out 0).trans rfl, (blk_cell BK184.out 1).trans rfl, (blk_cell BK184.out 2).trans rfl, (blk_cell BK184.out 3).trans rfl, (blk_cell BK184.out 4).trans rfl, (blk_cell BK184.out 5).trans rfl, (blk_cell BK184.out 6).trans rfl, (blk_cell BK184.out 7).trans rfl⟩ (fun hHeld => ?_)
   clear hK K
   refine norm_ (a' := ?_) ?_ ?_
   rotate_left
   ·
    show Act.put _ (some 20) _ = _
    simp only [Act.put, List.setIfInBounds_toArray, List.set_cons_zero, List.set_cons_succ, i64_w, i32_w]
    rfl
   refine one_ (i := 3) (N := some 22) #[true, true, true, true, false, false] rfl rfl (by kernel_rfl) (by decide) (fun K hK => ?_)
   refine goes_ Tryd.func34 (by kernel_rfl) rfl #[.string t186, .agg #[.bool a1_0, .bool a1_1, .bool true, .bool a1_3, .bool a1_4, .int .i64 a1_5, .int .i64 a1_6, .int .i32 a1_7]] (by rfl) rfl rfl (by (try simp only [List.map_toArray, List.map_cons, List.map_nil]); first | done | rfl | (simp only [List.length_drop, List.length_take]; rfl)) ?_
   with_reducible refine (platenref01_Pad.calls k t186 a1_0 a1_1 true a1_3 a1_4 a1_5 a1_6 a1_7 t187 _ A7.out).mono ?_
   rintro e w14 ⟨rfl, hb⟩
   refine ⟨_, rfl, ?_⟩
   have n0_ := Aside0.mk (blk_below (g := gb184) (o := .cells #[.bool a1_0, .bool a1_1, .bool true, .bool a1_3, .bool a1_4, .int .i64 a1_5, .int .i64 a1_6, .int .i32 a1_7] 28 (0, 0)) (by (with_reducible repeat (first | refine blk_drewN ?_ _ | refine blk_drew ?_ | refine blk_alloc ?_ _)); exact BK184.out) hb)
   have n1_ := Aside0.mk (below_step (by repeat (first | (with_reducible first | exact HB.out | apply below_alloc | apply pw_below_drewN | apply below_drew1 | refine below_set ?_ GE184.out) | exact HB.out)) hb)
   clear BK184
   clear HB
   have BK184 := n0_
   have HB := n1_
   clear n0_ n1_
   (try clear hb)
   (try clear hb2)
   (try clear hk)
   (try clear hi)
   refine hK.out _ _ ⟨(blk_cell BK184.out 0).trans rfl, (blk_cell BK184.out 1).trans rfl, (blk_cell BK184.out 2).trans rfl, (blk_cell BK184.out 3).trans rfl, (blk_cell BK184.out 4).trans rfl, (blk_cell BK184.out 5).trans rfl, (blk_cell BK184.out 6).trans rfl, (blk_cell BK184.out 7).trans rfl⟩ (fun hHeld => ?_)
   clear hK K
   refine norm_ (a' := ?_) ?_ ?_
   rotate_left
   ·
    show Act.put _ (some 22) _ = _
    simp only [Act.put, List.setIfInBounds_toArray, List.set_cons_zero, List.set_cons_succ, i64_w, i32_w]
    rfl
   refine pure_ (i := 4) (N := some 4) (v := ?_) (a' := ?_) #[true, true, true, true, true, false] rfl rfl (by kernel_rfl) (fun _ _ _ h => h) (Or.inl ⟨by rfl, ?_⟩) ?_ ?_
   rotate_left
   ·
    intro w'
    go_simp
    with_reducible rfl
   rotate_left
   ·
    simp only [Act.put, List.setIfInBounds_toArray, List.set_cons_zero, List.set_cons_succ, i64_w, i32_w]
    rfl
   refine pure_ (i := 5) (N := some 5) (v := ?_) (a' := ?_) #[true, true, true, true, true, true] rfl rfl (by kernel_rfl) (fun _ _ _ h => h) (Or.inl ⟨by rfl, ?_⟩) ?_ ?_
   rotate_left
   ·
    intro w'
    go_simp
    with_reducible rfl
   rotate_left
   ·
    simp only [Act.put, List.setIfInBounds_toArray, List.set_cons_zero, List.set_cons_succ, i64_w, i32_w]
    rfl
   refine done_ (by kernel_rfl) ?_
   try go_wp2
   go_ret2
   exact ⟨by first | rfl | (simp [errW_none, errW_some] <;> rfl) | (simp [*, errW_none, errW_some] <;> rfl), by repeat (first | (with_reducible first | exact HB.out | apply below_alloc | apply pw_below_drewN | apply below_drew1 | refine below_set ?_ GE184.out) | exact HB.out)⟩
  ·
   replace c5 := Bool.eq_false_iff.mpr c5
   subst c5
   have H1 : ((platenref01_Pad.f k t185 a1_0 a1_1 false a1_3 a1_4 a1_5 a1_6 a1_7).bind fun t188 => (some (t188, true))) = some (r1, r2) := by rw [if_neg (show ¬ (false = true) by decide)] at H; exact H
   clear H
   have H := H1
   clear H1
   replace H := Option.bind_eq_some_iff.mp H
   obtain ⟨t188, A150, H⟩ := H
   replace H : (some (t188, true)) = some (r1, r2) := H
   have A15 := Aside0.mk A150
   clear A150
   simp only [Option.some.injEq, Prod.mk.injEq] at H
   obtain ⟨rfl, rfl⟩ := H
   go_enter Tryd.func18, Tryd.ntmps18
   go_wp2_with (first | ((with_reducible refine gate_dst (N := 3) rfl ?_); refine box_event ?hg (N := 3) ?hd (cs := #[.bool a1_0, .bool a1_1, .bool false, .bool a1_3, .bool a1_4, .int .i64 a1_5, .int .i64 a1_6, .int .i32 a1_7]) (t := 28) ?hr ?_; (case hd => rfl); (case hg => rfl); (case hr => first | (go_simp; done) | (go_simp; rfl)); intro gb184 hg w16 hbox hb; have n0_ := Aside0.mk (below_step (by repeat (first | (with_reducible first | exact HB.out | apply below_alloc | apply pw_below_drewN | apply below_drew1) | exact HB.out)) hb); have n1_ := Aside0.mk (hbox); have n2_ := Aside0.mk ((by rw [hg]; exact (below_size (by repeat (first | (with_reducible first | exact HB.out | apply below_alloc | apply pw_below_drewN | apply below_drew1) | exact HB.out))) : w.heap.size ≤ gb184)); have n3_ := Aside0.mk ((by rw [hg]; exact (below_size (by repeat (first | (with_reducible first | exact HB.out | apply below_alloc | apply pw_below_drewN | apply below_drew1) | exact HB.out))) : w.heap.size ≤ gb184)); clear HB; have HB := n0_; have BK184 := n1_; have GW184 := n2_; have GE184 := n3_; clear n0_ n1_ n2_ n3_; clear hb hbox hg; have hcz17_0 : w16.cell? ⟨gb184, 0, none⟩ = some (.bool a1_0) := (blk_cell BK184.out 0).trans rfl; have hcz17_1 : w16.cell? ⟨gb184, 1, none⟩ = some (.bool a1_1) := (blk_cell BK184.out 1).trans rfl; have hcz17_2 : w16.cell? ⟨gb184, 2, none⟩ = some (.bool false) := (blk_cell BK184.out 2).trans rfl; have hcz17_3 : w16.cell? ⟨gb184, 3, none⟩ = some (.bool a1_3) := (blk_cell BK184.out 3).trans rfl; have hcz17_4 : w16.cell? ⟨gb184, 4, none⟩ = some (.bool a1_4) := (blk_cell BK184.out 4).trans rfl; have hcz17_5 : w16.cell? ⟨gb184, 5, none⟩ = some (.int .i64 a1_5) := (blk_cell BK184.out 5).trans rfl; have hcz17_6 : w16.cell? ⟨gb184, 6, none⟩ = some (.int .i64 a1_6) := (blk_cell BK184.out 6).trans rfl; have hcz17_7 : w16.cell? ⟨gb184, 7, none⟩ = some (.int .i32 a1_7) := (blk_cell BK184.out 7).trans rfl; have hfz17_0 := blk_frozen BK184.out 0; have hfz17_1 := blk_frozen BK184.out 1; have hfz17_2 := blk_frozen BK184.out 2; have hfz17_3 := blk_frozen BK184.out 3; have hfz17_4 := blk_frozen BK184.out 4; have hfz17_5 := blk_frozen BK184.out 5; have hfz17_6 := blk_frozen BK184.out 6; have hfz17_7 := blk_frozen BK184.out 7) | ((with_reducible refine gate_callee (f := 37) rfl ?_); refine goesL_ (some 12) rfl rfl Tryd.func37 (by kernel_rfl) rfl #[.string a0, .int .i64 a1_6] rfl (by (try simp only [List.map_toArray, List.map_cons, List.map_nil]); first | done | rfl | (simp only [List.length_drop, List.length_take]; rfl)) ?_; (with_reducible refine (platenref01_Cut.calls k a0 a1_6 t185 _ A3.out).mono ?_); rintro e w18 ⟨rfl, hb⟩; refine ⟨_, rfl, ?_⟩; have n0_ := Aside0.mk (blk_below (g := gb184) (o := .cells #[.bool a1_0, .bool a1_1, .bool false, .bool a1_3, .bool a1_4, .int .i64 a1_5, .int .i64 a1_6, .int .i32 a1_7] 28 (0, 0)) (by (with_reducible repeat (first | refine blk_drewN ?_ _ | refine blk_drew ?_ | refine blk_alloc ?_ _)); exact BK184.out) hb); have n1_ := Aside0.mk (below_step (by repeat (first | (with_reducible first | exact HB.out | apply below_alloc | apply pw_below_drewN | apply below_drew1 | refine below_set ?_ GE184.out) | exact HB.out)) hb); clear BK184; clear HB; have BK184 := n0_; have HB := n1_; clear n0_ n1_; (try clear hb); (try clear hb2); (try clear hk); (try clear hi); have hcz19_0 : w18.cell? ⟨gb184, 0, none⟩ = some (.bool a1_0) := (blk_cell BK184.out 0).trans rfl; have hcz19_1 : w18.cell? ⟨gb184, 1, none⟩ = some (.bool a1_1) := (blk_cell BK184.out 1).trans rfl; have hcz19_2 : w18.cell? ⟨gb184, 2, none⟩ = some (.bool false) := (blk_cell BK184.out 2).trans rfl; have hcz19_3 : w18.cell? ⟨gb184, 3, none⟩ = some (.bool a1_3) := (blk_cell BK184.out 3).trans rfl; have hcz19_4 : w18.cell? ⟨gb184, 4, none⟩ = some (.bool a1_4) := (blk_cell BK184.out 4).trans rfl; have hcz19_5 : w18.cell? ⟨gb184, 5, none⟩ = some (.int .i64 a1_5) := (blk_cell BK184.out 5).trans rfl; have hcz19_6 : w18.cell? ⟨gb184, 6, none⟩ = some (.int .i64 a1_6) := (blk_cell BK184.out 6).trans rfl; have hcz19_7 : w18.cell? ⟨gb184, 7, none⟩ = some (.int .i32 a1_7) := (blk_cell BK184.out 7).trans rfl; have hfz19_0 := blk_frozen BK184.out 0; have hfz19_1 := blk_frozen BK184.out 1; have hfz19_2 := blk_frozen BK184.out 2; have hfz19_3 := blk_frozen BK184.out 3; have hfz19_4 := blk_frozen BK184.out 4; have hfz19_5 := blk_frozen BK184.out 5; have hfz19_6 := blk_frozen BK184.out 6; have hfz19_7 := blk_frozen BK184.out 7) | ((with_reducible refine gate_callee (f := 34) rfl ?_); refine goesL_ (some 25) rfl rfl Tryd.func34 (by kernel_rfl) rfl #[.string t185, .agg #[.bool a1_0, .bool a1_1, .bool false, .bool a1_3, .bool a1_4, .int .i64 a1_5, .int .i64 a1_6, .int .i32 a1_7]] rfl (by (try simp only [List.map_toArray, List.map_cons, List.map_nil]); first | done | rfl | (simp only [List.length_drop, List.length_take]; rfl)) ?_; (with_reducible refine (platenref01_Pad.calls k t185 a1_0 a1_1 false a1_3 a1_4 a1_5 a1_6 a1_7 t188 _ A15.out).mono ?_); rintro e w20 ⟨rfl, hb⟩; refine ⟨_, rfl, ?_⟩; have n0_ := Aside0.mk (blk_below (g := gb184) (o := .cells #[.bool a1_0, .bool a1_1, .bool false, .bool a1_3, .bool a1_4, .int .i64 a1_5, .int .i64 a1_6, .int .i32 a1_7] 28 (0, 0)) (by (with_reducible repeat (first | refine blk_drewN ?_ _ | refine blk_drew ?_ | refine blk_alloc ?_ _)); exact BK184.out) hb); have n1_ := Aside0.mk (below_step (by repeat (first | (with_reducible first | exact HB.out | apply below_alloc | apply pw_below_drewN | apply below_drew1 | refine below_set ?_ GE184.out) | exact HB.out)) hb); clear BK184; clear HB; have BK184 := n0_; have HB := n1_; clear n0_ n1_; (try clear hb); (try clear hb2); (try clear hk); (try clear hi)))
   go_ret2
   exact ⟨by first | rfl | (simp [errW_none, errW_some] <;> rfl) | (simp [*, errW_none, errW_some] <;> rfl), by repeat (first | (with_reducible first | exact HB.out | apply below_alloc | apply pw_below_drewN | apply below_drew1 | refine below_set ?_ GE184.out) | exact HB.out)⟩
 ·
  rw [if_neg c4] at H
  have c4b0 : (a1_7 == 118) = false := beq_eq_false_iff_ne.mpr c4
  have c4b1 : (a1_7 != 118) = true := bne_iff_ne.mpr c4
  by_cases c21 : a1_7 = 115
  ·
   rw [if_pos c21] at H
   have c21b0 : (a1_7 == 115) = true := beq_iff_eq.mpr c21
   have c21b1 : (a1_7 != 115) = false := bne_eq_false_iff_eq.mpr c21
   clear c21
   replace H := Option.bind_eq_some_iff.mp H
   obtain ⟨t189, A220, H⟩ := H
   replace H : (some (t189, true)) = some (r1, r2) := H
   have A22 := Aside0.mk A220
   clear A220
   simp only [Option.some.injEq, Prod.mk.injEq] at H
   obtain ⟨rfl, rfl⟩ := H
   go_enter Tryd.func18, Tryd.ntmps18
   go_wp2_with (first | ((with_reducible refine gate_dst (N := 3) rfl ?_); refine box_event ?hg (N := 3) ?hd (cs := #[.bool a1_0, .bool a1_1, .bool a1_2, .bool a1_3, .bool a1_4, .int .i64 a1_5, .int .i64 a1_6, .int .i32 a1_7]) (t := 28) ?hr ?_; (case hd => rfl); (case hg => rfl); (case hr => first | (go_simp; done) | (go_simp; rfl)); intro gb184 hg w23 hbox hb; have n0_ := Aside0.mk (below_step (by repeat (first | (with_reducible first | exact HB.out | apply below_alloc | apply pw_below_drewN | apply below_drew1) | exact HB.out)) hb); have n1_ := Aside0.mk (hbox); have n2_ := Aside0.mk ((by rw [hg]; exact (below_size (by repeat (first | (with_reducible first | exact HB.out | apply below_alloc | apply pw_below_drewN | apply below_drew1) | exact HB.out))) : w.heap.size ≤ gb184)); have n3_ := Aside0.mk ((by rw [hg]; exact (below_size (by repeat (first | (with_reducible first | exact HB.out | apply below_alloc | apply pw_below_drewN | apply below_drew1) | exact HB.out))) : w.heap.size ≤ gb184)); clear HB; have HB := n0_; have BK184 := n1_; have GW184 := n2_; have GE184 := n3_; clear n0_ n1_ n2_ n3_; clear hb hbox hg; have hcz24_0 : w23.cell? ⟨gb184, 0, none⟩ = some (.bool a1_0) := (blk_cell BK184.out 0).trans rfl; have hcz24_1 : w23.cell? ⟨gb184, 1, none⟩ = some (.bool a1_1) := (blk_cell BK184.out 1).trans rfl; have hcz24_2 : w23.cell? ⟨gb184, 2, none⟩ = some (.bool a1_2) := (blk_cell BK184.out 2).trans rfl; have hcz24_3 : w23.cell? ⟨gb184, 3, none⟩ = some (.bool a1_3) := (blk_cell BK184.out 3).trans rfl; have hcz24_4 : w23.cell? ⟨gb184, 4, none⟩ = some (.bool a1_4) := (blk_cell BK184.out 4).trans rfl; have hcz24_5 : w23.cell? ⟨gb184, 5, none⟩ = some (.int .i64 a1_5) := (blk_cell BK184.out 5).trans rfl; have hcz24_6 : w23.cell? ⟨gb184, 6, none⟩ = some (.int .i64 a1_6) := (blk_cell BK184.out 6).trans rfl; have hcz24_7 : w23.cell? ⟨gb184, 7, none⟩ = some (.int .i32 a1_7) := (blk_cell BK184.out 7).trans rfl; have hfz24_0 := blk_frozen BK184.out 0; have hfz24_1 := blk_frozen BK184.out 1; have hfz24_2 := blk_frozen BK184.out 2; have hfz24_3 := blk_frozen BK184.out 3; have hfz24_4 := blk_frozen BK184.out 4; have hfz24_5 := blk_frozen BK184.out 5; have hfz24_6 := blk_frozen BK184.out 6; have hfz24_7 := blk_frozen BK184.out 7) | ((with_reducible refine gate_callee (f := 37) rfl ?_); refine goesL_ (some 12) rfl rfl Tryd.func37 (by kernel_rfl) rfl #[.string a0, .int .i64 a1_6] rfl (by (try simp only [List.map_toArray, List.map_cons, List.map_nil]); first | done | rfl | (simp only [List.length_drop, List.length_take]; rfl)) ?_; (with_reducible refine (platenref01_Cut.calls k a0 a1_6 t185 _ A3.out).mono ?_); rintro e w25 ⟨rfl, hb⟩; refine ⟨_, rfl, ?_⟩; have n0_ := Aside0.mk (blk_below (g := gb184) (o := .cells #[.bool a1_0, .bool a1_1, .bool a1_2, .bool a1_3, .bool a1_4, .int .i64 a1_5, .int .i64 a1_6, .int .i32 a1_7] 28 (0, 0)) (by (with_reducible repeat (first | refine blk_drewN ?_ _ | refine blk_drew ?_ | refine blk_alloc ?_ _)); exact BK184.out) hb); have n1_ := Aside0.mk (below_step (by repeat (first | (with_reducible first | exact HB.out | apply below_alloc | apply pw_below_drewN | apply below_drew1 | refine below_set ?_ GE184.out) | exact HB.out)) hb); clear BK184; clear HB; have BK184 := n0_; have HB := n1_; clear n0_ n1_; (try clear hb); (try clear hb2); (try clear hk); (try clear hi); have hcz26_0 : w25.cell? ⟨gb184, 0, none⟩ = some (.bool a1_0) := (blk_cell BK184.out 0).trans rfl; have hcz26_1 : w25.cell? ⟨gb184, 1, none⟩ = some (.bool a1_1) := (blk_cell BK184.out 1).trans rfl; have hcz26_2 : w25.cell? ⟨gb184, 2, none⟩ = some (.bool a1_2) := (blk_cell BK184.out 2).trans rfl; have hcz26_3 : w25.cell? ⟨gb184, 3, none⟩ = some (.bool a1_3) := (blk_cell BK184.out 3).trans rfl; have hcz26_4 : w25.cell? ⟨gb184, 4, none⟩ = some (.bool a1_4) := (blk_cell BK184.out 4).trans rfl; have hcz26_5 : w25.cell? ⟨gb184, 5, none⟩ = some (.int .i64 a1_5) := (blk_cell BK184.out 5).trans rfl; have hcz26_6 : w25.cell? ⟨gb184, 6, none⟩ = some (.int .i64 a1_6) := (blk_cell BK184.out 6).trans rfl; have hcz26_7 : w25.cell? ⟨gb184, 7, none⟩ = some (.int .i32 a1_7) := (blk_cell BK184.out 7).trans rfl; have hfz26_0 := blk_frozen BK184.out 0; have hfz26_1 := blk_frozen BK184.out 1; have hfz26_2 := blk_frozen BK184.out 2; have hfz26_3 := blk_frozen BK184.out 3; have hfz26_4 := blk_frozen BK184.out 4; have hfz26_5 := blk_frozen BK184.out 5; have hfz26_6 := blk_frozen BK184.out 6; have hfz26_7 := blk_frozen BK184.out 7) | ((with_reducible refine gate_callee (f := 34) rfl ?_); refine goesL_ (some 30) rfl rfl Tryd.func34 (by kernel_rfl) rfl #[.string t185, .agg #[.bool a1_0, .bool a1_1, .bool a1_2, .bool a1_3, .bool a1_4, .int .i64 a1_5, .int .i64 a1_6, .int .i32 a1_7]] rfl (by (try simp only [List.map_toArray, List.map_cons, List.map_nil]); first | done | rfl | (simp only [List.length_drop, List.length_take]; rfl)) ?_; (with_reducible refine (platenref01_Pad.calls k t185 a1_0 a1_1 a1_2 a1_3 a1_4 a1_5 a1_6 a1_7 t189 _ A22.out).mono ?_); rintro e w27 ⟨rfl, hb⟩; refine ⟨_, rfl, ?_⟩; have n0_ := Aside0.mk (blk_below (g := gb184) (o := .cells #[.bool a1_0, .bool a1_1, .bool a1_2, .bool a1_3, .bool a1_4, .int .i64 a1_5, .int .i64 a1_6, .int .i32 a1_7] 28 (0, 0)) (by (with_reducible repeat (first | refine blk_drewN ?_ _ | refine blk_drew ?_ | refine blk_alloc ?_ _)); exact BK184.out) hb); have n1_ := Aside0.mk (below_step (by repeat (first | (with_reducible first | exact HB.out | apply below_alloc | apply pw_below_drewN | apply below_drew1 | refine below_set ?_ GE184.out) | exact HB.out)) hb); clear BK184; clear HB; have BK184 := n0_; have HB := n1_; clear n0_ n1_; (try clear hb); (try clear hb2); (try clear hk); (try clear hi)))
   go_ret2
   exact ⟨by first | rfl | (simp [errW_none, errW_some] <;> rfl) | (simp [*, errW_none, errW_some] <;> rfl), by repeat (first | (with_reducible first | exact HB.out | apply below_alloc | apply pw_below_drewN | apply below_drew1 | refine below_set ?_ GE184.out) | exact HB.out)⟩
  ·
   rw [if_neg c21] at H
   have c21b0 : (a1_7 == 115) = false := beq_eq_false_iff_ne.mpr c21
   have c21b1 : (a1_7 != 115) = true := bne_iff_ne.mpr c21
   by_cases c28 : a1_7 = 113
   ·
    rw [if_pos c28] at H
    have c28b0 : (a1_7 == 113) = true := beq_iff_eq.mpr c28
    have c28b1 : (a1_7 != 113) = false := bne_eq_false_iff_eq.mpr c28
    clear c28
    replace H := Option.bind_eq_some_iff.mp H
    obtain ⟨⟨t190, t191⟩, A290, H⟩ := H
    replace H : (if a1_2 = true then (platenref02_Text.j0 k t185 t190 t191 a1_0 a1_1 a1_2 a1_3 a1_4 a1_5 a1_6 a1_7) else (platenref02_Text.j0 k t185 t190 false a1_0 a1_1 a1_2 a1_3 a1_4 a1_5 a1_6 a1_7)) = some (r1, r2) := H
    have A29 := Aside0.mk A290
    clear A290
    have HC30 := Aside0.mk H
    clear H
    go_enter Tryd.func18, Tryd.ntmps18
    go_upto_region 11 with (first | ((with_reducible refine gate_dst (N := 3) rfl ?_); refine box_event ?hg (N := 3) ?hd (cs := #[.bool a1_0, .bool a1_1, .bool a1_2, .bool a1_3, .bool a1_4, .int .i64 a1_5, .int .i64 a1_6, .int .i32 a1_7]) (t := 28) ?hr ?_; (case hd => rfl); (case hg => rfl); (case hr => first | (go_simp; done) | (go_simp; rfl)); intro gb184 hg w31 hbox hb; have n0_ := Aside0.mk (below_step (by repeat (first | (with_reducible first | exact HB.out | apply below_alloc | apply pw_below_drewN | apply below_drew1) | exact HB.out)) hb); have n1_ := Aside0.mk (hbox); have n2_ := Aside0.mk ((by rw [hg]; exact (below_size (by repeat (first | (with_reducible first | exact HB.out | apply below_alloc | apply pw_below_drewN | apply below_drew1) | exact HB.out))) : w.heap.size ≤ gb184)); have n3_ := Aside0.mk ((by rw [hg]; exact (below_size (by repeat (first | (with_reducible first | exact HB.out | apply below_alloc | apply pw_below_drewN | apply below_drew1) | exact HB.out))) : w.heap.size ≤ gb184)); clear HB; have HB := n0_; have BK184 := n1_; have GW184 := n2_; have GE184 := n3_; clear n0_ n1_ n2_ n3_; clear hb hbox hg; have hcz32_0 : w31.cell? ⟨gb184, 0, none⟩ = some (.bool a1_0) := (blk_cell BK184.out 0).trans rfl; have hcz32_1 : w31.cell? ⟨gb184, 1, none⟩ = some (.bool a1_1) := (blk_cell BK184.out 1).trans rfl; have hcz32_2 : w31.cell? ⟨gb184, 2, none⟩ = some (.bool a1_2) := (blk_cell BK184.out 2).trans rfl; have hcz32_3 : w31.cell? ⟨gb184, 3, none⟩ = some (.bool a1_3) := (blk_cell BK184.out 3).trans rfl; have hcz32_4 : w31.cell? ⟨gb184, 4, none⟩ = some (.bool a1_4) := (blk_cell BK184.out 4).trans rfl; have hcz32_5 : w31.cell? ⟨gb184, 5, none⟩ = some (.int .i64 a1_5) := (blk_cell BK184.out 5).trans rfl; have hcz32_6 : w31.cell? ⟨gb184, 6, none⟩ = some (.int .i64 a1_6) := (blk_cell BK184.out 6).trans rfl; have hcz32_7 : w31.cell? ⟨gb184, 7, none⟩ = some (.int .i32 a1_7) := (blk_cell BK184.out 7).trans rfl; have hfz32_0 := blk_frozen BK184.out 0; have hfz32_1 := blk_frozen BK184.out 1; have hfz32_2 := blk_frozen BK184.out 2; have hfz32_3 := blk_frozen BK184.out 3; have hfz32_4 := blk_frozen BK184.out 4; have hfz32_5 := blk_frozen BK184.out 5; have hfz32_6 := blk_frozen BK184.out 6; have hfz32_7 := blk_frozen BK184.out 7) | ((with_reducible refine gate_callee (f := 37) rfl ?_); refine goesL_ (some 12) rfl rfl Tryd.func37 (by kernel_rfl) rfl #[.string a0, .int .i64 a1_6] rfl (by (try simp only [List.map_toArray, List.map_cons, List.map_nil]); first | done | rfl | (simp only [List.length_drop, List.length_take]; rfl)) ?_; (with_reducible refine (platenref01_Cut.calls k a0 a1_6 t185 _ A3.out).mono ?_); rintro e w33 ⟨rfl, hb⟩; refine ⟨_, rfl, ?_⟩; have n0_ := Aside0.mk (blk_below (g := gb184) (o := .cells #[.bool a1_0, .bool a1_1, .bool a1_2, .bool a1_3, .bool a1_4, .int .i64 a1_5, .int .i64 a1_6, .int .i32 a1_7] 28 (0, 0)) (by (with_reducible repeat (first | refine blk_drewN ?_ _ | refine blk_drew ?_ | refine blk_alloc ?_ _)); exact BK184.out) hb); have n1_ := Aside0.mk (below_step (by repeat (first | (with_reducible first | exact HB.out | apply below_alloc | apply pw_below_drewN | apply below_drew1 | refine below_set ?_ GE184.out) | exact HB.out)) hb); clear BK184; clear HB; have BK184 := n0_; have HB := n1_; clear n0_ n1_; (try clear hb); (try clear hb2); (try clear hk); (try clear hi); have hcz34_0 : w33.cell? ⟨gb184, 0, none⟩ = some (.bool a1_0) := (blk_cell BK184.out 0).trans rfl; have hcz34_1 : w33.cell? ⟨gb184, 1, none⟩ = some (.bool a1_1) := (blk_cell BK184.out 1).trans rfl; have hcz34_2 : w33.cell? ⟨gb184, 2, none⟩ = some (.bool a1_2) := (blk_cell BK184.out 2).trans rfl; have hcz34_3 : w33.cell? ⟨gb184, 3, none⟩ = some (.bool a1_3) := (blk_cell BK184.out 3).trans rfl; have hcz34_4 : w33.cell? ⟨gb184, 4, none⟩ = some (.bool a1_4) := (blk_cell BK184.out 4).trans rfl; have hcz34_5 : w33.cell? ⟨gb184, 5, none⟩ = some (.int .i64 a1_5) := (blk_cell BK184.out 5).trans rfl; have hcz34_6 : w33.cell? ⟨gb184, 6, none⟩ = some (.int .i64 a1_6) := (blk_cell BK184.out 6).trans rfl; have hcz34_7 : w33.cell? ⟨gb184, 7, none⟩ = some (.int .i32 a1_7) := (blk_cell BK184.out 7).trans rfl; have hfz34_0 := blk_frozen BK184.out 0; have hfz34_1 := blk_frozen BK184.out 1; have hfz34_2 := blk_frozen BK184.out 2; have hfz34_3 := blk_frozen BK184.out 3; have hfz34_4 := blk_frozen BK184.out 4; have hfz34_5 := blk_frozen BK184.out 5; have hfz34_6 := blk_frozen BK184.out 6; have hfz34_7 := blk_frozen BK184.out 7) | ((with_reducible refine gate_callee (f := 38) rfl ?_); refine goesL_ (some 35) rfl rfl Tryd.func38 (by kernel_rfl) rfl #[.string t185] rfl (by (try simp only [List.map_toArray, List.map_cons, List.map_nil]); first | done | rfl | (simp only [List.length_drop, List.length_take]; rfl)) ?_; (with_reducible refine (platenref02_Raw.calls k t185 t190 t191 _ A29.out).mono ?_); rintro e w35 ⟨rfl, hb⟩; refine ⟨_, rfl, ?_⟩; have n0_ := Aside0.mk (blk_below (g := gb184) (o := .cells #[.bool a1_0, .bool a1_1, .bool a1_2, .bool a1_3, .bool a1_4, .int .i64 a1_5, .int .i64 a1_6, .int .i32 a1_7] 28 (0, 0)) (by (with_reducible repeat (first | refine blk_drewN ?_ _ | refine blk_drew ?_ | refine blk_alloc ?_ _)); exact BK184.out) hb); have n1_ := Aside0.mk (below_step (by repeat (first | (with_reducible first | exact HB.out | apply below_alloc | apply pw_below_drewN | apply below_drew1 | refine below_set ?_ GE184.out) | exact HB.out)) hb); clear BK184; clear HB; have BK184 := n0_; have HB := n1_; clear n0_ n1_; (try clear hb); (try clear hb2); (try clear hk); (try clear hi)))
    (try simp only [Act.put, List.setIfInBounds_toArray, List.set_cons_zero, List.set_cons_succ])
    go_cut [42] (fun v42 wc => ∃ (kq : Nat) (x42_29 : Bool), v42 = .bool x42_29 ∧ Aside0 (platenref02_Text.j0 kq t185 t190 x42_29 a1_0 a1_1 a1_2 a1_3 a1_4 a1_5 a1_6 a1_7 = some (r1, r2)) ∧ Aside0 (kq ≤ k) ∧ Aside0 (wc.heap[gb184]? = some (.cells #[.bool a1_0, .bool a1_1, .bool a1_2, .bool a1_3, .bool a1_4, .int .i64 a1_5, .int .i64 a1_6, .int .i32 a1_7] 28 (0, 0))) ∧ Aside0 (Below w.heap.size w wc))
    case first =>
     have H := HC30.out
     clear HC30
     by_cases c36 : a1_2 = true
     ·
      subst c36
      have H1 : (platenref02_Text.j0 k t185 t190 t191 a1_0 a1_1 true a1_3 a1_4 a1_5 a1_6 a1_7) = some (r1, r2) := by rw [if_pos rfl] at H; exact H
      clear H
      have H := H1
      clear H1
      have H' := Aside0.mk H
      clear H
      have hcz37_0 : w35.cell? ⟨gb184, 0, none⟩ = some (.bool a1_0) := (blk_cell BK184.out 0).trans rfl
      have hcz37_1 : w35.cell? ⟨gb184, 1, none⟩ = some (.bool a1_1) := (blk_cell BK184.out 1).trans rfl
      have hcz37_2 : w35.cell? ⟨gb184, 2, none⟩ = some (.bool true) := (blk_cell BK184.out 2).trans rfl
      have hcz37_3 : w35.cell? ⟨gb184, 3, none⟩ = some (.bool a1_3) := (blk_cell BK184.out 3).trans rfl
      have hcz37_4 : w35.cell? ⟨gb184, 4, none⟩ = some (.bool a1_4) := (blk_cell BK184.out 4).trans rfl
      have hcz37_5 : w35.cell? ⟨gb184, 5, none⟩ = some (.int .i64 a1_5) := (blk_cell BK184.out 5).trans rfl
      have hcz37_6 : w35.cell? ⟨gb184, 6, none⟩ = some (.int .i64 a1_6) := (blk_cell BK184.out 6).trans rfl
      have hcz37_7 : w35.cell? ⟨gb184, 7, none⟩ = some (.int .i32 a1_7) := (blk_cell BK184.out 7).trans rfl
      have hfz37_0 := blk_frozen BK184.out 0
      have hfz37_1 := blk_frozen BK184.out 1
      have hfz37_2 := blk_frozen BK184.out 2
      have hfz37_3 := blk_frozen BK184.out 3
      have hfz37_4 := blk_frozen BK184.out 4
      have hfz37_5 := blk_frozen BK184.out 5
      have hfz37_6 := blk_frozen BK184.out 6
      have hfz37_7 := blk_frozen BK184.out 7
      go_wp2
      (first | go_meet | (refine Met.intro ?_; go_step; (repeat apply Exists.intro); refine ⟨?rel, (by first | rfl | (simp only [c4b0, c21b0, c28b0]; rfl))⟩))
      case rel => exact ⟨_, (t191), (by first | rfl | (simp; done) | (simp [*]; done)), H', ⟨by first | omega | exact Nat.le_refl _⟩, ⟨by (with_reducible repeat (first | refine blk_drewN ?_ _ | refine blk_drew ?_ | refine blk_alloc ?_ _)); exact BK184.out⟩, ⟨by repeat (first | (with_reducible first | exact HB.out | apply below_alloc | apply pw_below_drewN | apply below_drew1 | refine below_set ?_ GE184.out) | exact HB.out)⟩⟩
     ·
      replace c36 := Bool.eq_false_iff.mpr c36
      subst c36
      have H1 : (platenref02_Text.j0 k t185 t190 false a1_0 a1_1 false a1_3 a1_4 a1_5 a1_6 a1_7) = some (r1, r2) := by rw [if_neg (show ¬ (false = true) by decide)] at H; exact H
      clear H
      have H := H1
      clear H1
      have H' := Aside0.mk H
      clear H
      have hcz38_0 : w35.cell? ⟨gb184, 0, none⟩ = some (.bool a1_0) := (blk_cell BK184.out 0).trans rfl
      have hcz38_1 : w35.cell? ⟨gb184, 1, none⟩ = some (.bool a1_1) := (blk_cell BK184.out 1).trans rfl
      have hcz38_2 : w35.cell? ⟨gb184, 2, none⟩ = some (.bool false) := (blk_cell BK184.out 2).trans rfl
      have hcz38_3 : w35.cell? ⟨gb184, 3, none⟩ = some (.bool a1_3) := (blk_cell BK184.out 3).trans rfl
      have hcz38_4 : w35.cell? ⟨gb184, 4, none⟩ = some (.bool a1_4) := (blk_cell BK184.out 4).trans rfl
      have hcz38_5 : w35.cell? ⟨gb184, 5, none⟩ = some (.int .i64 a1_5) := (blk_cell BK184.out 5).trans rfl
      have hcz38_6 : w35.cell? ⟨gb184, 6, none⟩ = some (.int .i64 a1_6) := (blk_cell BK184.out 6).trans rfl
      have hcz38_7 : w35.cell? ⟨gb184, 7, none⟩ = some (.int .i32 a1_7) := (blk_cell BK184.out 7).trans rfl
      have hfz38_0 := blk_frozen BK184.out 0
      have hfz38_1 := blk_frozen BK184.out 1
      have hfz38_2 := blk_frozen BK184.out 2
      have hfz38_3 := blk_frozen BK184.out 3
      have hfz38_4 := blk_frozen BK184.out 4
      have hfz38_5 := blk_frozen BK184.out 5
      have hfz38_6 := blk_frozen BK184.out 6
      have hfz38_7 := blk_frozen BK184.out 7
      go_wp2
      (first | go_meet | (refine Met.intro ?_; go_step; (repeat apply Exists.intro); refine ⟨?rel, (by first | rfl | (simp only [c4b0, c21b0, c28b0]; rfl))⟩))
      case rel => exact ⟨_, (false), (by first | rfl | (simp; done) | (simp [*]; done)), H', ⟨by first | omega | exact Nat.le_refl _⟩, ⟨by (with_reducible repeat (first | refine blk_drewN ?_ _ | refine blk_drew ?_ | refine blk_alloc ?_ _)); exact BK184.out⟩, ⟨by repeat (first | (with_reducible first | exact HB.out | apply below_alloc | apply pw_below_drewN | apply below_drew1 | refine below_set ?_ GE184.out) | exact HB.out)⟩⟩
    case rest =>
     clear HC30
     try clear c1
     try clear c2
     try clear p2
     try clear c3
     try clear c4
     try clear c4b0
     try clear c4b1
     try clear c5
     try clear c18
     try clear c21
     try clear c21b0
     try clear c21b1
     try clear c28
     try clear c28b0
     try clear c28b1
     try clear c31
     try clear c34
     try clear c36
     try clear c37
     try clear c38
     try clear hcz11_0
     try clear hcz11_1
     try clear hcz11_2
     try clear hcz11_3
     try clear hcz11_4
     try clear hcz11_5
     try clear hcz11_6
     try clear hcz11_7
     try clear hcz17_0
     try clear hcz17_1
     try clear hcz17_2
     try clear hcz17_3
     try clear hcz17_4
     try clear hcz17_5
     try clear hcz17_6
     try clear hcz17_7
     try clear hcz19_0
     try clear hcz19_1
     try clear hcz19_2
     try clear hcz19_3
     try clear hcz19_4
     try clear hcz19_5
     try clear hcz19_6
     try clear hcz19_7
     try clear hcz24_0
     try clear hcz24_1
     try clear hcz24_2
     try clear hcz24_3
     try clear hcz24_4
     try clear hcz24_5
     try clear hcz24_6
     try clear hcz24_7
     try clear hcz26_0
     try clear hcz26_1
     try clear hcz26_2
     try clear hcz26_3
     try clear hcz26_4
     try clear hcz26_5
     try clear hcz26_6
     try clear hcz26_7
     try clear hcz32_0
     try clear hcz32_1
     try clear hcz32_2
     try clear hcz32_3
     try clear hcz32_4
     try clear hcz32_5
     try clear hcz32_6
     try clear hcz32_7
     try clear hcz34_0
     try clear hcz34_1
     try clear hcz34_2
     try clear hcz34_3
     try clear hcz34_4
     try clear hcz34_5
     try clear hcz34_6
     try clear hcz34_7
     try clear hcz37_0
     try clear hcz37_1
     try clear hcz37_2
     try clear hcz37_3
     try clear hcz37_4
     try clear hcz37_5
     try clear hcz37_6
     try clear hcz37_7
     try clear hcz38_0
     try clear hcz38_1
     try clear hcz38_2
     try clear hcz38_3
     try clear hcz38_4
     try clear hcz38_5
     try clear hcz38_6
     try clear hcz38_7
     try clear hcz9_0
     try clear hcz9_1
     try clear hcz9_2
     try clear hcz9_3
     try clear hcz9_4
     try clear hcz9_5
     try clear hcz9_6
     try clear hcz9_7
     try clear hfz11_0
     try clear hfz11_1
     try clear hfz11_2
     try clear hfz11_3
     try clear hfz11_4
     try clear hfz11_5
     try clear hfz11_6
     try clear hfz11_7
     try clear hfz17_0
     try clear hfz17_1
     try clear hfz17_2
     try clear hfz17_3
     try clear hfz17_4
     try clear hfz17_5
     try clear hfz17_6
     try clear hfz17_7
     try clear hfz19_0
     try clear hfz19_1
     try clear hfz19_2
     try clear hfz19_3
     try clear hfz19_4
     try clear hfz19_5
     try clear hfz19_6
     try clear hfz19_7
     try clear hfz24_0
     try clear hfz24_1
     try clear hfz24_2
     try clear hfz24_3
     try clear hfz24_4
     try clear hfz24_5
     try clear hfz24_6
     try clear hfz24_7
     try clear hfz26_0
     try clear hfz26_1
     try clear hfz26_2
     try clear hfz26_3
     try clear hfz26_4
     try clear hfz26_5
     try clear hfz26_6
     try clear hfz26_7
     try clear hfz32_0
     try clear hfz32_1
     try clear hfz32_2
     try clear hfz32_3
     try clear hfz32_4
     try clear hfz32_5
     try clear hfz32_6
     try clear hfz32_7
     try clear hfz34_0
     try clear hfz34_1
     try clear hfz34_2
     try clear hfz34_3
     try clear hfz34_4
     try clear hfz34_5
     try clear hfz34_6
     try clear hfz34_7
     try clear hfz37_0
     try clear hfz37_1
     try clear hfz37_2
     try clear hfz37_3
     try clear hfz37_4
     try clear hfz37_5
     try clear hfz37_6
     try clear hfz37_7
     try clear hfz38_0
     try clear hfz38_1
     try clear hfz38_2
     try clear hfz38_3
     try clear hfz38_4
     try clear hfz38_5
     try clear hfz38_6
     try clear hfz38_7
     try clear hfz9_0
     try clear hfz9_1
     try clear hfz9_2
     try clear hfz9_3
     try clear hfz9_4
     try clear hfz9_5
     try clear hfz9_6
     try clear hfz9_7
     obtain ⟨kq, x42_29, rfl, HA, HJ29, BK184, HB⟩ := hcut
     cases kq with
     | zero => exact absurd HA.out (by simp [platenref02_Text.j0])
     | succ kj29 =>
      have H := HA.out
      clear HA
      simp only [platenref02_Text.j0] at H
      by_cases c39 : x42_29 = true
      ·
       subst c39
       have H1 : ((platenref01_Pad.f kj29 t190 a1_0 a1_1 a1_2 a1_3 a1_4 a1_5 a1_6 a1_7).bind fun t192 => (some (t192, true))) = some (r1, r2) := by rw [if_pos rfl] at H; exact H
       clear H
       have H := H1
       clear H1
       replace H := Option.bind_eq_some_iff.mp H
       obtain ⟨t192, A400, H⟩ := H
       replace H : (some (t192, true)) = some (r1, r2) := H
       have A40 := Aside0.mk A400
       clear A400
       simp only [Option.some.injEq, Prod.mk.injEq] at H
       obtain ⟨rfl, rfl⟩ := H
       have hcz41_0 : wc.cell? ⟨gb184, 0, none⟩ = some (.bool a1_0) := (blk_cell BK184.out 0).trans rfl
       have hcz41_1 : wc.cell? ⟨gb184, 1, none⟩ = some (.bool a1_1) := (blk_cell BK184.out 1).trans rfl
       have hcz41_2 : wc.cell? ⟨gb184, 2, none⟩ = some (.bool a1_2) := (blk_cell BK184.out 2).trans rfl
       have hcz41_3 : wc.cell? ⟨gb184, 3, none⟩ = some (.bool a1_3) := (blk_cell BK184.out 3).trans rfl
       have hcz41_4 : wc.cell? ⟨gb184, 4, none⟩ = some (.bool a1_4) := (blk_cell BK184.out 4).trans rfl
       have hcz41_5 : wc.cell? ⟨gb184, 5, none⟩ = some (.int .i64 a1_5) := (blk_cell BK184.out 5).trans rfl
       have hcz41_6 : wc.cell? ⟨gb184, 6, none⟩ = some (.int .i64 a1_6) := (blk_cell BK184.out 6).trans rfl
       have hcz41_7 : wc.cell? ⟨gb184, 7, none⟩ = some (.int .i32 a1_7) := (blk_cell BK184.out 7).trans rfl
       have hfz41_0 := blk_frozen BK184.out 0
       have hfz41_1 := blk_frozen BK184.out 1
       have hfz41_2 := blk_frozen BK184.out 2
       have hfz41_3 := blk_frozen BK184.out 3
       have hfz41_4 := blk_frozen BK184.out 4
       have hfz41_5 := blk_frozen BK184.out 5
       have hfz41_6 := blk_frozen BK184.out 6
       have hfz41_7 := blk_frozen BK184.out 7
       go_wp2_with (first | ((with_reducible refine gate_callee (f := 34) rfl ?_); refine goesL_ (some 45) rfl rfl Tryd.func34 (by kernel_rfl) rfl #[.string t190, .agg #[.bool a1_0, .bool a1_1, .bool a1_2, .bool a1_3, .bool a1_4, .int .i64 a1_5, .int .i64 a1_6, .int .i32 a1_7]] rfl (by (try simp only [List.map_toArray, List.map_cons, List.map_nil]); first | done | rfl | (simp only [List.length_drop, List.length_take]; rfl)) ?_; (with_reducible refine (platenref01_Pad.calls kj29 t190 a1_0 a1_1 a1_2 a1_3 a1_4 a1_5 a1_6 a1_7 t192 _ A40.out).mono ?_); rintro e w42 ⟨rfl, hb⟩; refine ⟨_, rfl, ?_⟩; have n0_ := Aside0.mk (blk_below (g := gb184) (o := .cells #[.bool a1_0, .bool a1_1, .bool a1_2, .bool a1_3, .bool a1_4, .int .i64 a1_5, .int .i64 a1_6, .int .i32 a1_7] 28 (0, 0)) (by (with_reducible repeat (first | refine blk_drewN ?_ _ | refine blk_drew ?_ | refine blk_alloc ?_ _)); exact BK184.out) hb); have n1_ := Aside0.mk (below_step (by repeat (first | (with_reducible first | exact HB.out | apply below_alloc | apply pw_below_drewN | apply below_drew1 | refine below_set ?_ GE184.out) | exact HB.out)) hb); clear BK184; clear HB; have BK184 := n0_; have HB := n1_; clear n0_ n1_; (try clear hb); (try clear hb2); (try clear hk); (try clear hi)))
       go_ret2
       exact ⟨by first | rfl | (simp [errW_none, errW_some] <;> rfl) | (simp [*, errW_none, errW_some] <;> rfl), by repeat (first | (with_reducible first | exact HB.out | apply below_alloc | apply pw_below_drewN | apply below_drew1 | refine below_set ?_ GE184.out) | exact HB.out)⟩
      ·
       replace c39 := Bool.eq_false_iff.mpr c39
       subst c39
       have H1 : ((platenref02_Quote.f kj29 t185 a1_0).bind fun t193 => ((platenref01_Pad.f kj29 t193 a1_0 a1_1 a1_2 a1_3 a1_4 a1_5 a1_6 a1_7).bind fun t194 => (some (t194, true)))) = some (r1, r2) := by rw [if_neg (show ¬ (false = true) by decide)] at H; exact H
       clear H
       have H := H1
       clear H1
       replace H := Option.bind_eq_some_iff.mp H
       obtain ⟨t193, A430, H⟩ := H
       replace H : ((platenref01_Pad.f kj29 t193 a1_0 a1_1 a1_2 a1_3 a1_4 a1_5 a1_6 a1_7).bind fun t194 => (some (t194, true))) = some (r1, r2) := H
       have A43 := Aside0.mk A430
       clear A430
       replace H := Option.bind_eq_some_iff.mp H
       obtain ⟨t194, A440, H⟩ := H
       replace H : (some (t194, true)) = some (r1, r2) := H
       have A44 := Aside0.mk A440
       clear A440
       simp only [Option.some.injEq, Prod.mk.injEq] at H
       obtain ⟨rfl, rfl⟩ := H
       try go_wp2
       have n0_ := Aside0.mk (blk_drew BK184.out)
       have n1_ := Aside0.mk (below_drew1 HB.out)
       clear BK184
       clear HB
       have BK184 := n0_
       have HB := n1_
       clear n0_ n1_
       refine start_ (n := 8) (S := fun w' => w'.cell? ⟨gb184, 0, none⟩ = some (.bool a1_0) ∧ w'.cell? ⟨gb184, 1, none⟩ = some (.bool a1_1) ∧ w'.cell? ⟨gb184, 2, none⟩ = some (.bool a1_2) ∧ w'.cell? ⟨gb184, 3, none⟩ = some (.bool a1_3) ∧ w'.cell? ⟨gb184, 4, none⟩ = some (.bool a1_4) ∧ w'.cell? ⟨gb184, 5, none⟩ = some (.int .i64 a1_5) ∧ w'.cell? ⟨gb184, 6, none⟩ = some (.int .i64 a1_6) ∧ w'.cell? ⟨gb184, 7, none⟩ = some (.int .i32 a1_7)) (ds := []) #[false, false, false, false, false, false, false, false] (by kernel_rfl) rfl rfl ⟨(blk_cell BK184.out 0).trans rfl, (blk_cell BK184.out 1).trans rfl, (blk_cell BK184.out 2).trans rfl, (blk_cell BK184.out 3).trans rfl, (blk_cell BK184.out 4).trans rfl, (blk_cell BK184.out 5).trans rfl, (blk_cell BK184.out 6).trans rfl, (blk_cell BK184.out 7).trans rfl⟩ (fun hHeld => ?_); refine with_tabW platenref02_Text.tab13 platenref02_Text.bits13 (fun HT_ HW_ => ?_)
       generalize wc.drew = w45 at BK184 HB hHeld ⊢
       refine pure_ (i := 0) (N := some 46) (v := ?_) (a' := ?_) #[true, false, false, false, false, false, false, false] rfl rfl (any_of HT_.out (by kernel_rfl)) (fun _ _ _ h => h) (Or.inl ⟨by rfl, ?_⟩) ?_ ?_
       rotate_left
       ·
        intro w'
        go_simp
        with_reducible rfl
       rotate_left
       ·
        simp only [Act.put, List.setIfInBounds_toArray, List.set_cons_zero, List.set_cons_succ, i64_w, i32_w]
        rfl
       refine pure_ (i := 1) (N := some 47) (v := ?_) (a' := ?_) #[true, true, false, false, false, false, false, false] rfl rfl (any_of HT_.out (by kernel_rfl)) (fun _ _ _ h => h) (Or.inl ⟨by rfl, ?_⟩) ?_ ?_
       rotate_left
       ·
        intro w'
        go_simp
        with_reducible rfl
       rotate_left
       ·
        simp only [Act.put, List.setIfInBounds_toArray, List.set_cons_zero, List.set_cons_succ, i64_w, i32_w]
        rfl
       refine take_ (i := 2) (N := some 48) (v := ?_) (a' := ?_) #[true, true, true, false, false, false, false, false] rfl rfl (take_ofW HT_.out HW_.out (by kernel_rfl)) (fun _ _ _ h => h) (Or.inl ⟨by rfl, ?_⟩) hHeld ?_ ?_
       rotate_left
       ·
        rintro w' ⟨s0, s1, s2, s3, s4, s5, s6, s7⟩
        go_simp
        with_reducible rfl
       rotate_left
       ·
        simp only [Act.put, List.setIfInBounds_toArray, List.set_cons_zero, List.set_cons_succ, i64_w, i32_w]
        rfl
       refine take_ (i := 4) (N := some 50) (v := ?_) (a' := ?_) #[true, true, true, false, true, false, false, false] rfl rfl (take_ofW HT_.out HW_.out (by kernel_rfl)) (fun _ _ _ h => h) (Or.inl ⟨by rfl, ?_⟩) hHeld ?_ ?_
       rotate_left
       ·
        rintro w' ⟨s0, s1, s2, s3, s4, s5, s6, s7⟩
        go_simp
        with_reducible rfl
       rotate_left
       ·
        simp only [Act.put, List.setIfInBounds_toArray, List.set_cons_zero, List.set_cons_succ, i64_w, i32_w]
        rfl
       refine one_ (i := 3) (N := some 49) #[true, true, true, true, true, false, false, false] rfl rfl (one_of HT_.out (by kernel_rfl)) (by decide) (fun K hK => ?_)
       refine goes_ Tryd.func31 (by kernel_rfl) rfl #[.string t185, .bool a1_0] (by rfl) rfl rfl (by (try simp only [List.map_toArray, List.map_cons, List.map_nil]); first | done | rfl | (simp only [List.length_drop, List.length_take]; rfl)) ?_
       with_reducible refine (platenref02_Quote.calls kj29 t185 a1_0 t193 _ A43.out).mono ?_
       rintro e w46 ⟨rfl, hb⟩
       refine ⟨_, rfl, ?_⟩
       have n0_ := Aside0.mk (blk_below (g := gb184) (o := .cells #[.bool a1_0, .bool a1_1, .bool a1_2, .bool a1_3, .bool a1_4, .int .i64 a1_5, .int .i64 a1_6, .int .i32 a1_7] 28 (0, 0)) (by (with_reducible repeat (first | refine blk_drewN ?_ _ | refine blk_drew ?_ | refine blk_alloc ?_ _)); exact BK184.out) hb)
       have n1_ := Aside0.mk (below_step (by repeat (first | (with_reducible first | exact HB.out | apply below_alloc | apply pw_below_drewN | apply below_drew1 | refine below_set ?_ GE184.out) | exact HB.out)) hb)
       clear BK184
       clear HB
       have BK184 := n0_
       have HB := n1_
       clear n0_ n1_
       (try clear hb)
       (try clear hb2)
       (try clear hk)
       (try clear hi)
       refine hK.out _ _ ⟨(blk_cell BK184.out 0).trans rfl, (blk_cell BK184.out 1).trans rfl, (blk_cell BK184.out 2).trans rfl, (blk_cell BK184.out 3).trans rfl, (blk_cell BK184.out 4).trans rfl, (blk_cell BK184.out 5).trans rfl, (blk_cell BK184.out 6).trans rfl, (blk_cell BK184.out 7).trans rfl⟩ (fun hHeld => ?_)
       clear hK K
       refine norm_ (a' := ?_) ?_ ?_
       rotate_left
       ·
        show Act.put _ (some 49) _ = _
        simp only [Act.put, List.setIfInBounds_toArray, List.set_cons_zero, List.set_cons_succ, i64_w, i32_w]
        rfl
       refine one_ (i := 5) (N := some 51) #[true, true, true, true, true, true, false, false] rfl rfl (one_of HT_.out (by kernel_rfl)) (by decide) (fun K hK => ?_)
       refine goes_ Tryd.func34 (by kernel_rfl) rfl #[.string t193, .agg #[.bool a1_0, .bool a1_1, .bool a1_2, .bool a1_3, .bool a1_4, .int .i64 a1_5, .int .i64 a1_6, .int .i32 a1_7]] (by rfl) rfl rfl (by (try simp only [List.map_toArray, List.map_cons, List.map_nil]); first | done | rfl | (simp only [List.length_drop, List.length_take]; rfl)) ?_
       with_reducible refine (platenref01_Pad.calls kj29 t193 a1_0 a1_1 a1_2 a1_3 a1_4 a1_5 a1_6 a1_7 t194 _ A44.out).mono ?_
       rintro e w47 ⟨rfl, hb⟩
       refine ⟨_, rfl, ?_⟩
       have n0_ := Aside0.mk (blk_below (g := gb184) (o := .cells #[.bool a1_0, .bool a1_1, .bool a1_2, .bool a1_3, .bool a1_4, .int .i64 a1_5, .int .i64 a1_6, .int .i32 a1_7] 28 (0, 0)) (by (with_reducible repeat (first | refine blk_drewN ?_ _ | refine blk_drew ?_ | refine blk_alloc ?_ _)); exact BK184.out) hb)
       have n1_ := Aside0.mk (below_step (by repeat (first | (with_reducible first | exact HB.out | apply below_alloc | apply pw_below_drewN | apply below_drew1 | refine below_set ?_ GE184.out) | exact HB.out)) hb)
       clear BK184
       clear HB
       have BK184 := n0_
       have HB := n1_
       clear n0_ n1_
       (try clear hb)
       (try clear hb2)
       (try clear hk)
       (try clear hi)
       refine hK.out _ _ ⟨(blk_cell BK184.out 0).trans rfl, (blk_cell BK184.out 1).trans rfl, (blk_cell BK184.out 2).trans rfl, (blk_cell BK184.out 3).trans rfl, (blk_cell BK184.out 4).trans rfl, (blk_cell BK184.out 5).trans rfl, (blk_cell BK184.out 6).trans rfl, (blk_cell BK184.out 7).trans rfl⟩ (fun hHeld => ?_)
       clear hK K
       refine norm_ (a' := ?_) ?_ ?_
       rotate_left
       ·
        show Act.put _ (some 51) _ = _
        simp only [Act.put, List.setIfInBounds_toArray, List.set_cons_zero, List.set_cons_succ, i64_w, i32_w]
        rfl
       refine pure_ (i := 6) (N := some 4) (v := ?_) (a' := ?_) #[true, true, true, true, true, true, true, false] rfl rfl (any_of HT_.out (by kernel_rfl)) (fun _ _ _ h => h) (Or.inl ⟨by rfl, ?_⟩) ?_ ?_
       rotate_left
       ·
        intro w'
        go_simp
        with_reducible rfl
       rotate_left
       ·
        simp only [Act.put, List.setIfInBounds_toArray, List.set_cons_zero, List.set_cons_succ, i64_w, i32_w]
        rfl
       refine pure_ (i := 7) (N := some 5) (v := ?_) (a' := ?_) #[true, true, true, true, true, true, true, true] rfl rfl (any_of HT_.out (by kernel_rfl)) (fun _ _ _ h => h) (Or.inl ⟨by rfl, ?_⟩) ?_ ?_
       rotate_left
       ·
        intro w'
        go_simp
        with_reducible rfl
       rotate_left
       ·
        simp only [Act.put, List.setIfInBounds_toArray, List.set_cons_zero, List.set_cons_succ, i64_w, i32_w]
        rfl
       refine done_ (done_of HT_.out (by kernel_rfl)) ?_
       try go_wp2
       go_ret2
       exact ⟨by first | rfl | (simp [errW_none, errW_some] <;> rfl) | (simp [*, errW_none, errW_some] <;> rfl), by repeat (first | (with_reducible first | exact HB.out | apply below_alloc | apply pw_below_drewN | apply below_drew1 | refine below_set ?_ GE184.out) | exact HB.out)⟩
   ·
    rw [if_neg c28] at H
    have c28b0 : (a1_7 == 113) = false := beq_eq_false_iff_ne.mpr c28
    have c28b1 : (a1_7 != 113) = true := bne_iff_ne.mpr c28
    by_cases c48 : a1_7 = 120
    ·
     rw [if_pos c48] at H
     have c48b0 : (a1_7 == 120) = true := beq_iff_eq.mpr c48
     have c48b1 : (a1_7 != 120) = false := bne_eq_false_iff_eq.mpr c48
     clear c48
     replace H := Option.bind_eq_some_iff.mp H
     obtain ⟨t195, A490, H⟩ := H
     replace H : (some (t195, true)) = some (r1, r2) := H
     have A49 := Aside0.mk A490
     clear A490
     simp only [Option.some.injEq, Prod.mk.injEq] at H
     obtain ⟨rfl, rfl⟩ := H
     go_enter Tryd.func18, Tryd.ntmps18
     go_wp2_with (first | ((with_reducible refine gate_dst (N := 3) rfl ?_); refine box_event ?hg (N := 3) ?hd (cs := #[.bool a1_0, .bool a1_1, .bool a1_2, .bool a1_3, .bool a1_4, .int .i64 a1_5, .int .i64 a1_6, .int .i32 a1_7]) (t := 28) ?hr ?_; (case hd => rfl); (case hg => rfl); (case hr => first | (go_simp; done) | (go_simp; rfl)); intro gb184 hg w50 hbox hb; have n0_ := Aside0.mk (below_step (by repeat (first | (with_reducible first | exact HB.out | apply below_alloc | apply pw_below_drewN | apply below_drew1) | exact HB.out)) hb); have n1_ := Aside0.mk (hbox); have n2_ := Aside0.mk ((by rw [hg]; exact (below_size (by repeat (first | (with_reducible first | exact HB.out | apply below_alloc | apply pw_below_drewN | apply below_drew1) | exact HB.out))) : w.heap.size ≤ gb184)); have n3_ := Aside0.mk ((by rw [hg]; exact (below_size (by repeat (first | (with_reducible first | exact HB.out | apply below_alloc | apply pw_below_drewN | apply below_drew1) | exact HB.out))) : w.heap.size ≤ gb184)); clear HB; have HB := n0_; have BK184 := n1_; have GW184 := n2_; have GE184 := n3_; clear n0_ n1_ n2_ n3_; clear hb hbox hg; have hcz51_0 : w50.cell? ⟨gb184, 0, none⟩ = some (.bool a1_0) := (blk_cell BK184.out 0).trans rfl; have hcz51_1 : w50.cell? ⟨gb184, 1, none⟩ = some (.bool a1_1) := (blk_cell BK184.out 1).trans rfl; have hcz51_2 : w50.cell? ⟨gb184, 2, none⟩ = some (.bool a1_2) := (blk_cell BK184.out 2).trans rfl; have hcz51_3 : w50.cell? ⟨gb184, 3, none⟩ = some (.bool a1_3) := (blk_cell BK184.out 3).trans rfl; have hcz51_4 : w50.cell? ⟨gb184, 4, none⟩ = some (.bool a1_4) := (blk_cell BK184.out 4).trans rfl; have hcz51_5 : w50.cell? ⟨gb184, 5, none⟩ = some (.int .i64 a1_5) := (blk_cell BK184.out 5).trans rfl; have hcz51_6 : w50.cell? ⟨gb184, 6, none⟩ = some (.int .i64 a1_6) := (blk_cell BK184.out 6).trans rfl; have hcz51_7 : w50.cell? ⟨gb184, 7, none⟩ = some (.int .i32 a1_7) := (blk_cell BK184.out 7).trans rfl; have hfz51_0 := blk_frozen BK184.out 0; have hfz51_1 := blk_frozen BK184.out 1; have hfz51_2 := blk_frozen BK184.out 2; have hfz51_3 := blk_frozen BK184.out 3; have hfz51_4 := blk_frozen BK184.out 4; have hfz51_5 := blk_frozen BK184.out 5; have hfz51_6 := blk_frozen BK184.out 6; have hfz51_7 := blk_frozen BK184.out 7) | ((with_reducible refine gate_callee (f := 37) rfl ?_); refine goesL_ (some 12) rfl rfl Tryd.func37 (by kernel_rfl) rfl #[.string a0, .int .i64 a1_6] rfl (by (try simp only [List.map_toArray, List.map_cons, List.map_nil]); first | done | rfl | (simp only [List.length_drop, List.length_take]; rfl)) ?_; (with_reducible refine (platenref01_Cut.calls k a0 a1_6 t185 _ A3.out).mono ?_); rintro e w52 ⟨rfl, hb⟩; refine ⟨_, rfl, ?_⟩; have n0_ := Aside0.mk (blk_below (g := gb184) (o := .cells #[.bool a1_0, .bool a1_1, .bool a1_2, .bool a1_3, .bool a1_4, .int .i64 a1_5, .int .i64 a1_6, .int .i32 a1_7] 28 (0, 0)) (by (with_reducible repeat (first | refine blk_drewN ?_ _ | refine blk_drew ?_ | refine blk_alloc ?_ _)); exact BK184.out) hb); have n1_ := Aside0.mk (below_step (by repeat (first | (with_reducible first | exact HB.out | apply below_alloc | apply pw_below_drewN | apply below_drew1 | refine below_set ?_ GE184.out) | exact HB.out)) hb); clear BK184; clear HB; have BK184 := n0_; have HB := n1_; clear n0_ n1_; (try clear hb); (try clear hb2); (try clear hk); (try clear hi); have hcz53_0 : w52.cell? ⟨gb184, 0, none⟩ = some (.bool a1_0) := (blk_cell BK184.out 0).trans rfl; have hcz53_1 : w52.cell? ⟨gb184, 1, none⟩ = some (.bool a1_1) := (blk_cell BK184.out 1).trans rfl; have hcz53_2 : w52.cell? ⟨gb184, 2, none⟩ = some (.bool a1_2) := (blk_cell BK184.out 2).trans rfl; have hcz53_3 : w52.cell? ⟨gb184, 3, none⟩ = some (.bool a1_3) := (blk_cell BK184.out 3).trans rfl; have hcz53_4 : w52.cell? ⟨gb184, 4, none⟩ = some (.bool a1_4) := (blk_cell BK184.out 4).trans rfl; have hcz53_5 : w52.cell? ⟨gb184, 5, none⟩ = some (.int .i64 a1_5) := (blk_cell BK184.out 5).trans rfl; have hcz53_6 : w52.cell? ⟨gb184, 6, none⟩ = some (.int .i64 a1_6) := (blk_cell BK184.out 6).trans rfl; have hcz53_7 : w52.cell? ⟨gb184, 7, none⟩ = some (.int .i32 a1_7) := (blk_cell BK184.out 7).trans rfl; have hfz53_0 := blk_frozen BK184.out 0; have hfz53_1 := blk_frozen BK184.out 1; have hfz53_2 := blk_frozen BK184.out 2; have hfz53_3 := blk_frozen BK184.out 3; have hfz53_4 := blk_frozen BK184.out 4; have hfz53_5 := blk_frozen BK184.out 5; have hfz53_6 := blk_frozen BK184.out 6; have hfz53_7 := blk_frozen BK184.out 7) | ((with_reducible refine gate_callee (f := 16) rfl ?_); refine goesL_ (some 57) rfl rfl Tryd.func16 (by kernel_rfl) rfl #[.string a0, .agg #[.bool a1_0, .bool a1_1, .bool a1_2, .bool a1_3, .bool a1_4, .int .i64 a1_5, .int .i64 a1_6, .int .i32 a1_7]] rfl (by (try simp only [List.map_toArray, List.map_cons, List.map_nil]); first | done | rfl | (simp only [List.length_drop, List.length_take]; rfl)) ?_; (with_reducible refine (platenref02_Hex.calls k a0 a1_0 a1_1 a1_2 a1_3 a1_4 a1_5 a1_6 a1_7 t195 _ A49.out).mono ?_); rintro e w54 ⟨rfl, hb⟩; refine ⟨_, rfl, ?_⟩; have n0_ := Aside0.mk (blk_below (g := gb184) (o := .cells #[.bool a1_0, .bool a1_1, .bool a1_2, .bool a1_3, .bool a1_4, .int .i64 a1_5, .int .i64 a1_6, .int .i32 a1_7] 28 (0, 0)) (by (with_reducible repeat (first | refine blk_drewN ?_ _ | refine blk_drew ?_ | refine blk_alloc ?_ _)); exact BK184.out) hb); have n1_ := Aside0.mk (below_step (by repeat (first | (with_reducible first | exact HB.out | apply below_alloc | apply pw_below_drewN | apply below_drew1 | refine below_set ?_ GE184.out) | exact HB.out)) hb); clear BK184; clear HB; have BK184 := n0_; have HB := n1_; clear n0_ n1_; (try clear hb); (try clear hb2); (try clear hk); (try clear hi)))
     go_ret2
     exact ⟨by first | rfl | (simp [errW_none, errW_some] <;> rfl) | (simp [*, errW_none, errW_some] <;> rfl), by repeat (first | (with_reducible first | exact HB.out | apply below_alloc | apply pw_below_drewN | apply below_drew1 | refine below_set ?_ GE184.out) | exact HB.out)⟩
    ·
     rw [if_neg c48] at H
     have c48b0 : (a1_7 == 120) = false := beq_eq_false_iff_ne.mpr c48
     have c48b1 : (a1_7 != 120) = true := bne_iff_ne.mpr c48
     by_cases c55 : a1_7 = 88
     ·
      rw [if_pos c55] at H
      have c55b0 : (a1_7 == 88) = true := beq_iff_eq.mpr c55
      have c55b1 : (a1_7 != 88) = false := bne_eq_false_iff_eq.mpr c55
      clear c55
      replace H := Option.bind_eq_some_iff.mp H
      obtain ⟨t196, A560, H⟩ := H
      replace H : (some (t196, true)) = some (r1, r2) := H
      have A56 := Aside0.mk A560
      clear A560
      simp only [Option.some.injEq, Prod.mk.injEq] at H
      obtain ⟨rfl, rfl⟩ := H
      go_enter Tryd.func18, Tryd.ntmps18
      go_wp2_with (first | ((with_reducible refine gate_dst (N := 3) rfl ?_); refine box_event ?hg (N := 3) ?hd (cs := #[.bool a1_0, .bool a1_1, .bool a1_2, .bool a1_3, .bool a1_4, .int .i64 a1_5, .int .i64 a1_6, .int .i32 a1_7]) (t := 28) ?hr ?_; (case hd => rfl); (case hg => rfl); (case hr => first | (go_simp; done) | (go_simp; rfl)); intro gb184 hg w57 hbox hb; have n0_ := Aside0.mk (below_step (by repeat (first | (with_reducible first | exact HB.out | apply below_alloc | apply pw_below_drewN | apply below_drew1) | exact HB.out)) hb); have n1_ := Aside0.mk (hbox); have n2_ := Aside0.mk ((by rw [hg]; exact (below_size (by repeat (first | (with_reducible first | exact HB.out | apply below_alloc | apply pw_below_drewN | apply below_drew1) | exact HB.out))) : w.heap.size ≤ gb184)); have n3_ := Aside0.mk ((by rw [hg]; exact (below_size (by repeat (first | (with_reducible first | exact HB.out | apply below_alloc | apply pw_below_drewN | apply below_drew1) | exact HB.out))) : w.heap.size ≤ gb184)); clear HB; have HB := n0_; have BK184 := n1_; have GW184 := n2_; have GE184 := n3_; clear n0_ n1_ n2_ n3_; clear hb hbox hg; have hcz58_0 : w57.cell? ⟨gb184, 0, none⟩ = some (.bool a1_0) := (blk_cell BK184.out 0).trans rfl; have hcz58_1 : w57.cell? ⟨gb184, 1, none⟩ = some (.bool a1_1) := (blk_cell BK184.out 1).trans rfl; have hcz58_2 : w57.cell? ⟨gb184, 2, none⟩ = some (.bool a1_2) := (blk_cell BK184.out 2).trans rfl; have hcz58_3 : w57.cell? ⟨gb184, 3, none⟩ = some (.bool a1_3) := (blk_cell BK184.out 3).trans rfl; have hcz58_4 : w57.cell? ⟨gb184, 4, none⟩ = some (.bool a1_4) := (blk_cell BK184.out 4).trans rfl; have hcz58_5 : w57.cell? ⟨gb184, 5, none⟩ = some (.int .i64 a1_5) := (blk_cell BK184.out 5).trans rfl; have hcz58_6 : w57.cell? ⟨gb184, 6, none⟩ = some (.int .i64 a1_6) := (blk_cell BK184.out 6).trans rfl; have hcz58_7 : w57.cell? ⟨gb184, 7, none⟩ = some (.int .i32 a1_7) := (blk_cell BK184.out 7).trans rfl; have hfz58_0 := blk_frozen BK184.out 0; have hfz58_1 := blk_frozen BK184.out 1; have hfz58_2 := blk_frozen BK184.out 2; have hfz58_3 := blk_frozen BK184.out 3; have hfz58_4 := blk_frozen BK184.out 4; have hfz58_5 := blk_frozen BK184.out 5; have hfz58_6 := blk_frozen BK184.out 6; have hfz58_7 := blk_frozen BK184.out 7) | ((with_reducible refine gate_callee (f := 37) rfl ?_); refine goesL_ (some 12) rfl rfl Tryd.func37 (by kernel_rfl) rfl #[.string a0, .int .i64 a1_6] rfl (by (try simp only [List.map_toArray, List.map_cons, List.map_nil]); first | done | rfl | (simp only [List.length_drop, List.length_take]; rfl)) ?_; (with_reducible refine (platenref01_Cut.calls k a0 a1_6 t185 _ A3.out).mono ?_); rintro e w59 ⟨rfl, hb⟩; refine ⟨_, rfl, ?_⟩; have n0_ := Aside0.mk (blk_below (g := gb184) (o := .cells #[.bool a1_0, .bool a1_1, .bool a1_2, .bool a1_3, .bool a1_4, .int .i64 a1_5, .int .i64 a1_6, .int .i32 a1_7] 28 (0, 0)) (by (with_reducible repeat (first | refine blk_drewN ?_ _ | refine blk_drew ?_ | refine blk_alloc ?_ _)); exact BK184.out) hb); have n1_ := Aside0.mk (below_step (by repeat (first | (with_reducible first | exact HB.out | apply below_alloc | apply pw_below_drewN | apply below_drew1 | refine below_set ?_ GE184.out) | exact HB.out)) hb); clear BK184; clear HB; have BK184 := n0_; have HB := n1_; clear n0_ n1_; (try clear hb); (try clear hb2); (try clear hk); (try clear hi); have hcz60_0 : w59.cell? ⟨gb184, 0, none⟩ = some (.bool a1_0) := (blk_cell BK184.out 0).trans rfl; have hcz60_1 : w59.cell? ⟨gb184, 1, none⟩ = some (.bool a1_1) := (blk_cell BK184.out 1).trans rfl; have hcz60_2 : w59.cell? ⟨gb184, 2, none⟩ = some (.bool a1_2) := (blk_cell BK184.out 2).trans rfl; have hcz60_3 : w59.cell? ⟨gb184, 3, none⟩ = some (.bool a1_3) := (blk_cell BK184.out 3).trans rfl; have hcz60_4 : w59.cell? ⟨gb184, 4, none⟩ = some (.bool a1_4) := (blk_cell BK184.out 4).trans rfl; have hcz60_5 : w59.cell? ⟨gb184, 5, none⟩ = some (.int .i64 a1_5) := (blk_cell BK184.out 5).trans rfl; have hcz60_6 : w59.cell? ⟨gb184, 6, none⟩ = some (.int .i64 a1_6) := (blk_cell BK184.out 6).trans rfl; have hcz60_7 : w59.cell? ⟨gb184, 7, none⟩ = some (.int .i32 a1_7) := (blk_cell BK184.out 7).trans rfl; have hfz60_0 := blk_frozen BK184.out 0; have hfz60_1 := blk_frozen BK184.out 1; have hfz60_2 := blk_frozen BK184.out 2; have hfz60_3 := blk_frozen BK184.out 3; have hfz60_4 := blk_frozen BK184.out 4; have hfz60_5 := blk_frozen BK184.out 5; have hfz60_6 := blk_frozen BK184.out 6; have hfz60_7 := blk_frozen BK184.out 7) | ((with_reducible refine gate_callee (f := 16) rfl ?_); refine goesL_ (some 57) rfl rfl Tryd.func16 (by kernel_rfl) rfl #[.string a0, .agg #[.bool a1_0, .bool a1_1, .bool a1_2, .bool a1_3, .bool a1_4, .int .i64 a1_5, .int .i64 a1_6, .int .i32 a1_7]] rfl (by (try simp only [List.map_toArray, List.map_cons, List.map_nil]); first | done | rfl | (simp only [List.length_drop, List.length_take]; rfl)) ?_; (with_reducible refine (platenref02_Hex.calls k a0 a1_0 a1_1 a1_2 a1_3 a1_4 a1_5 a1_6 a1_7 t196 _ A56.out).mono ?_); rintro e w61 ⟨rfl, hb⟩; refine ⟨_, rfl, ?_⟩; have n0_ := Aside0.mk (blk_below (g := gb184) (o := .cells #[.bool a1_0, .bool a1_1, .bool a1_2, .bool a1_3, .bool a1_4, .int .i64 a1_5, .int .i64 a1_6, .int .i32 a1_7] 28 (0, 0)) (by (with_reducible repeat (first | refine blk_drewN ?_ _ | refine blk_drew ?_ | refine blk_alloc ?_ _)); exact BK184.out) hb); have n1_ := Aside0.mk (below_step (by repeat (first | (with_reducible first | exact HB.out | apply below_alloc | apply pw_below_drewN | apply below_drew1 | refine below_set ?_ GE184.out) | exact HB.out)) hb); clear BK184; clear HB; have BK184 := n0_; have HB := n1_; clear n0_ n1_; (try clear hb); (try clear hb2); (try clear hk); (try clear hi)))
      go_ret2
      exact ⟨by first | rfl | (simp [errW_none, errW_some] <;> rfl) | (simp [*, errW_none, errW_some] <;> rfl), by repeat (first | (with_reducible first | exact HB.out | apply below_alloc | apply pw_below_drewN | apply below_drew1 | refine below_set ?_ GE184.out) | exact HB.out)⟩
     ·
      rw [if_neg c55] at H
      have c55b0 : (a1_7 == 88) = false := beq_eq_false_iff_ne.mpr c55
      have c55b1 : (a1_7 != 88) = true := bne_iff_ne.mpr c55
      simp only [Option.some.injEq, Prod.mk.injEq] at H
      obtain ⟨rfl, rfl⟩ := H
      go_enter Tryd.func18, Tryd.ntmps18
      go_wp2_with (first | ((with_reducible refine gate_dst (N := 3) rfl ?_); refine box_event ?hg (N := 3) ?hd (cs := #[.bool a1_0, .bool a1_1, .bool a1_2, .bool a1_3, .bool a1_4, .int .i64 a1_5, .int .i64 a1_6, .int .i32 a1_7]) (t := 28) ?hr ?_; (case hd => rfl); (case hg => rfl); (case hr => first | (go_simp; done) | (go_simp; rfl)); intro gb184 hg w62 hbox hb; have n0_ := Aside0.mk (below_step (by repeat (first | (with_reducible first | exact HB.out | apply below_alloc | apply pw_below_drewN | apply below_drew1) | exact HB.out)) hb); have n1_ := Aside0.mk (hbox); have n2_ := Aside0.mk ((by rw [hg]; exact (below_size (by repeat (first | (with_reducible first | exact HB.out | apply below_alloc | apply pw_below_drewN | apply below_drew1) | exact HB.out))) : w.heap.size ≤ gb184)); have n3_ := Aside0.mk ((by rw [hg]; exact (below_size (by repeat (first | (with_reducible first | exact HB.out | apply below_alloc | apply pw_below_drewN | apply below_drew1) | exact HB.out))) : w.heap.size ≤ gb184)); clear HB; have HB := n0_; have BK184 := n1_; have GW184 := n2_; have GE184 := n3_; clear n0_ n1_ n2_ n3_; clear hb hbox hg; have hcz63_0 : w62.cell? ⟨gb184, 0, none⟩ = some (.bool a1_0) := (blk_cell BK184.out 0).trans rfl; have hcz63_1 : w62.cell? ⟨gb184, 1, none⟩ = some (.bool a1_1) := (blk_cell BK184.out 1).trans rfl; have hcz63_2 : w62.cell? ⟨gb184, 2, none⟩ = some (.bool a1_2) := (blk_cell BK184.out 2).trans rfl; have hcz63_3 : w62.cell? ⟨gb184, 3, none⟩ = some (.bool a1_3) := (blk_cell BK184.out 3).trans rfl; have hcz63_4 : w62.cell? ⟨gb184, 4, none⟩ = some (.bool a1_4) := (blk_cell BK184.out 4).trans rfl; have hcz63_5 : w62.cell? ⟨gb184, 5, none⟩ = some (.int .i64 a1_5) := (blk_cell BK184.out 5).trans rfl; have hcz63_6 : w62.cell? ⟨gb184, 6, none⟩ = some (.int .i64 a1_6) := (blk_cell BK184.out 6).trans rfl; have hcz63_7 : w62.cell? ⟨gb184, 7, none⟩ = some (.int .i32 a1_7) := (blk_cell BK184.out 7).trans rfl; have hfz63_0 := blk_frozen BK184.out 0; have hfz63_1 := blk_frozen BK184.out 1; have hfz63_2 := blk_frozen BK184.out 2; have hfz63_3 := blk_frozen BK184.out 3; have hfz63_4 := blk_frozen BK184.out 4; have hfz63_5 := blk_frozen BK184.out 5; have hfz63_6 := blk_frozen BK184.out 6; have hfz63_7 := blk_frozen BK184.out 7) | ((with_reducible refine gate_callee (f := 37) rfl ?_); refine goesL_ (some 12) rfl rfl Tryd.func37 (by kernel_rfl) rfl #[.string a0, .int .i64 a1_6] rfl (by (try simp only [List.map_toArray, List.map_cons, List.map_nil]); first | done | rfl | (simp only [List.length_drop, List.length_take]; rfl)) ?_; (with_reducible refine (platenref01_Cut.calls k a0 a1_6 t185 _ A3.out).mono ?_); rintro e w64 ⟨rfl, hb⟩; refine ⟨_, rfl, ?_⟩; have n0_ := Aside0.mk (blk_below (g := gb184) (o := .cells #[.bool a1_0, .bool a1_1, .bool a1_2, .bool a1_3, .bool a1_4, .int .i64 a1_5, .int .i64 a1_6, .int .i32 a1_7] 28 (0, 0)) (by (with_reducible repeat (first | refine blk_drewN ?_ _ | refine blk_drew ?_ | refine blk_alloc ?_ _)); exact BK184.out) hb); have n1_ := Aside0.mk (below_step (by repeat (first | (with_reducible first | exact HB.out | apply below_alloc | apply pw_below_drewN | apply below_drew1 | refine below_set ?_ GE184.out) | exact HB.out)) hb); clear BK184; clear HB; have BK184 := n0_; have HB := n1_; clear n0_ n1_; (try clear hb); (try clear hb2); (try clear hk); (try clear hi); have hcz65_0 : w64.cell? ⟨gb184, 0, none⟩ = some (.bool a1_0) := (blk_cell BK184.out 0).trans rfl; have hcz65_1 : w64.cell? ⟨gb184, 1, none⟩ = some (.bool a1_1) := (blk_cell BK184.out 1).trans rfl; have hcz65_2 : w64.cell? ⟨gb184, 2, none⟩ = some (.bool a1_2) := (blk_cell BK184.out 2).trans rfl; have hcz65_3 : w64.cell? ⟨gb184, 3, none⟩ = some (.bool a1_3) := (blk_cell BK184.out 3).trans rfl; have hcz65_4 : w64.cell? ⟨gb184, 4, none⟩ = some (.bool a1_4) := (blk_cell BK184.out 4).trans rfl; have hcz65_5 : w64.cell? ⟨gb184, 5, none⟩ = some (.int .i64 a1_5) := (blk_cell BK184.out 5).trans rfl; have hcz65_6 : w64.cell? ⟨gb184, 6, none⟩ = some (.int .i64 a1_6) := (blk_cell BK184.out 6).trans rfl; have hcz65_7 : w64.cell? ⟨gb184, 7, none⟩ = some (.int .i32 a1_7) := (blk_cell BK184.out 7).trans rfl; have hfz65_0 := blk_frozen BK184.out 0; have hfz65_1 := blk_frozen BK184.out 1; have hfz65_2 := blk_frozen BK184.out 2; have hfz65_3 := blk_frozen BK184.out 3; have hfz65_4 := blk_frozen BK184.out 4; have hfz65_5 := blk_frozen BK184.out 5; have hfz65_6 := blk_frozen BK184.out 6; have hfz65_7 := blk_frozen BK184.out 7))
      go_ret2
      exact ⟨by first | rfl | (simp [errW_none, errW_some] <;> rfl) | (simp [*, errW_none, errW_some] <;> rfl), by repeat (first | (with_reducible first | exact HB.out | apply below_alloc | apply pw_below_drewN | apply below_drew1 | refine below_set ?_ GE184.out) | exact HB.out)⟩
def platenlaw02_cut.f (a0 : ByteArray) : Option (ByteArray) := if (a0.size : Int) > 1000 then (if 0 ≤ 1000 then (if 1000 ≤ (a0.size : Int) then (some (a0.extract 0 1000)) else (none)) else (none)) else (some a0)
set_option maxHeartbeats 8000000 in
set_option maxRecDepth 100000 in
theorem platenlaw02_cut.calls (a0 : ByteArray) (r : ByteArray) (w : World) (h : platenlaw02_cut.f a0 = some r) :
 Calls Tryd.prog 11 #[.string a0] w fun e w' => e = .returned (.string r) ∧ Drawn0 w w' := by
 have H : (if (a0.size : Int) > 1000 then (if 0 ≤ 1000 then (if 1000 ≤ (a0.size : Int) then (some (a0.extract 0 1000)) else (none)) else (none)) else (some a0)) = some r := h
 clear h
 by_cases c2 : (a0.size : Int) > 1000
 ·
  rw [if_pos c2] at H
  have c2b0 : decide (1000 < (a0.size : Int)) = true := decide_eq_true c2
  have c2b1 : decide (1000 < a0.size) = true := decide_eq_true (by omega)
  clear c2
  by_cases c3 : 0 ≤ 1000
  ·
   rw [if_pos c3] at H
   have c3b0 := eq_true c3
   have c3b1 : decide (0 ≤ 1000) = true := decide_eq_true c3
   clear c3
   by_cases c4 : 1000 ≤ (a0.size : Int)
   ·
    rw [if_pos c4] at H
    have c4b0 := eq_true c4
    have c4b1 : decide (1000 ≤ (a0.size : Int)) = true := decide_eq_true c4
    clear c4
    obtain rfl := Option.some.inj H
    go_enter Tryd.func11, Tryd.ntmps11
    go_wp2
    go_ret
    exact ⟨by first | rfl | (simp; done) | (simp [*]; done), by repeat (first | exact Drawn0.refl _ | apply Drawn0.step)⟩
   ·
    rw [if_neg c4] at H
    exact absurd H (by simp)
  ·
   rw [if_neg c3] at H
   exact absurd H (by simp)
 ·
  rw [if_neg c2] at H
  have c2b0 : decide (1000 < (a0.size : Int)) = false := decide_eq_false c2
  have c2b1 : decide (1000 < a0.size) = false := decide_eq_false (by omega)
  clear c2
  obtain rfl := Option.some.inj H
  go_enter Tryd.func11, Tryd.ntmps11
  go_wp2
  go_ret
  exact ⟨by first | rfl | (simp; done) | (simp [*]; done), by repeat (first | exact Drawn0.refl _ | apply Drawn0.step)⟩
end Go.Proofs.YtcoippikicikoaaDoor.PQRef
namespace Go.Proofs.YtcoippikicikoaaDoor.PQRef
open Go.RowKit Go.Proofs.YtcoippikicikoaaDoorW.PrintWords Go.Proofs.YtcoippikicikoaaDoorW.PrintLast Go.Proofs.YtcoippikicikoaaDoorW.PrintMore
attribute [local go_sem] max2_int min2_int max_two min_two
set_option linter.unusedVariables false
set_option linter.unusedSimpArgs false
mutual
def quote_Plain.j0 : Nat → Int → Bool → Option (Bool)
 | 0, _, _ => none
 | k + 1, x0, x3 => if x3 = true then (some true) else (if x0 ≥ 161 then (quote_Plain.j1 k x0 (decide (x0 ≤ 55295))) else (quote_Plain.j1 k x0 false))
def quote_Plain.j1 : Nat → Int → Bool → Option (Bool)
 | 0, _, _ => none
 | k + 1, x0, x10 => if x10 = true then (some (x0 != 173)) else (if x0 ≥ 57344 then (if x0 ≤ 65532 then (some true) else (if x0 ≥ 65536 then (some (decide (x0 ≤ 1114111))) else (some false))) else (if x0 ≥ 65536 then (some (decide (x0 ≤ 1114111))) else (some false)))
end
def quote_Plain.f (k : Nat) (a0 : Int) : Option (Bool) := if a0 ≥ 32 then (quote_Plain.j0 k a0 (decide (a0 ≤ 126))) else (quote_Plain.j0 k a0 false)
set_option maxHeartbeats 8000000 in
set_option maxRecDepth 100000 in
theorem quote_Plain.calls (k : Nat) (a0 : Int) (r : Bool) (w : World) (h : quote_Plain.f k a0 = some r) :
 Calls Tryd.prog 25 #[.int .i32 a0] w fun e w' => e = .returned (.bool r) ∧ Drawn0 w w' := by
 have H : (if a0 ≥ 32 then (quote_Plain.j0 k a0 (decide (a0 ≤ 126))) else (quote_Plain.j0 k a0 false)) = some r := h
 clear h
 have HC2 := Aside0.mk H
 clear H
 go_enter Tryd.func25, Tryd.ntmps25
 go_upto_region 1 with (fail)
 go_cut [3] (fun v3 wc => ∃ (kq : Nat) (x3_1 : Bool), v3 = .bool x3_1 ∧ Aside0 (quote_Plain.j0 kq a0 x3_1 = some r) ∧ Aside0 (kq ≤ k) ∧ Drawn0 w wc)
 case first =>
  have H := HC2.out
  clear HC2
  by_cases c3 : a0 ≥ 32
  ·
   rw [if_pos c3] at H
   have c3b0 : decide (32 ≤ a0) = true := decide_eq_true c3
   clear c3
   (first | rw [c3b0] | (simp only [i64_w, i32_w]; rw [c3b0]) | skip)
   have H' := Aside0.mk H
   clear H
   go_wp2
   go_meet
   case rel => exact ⟨_, (decide (a0 ≤ 126)), (by first | rfl | (simp; done) | (simp [*]; done)), H', ⟨by first | omega | exact Nat.le_refl _⟩, by repeat (first | exact Drawn0.refl _ | apply Drawn0.step)⟩
  ·
   rw [if_neg c3] at H
   have c3b0 : decide (32 ≤ a0) = false := decide_eq_false c3
   clear c3
   (first | rw [c3b0] | (simp only [i64_w, i32_w]; rw [c3b0]) | skip)
   have H' := Aside0.mk H
   clear H
   go_wp2
   go_meet
   case rel => exact ⟨_, (false), (by first | rfl | (simp; done) | (simp [*]; done)), H', ⟨by first | omega | exact Nat.le_refl _⟩, by repeat (first | exact Drawn0.refl _ | apply Drawn0.step)⟩
 case rest =>
  clear HC2
  try clear c2
  try clear p2
  try clear c3
  try clear c3b0
  obtain ⟨kq, x3_1, rfl, HA, HJ1, ⟨mc1, rfl⟩⟩ := hcut
  cases kq with
  | zero => exact absurd HA.out (by simp [quote_Plain.j0])
  | succ kj1 =>
   have H := HA.out
   clear HA
   simp only [quote_Plain.j0] at H
   by_cases c4 : x3_1 = true
   ·
    subst c4
    have H1 : (some true) = some r := by rw [if_pos rfl] at H; exact H
    clear H
    have H := H1
    clear H1
    obtain rfl := Option.some.inj H
    go_wp2
    go_ret
    exact ⟨by first | rfl | (simp; done) | (simp [*]; done), by repeat (first | exact Drawn0.refl _ | apply Drawn0.step)⟩
   ·
    replace c4 := Bool.eq_false_iff.mpr c4
    subst c4
    have H1 : (if a0 ≥ 161 then (quote_Plain.j1 kj1 a0 (decide (a0 ≤ 55295))) else (quote_Plain.j1 kj1 a0 false)) = some r := by rw [if_neg (show ¬ (false = true) by decide)] at H; exact H
    clear H
    have H := H1
    clear H1
    have HC5 := Aside0.mk H
    clear H
    go_upto_region 3 with (fail)
    go_cut [10] (fun v10 wc => ∃ (kq : Nat) (x10_4 : Bool), v10 = .bool x10_4 ∧ Aside0 (quote_Plain.j1 kq a0 x10_4 = some r) ∧ Aside0 (kq ≤ kj1) ∧ Drawn0 w wc)
    case first =>
     have H := HC5.out
     clear HC5
     by_cases c6 : a0 ≥ 161
     ·
      rw [if_pos c6] at H
      have c6b0 : decide (161 ≤ a0) = true := decide_eq_true c6
      clear c6
      (first | rw [c6b0] | (simp only [i64_w, i32_w]; rw [c6b0]) | skip)
      have H' := Aside0.mk H
      clear H
      go_wp2
      go_meet
      case rel => exact ⟨_, (decide (a0 ≤ 55295)), (by first | rfl | (simp; done) | (simp [*]; done)), H', ⟨by have := HJ1.out; first | omega | exact Nat.le_refl _⟩, by repeat (first | exact Drawn0.refl _ | apply Drawn0.step)⟩
     ·
      rw [if_neg c6] at H
      have c6b0 : decide (161 ≤ a0) = false := decide_eq_false c6
      clear c6
      (first | rw [c6b0] | (simp only [i64_w, i32_w]; rw [c6b0]) | skip)
      have H' := Aside0.mk H
      clear H
      go_wp2
      go_meet
      case rel => exact ⟨_, (false), (by first | rfl | (simp; done) | (simp [*]; done)), H', ⟨by have := HJ1.out; first | omega | exact Nat.le_refl _⟩, by repeat (first | exact Drawn0.refl _ | apply Drawn0.step)⟩
    case rest =>
     clear HC5
     try clear c1
     try clear c2
     try clear p2
     try clear c3
     try clear c3b0
     try clear c4
     try clear c6
     try clear c6b0
     try clear p2
     obtain ⟨kq, x10_4, rfl, HA, HJ4, ⟨mc4, rfl⟩⟩ := hcut
     cases kq with
     | zero => exact absurd HA.out (by simp [quote_Plain.j1])
     | succ kj4 =>
      have H := HA.out
      clear HA
      simp only [quote_Plain.j1] at H
      by_cases c7 : x10_4 = true
      ·
       subst c7
       have H1 : (some (a0 != 173)) = some r := by rw [if_pos rfl] at H; exact H
       clear H
       have H := H1
       clear H1
       obtain rfl := Option.some.inj H
       go_wp2
       go_ret
       exact ⟨by first | rfl | (simp; done) | (simp [*]; done), by repeat (first | exact Drawn0.refl _ | apply Drawn0.step)⟩
      ·
       replace c7 := Bool.eq_false_iff.mpr c7
       subst c7
       have H1 : (if a0 ≥ 57344 then (if a0 ≤ 65532 then (some true) else (if a0 ≥ 65536 then (some (decide (a0 ≤ 1114111))) else (some false))) else (if a0 ≥ 65536 then (some (decide (a0 ≤ 1114111))) else (some false))) = some r := by rw [if_neg (show ¬ (false = true) by decide)] at H; exact H
       clear H
       have H := H1
       clear H1
       by_cases c8 : a0 ≥ 57344
       ·
        rw [if_pos c8] at H
        have c8b0 : decide (57344 ≤ a0) = true := decide_eq_true c8
        clear c8
        by_cases c9 : a0 ≤ 65532
        ·
         rw [if_pos c9] at H
         have c9b0 : decide (a0 ≤ 65532) = true := decide_eq_true c9
         clear c9
         obtain rfl := Option.some.inj H
         go_wp2
         go_ret
         exact ⟨by first | rfl | (simp; done) | (simp [*]; done), by repeat (first | exact Drawn0.refl _ | apply Drawn0.step)⟩
        ·
         rw [if_neg c9] at H
         have c9b0 : decide (a0 ≤ 65532) = false := decide_eq_false c9
         clear c9
         by_cases c10 : a0 ≥ 65536
         ·
          rw [if_pos c10] at H
          have c10b0 : decide (65536 ≤ a0) = true := decide_eq_true c10
          clear c10
          obtain rfl := Option.some.inj H
          go_wp2
          go_ret
          exact ⟨by first | rfl | (simp; done) | (simp [*]; done), by repeat (first | exact Drawn0.refl _ | apply Drawn0.step)⟩
         ·
          rw [if_neg c10] at H
          have c10b0 : decide (65536 ≤ a0) = false := decide_eq_false c10
          clear c10
          obtain rfl := Option.some.inj H
          go_wp2
          go_ret
          exact ⟨by first | rfl | (simp; done) | (simp [*]; done), by repeat (first | exact Drawn0.refl _ | apply Drawn0.step)⟩
       ·
        rw [if_neg c8] at H
        have c8b0 : decide (57344 ≤ a0) = false := decide_eq_false c8
        clear c8
        by_cases c11 : a0 ≥ 65536
        ·
         rw [if_pos c11] at H
         have c11b0 : decide (65536 ≤ a0) = true := decide_eq_true c11
         clear c11
         obtain rfl := Option.some.inj H
         go_wp2
         go_ret
         exact ⟨by first | rfl | (simp; done) | (simp [*]; done), by repeat (first | exact Drawn0.refl _ | apply Drawn0.step)⟩
        ·
         rw [if_neg c11] at H
         have c11b0 : decide (65536 ≤ a0) = false := decide_eq_false c11
         clear c11
         obtain rfl := Option.some.inj H
         go_wp2
         go_ret
         exact ⟨by first | rfl | (simp; done) | (simp [*]; done), by repeat (first | exact Drawn0.refl _ | apply Drawn0.step)⟩
end Go.Proofs.YtcoippikicikoaaDoor.PQRef
namespace Go.Proofs.YtcoippikicikoaaDoor.PQRef
open Go.RowKit Go.Proofs.YtcoippikicikoaaDoorW.PrintWords Go.Proofs.YtcoippikicikoaaDoorW.PrintLast Go.Proofs.YtcoippikicikoaaDoorW.PrintMore
attribute [local go_sem] max2_int min2_int max_two min_two
set_option linter.unusedVariables false
set_option linter.unusedSimpArgs false
end Go.Proofs.YtcoippikicikoaaDoor.PQRef
