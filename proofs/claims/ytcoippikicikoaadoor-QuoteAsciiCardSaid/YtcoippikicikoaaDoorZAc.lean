/- Part of the proof of lawQuoteAscii.card: texts merged by this session's bundle.py. -/
import Derived.Test.YtcoippikicikoaaDoorZAb
namespace Go.Proofs.YtcoippikicikoaaDoor.PQGen
open Go.RowKit Go.Proofs.YtcoippikicikoaaDoorW.PrintWords Go.Proofs.YtcoippikicikoaaDoorW.PrintLast Go.Proofs.YtcoippikicikoaaDoorW.PrintMore
attribute [local go_sem] max2_int min2_int max_two min_two
set_option linter.unusedVariables false
set_option linter.unusedSimpArgs false
mutual
def quote_Hex.j0 : Nat → ByteArray → Bool → Bool → Bool → Bool → Bool → Bool → Int → Int → Int → Option (ByteArray)
 | 0, _, _, _, _, _, _, _, _, _, _ => none
 | k + 1, x0, x18, x111000, x111001, x111002, x111003, x111004, x111005, x111006, x111007 => if x18 = true then (if 0 ≤ x111006 then (if x111006 ≤ (x0.size : Int) then (quote_Hex.j1 k (x0.extract 0 (x111006 : Int).toNat) x111000 x111001 x111002 x111003 x111004 x111005 x111006 x111007) else (none)) else (none)) else (quote_Hex.j1 k x0 x111000 x111001 x111002 x111003 x111004 x111005 x111006 x111007)
def quote_Hex.j1 : Nat → ByteArray → Bool → Bool → Bool → Bool → Bool → Int → Int → Int → Option (ByteArray)
 | 0, _, _, _, _, _, _, _, _, _ => none
 | k + 1, x0, x111000, x111001, x111002, x111003, x111004, x111005, x111006, x111007 => if x111007 = 88 then (quote_Hex.j2 k x0 (⟨#[48, 49, 50, 51, 52, 53, 54, 55, 56, 57, 65, 66, 67, 68, 69, 70]⟩ : ByteArray) (⟨#[]⟩ : ByteArray) x111000 x111001 x111002 x111003 x111004 x111005 x111006 x111007) else (quote_Hex.j2 k x0 (⟨#[48, 49, 50, 51, 52, 53, 54, 55, 56, 57, 97, 98, 99, 100, 101, 102]⟩ : ByteArray) (⟨#[]⟩ : ByteArray) x111000 x111001 x111002 x111003 x111004 x111005 x111006 x111007)
def quote_Hex.j2 : Nat → ByteArray → ByteArray → ByteArray → Bool → Bool → Bool → Bool → Bool → Int → Int → Int → Option (ByteArray)
 | 0, _, _, _, _, _, _, _, _, _, _, _ => none
 | k + 1, x0, x5, x6, x111000, x111001, x111002, x111003, x111004, x111005, x111006, x111007 => if x111002 = true then (if x111007 = 88 then (quote_Hex.j3 k x0 x5 (⟨#[48, 88]⟩ : ByteArray) x111000 x111001 x111002 x111003 x111004 x111005 x111006 x111007) else (quote_Hex.j3 k x0 x5 (⟨#[48, 120]⟩ : ByteArray) x111000 x111001 x111002 x111003 x111004 x111005 x111006 x111007)) else (quote_Hex.j3 k x0 x5 x6 x111000 x111001 x111002 x111003 x111004 x111005 x111006 x111007)
def quote_Hex.j3 : Nat → ByteArray → ByteArray → ByteArray → Bool → Bool → Bool → Bool → Bool → Int → Int → Int → Option (ByteArray)
 | 0, _, _, _, _, _, _, _, _, _, _, _ => none
 | k + 1, x0, x5, x6, x111000, x111001, x111002, x111003, x111004, x111005, x111006, x111007 => quote_Hex.l0 k x0 x5 x6 ([] : List Int) (x0.size : Int) 0 x111000 x111001 x111002 x111003 x111004 x111005 x111006 x111007
def quote_Hex.l0 : Nat → ByteArray → ByteArray → ByteArray → List Int → Int → Int → Bool → Bool → Bool → Bool → Bool → Int → Int → Int → Option (ByteArray)
 | 0, _, _, _, _, _, _, _, _, _, _, _, _, _, _ => none
 | k + 1, x0, x5, x6, x7, x32, x33, x111000, x111001, x111002, x111003, x111004, x111005, x111006, x111007 => if x33 < x32 then (if x111003 = true then (quote_Hex.j5 k x0 x5 x6 x7 x33 x32 x33 (decide (x33 > 0)) x111000 x111001 x111002 x111003 x111004 x111005 x111006 x111007) else (quote_Hex.j5 k x0 x5 x6 x7 x33 x32 x33 false x111000 x111001 x111002 x111003 x111004 x111005 x111006 x111007)) else ((buf_Pad.f (strOfNums x7) x111000 x111001 x111002 x111003 x111004 x111005 x111006 x111007).bind fun t111 => (some t111))
def quote_Hex.j5 : Nat → ByteArray → ByteArray → ByteArray → List Int → Int → Int → Int → Bool → Bool → Bool → Bool → Bool → Bool → Int → Int → Int → Option (ByteArray)
 | 0, _, _, _, _, _, _, _, _, _, _, _, _, _, _, _, _ => none
 | k + 1, x0, x5, x6, x7, x8, x32, x33, x41, x111000, x111001, x111002, x111003, x111004, x111005, x111006, x111007 => if x41 = true then (if x7.length < 140737488355328 then ((some (x7 ++ [32] : List Int)).bind fun y112 => (if x111003 = true then (if y112.length + x6.size < 140737488355328 then ((some (y112 ++ bytesOf x6 : List Int)).bind fun y115 => (if 0 ≤ x8 then (if x8 < (x0.size : Int) then (if 0 ≤ ((bt x0 x8) / 16) then (if ((bt x0 x8) / 16) < (x5.size : Int) then (if 0 ≤ (Go.bits .and .u8 (bt x0 x8) 15) then (if (Go.bits .and .u8 (bt x0 x8) 15) < (x5.size : Int) then ((some (([bt x5 ((bt x0 x8) / 16), bt x5 (Go.bits .and .u8 (bt x0 x8) 15)] : List Int) : List Int)).bind fun y118 => (if y115.length + y118.length < 140737488355328 then (quote_Hex.l0 k x0 x5 x6 (y115 ++ y118) x32 (wrap64 (x33 + 1)) x111000 x111001 x111002 x111003 x111004 x111005 x111006 x111007) else (none))) else (none)) else (none)) else (none)) else (none)) else (none)) else (none))) else (none)) else (if x8 = 0 then (if y112.length + x6.size < 140737488355328 then ((some (y112 ++ bytesOf x6 : List Int)).bind fun y124 => (if 0 ≤ x8 then (if x8 < (x0.size : Int) then (if 0 ≤ ((bt x0 x8) / 16) then (if ((bt x0 x8) / 16) < (x5.size : Int) then (if 0 ≤ (Go.bits .and .u8 (bt x0 x8) 15) then (if (Go.bits .and .u8 (bt x0 x8) 15) < (x5.size : Int) then ((some (([bt x5 ((bt x0 x8) / 16), bt x5 (Go.bits .and .u8 (bt x0 x8) 15)] : List Int) : List Int)).bind fun y127 => (if y124.length + y127.length < 140737488355328 then (quote_Hex.l0 k x0 x5 x6 (y124 ++ y127) x32 (wrap64 (x33 + 1)) x111000 x111001 x111002 x111003 x111004 x111005 x111006 x111007) else (none))) else (none)) else (none)) else (none)) else (none)) else (none)) else (none))) else (none)) else (if 0 ≤ x8 then (if x8 < (x0.size : Int) then (if 0 ≤ ((bt x0 x8) / 16) then (if ((bt x0 x8) / 16) < (x5.size : Int) then (if 0 ≤ (Go.bits .and .u8 (bt x0 x8) 15) then (if (Go.bits .and .u8 (bt x0 x8) 15) < (x5.size : Int) then ((some (([bt x5 ((bt x0 x8) / 16), bt x5 (Go.bits .and .u8 (bt x0 x8) 15)] : List Int) : List Int)).bind fun y133 => (if y112.length + y133.length < 140737488355328 then (quote_Hex.l0 k x0 x5 x6 (y112 ++ y133) x32 (wrap64 (x33 + 1)) x111000 x111001 x111002 x111003 x111004 x111005 x111006 x111007) else (none))) else (none)) else (none)) else (none)) else (none)) else (none)) else (none))))) else (none)) else (if x111003 = true then (if x7.length + x6.size < 140737488355328 then ((some (x7 ++ bytesOf x6 : List Int)).bind fun y139 => (if 0 ≤ x8 then (if x8 < (x0.size : Int) then (if 0 ≤ ((bt x0 x8) / 16) then (if ((bt x0 x8) / 16) < (x5.size : Int) then (if 0 ≤ (Go.bits .and .u8 (bt x0 x8) 15) then (if (Go.bits .and .u8 (bt x0 x8) 15) < (x5.size : Int) then ((some (([bt x5 ((bt x0 x8) / 16), bt x5 (Go.bits .and .u8 (bt x0 x8) 15)] : List Int) : List Int)).bind fun y142 => (if y139.length + y142.length < 140737488355328 then (quote_Hex.l0 k x0 x5 x6 (y139 ++ y142) x32 (wrap64 (x33 + 1)) x111000 x111001 x111002 x111003 x111004 x111005 x111006 x111007) else (none))) else (none)) else (none)) else (none)) else (none)) else (none)) else (none))) else (none)) else (if x8 = 0 then (if x7.length + x6.size < 140737488355328 then ((some (x7 ++ bytesOf x6 : List Int)).bind fun y148 => (if 0 ≤ x8 then (if x8 < (x0.size : Int) then (if 0 ≤ ((bt x0 x8) / 16) then (if ((bt x0 x8) / 16) < (x5.size : Int) then (if 0 ≤ (Go.bits .and .u8 (bt x0 x8) 15) then (if (Go.bits .and .u8 (bt x0 x8) 15) < (x5.size : Int) then ((some (([bt x5 ((bt x0 x8) / 16), bt x5 (Go.bits .and .u8 (bt x0 x8) 15)] : List Int) : List Int)).bind fun y151 => (if y148.length + y151.length < 140737488355328 then (quote_Hex.l0 k x0 x5 x6 (y148 ++ y151) x32 (wrap64 (x33 + 1)) x111000 x111001 x111002 x111003 x111004 x111005 x111006 x111007) else (none))) else (none)) else (none)) else (none)) else (none)) else (none)) else (none))) else (none)) else (if 0 ≤ x8 then (if x8 < (x0.size : Int) then (if 0 ≤ ((bt x0 x8) / 16) then (if ((bt x0 x8) / 16) < (x5.size : Int) then (if 0 ≤ (Go.bits .and .u8 (bt x0 x8) 15) then (if (Go.bits .and .u8 (bt x0 x8) 15) < (x5.size : Int) then ((some (([bt x5 ((bt x0 x8) / 16), bt x5 (Go.bits .and .u8 (bt x0 x8) 15)] : List Int) : List Int)).bind fun y157 => (if x7.length + y157.length < 140737488355328 then (quote_Hex.l0 k x0 x5 x6 (x7 ++ y157) x32 (wrap64 (x33 + 1)) x111000 x111001 x111002 x111003 x111004 x111005 x111006 x111007) else (none))) else (none)) else (none)) else (none)) else (none)) else (none)) else (none))))
end
def quote_Hex.f (k : Nat) (a0 : ByteArray) (a1_0 : Bool) (a1_1 : Bool) (a1_2 : Bool) (a1_3 : Bool) (a1_4 : Bool) (a1_5 : Int) (a1_6 : Int) (a1_7 : Int) : Option (ByteArray) := if a1_6 ≥ 0 then (quote_Hex.j0 k a0 (decide (a1_6 < (a0.size : Int))) a1_0 a1_1 a1_2 a1_3 a1_4 a1_5 a1_6 a1_7) else (quote_Hex.j0 k a0 false a1_0 a1_1 a1_2 a1_3 a1_4 a1_5 a1_6 a1_7)
theorem quote_Hex.mono_l : ∀ k, (∀ y0 y1 y2 y3 y4 y5 y6 y7 y8 y9, LeO (quote_Hex.j0 k y0 y1 y2 y3 y4 y5 y6 y7 y8 y9) (quote_Hex.j0 (k + 1) y0 y1 y2 y3 y4 y5 y6 y7 y8 y9)) ∧ (∀ y0 y1 y2 y3 y4 y5 y6 y7 y8, LeO (quote_Hex.j1 k y0 y1 y2 y3 y4 y5 y6 y7 y8) (quote_Hex.j1 (k + 1) y0 y1 y2 y3 y4 y5 y6 y7 y8)) ∧ (∀ y0 y1 y2 y3 y4 y5 y6 y7 y8 y9 y10, LeO (quote_Hex.j2 k y0 y1 y2 y3 y4 y5 y6 y7 y8 y9 y10) (quote_Hex.j2 (k + 1) y0 y1 y2 y3 y4 y5 y6 y7 y8 y9 y10)) ∧ (∀ y0 y1 y2 y3 y4 y5 y6 y7 y8 y9 y10, LeO (quote_Hex.j3 k y0 y1 y2 y3 y4 y5 y6 y7 y8 y9 y10) (quote_Hex.j3 (k + 1) y0 y1 y2 y3 y4 y5 y6 y7 y8 y9 y10)) ∧ (∀ y0 y1 y2 y3 y4 y5 y6 y7 y8 y9 y10 y11 y12 y13, LeO (quote_Hex.l0 k y0 y1 y2 y3 y4 y5 y6 y7 y8 y9 y10 y11 y12 y13) (quote_Hex.l0 (k + 1) y0 y1 y2 y3 y4 y5 y6 y7 y8 y9 y10 y11 y12 y13)) ∧ (∀ y0 y1 y2 y3 y4 y5 y6 y7 y8 y9 y10 y11 y12 y13 y14 y15, LeO (quote_Hex.j5 k y0 y1 y2 y3 y4 y5 y6 y7 y8 y9 y10 y11 y12 y13 y14 y15) (quote_Hex.j5 (k + 1) y0 y1 y2 y3 y4 y5 y6 y7 y8 y9 y10 y11 y12 y13 y14 y15))
 | 0 => ⟨fun _ _ _ _ _ _ _ _ _ _ r h => by simp [quote_Hex.j0] at h, fun _ _ _ _ _ _ _ _ _ r h => by simp [quote_Hex.j1] at h, fun _ _ _ _ _ _ _ _ _ _ _ r h => by simp [quote_Hex.j2] at h, fun _ _ _ _ _ _ _ _ _ _ _ r h => by simp [quote_Hex.j3] at h, fun _ _ _ _ _ _ _ _ _ _ _ _ _ _ r h => by simp [quote_Hex.l0] at h, fun _ _ _ _ _ _ _ _ _ _ _ _ _ _ _ _ r h => by simp [quote_Hex.j5] at h⟩
 | k + 1 => by
  obtain ⟨ih0, ih1, ih2, ih3, ih4, ih5⟩ := quote_Hex.mono_l k
  refine ⟨?_, ?_, ?_, ?_, ?_, ?_⟩
  ·
   intro y0 y1 y2 y3 y4 y5 y6 y7 y8 y9
   unfold quote_Hex.j0
   repeat' first
   | (with_reducible exact ih0 _ _ _ _ _ _ _ _ _ _)
   | (with_reducible exact ih1 _ _ _ _ _ _ _ _ _)
   | (with_reducible exact ih2 _ _ _ _ _ _ _ _ _ _ _)
   | (with_reducible exact ih3 _ _ _ _ _ _ _ _ _ _ _)
   | (with_reducible exact ih4 _ _ _ _ _ _ _ _ _ _ _ _ _ _)
   | (with_reducible exact ih5 _ _ _ _ _ _ _ _ _ _ _ _ _ _ _ _)
   | (with_reducible exact LeO.refl _)
   | (with_reducible exact LeO.none _)
   | (with_reducible refine LeO.ite ?_ ?_)
   | (with_reducible refine LeO.bind ?_ (fun _ => ?_))
   | exact ih0 _ _ _ _ _ _ _ _ _ _
   | exact ih1 _ _ _ _ _ _ _ _ _
   | exact ih2 _ _ _ _ _ _ _ _ _ _ _
   | exact ih3 _ _ _ _ _ _ _ _ _ _ _
   | exact ih4 _ _ _ _ _ _ _ _ _ _ _ _ _ _
   | exact ih5 _ _ _ _ _ _ _ _ _ _ _ _ _ _ _ _
   | exact LeO.none _
   | refine LeO.ite ?_ ?_
   | refine LeO.bind ?_ (fun _ => ?_)
  ·
   intro y0 y1 y2 y3 y4 y5 y6 y7 y8
   unfold quote_Hex.j1
   repeat' first
   | (with_reducible exact ih0 _ _ _ _ _ _ _ _ _ _)
   | (with_reducible exact ih1 _ _ _ _ _ _ _ _ _)
   | (with_reducible exact ih2 _ _ _ _ _ _ _ _ _ _ _)
   | (with_reducible exact ih3 _ _ _ _ _ _ _ _ _ _ _)
   | (with_reducible exact ih4 _ _ _ _ _ _ _ _ _ _ _ _ _ _)
   | (with_reducible exact ih5 _ _ _ _ _ _ _ _ _ _ _ _ _ _ _ _)
   | (with_reducible exact LeO.refl _)
   | (with_reducible exact LeO.none _)
   | (with_reducible refine LeO.ite ?_ ?_)
   | (with_reducible refine LeO.bind ?_ (fun _ => ?_))
   | exact ih0 _ _ _ _ _ _ _ _ _ _
   | exact ih1 _ _ _ _ _ _ _ _ _
   | exact ih2 _ _ _ _ _ _ _ _ _ _ _
   | exact ih3 _ _ _ _ _ _ _ _ _ _ _
   | exact ih4 _ _ _ _ _ _ _ _ _ _ _ _ _ _
   | exact ih5 _ _ _ _ _ _ _ _ _ _ _ _ _ _ _ _
   | exact LeO.none _
   | refine LeO.ite ?_ ?_
   | refine LeO.bind ?_ (fun _ => ?_)
  ·
   intro y0 y1 y2 y3 y4 y5 y6 y7 y8 y9 y10
   unfold quote_Hex.j2
   repeat' first
   | (with_reducible exact ih0 _ _ _ _ _ _ _ _ _ _)
   | (with_reducible exact ih1 _ _ _ _ _ _ _ _ _)
   | (with_reducible exact ih2 _ _ _ _ _ _ _ _ _ _ _)
   | (with_reducible exact ih3 _ _ _ _ _ _ _ _ _ _ _)
   | (with_reducible exact ih4 _ _ _ _ _ _ _ _ _ _ _ _ _ _)
   | (with_reducible exact ih5 _ _ _ _ _ _ _ _ _ _ _ _ _ _ _ _)
   | (with_reducible exact LeO.refl _)
   | (with_reducible exact LeO.none _)
   | (with_reducible refine LeO.ite ?_ ?_)
   | (with_reducible refine LeO.bind ?_ (fun _ => ?_))
   | exact ih0 _ _ _ _ _ _ _ _ _ _
   | exact ih1 _ _ _ _ _ _ _ _ _
   | exact ih2 _ _ _ _ _ _ _ _ _ _ _
   | exact ih3 _ _ _ _ _ _ _ _ _ _ _
   | exact ih4 _ _ _ _ _ _ _ _ _ _ _ _ _ _
   | exact ih5 _ _ _ _ _ _ _ _ _ _ _ _ _ _ _ _
   | exact LeO.none _
   | refine LeO.ite ?_ ?_
   | refine LeO.bind ?_ (fun _ => ?_)
  ·
   intro y0 y1 y2 y3 y4 y5 y6 y7 y8 y9 y10
   unfold quote_Hex.j3
   repeat' first
   | (with_reducible exact ih0 _ _ _ _ _ _ _ _ _ _)
   | (with_reducible exact ih1 _ _ _ _ _ _ _ _ _)
   | (with_reducible exact ih2 _ _ _ _ _ _ _ _ _ _ _)
   | (with_reducible exact ih3 _ _ _ _ _ _ _ _ _ _ _)
   | (with_reducible exact ih4 _ _ _ _ _ _ _ _ _ _ _ _ _ _)
   | (with_reducible exact ih5 _ _ _ _ _ _ _ _ _ _ _ _ _ _ _ _)
   | (with_reducible exact LeO.refl _)
   | (with_reducible exact LeO.none _)
   | (with_reducible refine LeO.ite ?_ ?_)
   | (with_reducible refine LeO.bind ?_ (fun _ => ?_))
   | exact ih0 _ _ _ _ _ _ _ _ _ _
   | exact ih1 _ _ _ _ _ _ _ _ _
   | exact ih2 _ _ _ _ _ _ _ _ _ _ _
   | exact ih3 _ _ _ _ _ _ _ _ _ _ _
   | exact ih4 _ _ _ _ _ _ _ _ _ _ _ _ _ _
   | exact ih5 _ _ _ _ _ _ _ _ _ _ _ _ _ _ _ _
   | exact LeO.none _
   | refine LeO.ite ?_ ?_
   | refine LeO.bind ?_ (fun _ => ?_)
  ·
   intro y0 y1 y2 y3 y4 y5 y6 y7 y8 y9 y10 y11 y12 y13
   unfold quote_Hex.l0
   repeat' first
   | (with_reducible exact ih0 _ _ _ _ _ _ _ _ _ _)
   | (with_reducible exact ih1 _ _ _ _ _ _ _ _ _)
   | (with_reducible exact ih2 _ _ _ _ _ _ _ _ _ _ _)
   | (with_reducible exact ih3 _ _ _ _ _ _ _ _ _ _ _)
   | (with_reducible exact ih4 _ _ _ _ _ _ _ _ _ _ _ _ _ _)
   | (with_reducible exact ih5 _ _ _ _ _ _ _ _ _ _ _ _ _ _ _ _)
   | (with_reducible exact LeO.refl _)
   | (with_reducible exact LeO.none _)
   | (with_reducible refine LeO.ite ?_ ?_)
   | (with_reducible refine LeO.bind ?_ (fun _ => ?_))
   | exact ih0 _ _ _ _ _ _ _ _ _ _
   | exact ih1 _ _ _ _ _ _ _ _ _
   | exact ih2 _ _ _ _ _ _ _ _ _ _ _
   | exact ih3 _ _ _ _ _ _ _ _ _ _ _
   | exact ih4 _ _ _ _ _ _ _ _ _ _ _ _ _ _
   | exact ih5 _ _ _ _ _ _ _ _ _ _ _ _ _ _ _ _
   | exact LeO.none _
   | refine LeO.ite ?_ ?_
   | refine LeO.bind ?_ (fun _ => ?_)
  ·
   intro y0 y1 y2 y3 y4 y5 y6 y7 y8 y9 y10 y11 y12 y13 y14 y15
   unfold quote_Hex.j5
   repeat' first
   | (with_reducible exact ih0 _ _ _ _ _ _ _ _ _ _)
   | (with_reducible exact ih1 _ _ _ _ _ _ _ _ _)
   | (with_reducible exact ih2 _ _ _ _ _ _ _ _ _ _ _)
   | (with_reducible exact ih3 _ _ _ _ _ _ _ _ _ _ _)
   | (with_reducible exact ih4 _ _ _ _ _ _ _ _ _ _ _ _ _ _)
   | (with_reducible exact ih5 _ _ _ _ _ _ _ _ _ _ _ _ _ _ _ _)
   | (with_reducible exact LeO.refl _)
   | (with_reducible exact LeO.none _)
   | (with_reducible refine LeO.ite ?_ ?_)
   | (with_reducible refine LeO.bind ?_ (fun _ => ?_))
   | exact ih0 _ _ _ _ _ _ _ _ _ _
   | exact ih1 _ _ _ _ _ _ _ _ _
   | exact ih2 _ _ _ _ _ _ _ _ _ _ _
   | exact ih3 _ _ _ _ _ _ _ _ _ _ _
   | exact ih4 _ _ _ _ _ _ _ _ _ _ _ _ _ _
   | exact ih5 _ _ _ _ _ _ _ _ _ _ _ _ _ _ _ _
   | exact LeO.none _
   | refine LeO.ite ?_ ?_
   | refine LeO.bind ?_ (fun _ => ?_)
theorem quote_Hex.mono : ∀ a0 a1 a2 a3 a4 a5 a6 a7 a8 k, LeO (quote_Hex.f k a0 a1 a2 a3 a4 a5 a6 a7 a8) (quote_Hex.f (k + 1) a0 a1 a2 a3 a4 a5 a6 a7 a8) := by
 intro a0 a1 a2 a3 a4 a5 a6 a7 a8 k
 obtain ⟨ih0, ih1, ih2, ih3, ih4, ih5⟩ := quote_Hex.mono_l k
 unfold quote_Hex.f
 repeat' first
  | (with_reducible exact ih0 _ _ _ _ _ _ _ _ _ _)
  | (with_reducible exact ih1 _ _ _ _ _ _ _ _ _)
  | (with_reducible exact ih2 _ _ _ _ _ _ _ _ _ _ _)
  | (with_reducible exact ih3 _ _ _ _ _ _ _ _ _ _ _)
  | (with_reducible exact ih4 _ _ _ _ _ _ _ _ _ _ _ _ _ _)
  | (with_reducible exact ih5 _ _ _ _ _ _ _ _ _ _ _ _ _ _ _ _)
  | (with_reducible exact LeO.refl _)
  | (with_reducible exact LeO.none _)
  | (with_reducible refine LeO.ite ?_ ?_)
  | (with_reducible refine LeO.bind ?_ (fun _ => ?_))
  | exact ih0 _ _ _ _ _ _ _ _ _ _
  | exact ih1 _ _ _ _ _ _ _ _ _
  | exact ih2 _ _ _ _ _ _ _ _ _ _ _
  | exact ih3 _ _ _ _ _ _ _ _ _ _ _
  | exact ih4 _ _ _ _ _ _ _ _ _ _ _ _ _ _
  | exact ih5 _ _ _ _ _ _ _ _ _ _ _ _ _ _ _ _
  | exact LeO.none _
  | refine LeO.ite ?_ ?_
  | refine LeO.bind ?_ (fun _ => ?_)
def quote_Hex.T18 : Bool × List (List Nat × List Nat) := (true, [([], []), ([], []), ([], []), ([], []), ([2, 3], [2, 3]), ([4], [4]), ([1, 5], [1, 5]), ([], []), ([], []), ([], []), ([8, 9], [8, 9]), ([10], [10]), ([7, 11], [7, 11]), ([6, 12], [6, 12]), ([0, 13], [0, 13]), ([14, 14, 0, 1, 2, 3, 4, 5, 6, 7, 8, 9, 10, 11, 12, 13, 14], [0, 14])])
def quote_Hex.B18 : List Nat := [0, 0, 0, 0, 12, 28, 62, 0, 0, 0, 768, 1792, 3968, 8190, 16383, 32767]
theorem quote_Hex.tab18 : rtab .any (opsOf Tryd.f15 18) = quote_Hex.T18 := by kernel_rfl
theorem quote_Hex.bits18 : waitsOk quote_Hex.T18.2 quote_Hex.B18 = true := by kernel_rfl
set_option maxHeartbeats 8000000 in
set_option maxRecDepth 100000 in
theorem quote_Hex.calls (k : Nat) (a0 : ByteArray) (a1_0 : Bool) (a1_1 : Bool) (a1_2 : Bool) (a1_3 : Bool) (a1_4 : Bool) (a1_5 : Int) (a1_6 : Int) (a1_7 : Int) (r : ByteArray) (w : World) (h : quote_Hex.f k a0 a1_0 a1_1 a1_2 a1_3 a1_4 a1_5 a1_6 a1_7 = some r) :
 Calls Tryd.prog 15 #[.string a0, .agg #[.bool a1_0, .bool a1_1, .bool a1_2, .bool a1_3, .bool a1_4, .int .i64 a1_5, .int .i64 a1_6, .int .i32 a1_7]] w fun e w' => e = .returned (.string r) ∧ Below w.heap.size w w' := by
 have hu28 := Tryd.underlying28
 have HB := Aside0.mk (Below.refl w.heap.size w)
 have H : (if a1_6 ≥ 0 then (quote_Hex.j0 k a0 (decide (a1_6 < (a0.size : Int))) a1_0 a1_1 a1_2 a1_3 a1_4 a1_5 a1_6 a1_7) else (quote_Hex.j0 k a0 false a1_0 a1_1 a1_2 a1_3 a1_4 a1_5 a1_6 a1_7)) = some r := h
 clear h
 have HC3 := Aside0.mk H
 clear H
 go_enter Tryd.func15, Tryd.ntmps15
 go_upto_region 1 with (first | ((with_reducible refine gate_dst (N := 3) rfl ?_); (try (refine gate_guard (by rfl) ?_; dsimp only)); refine box_event ?hg (N := 3) ?hd (cs := #[.bool a1_0, .bool a1_1, .bool a1_2, .bool a1_3, .bool a1_4, .int .i64 a1_5, .int .i64 a1_6, .int .i32 a1_7]) (t := 28) ?hr ?_; (case hd => rfl); (case hg => rfl); (case hr => first | (go_simp; done) | (go_simp; rfl)); intro gb110 hg w4 hbox hb; have n0_ := Aside0.mk (below_step (by repeat (first | (with_reducible first | exact HB.out | apply below_alloc | apply pw_below_drewN | apply below_drew1) | exact HB.out)) hb); have n1_ := Aside0.mk (hbox); have n2_ := Aside0.mk ((by rw [hg]; exact (below_size (by repeat (first | (with_reducible first | exact HB.out | apply below_alloc | apply pw_below_drewN | apply below_drew1) | exact HB.out))) : w.heap.size ≤ gb110)); have n3_ := Aside0.mk ((by rw [hg]; exact (below_size (by repeat (first | (with_reducible first | exact HB.out | apply below_alloc | apply pw_below_drewN | apply below_drew1) | exact HB.out))) : w.heap.size ≤ gb110)); clear HB; have HB := n0_; have BK110 := n1_; have GW110 := n2_; have GE110 := n3_; clear n0_ n1_ n2_ n3_; clear hb hbox hg))
 (try simp only [Act.put, List.setIfInBounds_toArray, List.set_cons_zero, List.set_cons_succ])
 go_cut [18] (fun v18 wc => ∃ (kq : Nat) (x18_2 : Bool), v18 = .bool x18_2 ∧ Aside0 (quote_Hex.j0 kq a0 x18_2 a1_0 a1_1 a1_2 a1_3 a1_4 a1_5 a1_6 a1_7 = some r) ∧ Aside0 (kq ≤ k) ∧ Aside0 (wc.heap[gb110]? = some (.cells #[.bool a1_0, .bool a1_1, .bool a1_2, .bool a1_3, .bool a1_4, .int .i64 a1_5, .int .i64 a1_6, .int .i32 a1_7] 28 (0, 0))) ∧ Aside0 (Below w.heap.size w wc))
 case first =>
  have H := HC3.out
  clear HC3
  by_cases c5 : a1_6 ≥ 0
  ·
   rw [if_pos c5] at H
   have c5b0 : decide (0 ≤ a1_6) = true := decide_eq_true c5
   clear c5
   (first | rw [c5b0] | (simp only [i64_w, i32_w]; rw [c5b0]) | skip)
   have H' := Aside0.mk H
   clear H
   have hcz6_0 : w4.cell? ⟨gb110, 0, none⟩ = some (.bool a1_0) := (blk_cell BK110.out 0).trans rfl
   have hcz6_1 : w4.cell? ⟨gb110, 1, none⟩ = some (.bool a1_1) := (blk_cell BK110.out 1).trans rfl
   have hcz6_2 : w4.cell? ⟨gb110, 2, none⟩ = some (.bool a1_2) := (blk_cell BK110.out 2).trans rfl
   have hcz6_3 : w4.cell? ⟨gb110, 3, none⟩ = some (.bool a1_3) := (blk_cell BK110.out 3).trans rfl
   have hcz6_4 : w4.cell? ⟨gb110, 4, none⟩ = some (.bool a1_4) := (blk_cell BK110.out 4).trans rfl
   have hcz6_5 : w4.cell? ⟨gb110, 5, none⟩ = some (.int .i64 a1_5) := (blk_cell BK110.out 5).trans rfl
   have hcz6_6 : w4.cell? ⟨gb110, 6, none⟩ = some (.int .i64 a1_6) := (blk_cell BK110.out 6).trans rfl
   have hcz6_7 : w4.cell? ⟨gb110, 7, none⟩ = some (.int .i32 a1_7) := (blk_cell BK110.out 7).trans rfl
   have hfz6_0 := blk_frozen BK110.out 0
   have hfz6_1 := blk_frozen BK110.out 1
   have hfz6_2 := blk_frozen BK110.out 2
   have hfz6_3 := blk_frozen BK110.out 3
   have hfz6_4 := blk_frozen BK110.out 4
   have hfz6_5 := blk_frozen BK110.out 5
   have hfz6_6 := blk_frozen BK110.out 6
   have hfz6_7 := blk_frozen BK110.out 7
   go_wp2
   go_meet
   case rel => exact ⟨_, (decide (a1_6 < (a0.size : Int))), (by first | rfl | (simp; done) | (simp [*]; done)), H', ⟨by first | omega | exact Nat.le_refl _⟩, ⟨by (with_reducible repeat (first | refine blk_drewN ?_ _ | refine blk_drew ?_ | refine blk_alloc ?_ _)); exact BK110.out⟩, ⟨by repeat (first | (with_reducible first | exact HB.out | apply below_alloc | apply pw_below_drewN | apply below_drew1 | refine below_set ?_ GE110.out) | exact HB.out)⟩⟩
  ·
   rw [if_neg c5] at H
   have c5b0 : decide (0 ≤ a1_6) = false := decide_eq_false c5
   clear c5
   (first | rw [c5b0] | (simp only [i64_w, i32_w]; rw [c5b0]) | skip)
   have H' := Aside0.mk H
   clear H
   have hcz7_0 : w4.cell? ⟨gb110, 0, none⟩ = some (.bool a1_0) := (blk_cell BK110.out 0).trans rfl
   have hcz7_1 : w4.cell? ⟨gb110, 1, none⟩ = some (.bool a1_1) := (blk_cell BK110.out 1).trans rfl
   have hcz7_2 : w4.cell? ⟨gb110, 2, none⟩ = some (.bool a1_2) := (blk_cell BK110.out 2).trans rfl
   have hcz7_3 : w4.cell? ⟨gb110, 3, none⟩ = some (.bool a1_3) := (blk_cell BK110.out 3).trans rfl
   have hcz7_4 : w4.cell? ⟨gb110, 4, none⟩ = some (.bool a1_4) := (blk_cell BK110.out 4).trans rfl
   have hcz7_5 : w4.cell? ⟨gb110, 5, none⟩ = some (.int .i64 a1_5) := (blk_cell BK110.out 5).trans rfl
   have hcz7_6 : w4.cell? ⟨gb110, 6, none⟩ = some (.int .i64 a1_6) := (blk_cell BK110.out 6).trans rfl
   have hcz7_7 : w4.cell? ⟨gb110, 7, none⟩ = some (.int .i32 a1_7) := (blk_cell BK110.out 7).trans rfl
   have hfz7_0 := blk_frozen BK110.out 0
   have hfz7_1 := blk_frozen BK110.out 1
   have hfz7_2 := blk_frozen BK110.out 2
   have hfz7_3 := blk_frozen BK110.out 3
   have hfz7_4 := blk_frozen BK110.out 4
   have hfz7_5 := blk_frozen BK110.out 5
   have hfz7_6 := blk_frozen BK110.out 6
   have hfz7_7 := blk_frozen BK110.out 7
   go_wp2
   go_meet
   case rel => exact ⟨_, (false), (by first | rfl | (simp; done) | (simp [*]; done)), H', ⟨by first | omega | exact Nat.le_refl _⟩, ⟨by (with_reducible repeat (first | refine blk_drewN ?_ _ | refine blk_drew ?_ | refine blk_alloc ?_ _)); exact BK110.out⟩, ⟨by repeat (first | (with_reducible first | exact HB.out | apply below_alloc | apply pw_below_drewN | apply below_drew1 | refine below_set ?_ GE110.out) | exact HB.out)⟩⟩
 case rest =>
  clear HC3
  try clear c1
  try clear p2
  try clear c5
  try clear c5b0
  try clear hcz6_0
  try clear hcz6_1
  try clear hcz6_2
  try clear hcz6_3
  try clear hcz6_4
  try clear hcz6_5
  try clear hcz6_6
  try clear hcz6_7
  try clear hcz7_0
  try clear hcz7_1
  try clear hcz7_2
  try clear hcz7_3
  try clear hcz7_4
  try clear hcz7_5
  try clear hcz7_6
  try clear hcz7_7
  try clear hfz6_0
  try clear hfz6_1
  try clear hfz6_2
  try clear hfz6_3
  try clear hfz6_4
  try clear hfz6_5
  try clear hfz6_6
  try clear hfz6_7
  try clear hfz7_0
  try clear hfz7_1
  try clear hfz7_2
  try clear hfz7_3
  try clear hfz7_4
  try clear hfz7_5
  try clear hfz7_6
  try clear hfz7_7
  obtain ⟨kq, x18_2, rfl, HA, HJ2, BK110, HB⟩ := hcut
  cases kq with
  | zero => exact absurd HA.out (by simp [quote_Hex.j0])
  | succ kj2 =>
   have H := HA.out
   clear HA
   simp only [quote_Hex.j0] at H
   have HC8 := Aside0.mk H
   clear H
   go_upto_if 18 with (fail)
   go_cut [0] (fun v0 wc => ∃ (kq : Nat) (x0_7 : ByteArray), v0 = .string x0_7 ∧ Aside0 (quote_Hex.j1 kq x0_7 a1_0 a1_1 a1_2 a1_3 a1_4 a1_5 a1_6 a1_7 = some r) ∧ Aside0 (kq ≤ kj2) ∧ Aside0 (wc.heap[gb110]? = some (.cells #[.bool a1_0, .bool a1_1, .bool a1_2, .bool a1_3, .bool a1_4, .int .i64 a1_5, .int .i64 a1_6, .int .i32 a1_7] 28 (0, 0))) ∧ Aside0 (Below w.heap.size w wc))
   case first =>
    have H := HC8.out
    clear HC8
    by_cases c9 : x18_2 = true
    ·
     subst c9
     have H1 : (if 0 ≤ a1_6 then (if a1_6 ≤ (a0.size : Int) then (quote_Hex.j1 kj2 (a0.extract 0 (a1_6 : Int).toNat) a1_0 a1_1 a1_2 a1_3 a1_4 a1_5 a1_6 a1_7) else (none)) else (none)) = some r := by rw [if_pos rfl] at H; exact H
     clear H
     have H := H1
     clear H1
     by_cases c10 : 0 ≤ a1_6
     ·
      rw [if_pos c10] at H
      have c10b0 := eq_true c10
      have c10b1 : decide (0 ≤ a1_6) = true := decide_eq_true c10
      clear c10
      by_cases c11 : a1_6 ≤ (a0.size : Int)
      ·
       rw [if_pos c11] at H
       have c11b0 := eq_true c11
       have c11b1 : decide (a1_6 ≤ (a0.size : Int)) = true := decide_eq_true c11
       clear c11
       have H' := Aside0.mk H
       clear H
       have hcz12_0 : wc.cell? ⟨gb110, 0, none⟩ = some (.bool a1_0) := (blk_cell BK110.out 0).trans rfl
       have hcz12_1 : wc.cell? ⟨gb110, 1, none⟩ = some (.bool a1_1) := (blk_cell BK110.out 1).trans rfl
       have hcz12_2 : wc.cell? ⟨gb110, 2, none⟩ = some (.bool a1_2) := (blk_cell BK110.out 2).trans rfl
       have hcz12_3 : wc.cell? ⟨gb110, 3, none⟩ = some (.bool a1_3) := (blk_cell BK110.out 3).trans rfl
       have hcz12_4 : wc.cell? ⟨gb110, 4, none⟩ = some (.bool a1_4) := (blk_cell BK110.out 4).trans rfl
       have hcz12_5 : wc.cell? ⟨gb110, 5, none⟩ = some (.int .i64 a1_5) := (blk_cell BK110.out 5).trans rfl
       have hcz12_6 : wc.cell? ⟨gb110, 6, none⟩ = some (.int .i64 a1_6) := (blk_cell BK110.out 6).trans rfl
       have hcz12_7 : wc.cell? ⟨gb110, 7, none⟩ = some (.int .i32 a1_7) := (blk_cell BK110.out 7).trans rfl
       have hfz12_0 := blk_frozen BK110.out 0
       have hfz12_1 := blk_frozen BK110.out 1
       have hfz12_2 := blk_frozen BK110.out 2
       have hfz12_3 := blk_frozen BK110.out 3
       have hfz12_4 := blk_frozen BK110.out 4
       have hfz12_5 := blk_frozen BK110.out 5
       have hfz12_6 := blk_frozen BK110.out 6
       have hfz12_7 := blk_frozen BK110.out 7
       go_wp2
       go_meet
       case rel => exact ⟨_, (a0.extract 0 (a1_6 : Int).toNat), (by first | rfl | (simp; done) | (simp [*]; done)), H', ⟨by have := HJ2.out; first | omega | exact Nat.le_refl _⟩, ⟨by (with_reducible repeat (first | refine blk_drewN ?_ _ | refine blk_drew ?_ | refine blk_alloc ?_ _)); exact BK110.out⟩, ⟨by repeat (first | (with_reducible first | exact HB.out | apply below_alloc | apply pw_below_drewN | apply below_drew1 | refine below_set ?_ GE110.out) | exact HB.out)⟩⟩
      ·
       rw [if_neg c11] at H
       exact absurd H (by simp)
     ·
      rw [if_neg c10] at H
      exact absurd H (by simp)
    ·
     replace c9 := Bool.eq_false_iff.mpr c9
     subst c9
     have H1 : (quote_Hex.j1 kj2 a0 a1_0 a1_1 a1_2 a1_3 a1_4 a1_5 a1_6 a1_7) = some r := by rw [if_neg (show ¬ (false = true) by decide)] at H; exact H
     clear H
     have H := H1
     clear H1
     have H' := Aside0.mk H
     clear H
     go_wp2
     go_meet
     case rel => exact ⟨_, (a0), (by first | rfl | (simp; done) | (simp [*]; done)), H', ⟨by have := HJ2.out; first | omega | exact Nat.le_refl _⟩, ⟨by (with_reducible repeat (first | refine blk_drewN ?_ _ | refine blk_drew ?_ | refine blk_alloc ?_ _)); exact BK110.out⟩, ⟨by repeat (first | (with_reducible first | exact HB.out | apply below_alloc | apply pw_below_drewN | apply below_drew1 | refine below_set ?_ GE110.out) | exact HB.out)⟩⟩
   case rest =>
    clear HC8
    try clear c1
    try clear p2
    try clear c5
    try clear c5b0
    try clear c9
    try clear c10
    try clear c10b0
    try clear c10b1
    try clear c11
    try clear c11b0
    try clear c11b1
    try clear hcz12_0
    try clear hcz12_1
    try clear hcz12_2
    try clear hcz12_3
    try clear hcz12_4
    try clear hcz12_5
    try clear hcz12_6
    try clear hcz12_7
    try clear hcz6_0
    try clear hcz6_1
    try clear hcz6_2
    try clear hcz6_3
    try clear hcz6_4
    try clear hcz6_5
    try clear hcz6_6
    try clear hcz6_7
    try clear hcz7_0
    try clear hcz7_1
    try clear hcz7_2
    try clear hcz7_3
    try clear hcz7_4
    try clear hcz7_5
    try clear hcz7_6
    try clear hcz7_7
    try clear hfz12_0
    try clear hfz12_1
    try clear hfz12_2
    try clear hfz12_3
    try clear hfz12_4
    try clear hfz12_5
    try clear hfz12_6
    try clear hfz12_7
    try clear hfz6_0
    try clear hfz6_1
    try clear hfz6_2
    try clear hfz6_3
    try clear hfz6_4
    try clear hfz6_5
    try clear hfz6_6
    try clear hfz6_7
    try clear hfz7_0
    try clear hfz7_1
    try clear hfz7_2
    try clear hfz7_3
    try clear hfz7_4
    try clear hfz7_5
    try clear hfz7_6
    try clear hfz7_7
    try clear p2
    obtain ⟨kq, x0_7, rfl, HA, HJ7, BK110, HB⟩ := hcut
    cases kq with
    | zero => exact absurd HA.out (by simp [quote_Hex.j1])
    | succ kj7 =>
     have H := HA.out
     clear HA
     simp only [quote_Hex.j1] at H
     have HC13 := Aside0.mk H
     clear H
     have hcz14_0 : wc.cell? ⟨gb110, 0, none⟩ = some (.bool a1_0) := (blk_cell BK110.out 0).trans rfl
     have hcz14_1 : wc.cell? ⟨gb110, 1, none⟩ = some (.bool a1_1) := (blk_cell BK110.out 1).trans rfl
     have hcz14_2 : wc.cell? ⟨gb110, 2, none⟩ = some (.bool a1_2) := (blk_cell BK110.out 2).trans rfl
     have hcz14_3 : wc.cell? ⟨gb110, 3, none⟩ = some (.bool a1_3) := (blk_cell BK110.out 3).trans rfl
     have hcz14_4 : wc.cell? ⟨gb110, 4, none⟩ = some (.bool a1_4) := (blk_cell BK110.out 4).trans rfl
     have hcz14_5 : wc.cell? ⟨gb110, 5, none⟩ = some (.int .i64 a1_5) := (blk_cell BK110.out 5).trans rfl
     have hcz14_6 : wc.cell? ⟨gb110, 6, none⟩ = some (.int .i64 a1_6) := (blk_cell BK110.out 6).trans rfl
     have hcz14_7 : wc.cell? ⟨gb110, 7, none⟩ = some (.int .i32 a1_7) := (blk_cell BK110.out 7).trans rfl
     have hfz14_0 := blk_frozen BK110.out 0
     have hfz14_1 := blk_frozen BK110.out 1
     have hfz14_2 := blk_frozen BK110.out 2
     have hfz14_3 := blk_frozen BK110.out 3
     have hfz14_4 := blk_frozen BK110.out 4
     have hfz14_5 := blk_frozen BK110.out 5
     have hfz14_6 := blk_frozen BK110.out 6
     have hfz14_7 := blk_frozen BK110.out 7
     go_upto_if 25 with (fail)
     go_cut [5] (fun v5 wc => ∃ (kq : Nat) (x5_12 : ByteArray), v5 = .string x5_12 ∧ Aside0 (quote_Hex.j2 kq x0_7 x5_12 (⟨#[]⟩ : ByteArray) a1_0 a1_1 a1_2 a1_3 a1_4 a1_5 a1_6 a1_7 = some r) ∧ Aside0 (kq ≤ kj7) ∧ Aside0 (wc.heap[gb110]? = some (.cells #[.bool a1_0, .bool a1_1, .bool a1_2, .bool a1_3, .bool a1_4, .int .i64 a1_5, .int .i64 a1_6, .int .i32 a1_7] 28 (0, 0))) ∧ Aside0 (Below w.heap.size w wc))
     case first =>
      have H := HC13.out
      clear HC13
      by_cases c15 : a1_7 = 88
      ·
       rw [if_pos c15] at H
       have c15b0 : (a1_7 == 88) = true := beq_iff_eq.mpr c15
       have c15b1 : (a1_7 != 88) = false := bne_eq_false_iff_eq.mpr c15
       clear c15
       (first | rw [c15b0] | (simp only [i64_w, i32_w]; rw [c15b0]) | skip)
       have H' := Aside0.mk H
       clear H
       go_wp2
       (first | go_meet | (refine Met.intro ?_; go_step; (repeat apply Exists.intro); refine ⟨?rel, (by first | rfl | (simp only [c15b0]; rfl))⟩))
       case rel => exact ⟨_, ((⟨#[48, 49, 50, 51, 52, 53, 54, 55, 56, 57, 65, 66, 67, 68, 69, 70]⟩ : ByteArray)), (by first | rfl | (simp; done) | (simp [*]; done)), H', ⟨by have := HJ2.out; have := HJ7.out; first | omega | exact Nat.le_refl _⟩, ⟨by (with_reducible repeat (first | refine blk_drewN ?_ _ | refine blk_drew ?_ | refine blk_alloc ?_ _)); exact BK110.out⟩, ⟨by repeat (first | (with_reducible first | exact HB.out | apply below_alloc | apply pw_below_drewN | apply below_drew1 | refine below_set ?_ GE110.out) | exact HB.out)⟩⟩
      ·
       rw [if_neg c15] at H
       have c15b0 : (a1_7 == 88) = false := beq_eq_false_iff_ne.mpr c15
       have c15b1 : (a1_7 != 88) = true := bne_iff_ne.mpr c15
       (first | rw [c15b0] | (simp only [i64_w, i32_w]; rw [c15b0]) | skip)
       have H' := Aside0.mk H
       clear H
       go_wp2
       (first | go_meet | (refine Met.intro ?_; go_step; (repeat apply Exists.intro); refine ⟨?rel, (by first | rfl | (simp only [c15b0]; rfl))⟩))
       case rel => exact ⟨_, ((⟨#[48, 49, 50, 51, 52, 53, 54, 55, 56, 57, 97, 98, 99, 100, 101, 102]⟩ : ByteArray)), (by first | rfl | (simp; done) | (simp [*]; done)), H', ⟨by have := HJ2.out; have := HJ7.out; first | omega | exact Nat.le_refl _⟩, ⟨by (with_reducible repeat (first | refine blk_drewN ?_ _ | refine blk_drew ?_ | refine blk_alloc ?_ _)); exact BK110.out⟩, ⟨by repeat (first | (with_reducible first | exact HB.out | apply below_alloc | apply pw_below_drewN | apply below_drew1 | refine below_set ?_ GE110.out) | exact HB.out)⟩⟩
     case rest =>
      clear HC13
      try clear c1
      try clear p2
      try clear c5
      try clear c5b0
      try clear c9
      try clear c10
      try clear c10b0
      try clear c10b1
      try clear c11
      try clear c11b0
      try clear c11b1
      try clear c15
      try clear c15b0
      try clear c15b1
      try clear hcz12_0
      try clear hcz12_1
      try clear hcz12_2
      try clear hcz12_3
      try clear hcz12_4
      try clear hcz12_5
      try clear hcz12_6
      try clear hcz12_7
      try clear hcz14_0
      try clear hcz14_1
      try clear hcz14_2
      try clear hcz14_3
      try clear hcz14_4
      try clear hcz14_5
      try clear hcz14_6
      try clear hcz14_7
      try clear hcz6_0
      try clear hcz6_1
      try clear hcz6_2
      try clear hcz6_3
      try clear hcz6_4
      try clear hcz6_5
      try clear hcz6_6
      try clear hcz6_7
      try clear hcz7_0
      try clear hcz7_1
      try clear hcz7_2
      try clear hcz7_3
      try clear hcz7_4
      try clear hcz7_5
      try clear hcz7_6
      try clear hcz7_7
      try clear hfz12_0
      try clear hfz12_1
      try clear hfz12_2
      try clear hfz12_3
      try clear hfz12_4
      try clear hfz12_5
      try clear hfz12_6
      try clear hfz12_7
      try clear hfz14_0
      try clear hfz14_1
      try clear hfz14_2
      try clear hfz14_3
      try clear hfz14_4
      try clear hfz14_5
      try clear hfz14_6
      try clear hfz14_7
      try clear hfz6_0
      try clear hfz6_1
      try clear hfz6_2
      try clear hfz6_3
      try clear hfz6_4
      try clear hfz6_5
      try clear hfz6_6
      try clear hfz6_7
      try clear hfz7_0
      try clear hfz7_1
      try clear hfz7_2
      try clear hfz7_3
      try clear hfz7_4
      try clear hfz7_5
      try clear hfz7_6
      try clear hfz7_7
      try clear p2
      obtain ⟨kq, x5_12, rfl, HA, HJ12, BK110, HB⟩ := hcut
      cases kq with
      | zero => exact absurd HA.out (by simp [quote_Hex.j2])
      | succ kj12 =>
       have H := HA.out
       clear HA
       simp only [quote_Hex.j2] at H
       have HC16 := Aside0.mk H
       clear H
       have hcz17_0 : wc.cell? ⟨gb110, 0, none⟩ = some (.bool a1_0) := (blk_cell BK110.out 0).trans rfl
       have hcz17_1 : wc.cell? ⟨gb110, 1, none⟩ = some (.bool a1_1) := (blk_cell BK110.out 1).trans rfl
       have hcz17_2 : wc.cell? ⟨gb110, 2, none⟩ = some (.bool a1_2) := (blk_cell BK110.out 2).trans rfl
       have hcz17_3 : wc.cell? ⟨gb110, 3, none⟩ = some (.bool a1_3) := (blk_cell BK110.out 3).trans rfl
       have hcz17_4 : wc.cell? ⟨gb110, 4, none⟩ = some (.bool a1_4) := (blk_cell BK110.out 4).trans rfl
       have hcz17_5 : wc.cell? ⟨gb110, 5, none⟩ = some (.int .i64 a1_5) := (blk_cell BK110.out 5).trans rfl
       have hcz17_6 : wc.cell? ⟨gb110, 6, none⟩ = some (.int .i64 a1_6) := (blk_cell BK110.out 6).trans rfl
       have hcz17_7 : wc.cell? ⟨gb110, 7, none⟩ = some (.int .i32 a1_7) := (blk_cell BK110.out 7).trans rfl
       have hfz17_0 := blk_frozen BK110.out 0
       have hfz17_1 := blk_frozen BK110.out 1
       have hfz17_2 := blk_frozen BK110.out 2
       have hfz17_3 := blk_frozen BK110.out 3
       have hfz17_4 := blk_frozen BK110.out 4
       have hfz17_5 := blk_frozen BK110.out 5
       have hfz17_6 := blk_frozen BK110.out 6
       have hfz17_7 := blk_frozen BK110.out 7
       go_upto_if 27 with (fail)
       go_cut [6] (fun v6 wc => ∃ (kq : Nat) (x6_15 : ByteArray), v6 = .string x6_15 ∧ Aside0 (quote_Hex.j3 kq x0_7 x5_12 x6_15 a1_0 a1_1 a1_2 a1_3 a1_4 a1_5 a1_6 a1_7 = some r) ∧ Aside0 (kq ≤ kj12) ∧ Aside0 (wc.heap[gb110]? = some (.cells #[.bool a1_0, .bool a1_1, .bool a1_2, .bool a1_3, .bool a1_4, .int .i64 a1_5, .int .i64 a1_6, .int .i32 a1_7] 28 (0, 0))) ∧ Aside0 (Below w.heap.size w wc))
       case first =>
        have H := HC16.out
        clear HC16
        by_cases c18 : a1_2 = true
        ·
         subst c18
         have H1 : (if a1_7 = 88 then (quote_Hex.j3 kj12 x0_7 x5_12 (⟨#[48, 88]⟩ : ByteArray) a1_0 a1_1 true a1_3 a1_4 a1_5 a1_6 a1_7) else (quote_Hex.j3 kj12 x0_7 x5_12 (⟨#[48, 120]⟩ : ByteArray) a1_0 a1_1 true a1_3 a1_4 a1_5 a1_6 a1_7)) = some r := by rw [if_pos rfl] at H; exact H
         clear H
         have H := H1
         clear H1
         by_cases c19 : a1_7 = 88
         ·
          rw [if_pos c19] at H
          have c19b0 : (a1_7 == 88) = true := beq_iff_eq.mpr c19
          have c19b1 : (a1_7 != 88) = false := bne_eq_false_iff_eq.mpr c19
          clear c19
          (first | rw [c19b0] | (simp only [i64_w, i32_w]; rw [c19b0]) | skip)
          have H' := Aside0.mk H
          clear H
          have hcz20_0 : wc.cell? ⟨gb110, 0, none⟩ = some (.bool a1_0) := (blk_cell BK110.out 0).trans rfl
          have hcz20_1 : wc.cell? ⟨gb110, 1, none⟩ = some (.bool a1_1) := (blk_cell BK110.out 1).trans rfl
          have hcz20_2 : wc.cell? ⟨gb110, 2, none⟩ = some (.bool true) := (blk_cell BK110.out 2).trans rfl
          have hcz20_3 : wc.cell? ⟨gb110, 3, none⟩ = some (.bool a1_3) := (blk_cell BK110.out 3).trans rfl
          have hcz20_4 : wc.cell? ⟨gb110, 4, none⟩ = some (.bool a1_4) := (blk_cell BK110.out 4).trans rfl
          have hcz20_5 : wc.cell? ⟨gb110, 5, none⟩ = some (.int .i64 a1_5) := (blk_cell BK110.out 5).trans rfl
          have hcz20_6 : wc.cell? ⟨gb110, 6, none⟩ = some (.int .i64 a1_6) := (blk_cell BK110.out 6).trans rfl
          have hcz20_7 : wc.cell? ⟨gb110, 7, none⟩ = some (.int .i32 a1_7) := (blk_cell BK110.out 7).trans rfl
          have hfz20_0 := blk_frozen BK110.out 0
          have hfz20_1 := blk_frozen BK110.out 1
          have hfz20_2 := blk_frozen BK110.out 2
          have hfz20_3 := blk_frozen BK110.out 3
          have hfz20_4 := blk_frozen BK110.out 4
          have hfz20_5 := blk_frozen BK110.out 5
          have hfz20_6 := blk_frozen BK110.out 6
          have hfz20_7 := blk_frozen BK110.out 7
          go_wp2
          (first | go_meet | (refine Met.intro ?_; go_step; (repeat apply Exists.intro); refine ⟨?rel, (by first | rfl | (simp only [c19b0]; rfl))⟩))
          case rel => exact ⟨_, ((⟨#[48, 88]⟩ : ByteArray)), (by first | rfl | (simp; done) | (simp [*]; done)), H', ⟨by have := HJ2.out; have := HJ7.out; have := HJ12.out; first | omega | exact Nat.le_refl _⟩, ⟨by (with_reducible repeat (first | refine blk_drewN ?_ _ | refine blk_drew ?_ | refine blk_alloc ?_ _)); exact BK110.out⟩, ⟨by repeat (first | (with_reducible first | exact HB.out | apply below_alloc | apply pw_below_drewN | apply below_drew1 | refine below_set ?_ GE110.out) | exact HB.out)⟩⟩
         ·
          rw [if_neg c19] at H
          have c19b0 : (a1_7 == 88) = false := beq_eq_false_iff_ne.mpr c19
          have c19b1 : (a1_7 != 88) = true := bne_iff_ne.mpr c19
          (first | rw [c19b0] | (simp only [i64_w, i32_w]; rw [c19b0]) | skip)
          have H' := Aside0.mk H
          clear H
          have hcz21_0 : wc.cell? ⟨gb110, 0, none⟩ = some (.bool a1_0) := (blk_cell BK110.out 0).trans rfl
          have hcz21_1 : wc.cell? ⟨gb110, 1, none⟩ = some (.bool a1_1) := (blk_cell BK110.out 1).trans rfl
          have hcz21_2 : wc.cell? ⟨gb110, 2, none⟩ = some (.bool true) := (blk_cell BK110.out 2).trans rfl
          have hcz21_3 : wc.cell? ⟨gb110, 3, none⟩ = some (.bool a1_3) := (blk_cell BK110.out 3).trans rfl
          have hcz21_4 : wc.cell? ⟨gb110, 4, none⟩ = some (.bool a1_4) := (blk_cell BK110.out 4).trans rfl
          have hcz21_5 : wc.cell? ⟨gb110, 5, none⟩ = some (.int .i64 a1_5) := (blk_cell BK110.out 5).trans rfl
          have hcz21_6 : wc.cell? ⟨gb110, 6, none⟩ = some (.int .i64 a1_6) := (blk_cell BK110.out 6).trans rfl
          have hcz21_7 : wc.cell? ⟨gb110, 7, none⟩ = some (.int .i32 a1_7) := (blk_cell BK110.out 7).trans rfl
          have hfz21_0 := blk_frozen BK110.out 0
          have hfz21_1 := blk_frozen BK110.out 1
          have hfz21_2 := blk_frozen BK110.out 2
          have hfz21_3 := blk_frozen BK110.out 3
          have hfz21_4 := blk_frozen BK110.out 4
          have hfz21_5 := blk_frozen BK110.out 5
          have hfz21_6 := blk_frozen BK110.out 6
          have hfz21_7 := blk_frozen BK110.out 7
          go_wp2
          (first | go_meet | (refine Met.intro ?_; go_step; (repeat apply Exists.intro); refine ⟨?rel, (by first | rfl | (simp only [c19b0]; rfl))⟩))
          case rel => exact ⟨_, ((⟨#[48, 120]⟩ : ByteArray)), (by first | rfl | (simp; done) | (simp [*]; done)), H', ⟨by have := HJ2.out; have := HJ7.out; have := HJ12.out; first | omega | exact Nat.le_refl _⟩, ⟨by (with_reducible repeat (first | refine blk_drewN ?_ _ | refine blk_drew ?_ | refine blk_alloc ?_ _)); exact BK110.out⟩, ⟨by repeat (first | (with_reducible first | exact HB.out | apply below_alloc | apply pw_below_drewN | apply below_drew1 | refine below_set ?_ GE110.out) | exact HB.out)⟩⟩
        ·
         replace c18 := Bool.eq_false_iff.mpr c18
         subst c18
         have H1 : (quote_Hex.j3 kj12 x0_7 x5_12 (⟨#[]⟩ : ByteArray) a1_0 a1_1 false a1_3 a1_4 a1_5 a1_6 a1_7) = some r := by rw [if_neg (show ¬ (false = true) by decide)] at H; exact H
         clear H
         have H := H1
         clear H1
         have H' := Aside0.mk H
         clear H
         go_wp2
         go_meet
         case rel => exact ⟨_, ((⟨#[]⟩ : ByteArray)), (by first | rfl | (simp; done) | (simp [*]; done)), H', ⟨by have := HJ2.out; have := HJ7.out; have := HJ12.out; first | omega | exact Nat.le_refl _⟩, ⟨by (with_reducible repeat (first | refine blk_drewN ?_ _ | refine blk_drew ?_ | refine blk_alloc ?_ _)); exact BK110.out⟩, ⟨by repeat (first | (with_reducible first | exact HB.out | apply below_alloc | apply pw_below_drewN | apply below_drew1 | refine below_set ?_ GE110.out) | exact HB.out)⟩⟩
       case rest =>
        clear HC16
        try clear c1
        try clear p2
        try clear c5
        try clear c5b0
        try clear c9
        try clear c10
        try clear c10b0
        try clear c10b1
        try clear c11
        try clear c11b0
        try clear c11b1
        try clear c15
        try clear c15b0
        try clear c15b1
        try clear c18
        try clear c19
        try clear c19b0
        try clear c19b1
        try clear hcz12_0
        try clear hcz12_1
        try clear hcz12_2
        try clear hcz12_3
        try clear hcz12_4
        try clear hcz12_5
        try clear hcz12_6
        try clear hcz12_7
        try clear hcz14_0
        try clear hcz14_1
        try clear hcz14_2
        try clear hcz14_3
        try clear hcz14_4
        try clear hcz14_5
        try clear hcz14_6
        try clear hcz14_7
        try clear hcz17_0
        try clear hcz17_1
        try clear hcz17_2
        try clear hcz17_3
        try clear hcz17_4
        try clear hcz17_5
        try clear hcz17_6
        try clear hcz17_7
        try clear hcz20_0
        try clear hcz20_1
        try clear hcz20_2
        try clear hcz20_3
        try clear hcz20_4
        try clear hcz20_5
        try clear hcz20_6
        try clear hcz20_7
        try clear hcz21_0
        try clear hcz21_1
        try clear hcz21_2
        try clear hcz21_3
        try clear hcz21_4
        try clear hcz21_5
        try clear hcz21_6
        try clear hcz21_7
        try clear hcz6_0
        try clear hcz6_1
        try clear hcz6_2
        try clear hcz6_3
        try clear hcz6_4
        try clear hcz6_5
        try clear hcz6_6
        try clear hcz6_7
        try clear hcz7_0
        try clear hcz7_1
        try clear hcz7_2
        try clear hcz7_3
        try clear hcz7_4
        try clear hcz7_5
        try clear hcz7_6
        try clear hcz7_7
        try clear hfz12_0
        try clear hfz12_1
        try clear hfz12_2
        try clear hfz12_3
        try clear hfz12_4
        try clear hfz12_5
        try clear hfz12_6
        try clear hfz12_7
        try clear hfz14_0
        try clear hfz14_1
        try clear hfz14_2
        try clear hfz14_3
        try clear hfz14_4
        try clear hfz14_5
        try clear hfz14_6
        try clear hfz14_7
        try clear hfz17_0
        try clear hfz17_1
        try clear hfz17_2
        try clear hfz17_3
        try clear hfz17_4
        try clear hfz17_5
        try clear hfz17_6
        try clear hfz17_7
        try clear hfz20_0
        try clear hfz20_1
        try clear hfz20_2
        try clear hfz20_3
        try clear hfz20_4
        try clear hfz20_5
        try clear hfz20_6
        try clear hfz20_7
        try clear hfz21_0
        try clear hfz21_1
        try clear hfz21_2
        try clear hfz21_3
        try clear hfz21_4
        try clear hfz21_5
        try clear hfz21_6
        try clear hfz21_7
        try clear hfz6_0
        try clear hfz6_1
        try clear hfz6_2
        try clear hfz6_3
        try clear hfz6_4
        try clear hfz6_5
        try clear hfz6_6
        try clear hfz6_7
        try clear hfz7_0
        try clear hfz7_1
        try clear hfz7_2
        try clear hfz7_3
        try clear hfz7_4
        try clear hfz7_5
        try clear hfz7_6
        try clear hfz7_7
        try clear p2
        obtain ⟨kq, x6_15, rfl, HA, HJ15, BK110, HB⟩ := hcut
        cases kq with
        | zero => exact absurd HA.out (by simp [quote_Hex.j3])
        | succ kj15 =>
         have H := HA.out
         clear HA
         simp only [quote_Hex.j3] at H
         have H' := Aside0.mk H
         clear H
         go_wp2
         go_loopg [7, 33] kj15 (fun kq v7 v33 w' => ∃ (x7_5 : List Int) (x33_5 : Int), v33 = .int .i64 x33_5 ∧ Aside0 (quote_Hex.l0 kq x0_7 x5_12 x6_15 x7_5 (x0_7.size : Int) x33_5 a1_0 a1_1 a1_2 a1_3 a1_4 a1_5 a1_6 a1_7 = some r) ∧ Aside0 (kq ≤ kj15) ∧ Aside0 (Kd.R (Kd.int .u8) 5 w' w.heap.size (fun _ => True) v7 x7_5) ∧ Aside0 (w'.heap[gb110]? = some (.cells #[.bool a1_0, .bool a1_1, .bool a1_2, .bool a1_3, .bool a1_4, .int .i64 a1_5, .int .i64 a1_6, .int .i32 a1_7] 28 (0, 0))) ∧ Aside0 (Below w.heap.size w w'))
         case atStart => exact ⟨(([] : List Int)), (0), (by first | rfl | (simp; done) | (simp [*]; done)), H', ⟨Nat.le_refl _⟩, ⟨by first | exact Kd.R_nil _ _ _ _ _ | exact Kd.N_nil _ _ _ _ _ | exact Kd.V_nil _ _ _ _ _ | exact Kd.Q_nil _ _ _ _ _ | exact Kd.S_nil _ _ _ _ _⟩, ⟨by (with_reducible repeat (first | refine blk_drewN ?_ _ | refine blk_drew ?_ | refine blk_alloc ?_ _)); exact BK110.out⟩, ⟨by repeat (first | (with_reducible first | exact HB.out | apply below_alloc | apply pw_below_drewN | apply below_drew1 | refine below_set ?_ GE110.out) | exact HB.out)⟩⟩
         case round =>
          clear H'
          try clear c1
          try clear p2
          try clear c5
          try clear c5b0
          try clear c9
          try clear c10
          try clear c10b0
          try clear c10b1
          try clear c11
          try clear c11b0
          try clear c11b1
          try clear c15
          try clear c15b0
          try clear c15b1
          try clear c18
          try clear c19
          try clear c19b0
          try clear c19b1
          try clear hcz12_0
          try clear hcz12_1
          try clear hcz12_2
          try clear hcz12_3
          try clear hcz12_4
          try clear hcz12_5
          try clear hcz12_6
          try clear hcz12_7
          try clear hcz14_0
          try clear hcz14_1
          try clear hcz14_2
          try clear hcz14_3
          try clear hcz14_4
          try clear hcz14_5
          try clear hcz14_6
          try clear hcz14_7
          try clear hcz17_0
          try clear hcz17_1
          try clear hcz17_2
          try clear hcz17_3
          try clear hcz17_4
          try clear hcz17_5
          try clear hcz17_6
          try clear hcz17_7
          try clear hcz20_0
          try clear hcz20_1
          try clear hcz20_2
          try clear hcz20_3
          try clear hcz20_4
          try clear hcz20_5
          try clear hcz20_6
          try clear hcz20_7
          try clear hcz21_0
          try clear hcz21_1
          try clear hcz21_2
          try clear hcz21_3
          try clear hcz21_4
          try clear hcz21_5
          try clear hcz21_6
          try clear hcz21_7
          try clear hcz6_0
          try clear hcz6_1
          try clear hcz6_2
          try clear hcz6_3
          try clear hcz6_4
          try clear hcz6_5
          try clear hcz6_6
          try clear hcz6_7
          try clear hcz7_0
          try clear hcz7_1
          try clear hcz7_2
          try clear hcz7_3
          try clear hcz7_4
          try clear hcz7_5
          try clear hcz7_6
          try clear hcz7_7
          try clear hfz12_0
          try clear hfz12_1
          try clear hfz12_2
          try clear hfz12_3
          try clear hfz12_4
          try clear hfz12_5
          try clear hfz12_6
          try clear hfz12_7
          try clear hfz14_0
          try clear hfz14_1
          try clear hfz14_2
          try clear hfz14_3
          try clear hfz14_4
          try clear hfz14_5
          try clear hfz14_6
          try clear hfz14_7
          try clear hfz17_0
          try clear hfz17_1
          try clear hfz17_2
          try clear hfz17_3
          try clear hfz17_4
          try clear hfz17_5
          try clear hfz17_6
          try clear hfz17_7
          try clear hfz20_0
          try clear hfz20_1
          try clear hfz20_2
          try clear hfz20_3
          try clear hfz20_4
          try clear hfz20_5
          try clear hfz20_6
          try clear hfz20_7
          try clear hfz21_0
          try clear hfz21_1
          try clear hfz21_2
          try clear hfz21_3
          try clear hfz21_4
          try clear hfz21_5
          try clear hfz21_6
          try clear hfz21_7
          try clear hfz6_0
          try clear hfz6_1
          try clear hfz6_2
          try clear hfz6_3
          try clear hfz6_4
          try clear hfz6_5
          try clear hfz6_6
          try clear hfz6_7
          try clear hfz7_0
          try clear hfz7_1
          try clear hfz7_2
          try clear hfz7_3
          try clear hfz7_4
          try clear hfz7_5
          try clear hfz7_6
          try clear hfz7_7
          try clear p2
          obtain ⟨x7_5, x33_5, rfl, HA, HK5, HO_7, BK110, HB⟩ := hrel
          cases gk with
          | zero => exact absurd HA.out (by simp [quote_Hex.l0])
          | succ k5 =>
           have H := HA.out
           clear HA
           simp only [quote_Hex.l0] at H
           by_cases c22 : x33_5 < (x0_7.size : Int)
           ·
            rw [if_pos c22] at H
            have c22b0 : decide (x33_5 < (x0_7.size : Int)) = true := decide_eq_true c22
            clear c22
            have HC23 := Aside0.mk H
            clear H
            go_upto_region 14 with (fail)
            go_cut [41] (fun v41 wc => ∃ (kq : Nat) (x41_22 : Bool), v41 = .bool x41_22 ∧ Aside0 (quote_Hex.j5 kq x0_7 x5_12 x6_15 x7_5 x33_5 (x0_7.size : Int) x33_5 x41_22 a1_0 a1_1 a1_2 a1_3 a1_4 a1_5 a1_6 a1_7 = some r) ∧ Aside0 (kq ≤ k5) ∧ Aside0 (Kd.R (Kd.int .u8) 5 wc w.heap.size (fun _ => True) u7 x7_5) ∧ Aside0 (wc.heap[gb110]? = some (.cells #[.bool a1_0, .bool a1_1, .bool a1_2, .bool a1_3, .bool a1_4, .int .i64 a1_5, .int .i64 a1_6, .int .i32 a1_7] 28 (0, 0))) ∧ Aside0 (Below w.heap.size w wc))
            case first =>
             have H := HC23.out
             clear HC23
             by_cases c24 : a1_3 = true
             ·
              subst c24
              have H1 : (quote_Hex.j5 k5 x0_7 x5_12 x6_15 x7_5 x33_5 (x0_7.size : Int) x33_5 (decide (x33_5 > 0)) a1_0 a1_1 a1_2 true a1_4 a1_5 a1_6 a1_7) = some r := by rw [if_pos rfl] at H; exact H
              clear H
              have H := H1
              clear H1
              have H' := Aside0.mk H
              clear H
              have hcz25_0 : wr.cell? ⟨gb110, 0, none⟩ = some (.bool a1_0) := (blk_cell BK110.out 0).trans rfl
              have hcz25_1 : wr.cell? ⟨gb110, 1, none⟩ = some (.bool a1_1) := (blk_cell BK110.out 1).trans rfl
              have hcz25_2 : wr.cell? ⟨gb110, 2, none⟩ = some (.bool a1_2) := (blk_cell BK110.out 2).trans rfl
              have hcz25_3 : wr.cell? ⟨gb110, 3, none⟩ = some (.bool true) := (blk_cell BK110.out 3).trans rfl
              have hcz25_4 : wr.cell? ⟨gb110, 4, none⟩ = some (.bool a1_4) := (blk_cell BK110.out 4).trans rfl
              have hcz25_5 : wr.cell? ⟨gb110, 5, none⟩ = some (.int .i64 a1_5) := (blk_cell BK110.out 5).trans rfl
              have hcz25_6 : wr.cell? ⟨gb110, 6, none⟩ = some (.int .i64 a1_6) := (blk_cell BK110.out 6).trans rfl
              have hcz25_7 : wr.cell? ⟨gb110, 7, none⟩ = some (.int .i32 a1_7) := (blk_cell BK110.out 7).trans rfl
              have hfz25_0 := blk_frozen BK110.out 0
              have hfz25_1 := blk_frozen BK110.out 1
              have hfz25_2 := blk_frozen BK110.out 2
              have hfz25_3 := blk_frozen BK110.out 3
              have hfz25_4 := blk_frozen BK110.out 4
              have hfz25_5 := blk_frozen BK110.out 5
              have hfz25_6 := blk_frozen BK110.out 6
              have hfz25_7 := blk_frozen BK110.out 7
              go_wp2
              go_meet
              case rel => exact ⟨_, (decide (x33_5 > 0)), (by first | rfl | (simp; done) | (simp [*]; done)), H', ⟨by have := HJ2.out; have := HJ7.out; have := HJ12.out; have := HJ15.out; have := HK5.out; first | omega | exact Nat.le_refl _⟩, ⟨by (with_reducible repeat (first | apply Kd.R_alloc | apply Kd.R_drewN | apply Kd.R_drew)); exact HO_7.out⟩, ⟨by (with_reducible repeat (first | refine blk_drewN ?_ _ | refine blk_drew ?_ | refine blk_alloc ?_ _)); exact BK110.out⟩, ⟨by repeat (first | (with_reducible first | exact HB.out | apply below_alloc | apply pw_below_drewN | apply below_drew1 | refine below_set ?_ GE110.out) | exact HB.out)⟩⟩
             ·
              replace c24 := Bool.eq_false_iff.mpr c24
              subst c24
              have H1 : (quote_Hex.j5 k5 x0_7 x5_12 x6_15 x7_5 x33_5 (x0_7.size : Int) x33_5 false a1_0 a1_1 a1_2 false a1_4 a1_5 a1_6 a1_7) = some r := by rw [if_neg (show ¬ (false = true) by decide)] at H; exact H
              clear H
              have H := H1
              clear H1
              have H' := Aside0.mk H
              clear H
              have hcz26_0 : wr.cell? ⟨gb110, 0, none⟩ = some (.bool a1_0) := (blk_cell BK110.out 0).trans rfl
              have hcz26_1 : wr.cell? ⟨gb110, 1, none⟩ = some (.bool a1_1) := (blk_cell BK110.out 1).trans rfl
              have hcz26_2 : wr.cell? ⟨gb110, 2, none⟩ = some (.bool a1_2) := (blk_cell BK110.out 2).trans rfl
              have hcz26_3 : wr.cell? ⟨gb110, 3, none⟩ = some (.bool false) := (blk_cell BK110.out 3).trans rfl
              have hcz26_4 : wr.cell? ⟨gb110, 4, none⟩ = some (.bool a1_4) := (blk_cell BK110.out 4).trans rfl
              have hcz26_5 : wr.cell? ⟨gb110, 5, none⟩ = some (.int .i64 a1_5) := (blk_cell BK110.out 5).trans rfl
              have hcz26_6 : wr.cell? ⟨gb110, 6, none⟩ = some (.int .i64 a1_6) := (blk_cell BK110.out 6).trans rfl
              have hcz26_7 : wr.cell? ⟨gb110, 7, none⟩ = some (.int .i32 a1_7) := (blk_cell BK110.out 7).trans rfl
              have hfz26_0 := blk_frozen BK110.out 0
              have hfz26_1 := blk_frozen BK110.out 1
              have hfz26_2 := blk_frozen BK110.out 2
              have hfz26_3 := blk_frozen BK110.out 3
              have hfz26_4 := blk_frozen BK110.out 4
              have hfz26_5 := blk_frozen BK110.out 5
              have hfz26_6 := blk_frozen BK110.out 6
              have hfz26_7 := blk_frozen BK110.out 7
              go_wp2
              go_meet
              case rel => exact ⟨_, (false), (by first | rfl | (simp; done) | (simp [*]; done)), H', ⟨by have := HJ2.out; have := HJ7.out; have := HJ12.out; have := HJ15.out; have := HK5.out; first | omega | exact Nat.le_refl _⟩, ⟨by (with_reducible repeat (first | apply Kd.R_alloc | apply Kd.R_drewN | apply Kd.R_drew)); exact HO_7.out⟩, ⟨by (with_reducible repeat (first | refine blk_drewN ?_ _ | refine blk_drew ?_ | refine blk_alloc ?_ _)); exact BK110.out⟩, ⟨by repeat (first | (with_reducible first | exact HB.out | apply below_alloc | apply pw_below_drewN | apply below_drew1 | refine below_set ?_ GE110.out) | exact HB.out)⟩⟩
            case rest =>
             clear HC23
             try clear c1
             try clear c2
             try clear p2
             try clear c5
             try clear c5b0
             try clear c9
             try clear c10
             try clear c10b0
             try clear c10b1
             try clear c11
             try clear c11b0
             try clear c11b1
             try clear c15
             try clear c15b0
             try clear c15b1
             try clear c18
             try clear c19
             try clear c19b0
             try clear c19b1
             try clear c22
             try clear c22b0
             try clear c24
             try clear hcz12_0
             try clear hcz12_1
             try clear hcz12_2
             try clear hcz12_3
             try clear hcz12_4
             try clear hcz12_5
             try clear hcz12_6
             try clear hcz12_7
             try clear hcz14_0
             try clear hcz14_1
             try clear hcz14_2
             try clear hcz14_3
             try clear hcz14_4
             try clear hcz14_5
             try clear hcz14_6
             try clear hcz14_7
             try clear hcz17_0
             try clear hcz17_1
             try clear hcz17_2
             try clear hcz17_3
             try clear hcz17_4
             try clear hcz17_5
             try clear hcz17_6
             try clear hcz17_7
             try clear hcz20_0
             try clear hcz20_1
             try clear hcz20_2
             try clear hcz20_3
             try clear hcz20_4
             try clear hcz20_5
             try clear hcz20_6
             try clear hcz20_7
             try clear hcz21_0
             try clear hcz21_1
             try clear hcz21_2
             try clear hcz21_3
             try clear hcz21_4
             try clear hcz21_5
             try clear hcz21_6
             try clear hcz21_7
             try clear hcz25_0
             try clear hcz25_1
             try clear hcz25_2
             try clear hcz25_3
             try clear hcz25_4
             try clear hcz25_5
             try clear hcz25_6
             try clear hcz25_7
             try clear hcz26_0
             try clear hcz26_1
             try clear hcz26_2
             try clear hcz26_3
             try clear hcz26_4
             try clear hcz26_5
             try clear hcz26_6
             try clear hcz26_7
             try clear hcz6_0
             try clear hcz6_1
             try clear hcz6_2
             try clear hcz6_3
             try clear hcz6_4
             try clear hcz6_5
             try clear hcz6_6
             try clear hcz6_7
             try clear hcz7_0
             try clear hcz7_1
             try clear hcz7_2
             try clear hcz7_3
             try clear hcz7_4
             try clear hcz7_5
             try clear hcz7_6
             try clear hcz7_7
             try clear hfz12_0
             try clear hfz12_1
             try clear hfz12_2
             try clear hfz12_3
             try clear hfz12_4
             try clear hfz12_5
             try clear hfz12_6
             try clear hfz12_7
             try clear hfz14_0
             try clear hfz14_1
             try clear hfz14_2
             try clear hfz14_3
             try clear hfz14_4
             try clear hfz14_5
             try clear hfz14_6
             try clear hfz14_7
             try clear hfz17_0
             try clear hfz17_1
             try clear hfz17_2
             try clear hfz17_3
             try clear hfz17_4
             try clear hfz17_5
             try clear hfz17_6
             try clear hfz17_7
             try clear hfz20_0
             try clear hfz20_1
             try clear hfz20_2
             try clear hfz20_3
             try clear hfz20_4
             try clear hfz20_5
             try clear hfz20_6
             try clear hfz20_7
             try clear hfz21_0
             try clear hfz21_1
             try clear hfz21_2
             try clear hfz21_3
             try clear hfz21_4
             try clear hfz21_5
             try clear hfz21_6
             try clear hfz21_7
             try clear hfz25_0
             try clear hfz25_1
             try clear hfz25_2
             try clear hfz25_3
             try clear hfz25_4
             try clear hfz25_5
             try clear hfz25_6
             try clear hfz25_7
             try clear hfz26_0
             try clear hfz26_1
             try clear hfz26_2
             try clear hfz26_3
             try clear hfz26_4
             try clear hfz26_5
             try clear hfz26_6
             try clear hfz26_7
             try clear hfz6_0
             try clear hfz6_1
             try clear hfz6_2
             try clear hfz6_3
             try clear hfz6_4
             try clear hfz6_5
             try clear hfz6_6
             try clear hfz6_7
             try clear hfz7_0
             try clear hfz7_1
             try clear hfz7_2
             try clear hfz7_3
             try clear hfz7_4
             try clear hfz7_5
             try clear hfz7_6
             try clear hfz7_7
             try clear p2
             obtain ⟨kq, x41_22, rfl, HA, HJ22, HO_7, BK110, HB⟩ := hcut
             cases kq with
             | zero => exact absurd HA.out (by simp [quote_Hex.j5])
             | succ kj22 =>
              have H := HA.out
              clear HA
              simp only [quote_Hex.j5] at H
              by_cases c27 : x41_22 = true
              ·
               subst c27
               have H1 : (if x7_5.length < 140737488355328 then ((some (x7_5 ++ [32] : List Int)).bind fun y112 => (if a1_3 = true then (if y112.length + x6_15.size < 140737488355328 then ((some (y112 ++ bytesOf x6_15 : List Int)).bind fun y115 => (if 0 ≤ x33_5 then (if x33_5 < (x0_7.size : Int) then (if 0 ≤ ((bt x0_7 x33_5) / 16) then (if ((bt x0_7 x33_5) / 16) < (x5_12.size : Int) then (if 0 ≤ (Go.bits .and .u8 (bt x0_7 x33_5) 15) then (if (Go.bits .and .u8 (bt x0_7 x33_5) 15) < (x5_12.size : Int) then ((some (([bt x5_12 ((bt x0_7 x33_5) / 16), bt x5_12 (Go.bits .and .u8 (bt x0_7 x33_5) 15)] : List Int) : List Int)).bind fun y118 => (if y115.length + y118.length < 140737488355328 then (quote_Hex.l0 kj22 x0_7 x5_12 x6_15 (y115 ++ y118) (x0_7.size : Int) (wrap64 (x33_5 + 1)) a1_0 a1_1 a1_2 a1_3 a1_4 a1_5 a1_6 a1_7) else (none))) else (none)) else (none)) else (none)) else (none)) else (none)) else (none))) else (none)) else (if x33_5 = 0 then (if y112.length + x6_15.size < 140737488355328 then ((some (y112 ++ bytesOf x6_15 : List Int)).bind fun y124 => (if 0 ≤ x33_5 then (if x33_5 < (x0_7.size : Int) then (if 0 ≤ ((bt x0_7 x33_5) / 16) then (if ((bt x0_7 x33_5) / 16) < (x5_12.size : Int) then (if 0 ≤ (Go.bits .and .u8 (bt x0_7 x33_5) 15) then (if (Go.bits .and .u8 (bt x0_7 x33_5) 15) < (x5_12.size : Int) then ((some (([bt x5_12 ((bt x0_7 x33_5) / 16), bt x5_12 (Go.bits .and .u8 (bt x0_7 x33_5) 15)] : List Int) : List Int)).bind fun y127 => (if y124.length + y127.length < 140737488355328 then (quote_Hex.l0 kj22 x0_7 x5_12 x6_15 (y124 ++ y127) (x0_7.size : Int) (wrap64 (x33_5 + 1)) a1_0 a1_1 a1_2 a1_3 a1_4 a1_5 a1_6 a1_7) else (none))) else (none)) else (none)) else (none)) else (none)) else (none)) else (none))) else (none)) else (if 0 ≤ x33_5 then (if x33_5 < (x0_7.size : Int) then (if 0 ≤ ((bt x0_7 x33_5) / 16) then (if ((bt x0_7 x33_5) / 16) < (x5_12.size : Int) then (if 0 ≤ (Go.bits .and .u8 (bt x0_7 x33_5) 15) then (if (Go.bits .and .u8 (bt x0_7 x33_5) 15) < (x5_12.size : Int) then ((some (([bt x5_12 ((bt x0_7 x33_5) / 16), bt x5_12 (Go.bits .and .u8 (bt x0_7 x33_5) 15)] : List Int) : List Int)).bind fun y133 => (if y112.length + y133.length < 140737488355328 then (quote_Hex.l0 kj22 x0_7 x5_12 x6_15 (y112 ++ y133) (x0_7.size : Int) (wrap64 (x33_5 + 1)) a1_0 a1_1 a1_2 a1_3 a1_4 a1_5 a1_6 a1_7) else (none))) else (none)) else (none)) else (none)) else (none)) else (none)) else (none))))) else (none)) = some r := by rw [if_pos rfl] at H; exact H
               clear H
               have H := H1
               clear H1
               by_cases c28 : x7_5.length < 140737488355328
               ·
                rw [if_pos c28] at H
                have LMc28 := Aside0.mk c28
                clear c28
                obtain ⟨y112, hy112⟩ : ∃ y_ : List Int, y_ = (x7_5 ++ [32]) := ⟨_, rfl⟩
                replace H : (if a1_3 = true then (if y112.length + x6_15.size < 140737488355328 then ((some (y112 ++ bytesOf x6_15 : List Int)).bind fun y115 => (if 0 ≤ x33_5 then (if x33_5 < (x0_7.size : Int) then (if 0 ≤ ((bt x0_7 x33_5) / 16) then (if ((bt x0_7 x33_5) / 16) < (x5_12.size : Int) then (if 0 ≤ (Go.bits .and .u8 (bt x0_7 x33_5) 15) then (if (Go.bits .and .u8 (bt x0_7 x33_5) 15) < (x5_12.size : Int) then ((some (([bt x5_12 ((bt x0_7 x33_5) / 16), bt x5_12 (Go.bits .and .u8 (bt x0_7 x33_5) 15)] : List Int) : List Int)).bind fun y118 => (if y115.length + y118.length < 140737488355328 then (quote_Hex.l0 kj22 x0_7 x5_12 x6_15 (y115 ++ y118) (x0_7.size : Int) (wrap64 (x33_5 + 1)) a1_0 a1_1 a1_2 a1_3 a1_4 a1_5 a1_6 a1_7) else (none))) else (none)) else (none)) else (none)) else (none)) else (none)) else (none))) else (none)) else (if x33_5 = 0 then (if y112.length + x6_15.size < 140737488355328 then ((some (y112 ++ bytesOf x6_15 : List Int)).bind fun y124 => (if 0 ≤ x33_5 then (if x33_5 < (x0_7.size : Int) then (if 0 ≤ ((bt x0_7 x33_5) / 16) then (if ((bt x0_7 x33_5) / 16) < (x5_12.size : Int) then (if 0 ≤ (Go.bits .and .u8 (bt x0_7 x33_5) 15) then (if (Go.bits .and .u8 (bt x0_7 x33_5) 15) < (x5_12.size : Int) then ((some (([bt x5_12 ((bt x0_7 x33_5) / 16), bt x5_12 (Go.bits .and .u8 (bt x0_7 x33_5) 15)] : List Int) : List Int)).bind fun y127 => (if y124.length + y127.length < 140737488355328 then (quote_Hex.l0 kj22 x0_7 x5_12 x6_15 (y124 ++ y127) (x0_7.size : Int) (wrap64 (x33_5 + 1)) a1_0 a1_1 a1_2 a1_3 a1_4 a1_5 a1_6 a1_7) else (none))) else (none)) else (none)) else (none)) else (none)) else (none)) else (none))) else (none)) else (if 0 ≤ x33_5 then (if x33_5 < (x0_7.size : Int) then (if 0 ≤ ((bt x0_7 x33_5) / 16) then (if ((bt x0_7 x33_5) / 16) < (x5_12.size : Int) then (if 0 ≤ (Go.bits .and .u8 (bt x0_7 x33_5) 15) then (if (Go.bits .and .u8 (bt x0_7 x33_5) 15) < (x5_12.size : Int) then ((some (([bt x5_12 ((bt x0_7 x33_5) / 16), bt x5_12 (Go.bits .and .u8 (bt x0_7 x33_5) 15)] : List Int) : List Int)).bind fun y133 => (if y112.length + y133.length < 140737488355328 then (quote_Hex.l0 kj22 x0_7 x5_12 x6_15 (y112 ++ y133) (x0_7.size : Int) (wrap64 (x33_5 + 1)) a1_0 a1_1 a1_2 a1_3 a1_4 a1_5 a1_6 a1_7) else (none))) else (none)) else (none)) else (none)) else (none)) else (none)) else (none)))) = some r := by first | (rw [hy112]; with_reducible exact H) | (have H2_ := (Option.bind_some _ _).symm.trans H; rw [hy112]; with_reducible exact H2_) | (have H2_ := (Option.bind_some _ _).symm.trans H; with_reducible exact H2_) | with_reducible exact H | (rw [hy112]; exact H) | exact H
                have Ny112 := Aside0.mk hy112
                clear hy112
                by_cases c29 : a1_3 = true
                ·
                 subst c29
                 have H1 : (if y112.length + x6_15.size < 140737488355328 then ((some (y112 ++ bytesOf x6_15 : List Int)).bind fun y115 => (if 0 ≤ x33_5 then (if x33_5 < (x0_7.size : Int) then (if 0 ≤ ((bt x0_7 x33_5) / 16) then (if ((bt x0_7 x33_5) / 16) < (x5_12.size : Int) then (if 0 ≤ (Go.bits .and .u8 (bt x0_7 x33_5) 15) then (if (Go.bits .and .u8 (bt x0_7 x33_5) 15) < (x5_12.size : Int) then ((some (([bt x5_12 ((bt x0_7 x33_5) / 16), bt x5_12 (Go.bits .and .u8 (bt x0_7 x33_5) 15)] : List Int) : List Int)).bind fun y118 => (if y115.length + y118.length < 140737488355328 then (quote_Hex.l0 kj22 x0_7 x5_12 x6_15 (y115 ++ y118) (x0_7.size : Int) (wrap64 (x33_5 + 1)) a1_0 a1_1 a1_2 true a1_4 a1_5 a1_6 a1_7) else (none))) else (none)) else (none)) else (none)) else (none)) else (none)) else (none))) else (none)) = some r := by rw [if_pos rfl] at H; exact H
                 clear H
                 have H := H1
                 clear H1
                 by_cases c30 : y112.length + x6_15.size < 140737488355328
                 ·
                  rw [if_pos c30] at H
                  have LMc30 := Aside0.mk c30
                  clear c30
                  obtain ⟨y115, hy115⟩ : ∃ y_ : List Int, y_ = (y112 ++ bytesOf x6_15) := ⟨_, rfl⟩
                  replace H : (if 0 ≤ x33_5 then (if x33_5 < (x0_7.size : Int) then (if 0 ≤ ((bt x0_7 x33_5) / 16) then (if ((bt x0_7 x33_5) / 16) < (x5_12.size : Int) then (if 0 ≤ (Go.bits .and .u8 (bt x0_7 x33_5) 15) then (if (Go.bits .and .u8 (bt x0_7 x33_5) 15) < (x5_12.size : Int) then ((some (([bt x5_12 ((bt x0_7 x33_5) / 16), bt x5_12 (Go.bits .and .u8 (bt x0_7 x33_5) 15)] : List Int) : List Int)).bind fun y118 => (if y115.length + y118.length < 140737488355328 then (quote_Hex.l0 kj22 x0_7 x5_12 x6_15 (y115 ++ y118) (x0_7.size : Int) (wrap64 (x33_5 + 1)) a1_0 a1_1 a1_2 true a1_4 a1_5 a1_6 a1_7) else (none))) else (none)) else (none)) else (none)) else (none)) else (none)) else (none)) = some r := by first | (rw [hy115]; with_reducible exact H) | (have H2_ := (Option.bind_some _ _).symm.trans H; rw [hy115]; with_reducible exact H2_) | (have H2_ := (Option.bind_some _ _).symm.trans H; with_reducible exact H2_) | with_reducible exact H | (rw [hy115]; exact H) | exact H
                  have Ny115 := Aside0.mk hy115
                  clear hy115
                  by_cases c31 : 0 ≤ x33_5
                  ·
                   rw [if_pos c31] at H
                   have c31b0 : decide (0 ≤ x33_5) = true := decide_eq_true c31
                   clear c31
                   by_cases c32 : x33_5 < (x0_7.size : Int)
                   ·
                    rw [if_pos c32] at H
                    have c32b0 : decide (x33_5 < (x0_7.size : Int)) = true := decide_eq_true c32
                    clear c32
                    obtain ⟨ji34, hji34⟩ : ∃ j_ : Int, ((bt x0_7 x33_5) / 16) = j_ := ⟨_, rfl⟩
                    replace H : (if 0 ≤ (ji34) then (if (ji34) < (x5_12.size : Int) then (if 0 ≤ (Go.bits .and .u8 (bt x0_7 x33_5) 15) then (if (Go.bits .and .u8 (bt x0_7 x33_5) 15) < (x5_12.size : Int) then ((some (([bt x5_12 (ji34), bt x5_12 (Go.bits .and .u8 (bt x0_7 x33_5) 15)] : List Int) : List Int)).bind fun y118 => (if y115.length + y118.length < 140737488355328 then (quote_Hex.l0 kj22 x0_7 x5_12 x6_15 (y115 ++ y118) (x0_7.size : Int) (wrap64 (x33_5 + 1)) a1_0 a1_1 a1_2 true a1_4 a1_5 a1_6 a1_7) else (none))) else (none)) else (none)) else (none)) else (none)) = some r := by first | (rw [hji34] at H; exact H) | (simp only [hji34] at H ⊢; exact H)
                    by_cases c35 : 0 ≤ (ji34)
                    ·
                     rw [if_pos c35] at H
                     have c35b0 : decide (0 ≤ (ji34)) = true := decide_eq_true c35
                     clear c35
                     by_cases c36 : (ji34) < (x5_12.size : Int)
                     ·
                      rw [if_pos c36] at H
                      have c36b0 : decide ((ji34) < (x5_12.size : Int)) = true := decide_eq_true c36
                      clear c36
                      by_cases c39 : 0 ≤ (Go.bits .and .u8 (bt x0_7 x33_5) 15)
                      ·
                       rw [if_pos c39] at H
                       have c39b0 : decide (0 ≤ (Go.bits .and .u8 (bt x0_7 x33_5) 15)) = true := decide_eq_true c39
                       clear c39
                       by_cases c40 : (Go.bits .and .u8 (bt x0_7 x33_5) 15) < (x5_12.size : Int)
                       ·
                        rw [if_pos c40] at H
                        have c40b0 : decide ((Go.bits .and .u8 (bt x0_7 x33_5) 15) < (x5_12.size : Int)) = true := decide_eq_true c40
                        clear c40
                        obtain ⟨y118, hy118⟩ : ∃ y_ : List Int, y_ = (([bt x5_12 (ji34), bt x5_12 (Go.bits .and .u8 (bt x0_7 x33_5) 15)] : List Int)) := ⟨_, rfl⟩
                        replace H : (if y115.length + y118.length < 140737488355328 then (quote_Hex.l0 kj22 x0_7 x5_12 x6_15 (y115 ++ y118) (x0_7.size : Int) (wrap64 (x33_5 + 1)) a1_0 a1_1 a1_2 true a1_4 a1_5 a1_6 a1_7) else (none)) = some r := by first | (rw [hy118]; with_reducible exact H) | (have H2_ := (Option.bind_some _ _).symm.trans H; rw [hy118]; with_reducible exact H2_) | (have H2_ := (Option.bind_some _ _).symm.trans H; with_reducible exact H2_) | with_reducible exact H | (rw [hy118]; exact H) | exact H
                        have Ny118 := Aside0.mk hy118
                        clear hy118
                        by_cases c42 : y115.length + y118.length < 140737488355328
                        ·
                         rw [if_pos c42] at H
                         have LMc42 := Aside0.mk c42
                         clear c42
                         obtain ⟨y121, hy121⟩ : ∃ y_ : List Int, y_ = (y115 ++ y118) := ⟨_, rfl⟩
                         replace H : (quote_Hex.l0 kj22 x0_7 x5_12 x6_15 y121 (x0_7.size : Int) (wrap64 (x33_5 + 1)) a1_0 a1_1 a1_2 true a1_4 a1_5 a1_6 a1_7) = some r := by first | (rw [hy121]; with_reducible exact H) | (have H2_ := (Option.bind_some _ _).symm.trans H; rw [hy121]; with_reducible exact H2_) | (have H2_ := (Option.bind_some _ _).symm.trans H; with_reducible exact H2_) | with_reducible exact H | (rw [hy121]; exact H) | exact H
                         have Ny121 := Aside0.mk hy121
                         clear hy121
                         have H' := Aside0.mk H
                         clear H
                         try go_wp2_with (first | ((with_reducible refine gate_builtin (b := .append) (xs := #[.tmp 42, .tmp 43]) rfl ?_); (try (refine gate_guard (by rfl) ?_; dsimp only)); at_builtin; refine Kd.R_append (Kd.int .u8) (w0 := w) w.heap.size rfl (.tmp 42) (.tmp 43) 44 5 (.int .u8 0) 1 rfl Tryd.underlying44 info5 rfl (by decide) (by omega) u7 x7_5 32 [.int .u8 32] (fun _ => True) (fun _ => False) rfl rfl ?aP (fun _ hk => hk.elim) ?aF ?aO ?aB ?aS ?aL ?_; (case aP => exact rfl); (case aB => exact (by repeat (first | (with_reducible first | exact HB.out | apply below_alloc | apply pw_below_drewN | apply below_drew1 | refine below_set ?_ GE110.out) | exact HB.out))); (case aF => exact (fun _ _ => trivial)); (case aO => exact (by (with_reducible repeat (first | apply Kd.R_alloc | apply Kd.R_drewN | apply Kd.R_drew)); exact HO_7.out)); (case aS => exact (below_size (by repeat (first | (with_reducible first | exact HB.out | apply below_alloc | apply pw_below_drewN | apply below_drew1 | refine below_set ?_ GE110.out) | exact HB.out)))); (case aL => have := LMc28.out; omega); intro v113 w43 ho hb hg hat; rw [← Ny112.out] at ho; have n0_ := Aside0.mk (blk_grown (g := gb110) (o := .cells #[.bool a1_0, .bool a1_1, .bool a1_2, .bool true, .bool a1_4, .int .i64 a1_5, .int .i64 a1_6, .int .i32 a1_7] 28 (0, 0)) (by (with_reducible repeat (first | refine blk_drewN ?_ _ | refine blk_drew ?_ | refine blk_alloc ?_ _)); exact BK110.out) hg (Kd.R_ne HO_7.out BK110.out (by decide))); have n1_ := Aside0.mk (hb); have n2_ := Aside0.mk (ho); clear BK110; clear HB; clear HO_7; have BK110 := n0_; have HB := n1_; have HO114 := n2_; clear n0_ n1_ n2_; clear ho hb hg hat; have hcz44_0 : w43.cell? ⟨gb110, 0, none⟩ = some (.bool a1_0) := (blk_cell BK110.out 0).trans rfl; have hcz44_1 : w43.cell? ⟨gb110, 1, none⟩ = some (.bool a1_1) := (blk_cell BK110.out 1).trans rfl; have hcz44_2 : w43.cell? ⟨gb110, 2, none⟩ = some (.bool a1_2) := (blk_cell BK110.out 2).trans rfl; have hcz44_3 : w43.cell? ⟨gb110, 3, none⟩ = some (.bool true) := (blk_cell BK110.out 3).trans rfl; have hcz44_4 : w43.cell? ⟨gb110, 4, none⟩ = some (.bool a1_4) := (blk_cell BK110.out 4).trans rfl; have hcz44_5 : w43.cell? ⟨gb110, 5, none⟩ = some (.int .i64 a1_5) := (blk_cell BK110.out 5).trans rfl; have hcz44_6 : w43.cell? ⟨gb110, 6, none⟩ = some (.int .i64 a1_6) := (blk_cell BK110.out 6).trans rfl; have hcz44_7 : w43.cell? ⟨gb110, 7, none⟩ = some (.int .i32 a1_7) := (blk_cell BK110.out 7).trans rfl; have hfz44_0 := blk_frozen BK110.out 0; have hfz44_1 := blk_frozen BK110.out 1; have hfz44_2 := blk_frozen BK110.out 2; have hfz44_3 := blk_frozen BK110.out 3; have hfz44_4 := blk_frozen BK110.out 4; have hfz44_5 := blk_frozen BK110.out 5; have hfz44_6 := blk_frozen BK110.out 6; have hfz44_7 := blk_frozen BK110.out 7) | (at_builtin; refine print_append_str (w0 := w) w.heap.size rfl (.tmp 51) _ 44 9 5 rfl Tryd.underlying44 Tryd.underlying9 info5 v113 y112 x6_15 rfl rfl ?aO ?aB ?aS ?aL ?_; (case aB => exact (by repeat (first | (with_reducible first | exact HB.out | apply below_alloc | apply pw_below_drewN | apply below_drew1 | refine below_set ?_ GE110.out) | exact HB.out))); (case aO => exact (Kd.own_of_R (by (with_reducible repeat (first | apply Kd.R_alloc | apply Kd.R_drewN | apply Kd.R_drew)); exact HO114.out))); (case aS => exact (below_size (by repeat (first | (with_reducible first | exact HB.out | apply below_alloc | apply pw_below_drewN | apply below_drew1 | refine below_set ?_ GE110.out) | exact HB.out)))); (case aL => have := LMc30.out; omega); intro v116 w45 ho0 hb hg; have ho := Kd.R_of_own (h1 := fun _ => rfl) (ok := fun _ => True) ho0 (fun _ _ => trivial); clear ho0; have hat := True.intro; rw [← Ny115.out] at ho; change Kd.R (Kd.int .u8) 5 w45 w.heap.size (fun _ => True) v116 y115 at ho; have n0_ := Aside0.mk (blk_grown (g := gb110) (o := .cells #[.bool a1_0, .bool a1_1, .bool a1_2, .bool true, .bool a1_4, .int .i64 a1_5, .int .i64 a1_6, .int .i32 a1_7] 28 (0, 0)) (by (with_reducible repeat (first | refine blk_drewN ?_ _ | refine blk_drew ?_ | refine blk_alloc ?_ _)); exact BK110.out) hg (Kd.R_ne HO114.out BK110.out (by decide))); have n1_ := Aside0.mk (hb); have n2_ := Aside0.mk (ho); clear BK110; clear HB; clear HO114; have BK110 := n0_; have HB := n1_; have HO117 := n2_; clear n0_ n1_ n2_; clear ho hb hg hat))
                         have n0_ := Aside0.mk (Kd.R_drew HO117.out)
                         have n1_ := Aside0.mk (blk_drew BK110.out)
                         have n2_ := Aside0.mk (below_drew1 HB.out)
                         clear HO117
                         clear BK110
                         clear HB
                         have HO117 := n0_
                         have BK110 := n1_
                         have HB := n2_
                         clear n0_ n1_ n2_
                         have p33 : 0 ≤ (x33_5 : Int) := of_decide_eq_true (by first | (with_reducible assumption) | assumption)
                         have q33 : x33_5 < (x0_7.size : Int) := of_decide_eq_true (by first | (with_reducible assumption) | assumption)
                         have hx33 := bt_at x0_7 x33_5
                         replace p33 := eq_true p33
                         replace q33 := eq_true q33
                         have p37 : 0 ≤ ((ji34) : Int) := of_decide_eq_true (by first | (with_reducible assumption) | assumption)
                         have q37 : (ji34) < (x5_12.size : Int) := of_decide_eq_true (by first | (with_reducible assumption) | assumption)
                         have hx37 := bt_at x5_12 (ji34)
                         replace p37 := eq_true p37
                         replace q37 := eq_true q37
                         have p38 : 0 ≤ (x33_5 : Int) := of_decide_eq_true (by first | (with_reducible assumption) | assumption)
                         have q38 : x33_5 < (x0_7.size : Int) := of_decide_eq_true (by first | (with_reducible assumption) | assumption)
                         have hx38 := bt_at x0_7 x33_5
                         replace p38 := eq_true p38
                         replace q38 := eq_true q38
                         have p41 : 0 ≤ ((Go.bits .and .u8 (bt x0_7 x33_5) 15) : Int) := of_decide_eq_true (by first | (with_reducible assumption) | assumption)
                         have q41 : (Go.bits .and .u8 (bt x0_7 x33_5) 15) < (x5_12.size : Int) := of_decide_eq_true (by first | (with_reducible assumption) | assumption)
                         have hx41 := bt_at x5_12 (Go.bits .and .u8 (bt x0_7 x33_5) 15)
                         replace p41 := eq_true p41
                         replace q41 := eq_true q41
                         refine start_ (n := 16) (S := fun w' => True) (ds := []) #[false, false, false, false, false, false, false, false, false, false, false, false, false, false, false, false] (by kernel_rfl) rfl rfl trivial (fun hHeld => ?_); refine with_tabW quote_Hex.tab18 quote_Hex.bits18 (fun HT_ HW_ => ?_)
                         generalize w45.drew = w46 at HO117 BK110 HB hHeld ⊢
                         refine pure_ (i := 0) (N := some 54) (v := ?_) (a' := ?_) #[true, false, false, false, false, false, false, false, false, false, false, false, false, false, false, false] rfl rfl (any_of HT_.out (by kernel_rfl)) (fun _ _ _ h => h) (Or.inl ⟨by rfl, ?_⟩) ?_ ?_
                         rotate_left
                         ·
                          intro w'
                          go_simp
                          with_reducible rfl
                         rotate_left
                         ·
                          simp only [Act.put, List.setIfInBounds_toArray, List.set_cons_zero, List.set_cons_succ, i64_w, i32_w]
                          rfl
                         refine pure_ (i := 1) (N := some 55) (v := ?_) (a' := ?_) #[true, true, false, false, false, false, false, false, false, false, false, false, false, false, false, false] rfl rfl (any_of HT_.out (by kernel_rfl)) (fun _ _ _ h => h) (Or.inl ⟨by rfl, ?_⟩) ?_ ?_
                         rotate_left
                         ·
                          intro w'
                          go_simp
                          with_reducible rfl
                         rotate_left
                         ·
                          simp only [Act.put, List.setIfInBounds_toArray, List.set_cons_zero, List.set_cons_succ, i64_w, i32_w]
                          rfl
                         refine pure_ (i := 2) (N := some 56) (v := ?_) (a' := ?_) #[true, true, true, false, false, false, false, false, false, false, false, false, false, false, false, false] rfl rfl (any_of HT_.out (by kernel_rfl)) (fun _ _ _ h => h) (Or.inl ⟨by rfl, ?_⟩) ?_ ?_
                         rotate_left
                         ·
                          intro w'
                          go_simp
                          with_reducible rfl
                         rotate_left
                         ·
                          simp only [Act.put, List.setIfInBounds_toArray, List.set_cons_zero, List.set_cons_succ, i64_w, i32_w]
                          rfl
                         refine pure_ (i := 3) (N := some 57) (v := ?_) (a' := ?_) #[true, true, true, true, false, false, false, false, false, false, false, false, false, false, false, false] rfl rfl (any_of HT_.out (by kernel_rfl)) (fun _ _ _ h => h) (Or.inl ⟨by rfl, ?_⟩) ?_ ?_
                         rotate_left
                         ·
                          intro w'
                          go_simp
                          with_reducible rfl
                         rotate_left
                         ·
                          simp only [Act.put, List.setIfInBounds_toArray, List.set_cons_zero, List.set_cons_succ, i64_w, i32_w]
                          rfl
                         refine pure_ (i := 7) (N := some 61) (v := ?_) (a' := ?_) #[true, true, true, true, false, false, false, true, false, false, false, false, false, false, false, false] rfl rfl (any_of HT_.out (by kernel_rfl)) (fun _ _ _ h => h) (Or.inl ⟨by rfl, ?_⟩) ?_ ?_
                         rotate_left
                         ·
                          intro w'
                          go_simp
                          with_reducible rfl
                         rotate_left
                         ·
                          simp only [Act.put, List.setIfInBounds_toArray, List.set_cons_zero, List.set_cons_succ, i64_w, i32_w]
                          rfl
                         refine pure_ (i := 8) (N := some 62) (v := ?_) (a' := ?_) #[true, true, true, true, false, false, false, true, true, false, false, false, false, false, false, false] rfl rfl (any_of HT_.out (by kernel_rfl)) (fun _ _ _ h => h) (Or.inl ⟨by rfl, ?_⟩) ?_ ?_
                         rotate_left
                         ·
                          intro w'
                          go_simp
                          with_reducible rfl
                         rotate_left
                         ·
                          simp only [Act.put, List.setIfInBounds_toArray, List.set_cons_zero, List.set_cons_succ, i64_w, i32_w]
                          rfl
                         refine pure_ (i := 9) (N := some 63) (v := ?_) (a' := ?_) #[true, true, true, true, false, false, false, true, true, true, false, false, false, false, false, false] rfl rfl (any_of HT_.out (by kernel_rfl)) (fun _ _ _ h => h) (Or.inl ⟨by rfl, ?_⟩) ?_ ?_
                         rotate_left
                         ·
                          intro w'
                          go_simp
                          with_reducible rfl
                         rotate_left
                         ·
                          simp only [Act.put, List.setIfInBounds_toArray, List.set_cons_zero, List.set_cons_succ, i64_w, i32_w]
                          rfl
                         refine take_ (i := 4) (N := some 58) (v := ?_) (a' := ?_) #[true, true, true, true, true, false, false, true, true, true, false, false, false, false, false, false] rfl rfl (take_ofW HT_.out HW_.out (by kernel_rfl)) (fun _ _ _ h => h) (Or.inl ⟨by rfl, ?_⟩) hHeld ?_ ?_
                         rotate_left
                         ·
                          intro w' _
                          go_simp
                          with_reducible rfl
                         rotate_left
                         ·
                          simp only [Act.put, List.setIfInBounds_toArray, List.set_cons_zero, List.set_cons_succ, i64_w, i32_w]
                          rfl
                         refine pure_ (i := 5) (N := some 59) (v := ?_) (a' := ?_) #[true, true, true, true, true, true, false, true, true, true, false, false, false, false, false, false] rfl rfl (any_of HT_.out (by kernel_rfl)) (fun _ _ _ h => h) (Or.inl ⟨by rfl, ?_⟩) ?_ ?_
                         rotate_left
                         ·
                          intro w'
                          go_simp
                          with_reducible rfl
                         rotate_left
                         ·
                          simp only [Act.put, List.setIfInBounds_toArray, List.set_cons_zero, List.set_cons_succ, i64_w, i32_w]
                          rfl
                         refine take_ (i := 6) (N := some 60) (v := ?_) (a' := ?_) #[true, true, true, true, true, true, true, true, true, true, false, false, false, false, false, false] rfl rfl (take_ofW HT_.out HW_.out (by kernel_rfl)) (fun _ _ _ h => h) (Or.inl ⟨by rfl, ?_⟩) hHeld ?_ ?_
                         rotate_left
                         ·
                          intro w' _
                          go_simp
                          with_reducible rfl
                         rotate_left
                         ·
                          simp only [Act.put, List.setIfInBounds_toArray, List.set_cons_zero, List.set_cons_succ, i64_w, i32_w]
                          rfl
                         refine take_ (i := 10) (N := some 64) (v := ?_) (a' := ?_) #[true, true, true, true, true, true, true, true, true, true, true, false, false, false, false, false] rfl rfl (take_ofW HT_.out HW_.out (by kernel_rfl)) (fun _ _ _ h => h) (Or.inl ⟨by rfl, ?_⟩) hHeld ?_ ?_
                         rotate_left
                         ·
                          intro w' _
                          go_simp
                          with_reducible rfl
                         rotate_left
                         ·
                          simp only [Act.put, List.setIfInBounds_toArray, List.set_cons_zero, List.set_cons_succ, i64_w, i32_w]
                          rfl
                         refine pure_ (i := 11) (N := some 65) (v := ?_) (a' := ?_) #[true, true, true, true, true, true, true, true, true, true, true, true, false, false, false, false] rfl rfl (any_of HT_.out (by kernel_rfl)) (fun _ _ _ h => h) (Or.inl ⟨by rfl, ?_⟩) ?_ ?_
                         rotate_left
                         ·
                          intro w'
                          go_simp
                          with_reducible rfl
                         rotate_left
                         ·
                          simp only [Act.put, List.setIfInBounds_toArray, List.set_cons_zero, List.set_cons_succ, i64_w, i32_w]
                          rfl
                         refine take_ (i := 12) (N := some 66) (v := ?_) (a' := ?_) #[true, true, true, true, true, true, true, true, true, true, true, true, true, false, false, false] rfl rfl (take_ofW HT_.out HW_.out (by kernel_rfl)) (fun _ _ _ h => h) (Or.inl ⟨by rfl, ?_⟩) hHeld ?_ ?_
                         rotate_left
                         ·
                          intro w' _
                          go_simp
                          with_reducible rfl
                         rotate_left
                         ·
                          simp only [Act.put, List.setIfInBounds_toArray, List.set_cons_zero, List.set_cons_succ, i64_w, i32_w]
                          rfl
                         refine one_ (i := 13) (N := some 67) #[true, true, true, true, true, true, true, true, true, true, true, true, true, true, false, false] rfl rfl (one_of HT_.out (by kernel_rfl)) (by decide) (fun K hK => ?_)
                         refine Kd.R_lit_step (Kd.int .u8) _ 5 ?hg (N := 67) ?hd (xs := ([bt x5_12 (ji34), bt x5_12 (Go.bits .and .u8 (bt x0_7 x33_5) 15)] : List Int)) (inner := [.int .u8 (bt x5_12 (ji34)), .int .u8 (bt x5_12 (Go.bits .and .u8 (bt x0_7 x33_5) 15))]) (ok := fun _ => True) (okp := fun _ => True) ?hr ?hp (fun _ hk => hk) trivial (Below.refl _ _) (Nat.le_refl _) (by simp) ?_; (case hd => rfl); (case hg => rfl); (case hr => first | (go_simp; done) | (go_simp; rfl)); (case hp => exact (Reps.one (show Kd.M (Kd.int .u8) _ _ _ (bt x5_12 (ji34)) [.int .u8 (bt x5_12 (ji34))] from rfl) (Reps.one (show Kd.M (Kd.int .u8) _ _ _ (bt x5_12 (Go.bits .and .u8 (bt x0_7 x33_5) 15)) [.int .u8 (bt x5_12 (Go.bits .and .u8 (bt x0_7 x33_5) 15))] from rfl) (Reps.none _ _))))
                         intro v119 w47 ho48 hb hg_ hnew_
                         clear hg_ hnew_
                         (first | rw [← Ny118.out] at ho48 | (simp only [Int.reduceToNat] at ho48; rw [← Ny118.out] at ho48))
                         have n0_ := Aside0.mk (Kd.R_elder' (by (with_reducible repeat (first | apply Kd.R_alloc | apply Kd.R_drewN | apply Kd.R_drew)); exact HO117.out) (Kd.R_base ho48) hb)
                         have n1_ := Aside0.mk (Kd.R_lower (Kd.R_new' ho48 (Kd.R_lt (by (with_reducible repeat (first | apply Kd.R_alloc | apply Kd.R_drewN | apply Kd.R_drew)); exact HO117.out))) (below_size (by repeat (first | (with_reducible first | exact HB.out | apply below_alloc | apply pw_below_drewN | apply below_drew1 | refine below_set ?_ GE110.out) | exact HB.out))))
                         have n2_ := Aside0.mk (blk_below (g := gb110) (o := .cells #[.bool a1_0, .bool a1_1, .bool a1_2, .bool true, .bool a1_4, .int .i64 a1_5, .int .i64 a1_6, .int .i32 a1_7] 28 (0, 0)) (by (with_reducible repeat (first | refine blk_drewN ?_ _ | refine blk_drew ?_ | refine blk_alloc ?_ _)); exact BK110.out) hb)
                         have n3_ := Aside0.mk (below_step (by repeat (first | (with_reducible first | exact HB.out | apply below_alloc | apply pw_below_drewN | apply below_drew1 | refine below_set ?_ GE110.out) | exact HB.out)) hb)
                         clear HO117
                         clear BK110
                         clear HB
                         have HO117 := n0_
                         have HO120 := n1_
                         have BK110 := n2_
                         have HB := n3_
                         clear n0_ n1_ n2_ n3_
                         clear hb ho48
                         obtain ⟨Ao50, co50, eo50⟩ := Kd.R_slice HO120.out
                         (first | subst eo50 | (injection eo50 with f1_ f2_ f3_; have f4_ := f1_.symm; have f5_ := f3_.symm; clear f1_ f2_ f3_; subst f4_; subst f5_))
                         refine hK.out _ _ trivial (fun hHeld => ?_)
                         clear hK K
                         refine norm_ (a' := ?_) ?_ ?_
                         rotate_left
                         ·
                          show Act.put _ (some 67) _ = _
                          simp only [Act.put, List.setIfInBounds_toArray, List.set_cons_zero, List.set_cons_succ, i64_w, i32_w]
                          rfl
                         refine one_ (i := 14) (N := some 68) #[true, true, true, true, true, true, true, true, true, true, true, true, true, true, true, false] rfl rfl (one_of HT_.out (by kernel_rfl)) (by decide) (fun K hK => ?_)
                         refine Kd.R_append_rows_step (Kd.int .u8) (w0 := w) w.heap.size (by rfl) (.tmp 54) (.tmp 67) 44 5 (.int .u8 0) 1 rfl Tryd.underlying44 info5 rfl (by decide) (by omega) v116 y115 y118 _ _ _ (fun k_ => some k_ ≠ (.slice Ao50 y118.length co50 : Value).ownBlock) (fun _ => False) rfl rfl ?aO ?aR (fun _ _ h => h) (fun _ h => h.elim) ?aF ?aB ?aS ?aL ?_
                         (case aR => repeat (first | exact (Kd.R_reads' HO120.out).2.2 | (with_reducible refine Kd.C_alloc ?_ _) | (with_reducible refine Kd.C_drewN ?_ _) | (with_reducible refine Kd.C_drew ?_)))
                         (case aB => exact (by repeat (first | (with_reducible first | exact HB.out | apply below_alloc | apply pw_below_drewN | apply below_drew1 | refine below_set ?_ GE110.out) | exact HB.out)))
                         (case aF => exact (fun k_ hk => Kd.fresh' (Kd.R_lt (by (with_reducible repeat (first | apply Kd.R_alloc | apply Kd.R_drewN | apply Kd.R_drew)); exact HO120.out)) k_ hk))
                         (case aO => exact (by (with_reducible repeat (first | apply Kd.R_alloc | apply Kd.R_drewN | apply Kd.R_drew)); exact Kd.R_mono HO117.out (fun _ hk => hk.2)))
                         (case aS => exact (below_size (by repeat (first | (with_reducible first | exact HB.out | apply below_alloc | apply pw_below_drewN | apply below_drew1 | refine below_set ?_ GE110.out) | exact HB.out))))
                         (case aL => have := LMc42.out; omega)
                         intro v122 w49 ho hb hg hat
                         rw [← Ny121.out] at ho
                         have n0_ := Aside0.mk (blk_grown (g := gb110) (o := .cells #[.bool a1_0, .bool a1_1, .bool a1_2, .bool true, .bool a1_4, .int .i64 a1_5, .int .i64 a1_6, .int .i32 a1_7] 28 (0, 0)) (by (with_reducible repeat (first | refine blk_drewN ?_ _ | refine blk_drew ?_ | refine blk_alloc ?_ _)); exact BK110.out) hg (Kd.R_ne HO117.out BK110.out (by decide)))
                         have n1_ := Aside0.mk (Kd.R_after (ok := (fun _ => True)) (by (with_reducible repeat (first | apply Kd.R_alloc | apply Kd.R_drewN | apply Kd.R_drew)); exact HO120.out) hg hat)
                         have n2_ := Aside0.mk (hb)
                         have n3_ := Aside0.mk (ho)
                         clear BK110
                         clear HO120
                         clear HB
                         clear HO117
                         have BK110 := n0_
                         have HO120 := n1_
                         have HB := n2_
                         have HO123 := n3_
                         clear n0_ n1_ n2_ n3_
                         clear ho hb hg hat
                         refine hK.out _ _ trivial (fun hHeld => ?_)
                         clear hK K
                         refine norm_ (a' := ?_) ?_ ?_
                         rotate_left
                         ·
                          show Act.put _ (some 68) _ = _
                          simp only [Act.put, List.setIfInBounds_toArray, List.set_cons_zero, List.set_cons_succ, i64_w, i32_w]
                          rfl
                         refine pure_ (i := 15) (N := some 7) (v := ?_) (a' := ?_) #[true, true, true, true, true, true, true, true, true, true, true, true, true, true, true, true] rfl rfl (any_of HT_.out (by kernel_rfl)) (fun _ _ _ h => h) (Or.inl ⟨by rfl, ?_⟩) ?_ ?_
                         rotate_left
                         ·
                          intro w'
                          go_simp
                          with_reducible rfl
                         rotate_left
                         ·
                          simp only [Act.put, List.setIfInBounds_toArray, List.set_cons_zero, List.set_cons_succ, i64_w, i32_w]
                          rfl
                         refine done_ (done_of HT_.out (by kernel_rfl)) ?_
                         try go_wp2
                         go_roundg kj22
                         case measure => have := HJ2.out; have := HJ7.out; have := HJ12.out; have := HJ15.out; have := HK5.out; have := HJ22.out; omega
                         case rel => exact ⟨(y121), (wrap64 (x33_5 + 1)), (by first | rfl | (simp; done) | (simp [*]; done)), H', ⟨by have := HJ2.out; have := HJ7.out; have := HJ12.out; have := HJ15.out; have := HK5.out; have := HJ22.out; omega⟩, ⟨by (with_reducible repeat (first | apply Kd.R_alloc | apply Kd.R_drewN | apply Kd.R_drew)); exact Kd.R_mono HO123.out (fun _ hk => trivial)⟩, ⟨by (with_reducible repeat (first | refine blk_drewN ?_ _ | refine blk_drew ?_ | refine blk_alloc ?_ _)); exact BK110.out⟩, ⟨by repeat (first | (with_reducible first | exact HB.out | apply below_alloc | apply pw_below_drewN | apply below_drew1 | refine below_set ?_ GE110.out) | exact HB.out)⟩⟩
                        ·
                         rw [if_neg c42] at H
                         exact absurd H (by simp)
                       ·
                        rw [if_neg c40] at H
                        exact absurd H (by simp)
                      ·
                       rw [if_neg c39] at H
                       exact absurd H (by simp)
                     ·
                      rw [if_neg c36] at H
                      exact absurd H (by simp)
                    ·
                     rw [if_neg c35] at H
                     exact absurd H (by simp)
                   ·
                    rw [if_neg c32] at H
                    exact absurd H (by simp)
                  ·
                   rw [if_neg c31] at H
                   exact absurd H (by simp)
                 ·
                  rw [if_neg c30] at H
                  exact absurd H (by simp)
                ·
                 replace c29 := Bool.eq_false_iff.mpr c29
                 subst c29
                 have H1 : (if x33_5 = 0 then (if y112.length + x6_15.size < 140737488355328 then ((some (y112 ++ bytesOf x6_15 : List Int)).bind fun y124 => (if 0 ≤ x33_5 then (if x33_5 < (x0_7.size : Int) then (if 0 ≤ ((bt x0_7 x33_5) / 16) then (if ((bt x0_7 x33_5) / 16) < (x5_12.size : Int) then (if 0 ≤ (Go.bits .and .u8 (bt x0_7 x33_5) 15) then (if (Go.bits .and .u8 (bt x0_7 x33_5) 15) < (x5_12.size : Int) then ((some (([bt x5_12 ((bt x0_7 x33_5) / 16), bt x5_12 (Go.bits .and .u8 (bt x0_7 x33_5) 15)] : List Int) : List Int)).bind fun y127 => (if y124.length + y127.length < 140737488355328 then (quote_Hex.l0 kj22 x0_7 x5_12 x6_15 (y124 ++ y127) (x0_7.size : Int) (wrap64 (x33_5 + 1)) a1_0 a1_1 a1_2 false a1_4 a1_5 a1_6 a1_7) else (none))) else (none)) else (none)) else (none)) else (none)) else (none)) else (none))) else (none)) else (if 0 ≤ x33_5 then (if x33_5 < (x0_7.size : Int) then (if 0 ≤ ((bt x0_7 x33_5) / 16) then (if ((bt x0_7 x33_5) / 16) < (x5_12.size : Int) then (if 0 ≤ (Go.bits .and .u8 (bt x0_7 x33_5) 15) then (if (Go.bits .and .u8 (bt x0_7 x33_5) 15) < (x5_12.size : Int) then ((some (([bt x5_12 ((bt x0_7 x33_5) / 16), bt x5_12 (Go.bits .and .u8 (bt x0_7 x33_5) 15)] : List Int) : List Int)).bind fun y133 => (if y112.length + y133.length < 140737488355328 then (quote_Hex.l0 kj22 x0_7 x5_12 x6_15 (y112 ++ y133) (x0_7.size : Int) (wrap64 (x33_5 + 1)) a1_0 a1_1 a1_2 false a1_4 a1_5 a1_6 a1_7) else (none))) else (none)) else (none)) else (none)) else (none)) else (none)) else (none))) = some r := by rw [if_neg (show ¬ (false = true) by decide)] at H; exact H
                 clear H
                 have H := H1
                 clear H1
                 by_cases c51 : x33_5 = 0
                 ·
                  rw [if_pos c51] at H
                  have c51b0 : (x33_5 == 0) = true := beq_iff_eq.mpr c51
                  have c51b1 : (x33_5 != 0) = false := bne_eq_false_iff_eq.mpr c51
                  clear c51
                  by_cases c52 : y112.length + x6_15.size < 140737488355328
                  ·
                   rw [if_pos c52] at H
                   have LMc52 := Aside0.mk c52
                   clear c52
                   obtain ⟨y124, hy124⟩ : ∃ y_ : List Int, y_ = (y112 ++ bytesOf x6_15) := ⟨_, rfl⟩
                   replace H : (if 0 ≤ x33_5 then (if x33_5 < (x0_7.size : Int) then (if 0 ≤ ((bt x0_7 x33_5) / 16) then (if ((bt x0_7 x33_5) / 16) < (x5_12.size : Int) then (if 0 ≤ (Go.bits .and .u8 (bt x0_7 x33_5) 15) then (if (Go.bits .and .u8 (bt x0_7 x33_5) 15) < (x5_12.size : Int) then ((some (([bt x5_12 ((bt x0_7 x33_5) / 16), bt x5_12 (Go.bits .and .u8 (bt x0_7 x33_5) 15)] : List Int) : List Int)).bind fun y127 => (if y124.length + y127.length < 140737488355328 then (quote_Hex.l0 kj22 x0_7 x5_12 x6_15 (y124 ++ y127) (x0_7.size : Int) (wrap64 (x33_5 + 1)) a1_0 a1_1 a1_2 false a1_4 a1_5 a1_6 a1_7) else (none))) else (none)) else (none)) else (none)) else (none)) else (none)) else (none)) = some r := by first | (rw [hy124]; with_reducible exact H) | (have H2_ := (Option.bind_some _ _).symm.trans H; rw [hy124]; with_reducible exact H2_) | (have H2_ := (Option.bind_some _ _).symm.trans H; with_reducible exact H2_) | with_reducible exact H | (rw [hy124]; exact H) | exact H
                   have Ny124 := Aside0.mk hy124
                   clear hy124
                   by_cases c53 : 0 ≤ x33_5
                   ·
                    rw [if_pos c53] at H
                    have c53b0 : decide (0 ≤ x33_5) = true := decide_eq_true c53
                    clear c53
                    by_cases c54 : x33_5 < (x0_7.size : Int)
                    ·
                     rw [if_pos c54] at H
                     have c54b0 : decide (x33_5 < (x0_7.size : Int)) = true := decide_eq_true c54
                     clear c54
                     obtain ⟨ji56, hji56⟩ : ∃ j_ : Int, ((bt x0_7 x33_5) / 16) = j_ := ⟨_, rfl⟩
                     replace H : (if 0 ≤ (ji56) then (if (ji56) < (x5_12.size : Int) then (if 0 ≤ (Go.bits .and .u8 (bt x0_7 x33_5) 15) then (if (Go.bits .and .u8 (bt x0_7 x33_5) 15) < (x5_12.size : Int) then ((some (([bt x5_12 (ji56), bt x5_12 (Go.bits .and .u8 (bt x0_7 x33_5) 15)] : List Int) : List Int)).bind fun y127 => (if y124.length + y127.length < 140737488355328 then (quote_Hex.l0 kj22 x0_7 x5_12 x6_15 (y124 ++ y127) (x0_7.size : Int) (wrap64 (x33_5 + 1)) a1_0 a1_1 a1_2 false a1_4 a1_5 a1_6 a1_7) else (none))) else (none)) else (none)) else (none)) else (none)) = some r := by first | (rw [hji56] at H; exact H) | (simp only [hji56] at H ⊢; exact H)
                     by_cases c57 : 0 ≤ (ji56)
                     ·
                      rw [if_pos c57] at H
                      have c57b0 : decide (0 ≤ (ji56)) = true := decide_eq_true c57
                      clear c57
                      by_cases c58 : (ji56) < (x5_12.size : Int)
                      ·
                       rw [if_pos c58] at H
                       have c58b0 : decide ((ji56) < (x5_12.size : Int)) = true := decide_eq_true c58
                       clear c58
                       by_cases c61 : 0 ≤ (Go.bits .and .u8 (bt x0_7 x33_5) 15)
                       ·
                        rw [if_pos c61] at H
                        have c61b0 : decide (0 ≤ (Go.bits .and .u8 (bt x0_7 x33_5) 15)) = true := decide_eq_true c61
                        clear c61
                        by_cases c62 : (Go.bits .and .u8 (bt x0_7 x33_5) 15) < (x5_12.size : Int)
                        ·
                         rw [if_pos c62] at H
                         have c62b0 : decide ((Go.bits .and .u8 (bt x0_7 x33_5) 15) < (x5_12.size : Int)) = true := decide_eq_true c62
                         clear c62
                         obtain ⟨y127, hy127⟩ : ∃ y_ : List Int, y_ = (([bt x5_12 (ji56), bt x5_12 (Go.bits .and .u8 (bt x0_7 x33_5) 15)] : List Int)) := ⟨_, rfl⟩
                         replace H : (if y124.length + y127.length < 140737488355328 then (quote_Hex.l0 kj22 x0_7 x5_12 x6_15 (y124 ++ y127) (x0_7.size : Int) (wrap64 (x33_5 + 1)) a1_0 a1_1 a1_2 false a1_4 a1_5 a1_6 a1_7) else (none)) = some r := by first | (rw [hy127]; with_reducible exact H) | (have H2_ := (Option.bind_some _ _).symm.trans H; rw [hy127]; with_reducible exact H2_) | (have H2_ := (Option.bind_some _ _).symm.trans H; with_reducible exact H2_) | with_reducible exact H | (rw [hy127]; exact H) | exact H
                         have Ny127 := Aside0.mk hy127
                         clear hy127
                         by_cases c64 : y124.length + y127.length < 140737488355328
                         ·
                          rw [if_pos c64] at H
                          have LMc64 := Aside0.mk c64
                          clear c64
                          obtain ⟨y130, hy130⟩ : ∃ y_ : List Int, y_ = (y124 ++ y127) := ⟨_, rfl⟩
                          replace H : (quote_Hex.l0 kj22 x0_7 x5_12 x6_15 y130 (x0_7.size : Int) (wrap64 (x33_5 + 1)) a1_0 a1_1 a1_2 false a1_4 a1_5 a1_6 a1_7) = some r := by first | (rw [hy130]; with_reducible exact H) | (have H2_ := (Option.bind_some _ _).symm.trans H; rw [hy130]; with_reducible exact H2_) | (have H2_ := (Option.bind_some _ _).symm.trans H; with_reducible exact H2_) | with_reducible exact H | (rw [hy130]; exact H) | exact H
                          have Ny130 := Aside0.mk hy130
                          clear hy130
                          have H' := Aside0.mk H
                          clear H
                          try go_wp2_with (first | ((with_reducible refine gate_builtin (b := .append) (xs := #[.tmp 42, .tmp 43]) rfl ?_); (try (refine gate_guard (by rfl) ?_; dsimp only)); at_builtin; refine Kd.R_append (Kd.int .u8) (w0 := w) w.heap.size rfl (.tmp 42) (.tmp 43) 44 5 (.int .u8 0) 1 rfl Tryd.underlying44 info5 rfl (by decide) (by omega) u7 x7_5 32 [.int .u8 32] (fun _ => True) (fun _ => False) rfl rfl ?aP (fun _ hk => hk.elim) ?aF ?aO ?aB ?aS ?aL ?_; (case aP => exact rfl); (case aB => exact (by repeat (first | (with_reducible first | exact HB.out | apply below_alloc | apply pw_below_drewN | apply below_drew1 | refine below_set ?_ GE110.out) | exact HB.out))); (case aF => exact (fun _ _ => trivial)); (case aO => exact (by (with_reducible repeat (first | apply Kd.R_alloc | apply Kd.R_drewN | apply Kd.R_drew)); exact HO_7.out)); (case aS => exact (below_size (by repeat (first | (with_reducible first | exact HB.out | apply below_alloc | apply pw_below_drewN | apply below_drew1 | refine below_set ?_ GE110.out) | exact HB.out)))); (case aL => have := LMc28.out; omega); intro v113 w65 ho hb hg hat; rw [← Ny112.out] at ho; have n0_ := Aside0.mk (blk_grown (g := gb110) (o := .cells #[.bool a1_0, .bool a1_1, .bool a1_2, .bool false, .bool a1_4, .int .i64 a1_5, .int .i64 a1_6, .int .i32 a1_7] 28 (0, 0)) (by (with_reducible repeat (first | refine blk_drewN ?_ _ | refine blk_drew ?_ | refine blk_alloc ?_ _)); exact BK110.out) hg (Kd.R_ne HO_7.out BK110.out (by decide))); have n1_ := Aside0.mk (hb); have n2_ := Aside0.mk (ho); clear BK110; clear HB; clear HO_7; have BK110 := n0_; have HB := n1_; have HO114 := n2_; clear n0_ n1_ n2_; clear ho hb hg hat; have hcz66_0 : w65.cell? ⟨gb110, 0, none⟩ = some (.bool a1_0) := (blk_cell BK110.out 0).trans rfl; have hcz66_1 : w65.cell? ⟨gb110, 1, none⟩ = some (.bool a1_1) := (blk_cell BK110.out 1).trans rfl; have hcz66_2 : w65.cell? ⟨gb110, 2, none⟩ = some (.bool a1_2) := (blk_cell BK110.out 2).trans rfl; have hcz66_3 : w65.cell? ⟨gb110, 3, none⟩ = some (.bool false) := (blk_cell BK110.out 3).trans rfl; have hcz66_4 : w65.cell? ⟨gb110, 4, none⟩ = some (.bool a1_4) := (blk_cell BK110.out 4).trans rfl; have hcz66_5 : w65.cell? ⟨gb110, 5, none⟩ = some (.int .i64 a1_5) := (blk_cell BK110.out 5).trans rfl; have hcz66_6 : w65.cell? ⟨gb110, 6, none⟩ = some (.int .i64 a1_6) := (blk_cell BK110.out 6).trans rfl; have hcz66_7 : w65.cell? ⟨gb110, 7, none⟩ = some (.int .i32 a1_7) := (blk_cell BK110.out 7).trans rfl; have hfz66_0 := blk_frozen BK110.out 0; have hfz66_1 := blk_frozen BK110.out 1; have hfz66_2 := blk_frozen BK110.out 2; have hfz66_3 := blk_frozen BK110.out 3; have hfz66_4 := blk_frozen BK110.out 4; have hfz66_5 := blk_frozen BK110.out 5; have hfz66_6 := blk_frozen BK110.out 6; have hfz66_7 := blk_frozen BK110.out 7) | (at_builtin; refine print_append_str (w0 := w) w.heap.size rfl (.tmp 51) _ 44 9 5 rfl Tryd.underlying44 Tryd.underlying9 info5 v113 y112 x6_15 rfl rfl ?aO ?aB ?aS ?aL ?_; (case aB => exact (by repeat (first | (with_reducible first | exact HB.out | apply below_alloc | apply pw_below_drewN | apply below_drew1 | refine below_set ?_ GE110.out) | exact HB.out))); (case aO => exact (Kd.own_of_R (by (with_reducible repeat (first | apply Kd.R_alloc | apply Kd.R_drewN | apply Kd.R_drew)); exact HO114.out))); (case aS => exact (below_size (by repeat (first | (with_reducible first | exact HB.out | apply below_alloc | apply pw_below_drewN | apply below_drew1 | refine below_set ?_ GE110.out) | exact HB.out)))); (case aL => have := LMc52.out; omega); intro v125 w67 ho0 hb hg; have ho := Kd.R_of_own (h1 := fun _ => rfl) (ok := fun _ => True) ho0 (fun _ _ => trivial); clear ho0; have hat := True.intro; rw [← Ny124.out] at ho; change Kd.R (Kd.int .u8) 5 w67 w.heap.size (fun _ => True) v125 y124 at ho; have n0_ := Aside0.mk (blk_grown (g := gb110) (o := .cells #[.bool a1_0, .bool a1_1, .bool a1_2, .bool false, .bool a1_4, .int .i64 a1_5, .int .i64 a1_6, .int .i32 a1_7] 28 (0, 0)) (by (with_reducible repeat (first | refine blk_drewN ?_ _ | refine blk_drew ?_ | refine blk_alloc ?_ _)); exact BK110.out) hg (Kd.R_ne HO114.out BK110.out (by decide))); have n1_ := Aside0.mk (hb); have n2_ := Aside0.mk (ho); clear BK110; clear HB; clear HO114; have BK110 := n0_; have HB := n1_; have HO126 := n2_; clear n0_ n1_ n2_; clear ho hb hg hat))
                          have n0_ := Aside0.mk (Kd.R_drew HO126.out)
                          have n1_ := Aside0.mk (blk_drew BK110.out)
                          have n2_ := Aside0.mk (below_drew1 HB.out)
                          clear HO126
                          clear BK110
                          clear HB
                          have HO126 := n0_
                          have BK110 := n1_
                          have HB := n2_
                          clear n0_ n1_ n2_
                          have p55 : 0 ≤ (x33_5 : Int) := of_decide_eq_true (by first | (with_reducible assumption) | assumption)
                          have q55 : x33_5 < (x0_7.size : Int) := of_decide_eq_true (by first | (with_reducible assumption) | assumption)
                          have hx55 := bt_at x0_7 x33_5
                          replace p55 := eq_true p55
                          replace q55 := eq_true q55
                          have p59 : 0 ≤ ((ji56) : Int) := of_decide_eq_true (by first | (with_reducible assumption) | assumption)
                          have q59 : (ji56) < (x5_12.size : Int) := of_decide_eq_true (by first | (with_reducible assumption) | assumption)
                          have hx59 := bt_at x5_12 (ji56)
                          replace p59 := eq_true p59
                          replace q59 := eq_true q59
                          have p60 : 0 ≤ (x33_5 : Int) := of_decide_eq_true (by first | (with_reducible assumption) | assumption)
                          have q60 : x33_5 < (x0_7.size : Int) := of_decide_eq_true (by first | (with_reducible assumption) | assumption)
                          have hx60 := bt_at x0_7 x33_5
                          replace p60 := eq_true p60
                          replace q60 := eq_true q60
                          have p63 : 0 ≤ ((Go.bits .and .u8 (bt x0_7 x33_5) 15) : Int) := of_decide_eq_true (by first | (with_reducible assumption) | assumption)
                          have q63 : (Go.bits .and .u8 (bt x0_7 x33_5) 15) < (x5_12.size : Int) := of_decide_eq_true (by first | (with_reducible assumption) | assumption)
                          have hx63 := bt_at x5_12 (Go.bits .and .u8 (bt x0_7 x33_5) 15)
                          replace p63 := eq_true p63
                          replace q63 := eq_true q63
                          refine start_ (n := 16) (S := fun w' => True) (ds := []) #[false, false, false, false, false, false, false, false, false, false, false, false, false, false, false, false] (by kernel_rfl) rfl rfl trivial (fun hHeld => ?_); refine with_tabW quote_Hex.tab18 quote_Hex.bits18 (fun HT_ HW_ => ?_)
                          generalize w67.drew = w68 at HO126 BK110 HB hHeld ⊢
                          refine pure_ (i := 0) (N := some 54) (v := ?_) (a' := ?_) #[true, false, false, false, false, false, false, false, false, false, false, false, false, false, false, false] rfl rfl (any_of HT_.out (by kernel_rfl)) (fun _ _ _ h => h) (Or.inl ⟨by rfl, ?_⟩) ?_ ?_
                          rotate_left
                          ·
                           intro w'
                           go_simp
                           with_reducible rfl
                          rotate_left
                          ·
                           simp only [Act.put, List.setIfInBounds_toArray, List.set_cons_zero, List.set_cons_succ, i64_w, i32_w]
                           rfl
                          refine pure_ (i := 1) (N := some 55) (v := ?_) (a' := ?_) #[true, true, false, false, false, false, false, false, false, false, false, false, false, false, false, false] rfl rfl (any_of HT_.out (by kernel_rfl)) (fun _ _ _ h => h) (Or.inl ⟨by rfl, ?_⟩) ?_ ?_
                          rotate_left
                          ·
                           intro w'
                           go_simp
                           with_reducible rfl
                          rotate_left
                          ·
                           simp only [Act.put, List.setIfInBounds_toArray, List.set_cons_zero, List.set_cons_succ, i64_w, i32_w]
                           rfl
                          refine pure_ (i := 2) (N := some 56) (v := ?_) (a' := ?_) #[true, true, true, false, false, false, false, false, false, false, false, false, false, false, false, false] rfl rfl (any_of HT_.out (by kernel_rfl)) (fun _ _ _ h => h) (Or.inl ⟨by rfl, ?_⟩) ?_ ?_
                          rotate_left
                          ·
                           intro w'
                           go_simp
                           with_reducible rfl
                          rotate_left
                          ·
                           simp only [Act.put, List.setIfInBounds_toArray, List.set_cons_zero, List.set_cons_succ, i64_w, i32_w]
                           rfl
                          refine pure_ (i := 3) (N := some 57) (v := ?_) (a' := ?_) #[true, true, true, true, false, false, false, false, false, false, false, false, false, false, false, false] rfl rfl (any_of HT_.out (by kernel_rfl)) (fun _ _ _ h => h) (Or.inl ⟨by rfl, ?_⟩) ?_ ?_
                          rotate_left
                          ·
                           intro w'
                           go_simp
                           with_reducible rfl
                          rotate_left
                          ·
                           simp only [Act.put, List.setIfInBounds_toArray, List.set_cons_zero, List.set_cons_succ, i64_w, i32_w]
                           rfl
                          refine pure_ (i := 7) (N := some 61) (v := ?_) (a' := ?_) #[true, true, true, true, false, false, false, true, false, false, false, false, false, false, false, false] rfl rfl (any_of HT_.out (by kernel_rfl)) (fun _ _ _ h => h) (Or.inl ⟨by rfl, ?_⟩) ?_ ?_
                          rotate_left
                          ·
                           intro w'
                           go_simp
                           with_reducible rfl
                          rotate_left
                          ·
                           simp only [Act.put, List.setIfInBounds_toArray, List.set_cons_zero, List.set_cons_succ, i64_w, i32_w]
                           rfl
                          refine pure_ (i := 8) (N := some 62) (v := ?_) (a' := ?_) #[true, true, true, true, false, false, false, true, true, false, false, false, false, false, false, false] rfl rfl (any_of HT_.out (by kernel_rfl)) (fun _ _ _ h => h) (Or.inl ⟨by rfl, ?_⟩) ?_ ?_
                          rotate_left
                          ·
                           intro w'
                           go_simp
                           with_reducible rfl
                          rotate_left
                          ·
                           simp only [Act.put, List.setIfInBounds_toArray, List.set_cons_zero, List.set_cons_succ, i64_w, i32_w]
                           rfl
                          refine pure_ (i := 9) (N := some 63) (v := ?_) (a' := ?_) #[true, true, true, true, false, false, false, true, true, true, false, false, false, false, false, false] rfl rfl (any_of HT_.out (by kernel_rfl)) (fun _ _ _ h => h) (Or.inl ⟨by rfl, ?_⟩) ?_ ?_
                          rotate_left
                          ·
                           intro w'
                           go_simp
                           with_reducible rfl
                          rotate_left
                          ·
                           simp only [Act.put, List.setIfInBounds_toArray, List.set_cons_zero, List.set_cons_succ, i64_w, i32_w]
                           rfl
                          refine take_ (i := 4) (N := some 58) (v := ?_) (a' := ?_) #[true, true, true, true, true, false, false, true, true, true, false, false, false, false, false, false] rfl rfl (take_ofW HT_.out HW_.out (by kernel_rfl)) (fun _ _ _ h => h) (Or.inl ⟨by rfl, ?_⟩) hHeld ?_ ?_
                          rotate_left
                          ·
                           intro w' _
                           go_simp
                           with_reducible rfl
                          rotate_left
                          ·
                           simp only [Act.put, List.setIfInBounds_toArray, List.set_cons_zero, List.set_cons_succ, i64_w, i32_w]
                           rfl
                          refine pure_ (i := 5) (N := some 59) (v := ?_) (a' := ?_) #[true, true, true, true, true, true, false, true, true, true, false, false, false, false, false, false] rfl rfl (any_of HT_.out (by kernel_rfl)) (fun _ _ _ h => h) (Or.inl ⟨by rfl, ?_⟩) ?_ ?_
                          rotate_left
                          ·
                           intro w'
                           go_simp
                           with_reducible rfl
                          rotate_left
                          ·
                           simp only [Act.put, List.setIfInBounds_toArray, List.set_cons_zero, List.set_cons_succ, i64_w, i32_w]
                           rfl
                          refine take_ (i := 6) (N := some 60) (v := ?_) (a' := ?_) #[true, true, true, true, true, true, true, true, true, true, false, false, false, false, false, false] rfl rfl (take_ofW HT_.out HW_.out (by kernel_rfl)) (fun _ _ _ h => h) (Or.inl ⟨by rfl, ?_⟩) hHeld ?_ ?_
                          rotate_left
                          ·
                           intro w' _
                           go_simp
                           with_reducible rfl
                          rotate_left
                          ·
                           simp only [Act.put, List.setIfInBounds_toArray, List.set_cons_zero, List.set_cons_succ, i64_w, i32_w]
                           rfl
                          refine take_ (i := 10) (N := some 64) (v := ?_) (a' := ?_) #[true, true, true, true, true, true, true, true, true, true, true, false, false, false, false, false] rfl rfl (take_ofW HT_.out HW_.out (by kernel_rfl)) (fun _ _ _ h => h) (Or.inl ⟨by rfl, ?_⟩) hHeld ?_ ?_
                          rotate_left
                          ·
                           intro w' _
                           go_simp
                           with_reducible rfl
                          rotate_left
                          ·
                           simp only [Act.put, List.setIfInBounds_toArray, List.set_cons_zero, List.set_cons_succ, i64_w, i32_w]
                           rfl
                          refine pure_ (i := 11) (N := some 65) (v := ?_) (a' := ?_) #[true, true, true, true, true, true, true, true, true, true, true, true, false, false, false, false] rfl rfl (any_of HT_.out (by kernel_rfl)) (fun _ _ _ h => h) (Or.inl ⟨by rfl, ?_⟩) ?_ ?_
                          rotate_left
                          ·
                           intro w'
                           go_simp
                           with_reducible rfl
                          rotate_left
                          ·
                           simp only [Act.put, List.setIfInBounds_toArray, List.set_cons_zero, List.set_cons_succ, i64_w, i32_w]
                           rfl
                          refine take_ (i := 12) (N := some 66) (v := ?_) (a' := ?_) #[true, true, true, true, true, true, true, true, true, true, true, true, true, false, false, false] rfl rfl (take_ofW HT_.out HW_.out (by kernel_rfl)) (fun _ _ _ h => h) (Or.inl ⟨by rfl, ?_⟩) hHeld ?_ ?_
                          rotate_left
                          ·
                           intro w' _
                           go_simp
                           with_reducible rfl
                          rotate_left
                          ·
                           simp only [Act.put, List.setIfInBounds_toArray, List.set_cons_zero, List.set_cons_succ, i64_w, i32_w]
                           rfl
                          refine one_ (i := 13) (N := some 67) #[true, true, true, true, true, true, true, true, true, true, true, true, true, true, false, false] rfl rfl (one_of HT_.out (by kernel_rfl)) (by decide) (fun K hK => ?_)
                          refine Kd.R_lit_step (Kd.int .u8) _ 5 ?hg (N := 67) ?hd (xs := ([bt x5_12 (ji56), bt x5_12 (Go.bits .and .u8 (bt x0_7 x33_5) 15)] : List Int)) (inner := [.int .u8 (bt x5_12 (ji56)), .int .u8 (bt x5_12 (Go.bits .and .u8 (bt x0_7 x33_5) 15))]) (ok := fun _ => True) (okp := fun _ => True) ?hr ?hp (fun _ hk => hk) trivial (Below.refl _ _) (Nat.le_refl _) (by simp) ?_; (case hd => rfl); (case hg => rfl); (case hr => first | (go_simp; done) | (go_simp; rfl)); (case hp => exact (Reps.one (show Kd.M (Kd.int .u8) _ _ _ (bt x5_12 (ji56)) [.int .u8 (bt x5_12 (ji56))] from rfl) (Reps.one (show Kd.M (Kd.int .u8) _ _ _ (bt x5_12 (Go.bits .and .u8 (bt x0_7 x33_5) 15)) [.int .u8 (bt x5_12 (Go.bits .and .u8 (bt x0_7 x33_5) 15))] from rfl) (Reps.none _ _))))
                          intro v128 w69 ho70 hb hg_ hnew_
                          clear hg_ hnew_
                          (first | rw [← Ny127.out] at ho70 | (simp only [Int.reduceToNat] at ho70; rw [← Ny127.out] at ho70))
                          have n0_ := Aside0.mk (Kd.R_elder' (by (with_reducible repeat (first | apply Kd.R_alloc | apply Kd.R_drewN | apply Kd.R_drew)); exact HO126.out) (Kd.R_base ho70) hb)
                          have n1_ := Aside0.mk (Kd.R_lower (Kd.R_new' ho70 (Kd.R_lt (by (with_reducible repeat (first | apply Kd.R_alloc | apply Kd.R_drewN | apply Kd.R_drew)); exact HO126.out))) (below_size (by repeat (first | (with_reducible first | exact HB.out | apply below_alloc | apply pw_below_drewN | apply below_drew1 | refine below_set ?_ GE110.out) | exact HB.out))))
                          have n2_ := Aside0.mk (blk_below (g := gb110) (o := .cells #[.bool a1_0, .bool a1_1, .bool a1_2, .bool false, .bool a1_4, .int .i64 a1_5, .int .i64 a1_6, .int .i32 a1_7] 28 (0, 0)) (by (with_reducible repeat (first | refine blk_drewN ?_ _ | refine blk_drew ?_ | refine blk_alloc ?_ _)); exact BK110.out) hb)
                          have n3_ := Aside0.mk (below_step (by repeat (first | (with_reducible first | exact HB.out | apply below_alloc | apply pw_below_drewN | apply below_drew1 | refine below_set ?_ GE110.out) | exact HB.out)) hb)
                          clear HO126
                          clear BK110
                          clear HB
                          have HO126 := n0_
                          have HO129 := n1_
                          have BK110 := n2_
                          have HB := n3_
                          clear n0_ n1_ n2_ n3_
                          clear hb ho70
                          obtain ⟨Ao72, co72, eo72⟩ := Kd.R_slice HO129.out
                          (first | subst eo72 | (injection eo72 with f1_ f2_ f3_; have f4_ := f1_.symm; have f5_ := f3_.symm; clear f1_ f2_ f3_; subst f4_; subst f5_))
                          refine hK.out _ _ trivial (fun hHeld => ?_)
                          clear hK K
                          refine norm_ (a' := ?_) ?_ ?_
                          rotate_left
                          ·
                           show Act.put _ (some 67) _ = _
                           simp only [Act.put, List.setIfInBounds_toArray, List.set_cons_zero, List.set_cons_succ, i64_w, i32_w]
                           rfl
                          refine one_ (i := 14) (N := some 68) #[true, true, true, true, true, true, true, true, true, true, true, true, true, true, true, false] rfl rfl (one_of HT_.out (by kernel_rfl)) (by decide) (fun K hK => ?_)
                          refine Kd.R_append_rows_step (Kd.int .u8) (w0 := w) w.heap.size (by rfl) (.tmp 54) (.tmp 67) 44 5 (.int .u8 0) 1 rfl Tryd.underlying44 info5 rfl (by decide) (by omega) v125 y124 y127 _ _ _ (fun k_ => some k_ ≠ (.slice Ao72 y127.length co72 : Value).ownBlock) (fun _ => False) rfl rfl ?aO ?aR (fun _ _ h => h) (fun _ h => h.elim) ?aF ?aB ?aS ?aL ?_
                          (case aR => repeat (first | exact (Kd.R_reads' HO129.out).2.2 | (with_reducible refine Kd.C_alloc ?_ _) | (with_reducible refine Kd.C_drewN ?_ _) | (with_reducible refine Kd.C_drew ?_)))
                          (case aB => exact (by repeat (first | (with_reducible first | exact HB.out | apply below_alloc | apply pw_below_drewN | apply below_drew1 | refine below_set ?_ GE110.out) | exact HB.out)))
                          (case aF => exact (fun k_ hk => Kd.fresh' (Kd.R_lt (by (with_reducible repeat (first | apply Kd.R_alloc | apply Kd.R_drewN | apply Kd.R_drew)); exact HO129.out)) k_ hk))
                          (case aO => exact (by (with_reducible repeat (first | apply Kd.R_alloc | apply Kd.R_drewN | apply Kd.R_drew)); exact Kd.R_mono HO126.out (fun _ hk => hk.2)))
                          (case aS => exact (below_size (by repeat (first | (with_reducible first | exact HB.out | apply below_alloc | apply pw_below_drewN | apply below_drew1 | refine below_set ?_ GE110.out) | exact HB.out))))
                          (case aL => have := LMc64.out; omega)
                          intro v131 w71 ho hb hg hat
                          rw [← Ny130.out] at ho
                          have n0_ := Aside0.mk (blk_grown (g := gb110) (o := .cells #[.bool a1_0, .bool a1_1, .bool a1_2, .bool false, .bool a1_4, .int .i64 a1_5, .int .i64 a1_6, .int .i32 a1_7] 28 (0, 0)) (by (with_reducible repeat (first | refine blk_drewN ?_ _ | refine blk_drew ?_ | refine blk_alloc ?_ _)); exact BK110.out) hg (Kd.R_ne HO126.out BK110.out (by decide)))
                          have n1_ := Aside0.mk (Kd.R_after (ok := (fun _ => True)) (by (with_reducible repeat (first | apply Kd.R_alloc | apply Kd.R_drewN | apply Kd.R_drew)); exact HO129.out) hg hat)
                          have n2_ := Aside0.mk (hb)
                          have n3_ := Aside0.mk (ho)
                          clear BK110
                          clear HO129
                          clear HB
                          clear HO126
                          have BK110 := n0_
                          have HO129 := n1_
                          have HB := n2_
                          have HO132 := n3_
                          clear n0_ n1_ n2_ n3_
                          clear ho hb hg hat
                          refine hK.out _ _ trivial (fun hHeld => ?_)
                          clear hK K
                          refine norm_ (a' := ?_) ?_ ?_
                          rotate_left
                          ·
                           show Act.put _ (some 68) _ = _
                           simp only [Act.put, List.setIfInBounds_toArray, List.set_cons_zero, List.set_cons_succ, i64_w, i32_w]
                           rfl
                          refine pure_ (i := 15) (N := some 7) (v := ?_) (a' := ?_) #[true, true, true, true, true, true, true, true, true, true, true, true, true, true, true, true] rfl rfl (any_of HT_.out (by kernel_rfl)) (fun _ _ _ h => h) (Or.inl ⟨by rfl, ?_⟩) ?_ ?_
                          rotate_left
                          ·
                           intro w'
                           go_simp
                           with_reducible rfl
                          rotate_left
                          ·
                           simp only [Act.put, List.setIfInBounds_toArray, List.set_cons_zero, List.set_cons_succ, i64_w, i32_w]
                           rfl
                          refine done_ (done_of HT_.out (by kernel_rfl)) ?_
                          try go_wp2
                          go_roundg kj22
                          case measure => have := HJ2.out; have := HJ7.out; have := HJ12.out; have := HJ15.out; have := HK5.out; have := HJ22.out; omega
                          case rel => exact ⟨(y130), (wrap64 (x33_5 + 1)), (by first | rfl | (simp; done) | (simp [*]; done)), H', ⟨by have := HJ2.out; have := HJ7.out; have := HJ12.out; have := HJ15.out; have := HK5.out; have := HJ22.out; omega⟩, ⟨by (with_reducible repeat (first | apply Kd.R_alloc | apply Kd.R_drewN | apply Kd.R_drew)); exact Kd.R_mono HO132.out (fun _ hk => trivial)⟩, ⟨by (with_reducible repeat (first | refine blk_drewN ?_ _ | refine blk_drew ?_ | refine blk_alloc ?_ _)); exact BK110.out⟩, ⟨by repeat (first | (with_reducible first | exact HB.out | apply below_alloc | apply pw_below_drewN | apply below_drew1 | refine below_set ?_ GE110.out) | exact HB.out)⟩⟩
                         ·
                          rw [if_neg c64] at H
                          exact absurd H (by simp)
                        ·
                         rw [if_neg c62] at H
                         exact absurd H (by simp)
                       ·
                        rw [if_neg c61] at H
                        exact absurd H (by simp)
                      ·
                       rw [if_neg c58] at H
                       exact absurd H (by simp)
                     ·
                      rw [if_neg c57] at H
                      exact absurd H (by simp)
                    ·
                     rw [if_neg c54] at H
                     exact absurd H (by simp)
                   ·
                    rw [if_neg c53] at H
                    exact absurd H (by simp)
                  ·
                   rw [if_neg c52] at H
                   exact absurd H (by simp)
                 ·
                  rw [if_neg c51] at H
                  have c51b0 : (x33_5 == 0) = false := beq_eq_false_iff_ne.mpr c51
                  have c51b1 : (x33_5 != 0) = true := bne_iff_ne.mpr c51
                  by_cases c73 : 0 ≤ x33_5
                  ·
                   rw [if_pos c73] at H
                   have c73b0 : decide (0 ≤ x33_5) = true := decide_eq_true c73
                   clear c73
                   by_cases c74 : x33_5 < (x0_7.size : Int)
                   ·
                    rw [if_pos c74] at H
                    have c74b0 : decide (x33_5 < (x0_7.size : Int)) = true := decide_eq_true c74
                    clear c74
                    obtain ⟨ji76, hji76⟩ : ∃ j_ : Int, ((bt x0_7 x33_5) / 16) = j_ := ⟨_, rfl⟩
                    replace H : (if 0 ≤ (ji76) then (if (ji76) < (x5_12.size : Int) then (if 0 ≤ (Go.bits .and .u8 (bt x0_7 x33_5) 15) then (if (Go.bits .and .u8 (bt x0_7 x33_5) 15) < (x5_12.size : Int) then ((some (([bt x5_12 (ji76), bt x5_12 (Go.bits .and .u8 (bt x0_7 x33_5) 15)] : List Int) : List Int)).bind fun y133 => (if y112.length + y133.length < 140737488355328 then (quote_Hex.l0 kj22 x0_7 x5_12 x6_15 (y112 ++ y133) (x0_7.size : Int) (wrap64 (x33_5 + 1)) a1_0 a1_1 a1_2 false a1_4 a1_5 a1_6 a1_7) else (none))) else (none)) else (none)) else (none)) else (none)) = some r := by first | (rw [hji76] at H; exact H) | (simp only [hji76] at H ⊢; exact H)
                    by_cases c77 : 0 ≤ (ji76)
                    ·
                     rw [if_pos c77] at H
                     have c77b0 : decide (0 ≤ (ji76)) = true := decide_eq_true c77
                     clear c77
                     by_cases c78 : (ji76) < (x5_12.size : Int)
                     ·
                      rw [if_pos c78] at H
                      have c78b0 : decide ((ji76) < (x5_12.size : Int)) = true := decide_eq_true c78
                      clear c78
                      by_cases c81 : 0 ≤ (Go.bits .and .u8 (bt x0_7 x33_5) 15)
                      ·
                       rw [if_pos c81] at H
                       have c81b0 : decide (0 ≤ (Go.bits .and .u8 (bt x0_7 x33_5) 15)) = true := decide_eq_true c81
                       clear c81
                       by_cases c82 : (Go.bits .and .u8 (bt x0_7 x33_5) 15) < (x5_12.size : Int)
                       ·
                        rw [if_pos c82] at H
                        have c82b0 : decide ((Go.bits .and .u8 (bt x0_7 x33_5) 15) < (x5_12.size : Int)) = true := decide_eq_true c82
                        clear c82
                        obtain ⟨y133, hy133⟩ : ∃ y_ : List Int, y_ = (([bt x5_12 (ji76), bt x5_12 (Go.bits .and .u8 (bt x0_7 x33_5) 15)] : List Int)) := ⟨_, rfl⟩
                        replace H : (if y112.length + y133.length < 140737488355328 then (quote_Hex.l0 kj22 x0_7 x5_12 x6_15 (y112 ++ y133) (x0_7.size : Int) (wrap64 (x33_5 + 1)) a1_0 a1_1 a1_2 false a1_4 a1_5 a1_6 a1_7) else (none)) = some r := by first | (rw [hy133]; with_reducible exact H) | (have H2_ := (Option.bind_some _ _).symm.trans H; rw [hy133]; with_reducible exact H2_) | (have H2_ := (Option.bind_some _ _).symm.trans H; with_reducible exact H2_) | with_reducible exact H | (rw [hy133]; exact H) | exact H
                        have Ny133 := Aside0.mk hy133
                        clear hy133
                        by_cases c84 : y112.length + y133.length < 140737488355328
                        ·
                         rw [if_pos c84] at H
                         have LMc84 := Aside0.mk c84
                         clear c84
                         obtain ⟨y136, hy136⟩ : ∃ y_ : List Int, y_ = (y112 ++ y133) := ⟨_, rfl⟩
                         replace H : (quote_Hex.l0 kj22 x0_7 x5_12 x6_15 y136 (x0_7.size : Int) (wrap64 (x33_5 + 1)) a1_0 a1_1 a1_2 false a1_4 a1_5 a1_6 a1_7) = some r := by first | (rw [hy136]; with_reducible exact H) | (have H2_ := (Option.bind_some _ _).symm.trans H; rw [hy136]; with_reducible exact H2_) | (have H2_ := (Option.bind_some _ _).symm.trans H; with_reducible exact H2_) | with_reducible exact H | (rw [hy136]; exact H) | exact H
                         have Ny136 := Aside0.mk hy136
                         clear hy136
                         have H' := Aside0.mk H
                         clear H
                         try go_wp2_with (first | ((with_reducible refine gate_builtin (b := .append) (xs := #[.tmp 42, .tmp 43]) rfl ?_); (try (refine gate_guard (by rfl) ?_; dsimp only)); at_builtin; refine Kd.R_append (Kd.int .u8) (w0 := w) w.heap.size rfl (.tmp 42) (.tmp 43) 44 5 (.int .u8 0) 1 rfl Tryd.underlying44 info5 rfl (by decide) (by omega) u7 x7_5 32 [.int .u8 32] (fun _ => True) (fun _ => False) rfl rfl ?aP (fun _ hk => hk.elim) ?aF ?aO ?aB ?aS ?aL ?_; (case aP => exact rfl); (case aB => exact (by repeat (first | (with_reducible first | exact HB.out | apply below_alloc | apply pw_below_drewN | apply below_drew1 | refine below_set ?_ GE110.out) | exact HB.out))); (case aF => exact (fun _ _ => trivial)); (case aO => exact (by (with_reducible repeat (first | apply Kd.R_alloc | apply Kd.R_drewN | apply Kd.R_drew)); exact HO_7.out)); (case aS => exact (below_size (by repeat (first | (with_reducible first | exact HB.out | apply below_alloc | apply pw_below_drewN | apply below_drew1 | refine below_set ?_ GE110.out) | exact HB.out)))); (case aL => have := LMc28.out; omega); intro v113 w85 ho hb hg hat; rw [← Ny112.out] at ho; have n0_ := Aside0.mk (blk_grown (g := gb110) (o := .cells #[.bool a1_0, .bool a1_1, .bool a1_2, .bool false, .bool a1_4, .int .i64 a1_5, .int .i64 a1_6, .int .i32 a1_7] 28 (0, 0)) (by (with_reducible repeat (first | refine blk_drewN ?_ _ | refine blk_drew ?_ | refine blk_alloc ?_ _)); exact BK110.out) hg (Kd.R_ne HO_7.out BK110.out (by decide))); have n1_ := Aside0.mk (hb); have n2_ := Aside0.mk (ho); clear BK110; clear HB; clear HO_7; have BK110 := n0_; have HB := n1_; have HO114 := n2_; clear n0_ n1_ n2_; clear ho hb hg hat; have hcz86_0 : w85.cell? ⟨gb110, 0, none⟩ = some (.bool a1_0) := (blk_cell BK110.out 0).trans rfl; have hcz86_1 : w85.cell? ⟨gb110, 1, none⟩ = some (.bool a1_1) := (blk_cell BK110.out 1).trans rfl; have hcz86_2 : w85.cell? ⟨gb110, 2, none⟩ = some (.bool a1_2) := (blk_cell BK110.out 2).trans rfl; have hcz86_3 : w85.cell? ⟨gb110, 3, none⟩ = some (.bool false) := (blk_cell BK110.out 3).trans rfl; have hcz86_4 : w85.cell? ⟨gb110, 4, none⟩ = some (.bool a1_4) := (blk_cell BK110.out 4).trans rfl; have hcz86_5 : w85.cell? ⟨gb110, 5, none⟩ = some (.int .i64 a1_5) := (blk_cell BK110.out 5).trans rfl; have hcz86_6 : w85.cell? ⟨gb110, 6, none⟩ = some (.int .i64 a1_6) := (blk_cell BK110.out 6).trans rfl; have hcz86_7 : w85.cell? ⟨gb110, 7, none⟩ = some (.int .i32 a1_7) := (blk_cell BK110.out 7).trans rfl; have hfz86_0 := blk_frozen BK110.out 0; have hfz86_1 := blk_frozen BK110.out 1; have hfz86_2 := blk_frozen BK110.out 2; have hfz86_3 := blk_frozen BK110.out 3; have hfz86_4 := blk_frozen BK110.out 4; have hfz86_5 := blk_frozen BK110.out 5; have hfz86_6 := blk_frozen BK110.out 6; have hfz86_7 := blk_frozen BK110.out 7))
                         have n0_ := Aside0.mk (Kd.R_drew HO114.out)
                         have n1_ := Aside0.mk (blk_drew BK110.out)
                         have n2_ := Aside0.mk (below_drew1 HB.out)
                         clear HO114
                         clear BK110
                         clear HB
                         have HO114 := n0_
                         have BK110 := n1_
                         have HB := n2_
                         clear n0_ n1_ n2_
                         have p75 : 0 ≤ (x33_5 : Int) := of_decide_eq_true (by first | (with_reducible assumption) | assumption)
                         have q75 : x33_5 < (x0_7.size : Int) := of_decide_eq_true (by first | (with_reducible assumption) | assumption)
                         have hx75 := bt_at x0_7 x33_5
                         replace p75 := eq_true p75
                         replace q75 := eq_true q75
                         have p79 : 0 ≤ ((ji76) : Int) := of_decide_eq_true (by first | (with_reducible assumption) | assumption)
                         have q79 : (ji76) < (x5_12.size : Int) := of_decide_eq_true (by first | (with_reducible assumption) | assumption)
                         have hx79 := bt_at x5_12 (ji76)
                         replace p79 := eq_true p79
                         replace q79 := eq_true q79
                         have p80 : 0 ≤ (x33_5 : Int) := of_decide_eq_true (by first | (with_reducible assumption) | assumption)
                         have q80 : x33_5 < (x0_7.size : Int) := of_decide_eq_true (by first | (with_reducible assumption) | assumption)
                         have hx80 := bt_at x0_7 x33_5
                         replace p80 := eq_true p80
                         replace q80 := eq_true q80
                         have p83 : 0 ≤ ((Go.bits .and .u8 (bt x0_7 x33_5) 15) : Int) := of_decide_eq_true (by first | (with_reducible assumption) | assumption)
                         have q83 : (Go.bits .and .u8 (bt x0_7 x33_5) 15) < (x5_12.size : Int) := of_decide_eq_true (by first | (with_reducible assumption) | assumption)
                         have hx83 := bt_at x5_12 (Go.bits .and .u8 (bt x0_7 x33_5) 15)
                         replace p83 := eq_true p83
                         replace q83 := eq_true q83
                         refine start_ (n := 16) (S := fun w' => True) (ds := []) #[false, false, false, false, false, false, false, false, false, false, false, false, false, false, false, false] (by kernel_rfl) rfl rfl trivial (fun hHeld => ?_); refine with_tabW quote_Hex.tab18 quote_Hex.bits18 (fun HT_ HW_ => ?_)
                         generalize w85.drew = w87 at HO114 BK110 HB hHeld ⊢
                         refine pure_ (i := 0) (N := some 54) (v := ?_) (a' := ?_) #[true, false, false, false, false, false, false, false, false, false, false, false, false, false, false, false] rfl rfl (any_of HT_.out (by kernel_rfl)) (fun _ _ _ h => h) (Or.inl ⟨by rfl, ?_⟩) ?_ ?_
                         rotate_left
                         ·
                          intro w'
                          go_simp
                          with_reducible rfl
                         rotate_left
                         ·
                          simp only [Act.put, List.setIfInBounds_toArray, List.set_cons_zero, List.set_cons_succ, i64_w, i32_w]
                          rfl
                         refine pure_ (i := 1) (N := some 55) (v := ?_) (a' := ?_) #[true, true, false, false, false, false, false, false, false, false, false, false, false, false, false, false] rfl rfl (any_of HT_.out (by kernel_rfl)) (fun _ _ _ h => h) (Or.inl ⟨by rfl, ?_⟩) ?_ ?_
                         rotate_left
                         ·
                          intro w'
                          go_simp
                          with_reducible rfl
                         rotate_left
                         ·
                          simp only [Act.put, List.setIfInBounds_toArray, List.set_cons_zero, List.set_cons_succ, i64_w, i32_w]
                          rfl
                         refine pure_ (i := 2) (N := some 56) (v := ?_) (a' := ?_) #[true, true, true, false, false, false, false, false, false, false, false, false, false, false, false, false] rfl rfl (any_of HT_.out (by kernel_rfl)) (fun _ _ _ h => h) (Or.inl ⟨by rfl, ?_⟩) ?_ ?_
                         rotate_left
                         ·
                          intro w'
                          go_simp
                          with_reducible rfl
                         rotate_left
                         ·
                          simp only [Act.put, List.setIfInBounds_toArray, List.set_cons_zero, List.set_cons_succ, i64_w, i32_w]
                          rfl
                         refine pure_ (i := 3) (N := some 57) (v := ?_) (a' := ?_) #[true, true, true, true, false, false, false, false, false, false, false, false, false, false, false, false] rfl rfl (any_of HT_.out (by kernel_rfl)) (fun _ _ _ h => h) (Or.inl ⟨by rfl, ?_⟩) ?_ ?_
                         rotate_left
                         ·
                          intro w'
                          go_simp
                          with_reducible rfl
                         rotate_left
                         ·
                          simp only [Act.put, List.setIfInBounds_toArray, List.set_cons_zero, List.set_cons_succ, i64_w, i32_w]
                          rfl
                         refine pure_ (i := 7) (N := some 61) (v := ?_) (a' := ?_) #[true, true, true, true, false, false, false, true, false, false, false, false, false, false, false, false] rfl rfl (any_of HT_.out (by kernel_rfl)) (fun _ _ _ h => h) (Or.inl ⟨by rfl, ?_⟩) ?_ ?_
                         rotate_left
                         ·
                          intro w'
                          go_simp
                          with_reducible rfl
                         rotate_left
                         ·
                          simp only [Act.put, List.setIfInBounds_toArray, List.set_cons_zero, List.set_cons_succ, i64_w, i32_w]
                          rfl
                         refine pure_ (i := 8) (N := some 62) (v := ?_) (a' := ?_) #[true, true, true, true, false, false, false, true, true, false, false, false, false, false, false, false] rfl rfl (any_of HT_.out (by kernel_rfl)) (fun _ _ _ h => h) (Or.inl ⟨by rfl, ?_⟩) ?_ ?_
                         rotate_left
                         ·
                          intro w'
                          go_simp
                          with_reducible rfl
                         rotate_left
                         ·
                          simp only [Act.put, List.setIfInBounds_toArray, List.set_cons_zero, List.set_cons_succ, i64_w, i32_w]
                          rfl
                         refine pure_ (i := 9) (N := some 63) (v := ?_) (a' := ?_) #[true, true, true, true, false, false, false, true, true, true, false, false, false, false, false, false] rfl rfl (any_of HT_.out (by kernel_rfl)) (fun _ _ _ h => h) (Or.inl ⟨by rfl, ?_⟩) ?_ ?_
                         rotate_left
                         ·
                          intro w'
                          go_simp
                          with_reducible rfl
                         rotate_left
                         ·
                          simp only [Act.put, List.setIfInBounds_toArray, List.set_cons_zero, List.set_cons_succ, i64_w, i32_w]
                          rfl
                         refine take_ (i := 4) (N := some 58) (v := ?_) (a' := ?_) #[true, true, true, true, true, false, false, true, true, true, false, false, false, false, false, false] rfl rfl (take_ofW HT_.out HW_.out (by kernel_rfl)) (fun _ _ _ h => h) (Or.inl ⟨by rfl, ?_⟩) hHeld ?_ ?_
                         rotate_left
                         ·
                          intro w' _
                          go_simp
                          with_reducible rfl
                         rotate_left
                         ·
                          simp only [Act.put, List.setIfInBounds_toArray, List.set_cons_zero, List.set_cons_succ, i64_w, i32_w]
                          rfl
                         refine pure_ (i := 5) (N := some 59) (v := ?_) (a' := ?_) #[true, true, true, true, true, true, false, true, true, true, false, false, false, false, false, false] rfl rfl (any_of HT_.out (by kernel_rfl)) (fun _ _ _ h => h) (Or.inl ⟨by rfl, ?_⟩) ?_ ?_
                         rotate_left
                         ·
                          intro w'
                          go_simp
                          with_reducible rfl
                         rotate_left
                         ·
                          simp only [Act.put, List.setIfInBounds_toArray, List.set_cons_zero, List.set_cons_succ, i64_w, i32_w]
                          rfl
                         refine take_ (i := 6) (N := some 60) (v := ?_) (a' := ?_) #[true, true, true, true, true, true, true, true, true, true, false, false, false, false, false, false] rfl rfl (take_ofW HT_.out HW_.out (by kernel_rfl)) (fun _ _ _ h => h) (Or.inl ⟨by rfl, ?_⟩) hHeld ?_ ?_
                         rotate_left
                         ·
                          intro w' _
                          go_simp
                          with_reducible rfl
                         rotate_left
                         ·
                          simp only [Act.put, List.setIfInBounds_toArray, List.set_cons_zero, List.set_cons_succ, i64_w, i32_w]
                          rfl
                         refine take_ (i := 10) (N := some 64) (v := ?_) (a' := ?_) #[true, true, true, true, true, true, true, true, true, true, true, false, false, false, false, false] rfl rfl (take_ofW HT_.out HW_.out (by kernel_rfl)) (fun _ _ _ h => h) (Or.inl ⟨by rfl, ?_⟩) hHeld ?_ ?_
                         rotate_left
                         ·
                          intro w' _
                          go_simp
                          with_reducible rfl
                         rotate_left
                         ·
                          simp only [Act.put, List.setIfInBounds_toArray, List.set_cons_zero, List.set_cons_succ, i64_w, i32_w]
                          rfl
                         refine pure_ (i := 11) (N := some 65) (v := ?_) (a' := ?_) #[true, true, true, true, true, true, true, true, true, true, true, true, false, false, false, false] rfl rfl (any_of HT_.out (by kernel_rfl)) (fun _ _ _ h => h) (Or.inl ⟨by rfl, ?_⟩) ?_ ?_
                         rotate_left
                         ·
                          intro w'
                          go_simp
                          with_reducible rfl
                         rotate_left
                         ·
                          simp only [Act.put, List.setIfInBounds_toArray, List.set_cons_zero, List.set_cons_succ, i64_w, i32_w]
                          rfl
                         refine take_ (i := 12) (N := some 66) (v := ?_) (a' := ?_) #[true, true, true, true, true, true, true, true, true, true, true, true, true, false, false, false] rfl rfl (take_ofW HT_.out HW_.out (by kernel_rfl)) (fun _ _ _ h => h) (Or.inl ⟨by rfl, ?_⟩) hHeld ?_ ?_
                         rotate_left
                         ·
                          intro w' _
                          go_simp
                          with_reducible rfl
                         rotate_left
                         ·
                          simp only [Act.put, List.setIfInBounds_toArray, List.set_cons_zero, List.set_cons_succ, i64_w, i32_w]
                          rfl
                         refine one_ (i := 13) (N := some 67) #[true, true, true, true, true, true, true, true, true, true, true, true, true, true, false, false] rfl rfl (one_of HT_.out (by kernel_rfl)) (by decide) (fun K hK => ?_)
                         refine Kd.R_lit_step (Kd.int .u8) _ 5 ?hg (N := 67) ?hd (xs := ([bt x5_12 (ji76), bt x5_12 (Go.bits .and .u8 (bt x0_7 x33_5) 15)] : List Int)) (inner := [.int .u8 (bt x5_12 (ji76)), .int .u8 (bt x5_12 (Go.bits .and .u8 (bt x0_7 x33_5) 15))]) (ok := fun _ => True) (okp := fun _ => True) ?hr ?hp (fun _ hk => hk) trivial (Below.refl _ _) (Nat.le_refl _) (by simp) ?_; (case hd => rfl); (case hg => rfl); (case hr => first | (go_simp; done) | (go_simp; rfl)); (case hp => exact (Reps.one (show Kd.M (Kd.int .u8) _ _ _ (bt x5_12 (ji76)) [.int .u8 (bt x5_12 (ji76))] from rfl) (Reps.one (show Kd.M (Kd.int .u8) _ _ _ (bt x5_12 (Go.bits .and .u8 (bt x0_7 x33_5) 15)) [.int .u8 (bt x5_12 (Go.bits .and .u8 (bt x0_7 x33_5) 15))] from rfl) (Reps.none _ _))))
                         intro v134 w88 ho89 hb hg_ hnew_
                         clear hg_ hnew_
                         (first | rw [← Ny133.out] at ho89 | (simp only [Int.reduceToNat] at ho89; rw [← Ny133.out] at ho89))
                         have n0_ := Aside0.mk (Kd.R_elder' (by (with_reducible repeat (first | apply Kd.R_alloc | apply Kd.R_drewN | apply Kd.R_drew)); exact HO114.out) (Kd.R_base ho89) hb)
                         have n1_ := Aside0.mk (Kd.R_lower (Kd.R_new' ho89 (Kd.R_lt (by (with_reducible repeat (first | apply Kd.R_alloc | apply Kd.R_drewN | apply Kd.R_drew)); exact HO114.out))) (below_size (by repeat (first | (with_reducible first | exact HB.out | apply below_alloc | apply pw_below_drewN | apply below_drew1 | refine below_set ?_ GE110.out) | exact HB.out))))
                         have n2_ := Aside0.mk (blk_below (g := gb110) (o := .cells #[.bool a1_0, .bool a1_1, .bool a1_2, .bool false, .bool a1_4, .int .i64 a1_5, .int .i64 a1_6, .int .i32 a1_7] 28 (0, 0)) (by (with_reducible repeat (first | refine blk_drewN ?_ _ | refine blk_drew ?_ | refine blk_alloc ?_ _)); exact BK110.out) hb)
                         have n3_ := Aside0.mk (below_step (by repeat (first | (with_reducible first | exact HB.out | apply below_alloc | apply pw_below_drewN | apply below_drew1 | refine below_set ?_ GE110.out) | exact HB.out)) hb)
                         clear HO114
                         clear BK110
                         clear HB
                         have HO114 := n0_
                         have HO135 := n1_
                         have BK110 := n2_
                         have HB := n3_
                         clear n0_ n1_ n2_ n3_
                         clear hb ho89
                         obtain ⟨Ao91, co91, eo91⟩ := Kd.R_slice HO135.out
                         (first | subst eo91 | (injection eo91 with f1_ f2_ f3_; have f4_ := f1_.symm; have f5_ := f3_.symm; clear f1_ f2_ f3_; subst f4_; subst f5_))
                         refine hK.out _ _ trivial (fun hHeld => ?_)
                         clear hK K
                         refine norm_ (a' := ?_) ?_ ?_
                         rotate_left
                         ·
                          show Act.put _ (some 67) _ = _
                          simp only [Act.put, List.setIfInBounds_toArray, List.set_cons_zero, List.set_cons_succ, i64_w, i32_w]
                          rfl
                         refine one_ (i := 14) (N := some 68) #[true, true, true, true, true, true, true, true, true, true, true, true, true, true, true, false] rfl rfl (one_of HT_.out (by kernel_rfl)) (by decide) (fun K hK => ?_)
                         refine Kd.R_append_rows_step (Kd.int .u8) (w0 := w) w.heap.size (by rfl) (.tmp 54) (.tmp 67) 44 5 (.int .u8 0) 1 rfl Tryd.underlying44 info5 rfl (by decide) (by omega) v113 y112 y133 _ _ _ (fun k_ => some k_ ≠ (.slice Ao91 y133.length co91 : Value).ownBlock) (fun _ => False) rfl rfl ?aO ?aR (fun _ _ h => h) (fun _ h => h.elim) ?aF ?aB ?aS ?aL ?_
                         (case aR => repeat (first | exact (Kd.R_reads' HO135.out).2.2 | (with_reducible refine Kd.C_alloc ?_ _) | (with_reducible refine Kd.C_drewN ?_ _) | (with_reducible refine Kd.C_drew ?_)))
                         (case aB => exact (by repeat (first | (with_reducible first | exact HB.out | apply below_alloc | apply pw_below_drewN | apply below_drew1 | refine below_set ?_ GE110.out) | exact HB.out)))
                         (case aF => exact (fun k_ hk => Kd.fresh' (Kd.R_lt (by (with_reducible repeat (first | apply Kd.R_alloc | apply Kd.R_drewN | apply Kd.R_drew)); exact HO135.out)) k_ hk))
                         (case aO => exact (by (with_reducible repeat (first | apply Kd.R_alloc | apply Kd.R_drewN | apply Kd.R_drew)); exact Kd.R_mono HO114.out (fun _ hk => hk.2)))
                         (case aS => exact (below_size (by repeat (first | (with_reducible first | exact HB.out | apply below_alloc | apply pw_below_drewN | apply below_drew1 | refine below_set ?_ GE110.out) | exact HB.out))))
                         (case aL => have := LMc84.out; omega)
                         intro v137 w90 ho hb hg hat
                         rw [← Ny136.out] at ho
                         have n0_ := Aside0.mk (blk_grown (g := gb110) (o := .cells #[.bool a1_0, .bool a1_1, .bool a1_2, .bool false, .bool a1_4, .int .i64 a1_5, .int .i64 a1_6, .int .i32 a1_7] 28 (0, 0)) (by (with_reducible repeat (first | refine blk_drewN ?_ _ | refine blk_drew ?_ | refine blk_alloc ?_ _)); exact BK110.out) hg (Kd.R_ne HO114.out BK110.out (by decide)))
                         have n1_ := Aside0.mk (Kd.R_after (ok := (fun _ => True)) (by (with_reducible repeat (first | apply Kd.R_alloc | apply Kd.R_drewN | apply Kd.R_drew)); exact HO135.out) hg hat)
                         have n2_ := Aside0.mk (hb)
                         have n3_ := Aside0.mk (ho)
                         clear BK110
                         clear HO135
                         clear HB
                         clear HO114
                         have BK110 := n0_
                         have HO135 := n1_
                         have HB := n2_
                         have HO138 := n3_
                         clear n0_ n1_ n2_ n3_
                         clear ho hb hg hat
                         refine hK.out _ _ trivial (fun hHeld => ?_)
                         clear hK K
                         refine norm_ (a' := ?_) ?_ ?_
                         rotate_left
                         ·
                          show Act.put _ (some 68) _ = _
                          simp only [Act.put, List.setIfInBounds_toArray, List.set_cons_zero, List.set_cons_succ, i64_w, i32_w]
                          rfl
                         refine pure_ (i := 15) (N := some 7) (v := ?_) (a' := ?_) #[true, true, true, true, true, true, true, true, true, true, true, true, true, true, true, true] rfl rfl (any_of HT_.out (by kernel_rfl)) (fun _ _ _ h => h) (Or.inl ⟨by rfl, ?_⟩) ?_ ?_
                         rotate_left
                         ·
                          intro w'
                          go_simp
                          with_reducible rfl
                         rotate_left
                         ·
                          simp only [Act.put, List.setIfInBounds_toArray, List.set_cons_zero, List.set_cons_succ, i64_w, i32_w]
                          rfl
                         refine done_ (done_of HT_.out (by kernel_rfl)) ?_
                         try go_wp2
                         go_roundg kj22
                         case measure => have := HJ2.out; have := HJ7.out; have := HJ12.out; have := HJ15.out; have := HK5.out; have := HJ22.out; omega
                         case rel => exact ⟨(y136), (wrap64 (x33_5 + 1)), (by first | rfl | (simp; done) | (simp [*]; done)), H', ⟨by have := HJ2.out; have := HJ7.out; have := HJ12.out; have := HJ15.out; have := HK5.out; have := HJ22.out; omega⟩, ⟨by (with_reducible repeat (first | apply Kd.R_alloc | apply Kd.R_drewN | apply Kd.R_drew)); exact Kd.R_mono HO138.out (fun _ hk => trivial)⟩, ⟨by (with_reducible repeat (first | refine blk_drewN ?_ _ | refine blk_drew ?_ | refine blk_alloc ?_ _)); exact BK110.out⟩, ⟨by repeat (first | (with_reducible first | exact HB.out | apply below_alloc | apply pw_below_drewN | apply below_drew1 | refine below_set ?_ GE110.out) | exact HB.out)⟩⟩
                        ·
                         rw [if_neg c84] at H
                         exact absurd H (by simp)
                       ·
                        rw [if_neg c82] at H
                        exact absurd H (by simp)
                      ·
                       rw [if_neg c81] at H
                       exact absurd H (by simp)
                     ·
                      rw [if_neg c78] at H
                      exact absurd H (by simp)
                    ·
                     rw [if_neg c77] at H
                     exact absurd H (by simp)
                   ·
                    rw [if_neg c74] at H
                    exact absurd H (by simp)
                  ·
                   rw [if_neg c73] at H
                   exact absurd H (by simp)
               ·
                rw [if_neg c28] at H
                exact absurd H (by simp)
              ·
               replace c27 := Bool.eq_false_iff.mpr c27
               subst c27
               have H1 : (if a1_3 = true then (if x7_5.length + x6_15.size < 140737488355328 then ((some (x7_5 ++ bytesOf x6_15 : List Int)).bind fun y139 => (if 0 ≤ x33_5 then (if x33_5 < (x0_7.size : Int) then (if 0 ≤ ((bt x0_7 x33_5) / 16) then (if ((bt x0_7 x33_5) / 16) < (x5_12.size : Int) then (if 0 ≤ (Go.bits .and .u8 (bt x0_7 x33_5) 15) then (if (Go.bits .and .u8 (bt x0_7 x33_5) 15) < (x5_12.size : Int) then ((some (([bt x5_12 ((bt x0_7 x33_5) / 16), bt x5_12 (Go.bits .and .u8 (bt x0_7 x33_5) 15)] : List Int) : List Int)).bind fun y142 => (if y139.length + y142.length < 140737488355328 then (quote_Hex.l0 kj22 x0_7 x5_12 x6_15 (y139 ++ y142) (x0_7.size : Int) (wrap64 (x33_5 + 1)) a1_0 a1_1 a1_2 a1_3 a1_4 a1_5 a1_6 a1_7) else (none))) else (none)) else (none)) else (none)) else (none)) else (none)) else (none))) else (none)) else (if x33_5 = 0 then (if x7_5.length + x6_15.size < 140737488355328 then ((some (x7_5 ++ bytesOf x6_15 : List Int)).bind fun y148 => (if 0 ≤ x33_5 then (if x33_5 < (x0_7.size : Int) then (if 0 ≤ ((bt x0_7 x33_5) / 16) then (if ((bt x0_7 x33_5) / 16) < (x5_12.size : Int) then (if 0 ≤ (Go.bits .and .u8 (bt x0_7 x33_5) 15) then (if (Go.bits .and .u8 (bt x0_7 x33_5) 15) < (x5_12.size : Int) then ((some (([bt x5_12 ((bt x0_7 x33_5) / 16), bt x5_12 (Go.bits .and .u8 (bt x0_7 x33_5) 15)] : List Int) : List Int)).bind fun y151 => (if y148.length + y151.length < 140737488355328 then (quote_Hex.l0 kj22 x0_7 x5_12 x6_15 (y148 ++ y151) (x0_7.size : Int) (wrap64 (x33_5 + 1)) a1_0 a1_1 a1_2 a1_3 a1_4 a1_5 a1_6 a1_7) else (none))) else (none)) else (none)) else (none)) else (none)) else (none)) else (none))) else (none)) else (if 0 ≤ x33_5 then (if x33_5 < (x0_7.size : Int) then (if 0 ≤ ((bt x0_7 x33_5) / 16) then (if ((bt x0_7 x33_5) / 16) < (x5_12.size : Int) then (if 0 ≤ (Go.bits .and .u8 (bt x0_7 x33_5) 15) then (if (Go.bits .and .u8 (bt x0_7 x33_5) 15) < (x5_12.size : Int) then ((some (([bt x5_12 ((bt x0_7 x33_5) / 16), bt x5_12 (Go.bits .and .u8 (bt x0_7 x33_5) 15)] : List Int) : List Int)).bind fun y157 => (if x7_5.length + y157.length < 140737488355328 then (quote_Hex.l0 kj22 x0_7 x5_12 x6_15 (x7_5 ++ y157) (x0_7.size : Int) (wrap64 (x33_5 + 1)) a1_0 a1_1 a1_2 a1_3 a1_4 a1_5 a1_6 a1_7) else (none))) else (none)) else (none)) else (none)) else (none)) else (none)) else (none)))) = some r := by rw [if_neg (show ¬ (false = true) by decide)] at H; exact H
               clear H
               have H := H1
               clear H1
               by_cases c92 : a1_3 = true
               ·
                subst c92
                have H1 : (if x7_5.length + x6_15.size < 140737488355328 then ((some (x7_5 ++ bytesOf x6_15 : List Int)).bind fun y139 => (if 0 ≤ x33_5 then (if x33_5 < (x0_7.size : Int) then (if 0 ≤ ((bt x0_7 x33_5) / 16) then (if ((bt x0_7 x33_5) / 16) < (x5_12.size : Int) then (if 0 ≤ (Go.bits .and .u8 (bt x0_7 x33_5) 15) then (if (Go.bits .and .u8 (bt x0_7 x33_5) 15) < (x5_12.size : Int) then ((some (([bt x5_12 ((bt x0_7 x33_5) / 16), bt x5_12 (Go.bits .and .u8 (bt x0_7 x33_5) 15)] : List Int) : List Int)).bind fun y142 => (if y139.length + y142.length < 140737488355328 then (quote_Hex.l0 kj22 x0_7 x5_12 x6_15 (y139 ++ y142) (x0_7.size : Int) (wrap64 (x33_5 + 1)) a1_0 a1_1 a1_2 true a1_4 a1_5 a1_6 a1_7) else (none))) else (none)) else (none)) else (none)) else (none)) else (none)) else (none))) else (none)) = some r := by rw [if_pos rfl] at H; exact H
                clear H
                have H := H1
                clear H1
                by_cases c93 : x7_5.length + x6_15.size < 140737488355328
                ·
                 rw [if_pos c93] at H
                 have LMc93 := Aside0.mk c93
                 clear c93
                 obtain ⟨y139, hy139⟩ : ∃ y_ : List Int, y_ = (x7_5 ++ bytesOf x6_15) := ⟨_, rfl⟩
                 replace H : (if 0 ≤ x33_5 then (if x33_5 < (x0_7.size : Int) then (if 0 ≤ ((bt x0_7 x33_5) / 16) then (if ((bt x0_7 x33_5) / 16) < (x5_12.size : Int) then (if 0 ≤ (Go.bits .and .u8 (bt x0_7 x33_5) 15) then (if (Go.bits .and .u8 (bt x0_7 x33_5) 15) < (x5_12.size : Int) then ((some (([bt x5_12 ((bt x0_7 x33_5) / 16), bt x5_12 (Go.bits .and .u8 (bt x0_7 x33_5) 15)] : List Int) : List Int)).bind fun y142 => (if y139.length + y142.length < 140737488355328 then (quote_Hex.l0 kj22 x0_7 x5_12 x6_15 (y139 ++ y142) (x0_7.size : Int) (wrap64 (x33_5 + 1)) a1_0 a1_1 a1_2 true a1_4 a1_5 a1_6 a1_7) else (none))) else (none)) else (none)) else (none)) else (none)) else (none)) else (none)) = some r := by first | (rw [hy139]; with_reducible exact H) | (have H2_ := (Option.bind_some _ _).symm.trans H; rw [hy139]; with_reducible exact H2_) | (have H2_ := (Option.bind_some _ _).symm.trans H; with_reducible exact H2_) | with_reducible exact H | (rw [hy139]; exact H) | exact H
                 have Ny139 := Aside0.mk hy139
                 clear hy139
                 by_cases c94 : 0 ≤ x33_5
                 ·
                  rw [if_pos c94] at H
                  have c94b0 : decide (0 ≤ x33_5) = true := decide_eq_true c94
                  clear c94
                  by_cases c95 : x33_5 < (x0_7.size : Int)
                  ·
                   rw [if_pos c95] at H
                   have c95b0 : decide (x33_5 < (x0_7.size : Int)) = true := decide_eq_true c95
                   clear c95
                   obtain ⟨ji97, hji97⟩ : ∃ j_ : Int, ((bt x0_7 x33_5) / 16) = j_ := ⟨_, rfl⟩
                   replace H : (if 0 ≤ (ji97) then (if (ji97) < (x5_12.size : Int) then (if 0 ≤ (Go.bits .and .u8 (bt x0_7 x33_5) 15) then (if (Go.bits .and .u8 (bt x0_7 x33_5) 15) < (x5_12.size : Int) then ((some (([bt x5_12 (ji97), bt x5_12 (Go.bits .and .u8 (bt x0_7 x33_5) 15)] : List Int) : List Int)).bind fun y142 => (if y139.length + y142.length < 140737488355328 then (quote_Hex.l0 kj22 x0_7 x5_12 x6_15 (y139 ++ y142) (x0_7.size : Int) (wrap64 (x33_5 + 1)) a1_0 a1_1 a1_2 true a1_4 a1_5 a1_6 a1_7) else (none))) else (none)) else (none)) else (none)) else (none)) = some r := by first | (rw [hji97] at H; exact H) | (simp only [hji97] at H ⊢; exact H)
                   by_cases c98 : 0 ≤ (ji97)
                   ·
                    rw [if_pos c98] at H
                    have c98b0 : decide (0 ≤ (ji97)) = true := decide_eq_true c98
                    clear c98
                    by_cases c99 : (ji97) < (x5_12.size : Int)
                    ·
                     rw [if_pos c99] at H
                     have c99b0 : decide ((ji97) < (x5_12.size : Int)) = true := decide_eq_true c99
                     clear c99
                     by_cases c102 : 0 ≤ (Go.bits .and .u8 (bt x0_7 x33_5) 15)
                     ·
                      rw [if_pos c102] at H
                      have c102b0 : decide (0 ≤ (Go.bits .and .u8 (bt x0_7 x33_5) 15)) = true := decide_eq_true c102
                      clear c102
                      by_cases c103 : (Go.bits .and .u8 (bt x0_7 x33_5) 15) < (x5_12.size : Int)
                      ·
                       rw [if_pos c103] at H
                       have c103b0 : decide ((Go.bits .and .u8 (bt x0_7 x33_5) 15) < (x5_12.size : Int)) = true := decide_eq_true c103
                       clear c103
                       obtain ⟨y142, hy142⟩ : ∃ y_ : List Int, y_ = (([bt x5_12 (ji97), bt x5_12 (Go.bits .and .u8 (bt x0_7 x33_5) 15)] : List Int)) := ⟨_, rfl⟩
                       replace H : (if y139.length + y142.length < 140737488355328 then (quote_Hex.l0 kj22 x0_7 x5_12 x6_15 (y139 ++ y142) (x0_7.size : Int) (wrap64 (x33_5 + 1)) a1_0 a1_1 a1_2 true a1_4 a1_5 a1_6 a1_7) else (none)) = some r := by first | (rw [hy142]; with_reducible exact H) | (have H2_ := (Option.bind_some _ _).symm.trans H; rw [hy142]; with_reducible exact H2_) | (have H2_ := (Option.bind_some _ _).symm.trans H; with_reducible exact H2_) | with_reducible exact H | (rw [hy142]; exact H) | exact H
                       have Ny142 := Aside0.mk hy142
                       clear hy142
                       by_cases c105 : y139.length + y142.length < 140737488355328
                       ·
                        rw [if_pos c105] at H
                        have LMc105 := Aside0.mk c105
                        clear c105
                        obtain ⟨y145, hy145⟩ : ∃ y_ : List Int, y_ = (y139 ++ y142) := ⟨_, rfl⟩
                        replace H : (quote_Hex.l0 kj22 x0_7 x5_12 x6_15 y145 (x0_7.size : Int) (wrap64 (x33_5 + 1)) a1_0 a1_1 a1_2 true a1_4 a1_5 a1_6 a1_7) = some r := by first | (rw [hy145]; with_reducible exact H) | (have H2_ := (Option.bind_some _ _).symm.trans H; rw [hy145]; with_reducible exact H2_) | (have H2_ := (Option.bind_some _ _).symm.trans H; with_reducible exact H2_) | with_reducible exact H | (rw [hy145]; exact H) | exact H
                        have Ny145 := Aside0.mk hy145
                        clear hy145
                        have H' := Aside0.mk H
                        clear H
                        have hcz106_0 : wc.cell? ⟨gb110, 0, none⟩ = some (.bool a1_0) := (blk_cell BK110.out 0).trans rfl
                        have hcz106_1 : wc.cell? ⟨gb110, 1, none⟩ = some (.bool a1_1) := (blk_cell BK110.out 1).trans rfl
                        have hcz106_2 : wc.cell? ⟨gb110, 2, none⟩ = some (.bool a1_2) := (blk_cell BK110.out 2).trans rfl
                        have hcz106_3 : wc.cell? ⟨gb110, 3, none⟩ = some (.bool true) := (blk_cell BK110.out 3).trans rfl
                        have hcz106_4 : wc.cell? ⟨gb110, 4, none⟩ = some (.bool a1_4) := (blk_cell BK110.out 4).trans rfl
                        have hcz106_5 : wc.cell? ⟨gb110, 5, none⟩ = some (.int .i64 a1_5) := (blk_cell BK110.out 5).trans rfl
                        have hcz106_6 : wc.cell? ⟨gb110, 6, none⟩ = some (.int .i64 a1_6) := (blk_cell BK110.out 6).trans rfl
                        have hcz106_7 : wc.cell? ⟨gb110, 7, none⟩ = some (.int .i32 a1_7) := (blk_cell BK110.out 7).trans rfl
                        have hfz106_0 := blk_frozen BK110.out 0
                        have hfz106_1 := blk_frozen BK110.out 1
                        have hfz106_2 := blk_frozen BK110.out 2
                        have hfz106_3 := blk_frozen BK110.out 3
                        have hfz106_4 := blk_frozen BK110.out 4
                        have hfz106_5 := blk_frozen BK110.out 5
                        have hfz106_6 := blk_frozen BK110.out 6
                        have hfz106_7 := blk_frozen BK110.out 7
                        try go_wp2_with (first | (at_builtin; refine print_append_str (w0 := w) w.heap.size rfl (.tmp 51) _ 44 9 5 rfl Tryd.underlying44 Tryd.underlying9 info5 u7 x7_5 x6_15 rfl rfl ?aO ?aB ?aS ?aL ?_; (case aB => exact (by repeat (first | (with_reducible first | exact HB.out | apply below_alloc | apply pw_below_drewN | apply below_drew1 | refine below_set ?_ GE110.out) | exact HB.out))); (case aO => exact (Kd.own_of_R (by (with_reducible repeat (first | apply Kd.R_alloc | apply Kd.R_drewN | apply Kd.R_drew)); exact HO_7.out))); (case aS => exact (below_size (by repeat (first | (with_reducible first | exact HB.out | apply below_alloc | apply pw_below_drewN | apply below_drew1 | refine below_set ?_ GE110.out) | exact HB.out)))); (case aL => have := LMc93.out; omega); intro v140 w107 ho0 hb hg; have ho := Kd.R_of_own (h1 := fun _ => rfl) (ok := fun _ => True) ho0 (fun _ _ => trivial); clear ho0; have hat := True.intro; rw [← Ny139.out] at ho; change Kd.R (Kd.int .u8) 5 w107 w.heap.size (fun _ => True) v140 y139 at ho; have n0_ := Aside0.mk (blk_grown (g := gb110) (o := .cells #[.bool a1_0, .bool a1_1, .bool a1_2, .bool true, .bool a1_4, .int .i64 a1_5, .int .i64 a1_6, .int .i32 a1_7] 28 (0, 0)) (by (with_reducible repeat (first | refine blk_drewN ?_ _ | refine blk_drew ?_ | refine blk_alloc ?_ _)); exact BK110.out) hg (Kd.R_ne HO_7.out BK110.out (by decide))); have n1_ := Aside0.mk (hb); have n2_ := Aside0.mk (ho); clear BK110; clear HB; clear HO_7; have BK110 := n0_; have HB := n1_; have HO141 := n2_; clear n0_ n1_ n2_; clear ho hb hg hat))
                        have n0_ := Aside0.mk (Kd.R_drew HO141.out)
                        have n1_ := Aside0.mk (blk_drew BK110.out)
                        have n2_ := Aside0.mk (below_drew1 HB.out)
                        clear HO141
                        clear BK110
                        clear HB
                        have HO141 := n0_
                        have BK110 := n1_
                        have HB := n2_
                        clear n0_ n1_ n2_
                        have p96 : 0 ≤ (x33_5 : Int) := of_decide_eq_true (by first | (with_reducible assumption) | assumption)
                        have q96 : x33_5 < (x0_7.size : Int) := of_decide_eq_true (by first | (with_reducible assumption) | assumption)
                        have hx96 := bt_at x0_7 x33_5
                        replace p96 := eq_true p96
                        replace q96 := eq_true q96
                        have p100 : 0 ≤ ((ji97) : Int) := of_decide_eq_true (by first | (with_reducible assumption) | assumption)
                        have q100 : (ji97) < (x5_12.size : Int) := of_decide_eq_true (by first | (with_reducible assumption) | assumption)
                        have hx100 := bt_at x5_12 (ji97)
                        replace p100 := eq_true p100
                        replace q100 := eq_true q100
                        have p101 : 0 ≤ (x33_5 : Int) := of_decide_eq_true (by first | (with_reducible assumption) | assumption)
                        have q101 : x33_5 < (x0_7.size : Int) := of_decide_eq_true (by first | (with_reducible assumption) | assumption)
                        have hx101 := bt_at x0_7 x33_5
                        replace p101 := eq_true p101
                        replace q101 := eq_true q101
                        have p104 : 0 ≤ ((Go.bits .and .u8 (bt x0_7 x33_5) 15) : Int) := of_decide_eq_true (by first | (with_reducible assumption) | assumption)
                        have q104 : (Go.bits .and .u8 (bt x0_7 x33_5) 15) < (x5_12.size : Int) := of_decide_eq_true (by first | (with_reducible assumption) | assumption)
                        have hx104 := bt_at x5_12 (Go.bits .and .u8 (bt x0_7 x33_5) 15)
                        replace p104 := eq_true p104
                        replace q104 := eq_true q104
                        refine start_ (n := 16) (S := fun w' => True) (ds := []) #[false, false, false, false, false, false, false, false, false, false, false, false, false, false, false, false] (by kernel_rfl) rfl rfl trivial (fun hHeld => ?_); refine with_tabW quote_Hex.tab18 quote_Hex.bits18 (fun HT_ HW_ => ?_)
                        generalize w107.drew = w108 at HO141 BK110 HB hHeld ⊢
                        refine pure_ (i := 0) (N := some 54) (v := ?_) (a' := ?_) #[true, false, false, false, false, false, false, false, false, false, false, false, false, false, false, false] rfl rfl (any_of HT_.out (by kernel_rfl)) (fun _ _ _ h => h) (Or.inl ⟨by rfl, ?_⟩) ?_ ?_
                        rotate_left
                        ·
                         intro w'
                         go_simp
                         with_reducible rfl
                        rotate_left
                        ·
                         simp only [Act.put, List.setIfInBounds_toArray, List.set_cons_zero, List.set_cons_succ, i64_w, i32_w]
                         rfl
                        refine pure_ (i := 1) (N := some 55) (v := ?_) (a' := ?_) #[true, true, false, false, false, false, false, false, false, false, false, false, false, false, false, false] rfl rfl (any_of HT_.out (by kernel_rfl)) (fun _ _ _ h => h) (Or.inl ⟨by rfl, ?_⟩) ?_ ?_
                        rotate_left
                        ·
                         intro w'
                         go_simp
                         with_reducible rfl
                        rotate_left
                        ·
                         simp only [Act.put, List.setIfInBounds_toArray, List.set_cons_zero, List.set_cons_succ, i64_w, i32_w]
                         rfl
                        refine pure_ (i := 2) (N := some 56) (v := ?_) (a' := ?_) #[true, true, true, false, false, false, false, false, false, false, false, false, false, false, false, false] rfl rfl (any_of HT_.out (by kernel_rfl)) (fun _ _ _ h => h) (Or.inl ⟨by rfl, ?_⟩) ?_ ?_
                        rotate_left
                        ·
                         intro w'
                         go_simp
                         with_reducible rfl
                        rotate_left
                        ·
                         simp only [Act.put, List.setIfInBounds_toArray, List.set_cons_zero, List.set_cons_succ, i64_w, i32_w]
                         rfl
                        refine pure_ (i := 3) (N := some 57) (v := ?_) (a' := ?_) #[true, true, true, true, false, false, false, false, false, false, false, false, false, false, false, false] rfl rfl (any_of HT_.out (by kernel_rfl)) (fun _ _ _ h => h) (Or.inl ⟨by rfl, ?_⟩) ?_ ?_
                        rotate_left
                        ·
                         intro w'
                         go_simp
                         with_reducible rfl
                        rotate_left
                        ·
                         simp only [Act.put, List.setIfInBounds_toArray, List.set_cons_zero, List.set_cons_succ, i64_w, i32_w]
                         rfl
                        refine pure_ (i := 7) (N := some 61) (v := ?_) (a' := ?_) #[true, true, true, true, false, false, false, true, false, false, false, false, false, false, false, false] rfl rfl (any_of HT_.out (by kernel_rfl)) (fun _ _ _ h => h) (Or.inl ⟨by rfl, ?_⟩) ?_ ?_
                        rotate_left
                        ·
                         intro w'
                         go_simp
                         with_reducible rfl
                        rotate_left
                        ·
                         simp only [Act.put, List.setIfInBounds_toArray, List.set_cons_zero, List.set_cons_succ, i64_w, i32_w]
                         rfl
                        refine pure_ (i := 8) (N := some 62) (v := ?_) (a' := ?_) #[true, true, true, true, false, false, false, true, true, false, false, false, false, false, false, false] rfl rfl (any_of HT_.out (by kernel_rfl)) (fun _ _ _ h => h) (Or.inl ⟨by rfl, ?_⟩) ?_ ?_
                        rotate_left
                        ·
                         intro w'
                         go_simp
                         with_reducible rfl
                        rotate_left
                        ·
                         simp only [Act.put, List.setIfInBounds_toArray, List.set_cons_zero, List.set_cons_succ, i64_w, i32_w]
                         rfl
                        refine pure_ (i := 9) (N := some 63) (v := ?_) (a' := ?_) #[true, true, true, true, false, false, false, true, true, true, false, false, false, false, false, false] rfl rfl (any_of HT_.out (by kernel_rfl)) (fun _ _ _ h => h) (Or.inl ⟨by rfl, ?_⟩) ?_ ?_
                        rotate_left
                        ·
                         intro w'
                         go_simp
                         with_reducible rfl
                        rotate_left
                        ·
                         simp only [Act.put, List.setIfInBounds_toArray, List.set_cons_zero, List.set_cons_succ, i64_w, i32_w]
                         rfl
                        refine take_ (i := 4) (N := some 58) (v := ?_) (a' := ?_) #[true, true, true, true, true, false, false, true, true, true, false, false, false, false, false, false] rfl rfl (take_ofW HT_.out HW_.out (by kernel_rfl)) (fun _ _ _ h => h) (Or.inl ⟨by rfl, ?_⟩) hHeld ?_ ?_
                        rotate_left
                        ·
                         intro w' _
                         go_simp
                         with_reducible rfl
                        rotate_left
                        ·
                         simp only [Act.put, List.setIfInBounds_toArray, List.set_cons_zero, List.set_cons_succ, i64_w, i32_w]
                         rfl
                        refine pure_ (i := 5) (N := some 59) (v := ?_) (a' := ?_) #[true, true, true, true, true, true, false, true, true, true, false, false, false, false, false, false] rfl rfl (any_of HT_.out (by kernel_rfl)) (fun _ _ _ h => h) (Or.inl ⟨by rfl, ?_⟩) ?_ ?_
                        rotate_left
                        ·
                         intro w'
                         go_simp
                         with_reducible rfl
                        rotate_left
                        ·
                         simp only [Act.put, List.setIfInBounds_toArray, List.set_cons_zero, List.set_cons_succ, i64_w, i32_w]
                         rfl
                        refine take_ (i := 6) (N := some 60) (v := ?_) (a' := ?_) #[true, true, true, true, true, true, true, true, true, true, false, false, false, false, false, false] rfl rfl (take_ofW HT_.out HW_.out (by kernel_rfl)) (fun _ _ _ h => h) (Or.inl ⟨by rfl, ?_⟩) hHeld ?_ ?_
                        rotate_left
                        ·
                         intro w' _
                         go_simp
                         with_reducible rfl
                        rotate_left
                        ·
                         simp only [Act.put, List.setIfInBounds_toArray, List.set_cons_zero, List.set_cons_succ, i64_w, i32_w]
                         rfl
                        refine take_ (i := 10) (N := some 64) (v := ?_) (a' := ?_) #[true, true, true, true, true, true, true, true, true, true, true, false, false, false, false, false] rfl rfl (take_ofW HT_.out HW_.out (by kernel_rfl)) (fun _ _ _ h => h) (Or.inl ⟨by rfl, ?_⟩) hHeld ?_ ?_
                        rotate_left
                        ·
                         intro w' _
                         go_simp
                         with_reducible rfl
                        rotate_left
                        ·
                         simp only [Act.put, List.setIfInBounds_toArray, List.set_cons_zero, List.set_cons_succ, i64_w, i32_w]
                         rfl
                        refine pure_ (i := 11) (N := some 65) (v := ?_) (a' := ?_) #[true, true, true, true, true, true, true, true, true, true, true, true, false, false, false, false] rfl rfl (any_of HT_.out (by kernel_rfl)) (fun _ _ _ h => h) (Or.inl ⟨by rfl, ?_⟩) ?_ ?_
                        rotate_left
                        ·
                         intro w'
                         go_simp
                         with_reducible rfl
                        rotate_left
                        ·
                         simp only [Act.put, List.setIfInBounds_toArray, List.set_cons_zero, List.set_cons_succ, i64_w, i32_w]
                         rfl
                        refine take_ (i := 12) (N := some 66) (v := ?_) (a' := ?_) #[true, true, true, true, true, true, true, true, true, true, true, true, true, false, false, false] rfl rfl (take_ofW HT_.out HW_.out (by kernel_rfl)) (fun _ _ _ h => h) (Or.inl ⟨by rfl, ?_⟩) hHeld ?_ ?_
                        rotate_left
                        ·
                         intro w' _
                         go_simp
                         with_reducible rfl
                        rotate_left
                        ·
                         simp only [Act.put, List.setIfInBounds_toArray, List.set_cons_zero, List.set_cons_succ, i64_w, i32_w]
                         rfl
                        refine one_ (i := 13) (N := some 67) #[true, true, true, true, true, true, true, true, true, true, true, true, true, true, false, false] rfl rfl (one_of HT_.out (by kernel_rfl)) (by decide) (fun K hK => ?_)
                        refine Kd.R_lit_step (Kd.int .u8) _ 5 ?hg (N := 67) ?hd (xs := ([bt x5_12 (ji97), bt x5_12 (Go.bits .and .u8 (bt x0_7 x33_5) 15)] : List Int)) (inner := [.int .u8 (bt x5_12 (ji97)), .int .u8 (bt x5_12 (Go.bits .and .u8 (bt x0_7 x33_5) 15))]) (ok := fun _ => True) (okp := fun _ => True) ?hr ?hp (fun _ hk => hk) trivial (Below.refl _ _) (Nat.le_refl _) (by simp) ?_; (case hd => rfl); (case hg => rfl); (case hr => first | (go_simp; done) | (go_simp; rfl)); (case hp => exact (Reps.one (show Kd.M (Kd.int .u8) _ _ _ (bt x5_12 (ji97)) [.int .u8 (bt x5_12 (ji97))] from rfl) (Reps.one (show Kd.M (Kd.int .u8) _ _ _ (bt x5_12 (Go.bits .and .u8 (bt x0_7 x33_5) 15)) [.int .u8 (bt x5_12 (Go.bits .and .u8 (bt x0_7 x33_5) 15))] from rfl) (Reps.none _ _))))
                        intro v143 w109 ho110 hb hg_ hnew_
                        clear hg_ hnew_
                        (first | rw [← Ny142.out] at ho110 | (simp only [Int.reduceToNat] at ho110; rw [← Ny142.out] at ho110))
                        have n0_ := Aside0.mk (Kd.R_elder' (by (with_reducible repeat (first | apply Kd.R_alloc | apply Kd.R_drewN | apply Kd.R_drew)); exact HO141.out) (Kd.R_base ho110) hb)
                        have n1_ := Aside0.mk (Kd.R_lower (Kd.R_new' ho110 (Kd.R_lt (by (with_reducible repeat (first | apply Kd.R_alloc | apply Kd.R_drewN | apply Kd.R_drew)); exact HO141.out))) (below_size (by repeat (first | (with_reducible first | exact HB.out | apply below_alloc | apply pw_below_drewN | apply below_drew1 | refine below_set ?_ GE110.out) | exact HB.out))))
                        have n2_ := Aside0.mk (blk_below (g := gb110) (o := .cells #[.bool a1_0, .bool a1_1, .bool a1_2, .bool true, .bool a1_4, .int .i64 a1_5, .int .i64 a1_6, .int .i32 a1_7] 28 (0, 0)) (by (with_reducible repeat (first | refine blk_drewN ?_ _ | refine blk_drew ?_ | refine blk_alloc ?_ _)); exact BK110.out) hb)
                        have n3_ := Aside0.mk (below_step (by repeat (first | (with_reducible first | exact HB.out | apply below_alloc | apply pw_below_drewN | apply below_drew1 | refine below_set ?_ GE110.out) | exact HB.out)) hb)
                        clear HO141
                        clear BK110
                        clear HB
                        have HO141 := n0_
                        have HO144 := n1_
                        have BK110 := n2_
                        have HB := n3_
                        clear n0_ n1_ n2_ n3_
                        clear hb ho110
                        obtain ⟨Ao112, co112, eo112⟩ := Kd.R_slice HO144.out
                        (first | subst eo112 | (injection eo112 with f1_ f2_ f3_; have f4_ := f1_.symm; have f5_ := f3_.symm; clear f1_ f2_ f3_; subst f4_; subst f5_))
                        refine hK.out _ _ trivial (fun hHeld => ?_)
                        clear hK K
                        refine norm_ (a' := ?_) ?_ ?_
                        rotate_left
                        ·
                         show Act.put _ (some 67) _ = _
                         simp only [Act.put, List.setIfInBounds_toArray, List.set_cons_zero, List.set_cons_succ, i64_w, i32_w]
                         rfl
                        refine one_ (i := 14) (N := some 68) #[true, true, true, true, true, true, true, true, true, true, true, true, true, true, true, false] rfl rfl (one_of HT_.out (by kernel_rfl)) (by decide) (fun K hK => ?_)
                        refine Kd.R_append_rows_step (Kd.int .u8) (w0 := w) w.heap.size (by rfl) (.tmp 54) (.tmp 67) 44 5 (.int .u8 0) 1 rfl Tryd.underlying44 info5 rfl (by decide) (by omega) v140 y139 y142 _ _ _ (fun k_ => some k_ ≠ (.slice Ao112 y142.length co112 : Value).ownBlock) (fun _ => False) rfl rfl ?aO ?aR (fun _ _ h => h) (fun _ h => h.elim) ?aF ?aB ?aS ?aL ?_
                        (case aR => repeat (first | exact (Kd.R_reads' HO144.out).2.2 | (with_reducible refine Kd.C_alloc ?_ _) | (with_reducible refine Kd.C_drewN ?_ _) | (with_reducible refine Kd.C_drew ?_)))
                        (case aB => exact (by repeat (first | (with_reducible first | exact HB.out | apply below_alloc | apply pw_below_drewN | apply below_drew1 | refine below_set ?_ GE110.out) | exact HB.out)))
                        (case aF => exact (fun k_ hk => Kd.fresh' (Kd.R_lt (by (with_reducible repeat (first | apply Kd.R_alloc | apply Kd.R_drewN | apply Kd.R_drew)); exact HO144.out)) k_ hk))
                        (case aO => exact (by (with_reducible repeat (first | apply Kd.R_alloc | apply Kd.R_drewN | apply Kd.R_drew)); exact Kd.R_mono HO141.out (fun _ hk => hk.2)))
                        (case aS => exact (below_size (by repeat (first | (with_reducible first | exact HB.out | apply below_alloc | apply pw_below_drewN | apply below_drew1 | refine below_set ?_ GE110.out) | exact HB.out))))
                        (case aL => have := LMc105.out; omega)
                        intro v146 w111 ho hb hg hat
                        rw [← Ny145.out] at ho
                        have n0_ := Aside0.mk (blk_grown (g := gb110) (o := .cells #[.bool a1_0, .bool a1_1, .bool a1_2, .bool true, .bool a1_4, .int .i64 a1_5, .int .i64 a1_6, .int .i32 a1_7] 28 (0, 0)) (by (with_reducible repeat (first | refine blk_drewN ?_ _ | refine blk_drew ?_ | refine blk_alloc ?_ _)); exact BK110.out) hg (Kd.R_ne HO141.out BK110.out (by decide)))
                        have n1_ := Aside0.mk (Kd.R_after (ok := (fun _ => True)) (by (with_reducible repeat (first | apply Kd.R_alloc | apply Kd.R_drewN | apply Kd.R_drew)); exact HO144.out) hg hat)
                        have n2_ := Aside0.mk (hb)
                        have n3_ := Aside0.mk (ho)
                        clear BK110
                        clear HO144
                        clear HB
                        clear HO141
                        have BK110 := n0_
                        have HO144 := n1_
                        have HB := n2_
                        have HO147 := n3_
                        clear n0_ n1_ n2_ n3_
                        clear ho hb hg hat
                        refine hK.out _ _ trivial (fun hHeld => ?_)
                        clear hK K
                        refine norm_ (a' := ?_) ?_ ?_
                        rotate_left
                        ·
                         show Act.put _ (some 68) _ = _
                         simp only [Act.put, List.setIfInBounds_toArray, List.set_cons_zero, List.set_cons_succ, i64_w, i32_w]
                         rfl
                        refine pure_ (i := 15) (N := some 7) (v := ?_) (a' := ?_) #[true, true, true, true, true, true, true, true, true, true, true, true, true, true, true, true] rfl rfl (any_of HT_.out (by kernel_rfl)) (fun _ _ _ h => h) (Or.inl ⟨by rfl, ?_⟩) ?_ ?_
                        rotate_left
                        ·
                         intro w'
                         go_simp
                         with_reducible rfl
                        rotate_left
                        ·
                         simp only [Act.put, List.setIfInBounds_toArray, List.set_cons_zero, List.set_cons_succ, i64_w, i32_w]
                         rfl
                        refine done_ (done_of HT_.out (by kernel_rfl)) ?_
                        try go_wp2
                        go_roundg kj22
                        case measure => have := HJ2.out; have := HJ7.out; have := HJ12.out; have := HJ15.out; have := HK5.out; have := HJ22.out; omega
                        case rel => exact ⟨(y145), (wrap64 (x33_5 + 1)), (by first | rfl | (simp; done) | (simp [*]; done)), H', ⟨by have := HJ2.out; have := HJ7.out; have := HJ12.out; have := HJ15.out; have := HK5.out; have := HJ22.out; omega⟩, ⟨by (with_reducible repeat (first | apply Kd.R_alloc | apply Kd.R_drewN | apply Kd.R_drew)); exact Kd.R_mono HO147.out (fun _ hk => trivial)⟩, ⟨by (with_reducible repeat (first | refine blk_drewN ?_ _ | refine blk_drew ?_ | refine blk_alloc ?_ _)); exact BK110.out⟩, ⟨by repeat (first | (with_reducible first | exact HB.out | apply below_alloc | apply pw_below_drewN | apply below_drew1 | refine below_set ?_ GE110.out) | exact HB.out)⟩⟩
                       ·
                        rw [if_neg c105] at H
                        exact absurd H (by simp)
                      ·
                       rw [if_neg c103] at H
                       exact absurd H (by simp)
                     ·
                      rw [if_neg c102] at H
                      exact absurd H (by simp)
                    ·
                     rw [if_neg c99] at H
                     exact absurd H (by simp)
                   ·
                    rw [if_neg c98] at H
                    exact absurd H (by simp)
                  ·
                   rw [if_neg c95] at H
                   exact absurd H (by simp)
                 ·
                  rw [if_neg c94] at H
                  exact absurd H (by simp)
                ·
                 rw [if_neg c93] at H
                 exact absurd H (by simp)
               ·
                replace c92 := Bool.eq_false_iff.mpr c92
                subst c92
                have H1 : (if x33_5 = 0 then (if x7_5.length + x6_15.size < 140737488355328 then ((some (x7_5 ++ bytesOf x6_15 : List Int)).bind fun y148 => (if 0 ≤ x33_5 then (if x33_5 < (x0_7.size : Int) then (if 0 ≤ ((bt x0_7 x33_5) / 16) then (if ((bt x0_7 x33_5) / 16) < (x5_12.size : Int) then (if 0 ≤ (Go.bits .and .u8 (bt x0_7 x33_5) 15) then (if (Go.bits .and .u8 (bt x0_7 x33_5) 15) < (x5_12.size : Int) then ((some (([bt x5_12 ((bt x0_7 x33_5) / 16), bt x5_12 (Go.bits .and .u8 (bt x0_7 x33_5) 15)] : List Int) : List Int)).bind fun y151 => (if y148.length + y151.length < 140737488355328 then (quote_Hex.l0 kj22 x0_7 x5_12 x6_15 (y148 ++ y151) (x0_7.size : Int) (wrap64 (x33_5 + 1)) a1_0 a1_1 a1_2 false a1_4 a1_5 a1_6 a1_7) else (none))) else (none)) else (none)) else (none)) else (none)) else (none)) else (none))) else (none)) else (if 0 ≤ x33_5 then (if x33_5 < (x0_7.size : Int) then (if 0 ≤ ((bt x0_7 x33_5) / 16) then (if ((bt x0_7 x33_5) / 16) < (x5_12.size : Int) then (if 0 ≤ (Go.bits .and .u8 (bt x0_7 x33_5) 15) then (if (Go.bits .and .u8 (bt x0_7 x33_5) 15) < (x5_12.size : Int) then ((some (([bt x5_12 ((bt x0_7 x33_5) / 16), bt x5_12 (Go.bits .and .u8 (bt x0_7 x33_5) 15)] : List Int) : List Int)).bind fun y157 => (if x7_5.length + y157.length < 140737488355328 then (quote_Hex.l0 kj22 x0_7 x5_12 x6_15 (x7_5 ++ y157) (x0_7.size : Int) (wrap64 (x33_5 + 1)) a1_0 a1_1 a1_2 false a1_4 a1_5 a1_6 a1_7) else (none))) else (none)) else (none)) else (none)) else (none)) else (none)) else (none))) = some r := by rw [if_neg (show ¬ (false = true) by decide)] at H; exact H
                clear H
                have H := H1
                clear H1
                by_cases c113 : x33_5 = 0
                ·
                 rw [if_pos c113] at H
                 have c113b0 : (x33_5 == 0) = true := beq_iff_eq.mpr c113
                 have c113b1 : (x33_5 != 0) = false := bne_eq_false_iff_eq.mpr c113
                 clear c113
                 by_cases c114 : x7_5.length + x6_15.size < 140737488355328
                 ·
                  rw [if_pos c114] at H
                  have LMc114 := Aside0.mk c114
                  clear c114
                  obtain ⟨y148, hy148⟩ : ∃ y_ : List Int, y_ = (x7_5 ++ bytesOf x6_15) := ⟨_, rfl⟩
                  replace H : (if 0 ≤ x33_5 then (if x33_5 < (x0_7.size : Int) then (if 0 ≤ ((bt x0_7 x33_5) / 16) then (if ((bt x0_7 x33_5) / 16) < (x5_12.size : Int) then (if 0 ≤ (Go.bits .and .u8 (bt x0_7 x33_5) 15) then (if (Go.bits .and .u8 (bt x0_7 x33_5) 15) < (x5_12.size : Int) then ((some (([bt x5_12 ((bt x0_7 x33_5) / 16), bt x5_12 (Go.bits .and .u8 (bt x0_7 x33_5) 15)] : List Int) : List Int)).bind fun y151 => (if y148.length + y151.length < 140737488355328 then (quote_Hex.l0 kj22 x0_7 x5_12 x6_15 (y148 ++ y151) (x0_7.size : Int) (wrap64 (x33_5 + 1)) a1_0 a1_1 a1_2 false a1_4 a1_5 a1_6 a1_7) else (none))) else (none)) else (none)) else (none)) else (none)) else (none)) else (none)) = some r := by first | (rw [hy148]; with_reducible exact H) | (have H2_ := (Option.bind_some _ _).symm.trans H; rw [hy148]; with_reducible exact H2_) | (have H2_ := (Option.bind_some _ _).symm.trans H; with_reducible exact H2_) | with_reducible exact H | (rw [hy148]; exact H) | exact H
                  have Ny148 := Aside0.mk hy148
                  clear hy148
                  by_cases c115 : 0 ≤ x33_5
                  ·
                   rw [if_pos c115] at H
                   have c115b0 : decide (0 ≤ x33_5) = true := decide_eq_true c115
                   clear c115
                   by_cases c116 : x33_5 < (x0_7.size : Int)
                   ·
                    rw [if_pos c116] at H
                    have c116b0 : decide (x33_5 < (x0_7.size : Int)) = true := decide_eq_true c116
                    clear c116
                    obtain ⟨ji118, hji118⟩ : ∃ j_ : Int, ((bt x0_7 x33_5) / 16) = j_ := ⟨_, rfl⟩
                    replace H : (if 0 ≤ (ji118) then (if (ji118) < (x5_12.size : Int) then (if 0 ≤ (Go.bits .and .u8 (bt x0_7 x33_5) 15) then (if (Go.bits .and .u8 (bt x0_7 x33_5) 15) < (x5_12.size : Int) then ((some (([bt x5_12 (ji118), bt x5_12 (Go.bits .and .u8 (bt x0_7 x33_5) 15)] : List Int) : List Int)).bind fun y151 => (if y148.length + y151.length < 140737488355328 then (quote_Hex.l0 kj22 x0_7 x5_12 x6_15 (y148 ++ y151) (x0_7.size : Int) (wrap64 (x33_5 + 1)) a1_0 a1_1 a1_2 false a1_4 a1_5 a1_6 a1_7) else (none))) else (none)) else (none)) else (none)) else (none)) = some r := by first | (rw [hji118] at H; exact H) | (simp only [hji118] at H ⊢; exact H)
                    by_cases c119 : 0 ≤ (ji118)
                    ·
                     rw [if_pos c119] at H
                     have c119b0 : decide (0 ≤ (ji118)) = true := decide_eq_true c119
                     clear c119
                     by_cases c120 : (ji118) < (x5_12.size : Int)
                     ·
                      rw [if_pos c120] at H
                      have c120b0 : decide ((ji118) < (x5_12.size : Int)) = true := decide_eq_true c120
                      clear c120
                      by_cases c123 : 0 ≤ (Go.bits .and .u8 (bt x0_7 x33_5) 15)
                      ·
                       rw [if_pos c123] at H
                       have c123b0 : decide (0 ≤ (Go.bits .and .u8 (bt x0_7 x33_5) 15)) = true := decide_eq_true c123
                       clear c123
                       by_cases c124 : (Go.bits .and .u8 (bt x0_7 x33_5) 15) < (x5_12.size : Int)
                       ·
                        rw [if_pos c124] at H
                        have c124b0 : decide ((Go.bits .and .u8 (bt x0_7 x33_5) 15) < (x5_12.size : Int)) = true := decide_eq_true c124
                        clear c124
                        obtain ⟨y151, hy151⟩ : ∃ y_ : List Int, y_ = (([bt x5_12 (ji118), bt x5_12 (Go.bits .and .u8 (bt x0_7 x33_5) 15)] : List Int)) := ⟨_, rfl⟩
                        replace H : (if y148.length + y151.length < 140737488355328 then (quote_Hex.l0 kj22 x0_7 x5_12 x6_15 (y148 ++ y151) (x0_7.size : Int) (wrap64 (x33_5 + 1)) a1_0 a1_1 a1_2 false a1_4 a1_5 a1_6 a1_7) else (none)) = some r := by first | (rw [hy151]; with_reducible exact H) | (have H2_ := (Option.bind_some _ _).symm.trans H; rw [hy151]; with_reducible exact H2_) | (have H2_ := (Option.bind_some _ _).symm.trans H; with_reducible exact H2_) | with_reducible exact H | (rw [hy151]; exact H) | exact H
                        have Ny151 := Aside0.mk hy151
                        clear hy151
                        by_cases c126 : y148.length + y151.length < 140737488355328
                        ·
                         rw [if_pos c126] at H
                         have LMc126 := Aside0.mk c126
                         clear c126
                         obtain ⟨y154, hy154⟩ : ∃ y_ : List Int, y_ = (y148 ++ y151) := ⟨_, rfl⟩
                         replace H : (quote_Hex.l0 kj22 x0_7 x5_12 x6_15 y154 (x0_7.size : Int) (wrap64 (x33_5 + 1)) a1_0 a1_1 a1_2 false a1_4 a1_5 a1_6 a1_7) = some r := by first | (rw [hy154]; with_reducible exact H) | (have H2_ := (Option.bind_some _ _).symm.trans H; rw [hy154]; with_reducible exact H2_) | (have H2_ := (Option.bind_some _ _).symm.trans H; with_reducible exact H2_) | with_reducible exact H | (rw [hy154]; exact H) | exact H
                         have Ny154 := Aside0.mk hy154
                         clear hy154
                         have H' := Aside0.mk H
                         clear H
                         have hcz127_0 : wc.cell? ⟨gb110, 0, none⟩ = some (.bool a1_0) := (blk_cell BK110.out 0).trans rfl
                         have hcz127_1 : wc.cell? ⟨gb110, 1, none⟩ = some (.bool a1_1) := (blk_cell BK110.out 1).trans rfl
                         have hcz127_2 : wc.cell? ⟨gb110, 2, none⟩ = some (.bool a1_2) := (blk_cell BK110.out 2).trans rfl
                         have hcz127_3 : wc.cell? ⟨gb110, 3, none⟩ = some (.bool false) := (blk_cell BK110.out 3).trans rfl
                         have hcz127_4 : wc.cell? ⟨gb110, 4, none⟩ = some (.bool a1_4) := (blk_cell BK110.out 4).trans rfl
                         have hcz127_5 : wc.cell? ⟨gb110, 5, none⟩ = some (.int .i64 a1_5) := (blk_cell BK110.out 5).trans rfl
                         have hcz127_6 : wc.cell? ⟨gb110, 6, none⟩ = some (.int .i64 a1_6) := (blk_cell BK110.out 6).trans rfl
                         have hcz127_7 : wc.cell? ⟨gb110, 7, none⟩ = some (.int .i32 a1_7) := (blk_cell BK110.out 7).trans rfl
                         have hfz127_0 := blk_frozen BK110.out 0
                         have hfz127_1 := blk_frozen BK110.out 1
                         have hfz127_2 := blk_frozen BK110.out 2
                         have hfz127_3 := blk_frozen BK110.out 3
                         have hfz127_4 := blk_frozen BK110.out 4
                         have hfz127_5 := blk_frozen BK110.out 5
                         have hfz127_6 := blk_frozen BK110.out 6
                         have hfz127_7 := blk_frozen BK110.out 7
                         try go_wp2_with (first | (at_builtin; refine print_append_str (w0 := w) w.heap.size rfl (.tmp 51) _ 44 9 5 rfl Tryd.underlying44 Tryd.underlying9 info5 u7 x7_5 x6_15 rfl rfl ?aO ?aB ?aS ?aL ?_; (case aB => exact (by repeat (first | (with_reducible first | exact HB.out | apply below_alloc | apply pw_below_drewN | apply below_drew1 | refine below_set ?_ GE110.out) | exact HB.out))); (case aO => exact (Kd.own_of_R (by (with_reducible repeat (first | apply Kd.R_alloc | apply Kd.R_drewN | apply Kd.R_drew)); exact HO_7.out))); (case aS => exact (below_size (by repeat (first | (with_reducible first | exact HB.out | apply below_alloc | apply pw_below_drewN | apply below_drew1 | refine below_set ?_ GE110.out) | exact HB.out)))); (case aL => have := LMc114.out; omega); intro v149 w128 ho0 hb hg; have ho := Kd.R_of_own (h1 := fun _ => rfl) (ok := fun _ => True) ho0 (fun _ _ => trivial); clear ho0; have hat := True.intro; rw [← Ny148.out] at ho; change Kd.R (Kd.int .u8) 5 w128 w.heap.size (fun _ => True) v149 y148 at ho; have n0_ := Aside0.mk (blk_grown (g := gb110) (o := .cells #[.bool a1_0, .bool a1_1, .bool a1_2, .bool false, .bool a1_4, .int .i64 a1_5, .int .i64 a1_6, .int .i32 a1_7] 28 (0, 0)) (by (with_reducible repeat (first | refine blk_drewN ?_ _ | refine blk_drew ?_ | refine blk_alloc ?_ _)); exact BK110.out) hg (Kd.R_ne HO_7.out BK110.out (by decide))); have n1_ := Aside0.mk (hb); have n2_ := Aside0.mk (ho); clear BK110; clear HB; clear HO_7; have BK110 := n0_; have HB := n1_; have HO150 := n2_; clear n0_ n1_ n2_; clear ho hb hg hat))
                         have n0_ := Aside0.mk (Kd.R_drew HO150.out)
                         have n1_ := Aside0.mk (blk_drew BK110.out)
                         have n2_ := Aside0.mk (below_drew1 HB.out)
                         clear HO150
                         clear BK110
                         clear HB
                         have HO150 := n0_
                         have BK110 := n1_
                         have HB := n2_
                         clear n0_ n1_ n2_
                         have p117 : 0 ≤ (x33_5 : Int) := of_decide_eq_true (by first | (with_reducible assumption) | assumption)
                         have q117 : x33_5 < (x0_7.size : Int) := of_decide_eq_true (by first | (with_reducible assumption) | assumption)
                         have hx117 := bt_at x0_7 x33_5
                         replace p117 := eq_true p117
                         replace q117 := eq_true q117
                         have p121 : 0 ≤ ((ji118) : Int) := of_decide_eq_true (by first | (with_reducible assumption) | assumption)
                         have q121 : (ji118) < (x5_12.size : Int) := of_decide_eq_true (by first | (with_reducible assumption) | assumption)
                         have hx121 := bt_at x5_12 (ji118)
                         replace p121 := eq_true p121
                         replace q121 := eq_true q121
                         have p122 : 0 ≤ (x33_5 : Int) := of_decide_eq_true (by first | (with_reducible assumption) | assumption)
                         have q122 : x33_5 < (x0_7.size : Int) := of_decide_eq_true (by first | (with_reducible assumption) | assumption)
                         have hx122 := bt_at x0_7 x33_5
                         replace p122 := eq_true p122
                         replace q122 := eq_true q122
                         have p125 : 0 ≤ ((Go.bits .and .u8 (bt x0_7 x33_5) 15) : Int) := of_decide_eq_true (by first | (with_reducible assumption) | assumption)
                         have q125 : (Go.bits .and .u8 (bt x0_7 x33_5) 15) < (x5_12.size : Int) := of_decide_eq_true (by first | (with_reducible assumption) | assumption)
                         have hx125 := bt_at x5_12 (Go.bits .and .u8 (bt x0_7 x33_5) 15)
                         replace p125 := eq_true p125
                         replace q125 := eq_true q125
                         refine start_ (n := 16) (S := fun w' => True) (ds := []) #[false, false, false, false, false, false, false, false, false, false, false, false, false, false, false, false] (by kernel_rfl) rfl rfl trivial (fun hHeld => ?_); refine with_tabW quote_Hex.tab18 quote_Hex.bits18 (fun HT_ HW_ => ?_)
                         generalize w128.drew = w129 at HO150 BK110 HB hHeld ⊢
                         refine pure_ (i := 0) (N := some 54) (v := ?_) (a' := ?_) #[true, false, false, false, false, false, false, false, false, false, false, false, false, false, false, false] rfl rfl (any_of HT_.out (by kernel_rfl)) (fun _ _ _ h => h) (Or.inl ⟨by rfl, ?_⟩) ?_ ?_
                         rotate_left
                         ·
                          intro w'
                          go_simp
                          with_reducible rfl
                         rotate_left
                         ·
                          simp only [Act.put, List.setIfInBounds_toArray, List.set_cons_zero, List.set_cons_succ, i64_w, i32_w]
                          rfl
                         refine pure_ (i := 1) (N := some 55) (v := ?_) (a' := ?_) #[true, true, false, false, false, false, false, false, false, false, false, false, false, false, false, false] rfl rfl (any_of HT_.out (by kernel_rfl)) (fun _ _ _ h => h) (Or.inl ⟨by rfl, ?_⟩) ?_ ?_
                         rotate_left
                         ·
                          intro w'
                          go_simp
                          with_reducible rfl
                         rotate_left
                         ·
                          simp only [Act.put, List.setIfInBounds_toArray, List.set_cons_zero, List.set_cons_succ, i64_w, i32_w]
                          rfl
                         refine pure_ (i := 2) (N := some 56) (v := ?_) (a' := ?_) #[true, true, true, false, false, false, false, false, false, false, false, false, false, false, false, false] rfl rfl (any_of HT_.out (by kernel_rfl)) (fun _ _ _ h => h) (Or.inl ⟨by rfl, ?_⟩) ?_ ?_
                         rotate_left
                         ·
                          intro w'
                          go_simp
                          with_reducible rfl
                         rotate_left
                         ·
                          simp only [Act.put, List.setIfInBounds_toArray, List.set_cons_zero, List.set_cons_succ, i64_w, i32_w]
                          rfl
                         refine pure_ (i := 3) (N := some 57) (v := ?_) (a' := ?_) #[true, true, true, true, false, false, false, false, false, false, false, false, false, false, false, false] rfl rfl (any_of HT_.out (by kernel_rfl)) (fun _ _ _ h => h) (Or.inl ⟨by rfl, ?_⟩) ?_ ?_
                         rotate_left
                         ·
                          intro w'
                          go_simp
                          with_reducible rfl
                         rotate_left
                         ·
                          simp only [Act.put, List.setIfInBounds_toArray, List.set_cons_zero, List.set_cons_succ, i64_w, i32_w]
                          rfl
                         refine pure_ (i := 7) (N := some 61) (v := ?_) (a' := ?_) #[true, true, true, true, false, false, false, true, false, false, false, false, false, false, false, false] rfl rfl (any_of HT_.out (by kernel_rfl)) (fun _ _ _ h => h) (Or.inl ⟨by rfl, ?_⟩) ?_ ?_
                         rotate_left
                         ·
                          intro w'
                          go_simp
                          with_reducible rfl
                         rotate_left
                         ·
                          simp only [Act.put, List.setIfInBounds_toArray, List.set_cons_zero, List.set_cons_succ, i64_w, i32_w]
                          rfl
                         refine pure_ (i := 8) (N := some 62) (v := ?_) (a' := ?_) #[true, true, true, true, false, false, false, true, true, false, false, false, false, false, false, false] rfl rfl (any_of HT_.out (by kernel_rfl)) (fun _ _ _ h => h) (Or.inl ⟨by rfl, ?_⟩) ?_ ?_
                         rotate_left
                         ·
                          intro w'
                          go_simp
                          with_reducible rfl
                         rotate_left
                         ·
                          simp only [Act.put, List.setIfInBounds_toArray, List.set_cons_zero, List.set_cons_succ, i64_w, i32_w]
                          rfl
                         refine pure_ (i := 9) (N := some 63) (v := ?_) (a' := ?_) #[true, true, true, true, false, false, false, true, true, true, false, false, false, false, false, false] rfl rfl (any_of HT_.out (by kernel_rfl)) (fun _ _ _ h => h) (Or.inl ⟨by rfl, ?_⟩) ?_ ?_
                         rotate_left
                         ·
                          intro w'
                          go_simp
                          with_reducible rfl
                         rotate_left
                         ·
                          simp only [Act.put, List.setIfInBounds_toArray, List.set_cons_zero, List.set_cons_succ, i64_w, i32_w]
                          rfl
                         refine take_ (i := 4) (N := some 58) (v := ?_) (a' := ?_) #[true, true, true, true, true, false, false, true, true, true, false, false, false, false, false, false] rfl rfl (take_ofW HT_.out HW_.out (by kernel_rfl)) (fun _ _ _ h => h) (Or.inl ⟨by rfl, ?_⟩) hHeld ?_ ?_
                         rotate_left
                         ·
                          intro w' _
                          go_simp
                          with_reducible rfl
                         rotate_left
                         ·
                          simp only [Act.put, List.setIfInBounds_toArray, List.set_cons_zero, List.set_cons_succ, i64_w, i32_w]
                          rfl
                         refine pure_ (i := 5) (N := some 59) (v := ?_) (a' := ?_) #[true, true, true, true, true, true, false, true, true, true, false, false, false, false, false, false] rfl rfl (any_of HT_.out (by kernel_rfl)) (fun _ _ _ h => h) (Or.inl ⟨by rfl, ?_⟩) ?_ ?_
                         rotate_left
                         ·
                          intro w'
                          go_simp
                          with_reducible rfl
                         rotate_left
                         ·
                          simp only [Act.put, List.setIfInBounds_toArray, List.set_cons_zero, List.set_cons_succ, i64_w, i32_w]
                          rfl
                         refine take_ (i := 6) (N := some 60) (v := ?_) (a' := ?_) #[true, true, true, true, true, true, true, true, true, true, false, false, false, false, false, false] rfl rfl (take_ofW HT_.out HW_.out (by kernel_rfl)) (fun _ _ _ h => h) (Or.inl ⟨by rfl, ?_⟩) hHeld ?_ ?_
                         rotate_left
                         ·
                          intro w' _
                          go_simp
                          with_reducible rfl
                         rotate_left
                         ·
                          simp only [Act.put, List.setIfInBounds_toArray, List.set_cons_zero, List.set_cons_succ, i64_w, i32_w]
                          rfl
                         refine take_ (i := 10) (N := some 64) (v := ?_) (a' := ?_) #[true, true, true, true, true, true, true, true, true, true, true, false, false, false, false, false] rfl rfl (take_ofW HT_.out HW_.out (by kernel_rfl)) (fun _ _ _ h => h) (Or.inl ⟨by rfl, ?_⟩) hHeld ?_ ?_
                         rotate_left
                         ·
                          intro w' _
                          go_simp
                          with_reducible rfl
                         rotate_left
                         ·
                          simp only [Act.put, List.setIfInBounds_toArray, List.set_cons_zero, List.set_cons_succ, i64_w, i32_w]
                          rfl
                         refine pure_ (i := 11) (N := some 65) (v := ?_) (a' := ?_) #[true, true, true, true, true, true, true, true, true, true, true, true, false, false, false, false] rfl rfl (any_of HT_.out (by kernel_rfl)) (fun _ _ _ h => h) (Or.inl ⟨by rfl, ?_⟩) ?_ ?_
                         rotate_left
                         ·
                          intro w'
                          go_simp
                          with_reducible rfl
                         rotate_left
                         ·
                          simp only [Act.put, List.setIfInBounds_toArray, List.set_cons_zero, List.set_cons_succ, i64_w, i32_w]
                          rfl
                         refine take_ (i := 12) (N := some 66) (v := ?_) (a' := ?_) #[true, true, true, true, true, true, true, true, true, true, true, true, true, false, false, false] rfl rfl (take_ofW HT_.out HW_.out (by kernel_rfl)) (fun _ _ _ h => h) (Or.inl ⟨by rfl, ?_⟩) hHeld ?_ ?_
                         rotate_left
                         ·
                          intro w' _
                          go_simp
                          with_reducible rfl
                         rotate_left
                         ·
                          simp only [Act.put, List.setIfInBounds_toArray, List.set_cons_zero, List.set_cons_succ, i64_w, i32_w]
                          rfl
                         refine one_ (i := 13) (N := some 67) #[true, true, true, true, true, true, true, true, true, true, true, true, true, true, false, false] rfl rfl (one_of HT_.out (by kernel_rfl)) (by decide) (fun K hK => ?_)
                         refine Kd.R_lit_step (Kd.int .u8) _ 5 ?hg (N := 67) ?hd (xs := ([bt x5_12 (ji118), bt x5_12 (Go.bits .and .u8 (bt x0_7 x33_5) 15)] : List Int)) (inner := [.int .u8 (bt x5_12 (ji118)), .int .u8 (bt x5_12 (Go.bits .and .u8 (bt x0_7 x33_5) 15))]) (ok := fun _ => True) (okp := fun _ => True) ?hr ?hp (fun _ hk => hk) trivial (Below.refl _ _) (Nat.le_refl _) (by simp) ?_; (case hd => rfl); (case hg => rfl); (case hr => first | (go_simp; done) | (go_simp; rfl)); (case hp => exact (Reps.one (show Kd.M (Kd.int .u8) _ _ _ (bt x5_12 (ji118)) [.int .u8 (bt x5_12 (ji118))] from rfl) (Reps.one (show Kd.M (Kd.int .u8) _ _ _ (bt x5_12 (Go.bits .and .u8 (bt x0_7 x33_5) 15)) [.int .u8 (bt x5_12 (Go.bits .and .u8 (bt x0_7 x33_5) 15))] from rfl) (Reps.none _ _))))
                         intro v152 w130 ho131 hb hg_ hnew_
                         clear hg_ hnew_
                         (first | rw [← Ny151.out] at ho131 | (simp only [Int.reduceToNat] at ho131; rw [← Ny151.out] at ho131))
                         have n0_ := Aside0.mk (Kd.R_elder' (by (with_reducible repeat (first | apply Kd.R_alloc | apply Kd.R_drewN | apply Kd.R_drew)); exact HO150.out) (Kd.R_base ho131) hb)
                         have n1_ := Aside0.mk (Kd.R_lower (Kd.R_new' ho131 (Kd.R_lt (by (with_reducible repeat (first | apply Kd.R_alloc | apply Kd.R_drewN | apply Kd.R_drew)); exact HO150.out))) (below_size (by repeat (first | (with_reducible first | exact HB.out | apply below_alloc | apply pw_below_drewN | apply below_drew1 | refine below_set ?_ GE110.out) | exact HB.out))))
                         have n2_ := Aside0.mk (blk_below (g := gb110) (o := .cells #[.bool a1_0, .bool a1_1, .bool a1_2, .bool false, .bool a1_4, .int .i64 a1_5, .int .i64 a1_6, .int .i32 a1_7] 28 (0, 0)) (by (with_reducible repeat (first | refine blk_drewN ?_ _ | refine blk_drew ?_ | refine blk_alloc ?_ _)); exact BK110.out) hb)
                         have n3_ := Aside0.mk (below_step (by repeat (first | (with_reducible first | exact HB.out | apply below_alloc | apply pw_below_drewN | apply below_drew1 | refine below_set ?_ GE110.out) | exact HB.out)) hb)
                         clear HO150
                         clear BK110
                         clear HB
                         have HO150 := n0_
                         have HO153 := n1_
                         have BK110 := n2_
                         have HB := n3_
                         clear n0_ n1_ n2_ n3_
                         clear hb ho131
                         obtain ⟨Ao133, co133, eo133⟩ := Kd.R_slice HO153.out
                         (first | subst eo133 | (injection eo133 with f1_ f2_ f3_; have f4_ := f1_.symm; have f5_ := f3_.symm; clear f1_ f2_ f3_; subst f4_; subst f5_))
                         refine hK.out _ _ trivial (fun hHeld => ?_)
                         clear hK K
                         refine norm_ (a' := ?_) ?_ ?_
                         rotate_left
                         ·
                          show Act.put _ (some 67) _ = _
                          simp only [Act.put, List.setIfInBounds_toArray, List.set_cons_zero, List.set_cons_succ, i64_w, i32_w]
                          rfl
                         refine one_ (i := 14) (N := some 68) #[true, true, true, true, true, true, true, true, true, true, true, true, true, true, true, false] rfl rfl (one_of HT_.out (by kernel_rfl)) (by decide) (fun K hK => ?_)
                         refine Kd.R_append_rows_step (Kd.int .u8) (w0 := w) w.heap.size (by rfl) (.tmp 54) (.tmp 67) 44 5 (.int .u8 0) 1 rfl Tryd.underlying44 info5 rfl (by decide) (by omega) v149 y148 y151 _ _ _ (fun k_ => some k_ ≠ (.slice Ao133 y151.length co133 : Value).ownBlock) (fun _ => False) rfl rfl ?aO ?aR (fun _ _ h => h) (fun _ h => h.elim) ?aF ?aB ?aS ?aL ?_
                         (case aR => repeat (first | exact (Kd.R_reads' HO153.out).2.2 | (with_reducible refine Kd.C_alloc ?_ _) | (with_reducible refine Kd.C_drewN ?_ _) | (with_reducible refine Kd.C_drew ?_)))
                         (case aB => exact (by repeat (first | (with_reducible first | exact HB.out | apply below_alloc | apply pw_below_drewN | apply below_drew1 | refine below_set ?_ GE110.out) | exact HB.out)))
                         (case aF => exact (fun k_ hk => Kd.fresh' (Kd.R_lt (by (with_reducible repeat (first | apply Kd.R_alloc | apply Kd.R_drewN | apply Kd.R_drew)); exact HO153.out)) k_ hk))
                         (case aO => exact (by (with_reducible repeat (first | apply Kd.R_alloc | apply Kd.R_drewN | apply Kd.R_drew)); exact Kd.R_mono HO150.out (fun _ hk => hk.2)))
                         (case aS => exact (below_size (by repeat (first | (with_reducible first | exact HB.out | apply below_alloc | apply pw_below_drewN | apply below_drew1 | refine below_set ?_ GE110.out) | exact HB.out))))
                         (case aL => have := LMc126.out; omega)
                         intro v155 w132 ho hb hg hat
                         rw [← Ny154.out] at ho
                         have n0_ := Aside0.mk (blk_grown (g := gb110) (o := .cells #[.bool a1_0, .bool a1_1, .bool a1_2, .bool false, .bool a1_4, .int .i64 a1_5, .int .i64 a1_6, .int .i32 a1_7] 28 (0, 0)) (by (with_reducible repeat (first | refine blk_drewN ?_ _ | refine blk_drew ?_ | refine blk_alloc ?_ _)); exact BK110.out) hg (Kd.R_ne HO150.out BK110.out (by decide)))
                         have n1_ := Aside0.mk (Kd.R_after (ok := (fun _ => True)) (by (with_reducible repeat (first | apply Kd.R_alloc | apply Kd.R_drewN | apply Kd.R_drew)); exact HO153.out) hg hat)
                         have n2_ := Aside0.mk (hb)
                         have n3_ := Aside0.mk (ho)
                         clear BK110
                         clear HO153
                         clear HB
                         clear HO150
                         have BK110 := n0_
                         have HO153 := n1_
                         have HB := n2_
                         have HO156 := n3_
                         clear n0_ n1_ n2_ n3_
                         clear ho hb hg hat
                         refine hK.out _ _ trivial (fun hHeld => ?_)
                         clear hK K
                         refine norm_ (a' := ?_) ?_ ?_
                         rotate_left
                         ·
                          show Act.put _ (some 68) _ = _
                          simp only [Act.put, List.setIfInBounds_toArray, List.set_cons_zero, List.set_cons_succ, i64_w, i32_w]
                          rfl
                         refine pure_ (i := 15) (N := some 7) (v := ?_) (a' := ?_) #[true, true, true, true, true, true, true, true, true, true, true, true, true, true, true, true] rfl rfl (any_of HT_.out (by kernel_rfl)) (fun _ _ _ h => h) (Or.inl ⟨by rfl, ?_⟩) ?_ ?_
                         rotate_left
                         ·
                          intro w'
                          go_simp
                          with_reducible rfl
                         rotate_left
                         ·
                          simp only [Act.put, List.setIfInBounds_toArray, List.set_cons_zero, List.set_cons_succ, i64_w, i32_w]
                          rfl
                         refine done_ (done_of HT_.out (by kernel_rfl)) ?_
                         try go_wp2
                         go_roundg kj22
                         case measure => have := HJ2.out; have := HJ7.out; have := HJ12.out; have := HJ15.out; have := HK5.out; have := HJ22.out; omega
                         case rel => exact ⟨(y154), (wrap64 (x33_5 + 1)), (by first | rfl | (simp; done) | (simp [*]; done)), H', ⟨by have := HJ2.out; have := HJ7.out; have := HJ12.out; have := HJ15.out; have := HK5.out; have := HJ22.out; omega⟩, ⟨by (with_reducible repeat (first | apply Kd.R_alloc | apply Kd.R_drewN | apply Kd.R_drew)); exact Kd.R_mono HO156.out (fun _ hk => trivial)⟩, ⟨by (with_reducible repeat (first | refine blk_drewN ?_ _ | refine blk_drew ?_ | refine blk_alloc ?_ _)); exact BK110.out⟩, ⟨by repeat (first | (with_reducible first | exact HB.out | apply below_alloc | apply pw_below_drewN | apply below_drew1 | refine below_set ?_ GE110.out) | exact HB.out)⟩⟩
                        ·
                         rw [if_neg c126] at H
                         exact absurd H (by simp)
                       ·
                        rw [if_neg c124] at H
                        exact absurd H (by simp)
                      ·
                       rw [if_neg c123] at H
                       exact absurd H (by simp)
                     ·
                      rw [if_neg c120] at H
                      exact absurd H (by simp)
                    ·
                     rw [if_neg c119] at H
                     exact absurd H (by simp)
                   ·
                    rw [if_neg c116] at H
                    exact absurd H (by simp)
                  ·
                   rw [if_neg c115] at H
                   exact absurd H (by simp)
                 ·
                  rw [if_neg c114] at H
                  exact absurd H (by simp)
                ·
                 rw [if_neg c113] at H
                 have c113b0 : (x33_5 == 0) = false := beq_eq_false_iff_ne.mpr c113
                 have c113b1 : (x33_5 != 0) = true := bne_iff_ne.mpr c113
                 by_cases c134 : 0 ≤ x33_5
                 ·
                  rw [if_pos c134] at H
                  have c134b0 : decide (0 ≤ x33_5) = true := decide_eq_true c134
                  clear c134
                  by_cases c135 : x33_5 < (x0_7.size : Int)
                  ·
                   rw [if_pos c135] at H
                   have c135b0 : decide (x33_5 < (x0_7.size : Int)) = true := decide_eq_true c135
                   clear c135
                   obtain ⟨ji137, hji137⟩ : ∃ j_ : Int, ((bt x0_7 x33_5) / 16) = j_ := ⟨_, rfl⟩
                   replace H : (if 0 ≤ (ji137) then (if (ji137) < (x5_12.size : Int) then (if 0 ≤ (Go.bits .and .u8 (bt x0_7 x33_5) 15) then (if (Go.bits .and .u8 (bt x0_7 x33_5) 15) < (x5_12.size : Int) then ((some (([bt x5_12 (ji137), bt x5_12 (Go.bits .and .u8 (bt x0_7 x33_5) 15)] : List Int) : List Int)).bind fun y157 => (if x7_5.length + y157.length < 140737488355328 then (quote_Hex.l0 kj22 x0_7 x5_12 x6_15 (x7_5 ++ y157) (x0_7.size : Int) (wrap64 (x33_5 + 1)) a1_0 a1_1 a1_2 false a1_4 a1_5 a1_6 a1_7) else (none))) else (none)) else (none)) else (none)) else (none)) = some r := by first | (rw [hji137] at H; exact H) | (simp only [hji137] at H ⊢; exact H)
                   by_cases c138 : 0 ≤ (ji137)
                   ·
                    rw [if_pos c138] at H
                    have c138b0 : decide (0 ≤ (ji137)) = true := decide_eq_true c138
                    clear c138
                    by_cases c139 : (ji137) < (x5_12.size : Int)
                    ·
                     rw [if_pos c139] at H
                     have c139b0 : decide ((ji137) < (x5_12.size : Int)) = true := decide_eq_true c139
                     clear c139
                     by_cases c142 : 0 ≤ (Go.bits .and .u8 (bt x0_7 x33_5) 15)
                     ·
                      rw [if_pos c142] at H
                      have c142b0 : decide (0 ≤ (Go.bits .and .u8 (bt x0_7 x33_5) 15)) = true := decide_eq_true c142
                      clear c142
                      by_cases c143 : (Go.bits .and .u8 (bt x0_7 x33_5) 15) < (x5_12.size : Int)
                      ·
                       rw [if_pos c143] at H
                       have c143b0 : decide ((Go.bits .and .u8 (bt x0_7 x33_5) 15) < (x5_12.size : Int)) = true := decide_eq_true c143
                       clear c143
                       obtain ⟨y157, hy157⟩ : ∃ y_ : List Int, y_ = (([bt x5_12 (ji137), bt x5_12 (Go.bits .and .u8 (bt x0_7 x33_5) 15)] : List Int)) := ⟨_, rfl⟩
                       replace H : (if x7_5.length + y157.length < 140737488355328 then (quote_Hex.l0 kj22 x0_7 x5_12 x6_15 (x7_5 ++ y157) (x0_7.size : Int) (wrap64 (x33_5 + 1)) a1_0 a1_1 a1_2 false a1_4 a1_5 a1_6 a1_7) else (none)) = some r := by first | (rw [hy157]; with_reducible exact H) | (have H2_ := (Option.bind_some _ _).symm.trans H; rw [hy157]; with_reducible exact H2_) | (have H2_ := (Option.bind_some _ _).symm.trans H; with_reducible exact H2_) | with_reducible exact H | (rw [hy157]; exact H) | exact H
                       have Ny157 := Aside0.mk hy157
                       clear hy157
                       by_cases c145 : x7_5.length + y157.length < 140737488355328
                       ·
                        rw [if_pos c145] at H
                        have LMc145 := Aside0.mk c145
                        clear c145
                        obtain ⟨y160, hy160⟩ : ∃ y_ : List Int, y_ = (x7_5 ++ y157) := ⟨_, rfl⟩
                        replace H : (quote_Hex.l0 kj22 x0_7 x5_12 x6_15 y160 (x0_7.size : Int) (wrap64 (x33_5 + 1)) a1_0 a1_1 a1_2 false a1_4 a1_5 a1_6 a1_7) = some r := by first | (rw [hy160]; with_reducible exact H) | (have H2_ := (Option.bind_some _ _).symm.trans H; rw [hy160]; with_reducible exact H2_) | (have H2_ := (Option.bind_some _ _).symm.trans H; with_reducible exact H2_) | with_reducible exact H | (rw [hy160]; exact H) | exact H
                        have Ny160 := Aside0.mk hy160
                        clear hy160
                        have H' := Aside0.mk H
                        clear H
                        have hcz146_0 : wc.cell? ⟨gb110, 0, none⟩ = some (.bool a1_0) := (blk_cell BK110.out 0).trans rfl
                        have hcz146_1 : wc.cell? ⟨gb110, 1, none⟩ = some (.bool a1_1) := (blk_cell BK110.out 1).trans rfl
                        have hcz146_2 : wc.cell? ⟨gb110, 2, none⟩ = some (.bool a1_2) := (blk_cell BK110.out 2).trans rfl
                        have hcz146_3 : wc.cell? ⟨gb110, 3, none⟩ = some (.bool false) := (blk_cell BK110.out 3).trans rfl
                        have hcz146_4 : wc.cell? ⟨gb110, 4, none⟩ = some (.bool a1_4) := (blk_cell BK110.out 4).trans rfl
                        have hcz146_5 : wc.cell? ⟨gb110, 5, none⟩ = some (.int .i64 a1_5) := (blk_cell BK110.out 5).trans rfl
                        have hcz146_6 : wc.cell? ⟨gb110, 6, none⟩ = some (.int .i64 a1_6) := (blk_cell BK110.out 6).trans rfl
                        have hcz146_7 : wc.cell? ⟨gb110, 7, none⟩ = some (.int .i32 a1_7) := (blk_cell BK110.out 7).trans rfl
                        have hfz146_0 := blk_frozen BK110.out 0
                        have hfz146_1 := blk_frozen BK110.out 1
                        have hfz146_2 := blk_frozen BK110.out 2
                        have hfz146_3 := blk_frozen BK110.out 3
                        have hfz146_4 := blk_frozen BK110.out 4
                        have hfz146_5 := blk_frozen BK110.out 5
                        have hfz146_6 := blk_frozen BK110.out 6
                        have hfz146_7 := blk_frozen BK110.out 7
                        try go_wp2
                        have n0_ := Aside0.mk (Kd.R_drew HO_7.out)
                        have n1_ := Aside0.mk (blk_drew BK110.out)
                        have n2_ := Aside0.mk (below_drew1 HB.out)
                        clear HO_7
                        clear BK110
                        clear HB
                        have HO_7 := n0_
                        have BK110 := n1_
                        have HB := n2_
                        clear n0_ n1_ n2_
                        have p136 : 0 ≤ (x33_5 : Int) := of_decide_eq_true (by first | (with_reducible assumption) | assumption)
                        have q136 : x33_5 < (x0_7.size : Int) := of_decide_eq_true (by first | (with_reducible assumption) | assumption)
                        have hx136 := bt_at x0_7 x33_5
                        replace p136 := eq_true p136
                        replace q136 := eq_true q136
                        have p140 : 0 ≤ ((ji137) : Int) := of_decide_eq_true (by first | (with_reducible assumption) | assumption)
                        have q140 : (ji137) < (x5_12.size : Int) := of_decide_eq_true (by first | (with_reducible assumption) | assumption)
                        have hx140 := bt_at x5_12 (ji137)
                        replace p140 := eq_true p140
                        replace q140 := eq_true q140
                        have p141 : 0 ≤ (x33_5 : Int) := of_decide_eq_true (by first | (with_reducible assumption) | assumption)
                        have q141 : x33_5 < (x0_7.size : Int) := of_decide_eq_true (by first | (with_reducible assumption) | assumption)
                        have hx141 := bt_at x0_7 x33_5
                        replace p141 := eq_true p141
                        replace q141 := eq_true q141
                        have p144 : 0 ≤ ((Go.bits .and .u8 (bt x0_7 x33_5) 15) : Int) := of_decide_eq_true (by first | (with_reducible assumption) | assumption)
                        have q144 : (Go.bits .and .u8 (bt x0_7 x33_5) 15) < (x5_12.size : Int) := of_decide_eq_true (by first | (with_reducible assumption) | assumption)
                        have hx144 := bt_at x5_12 (Go.bits .and .u8 (bt x0_7 x33_5) 15)
                        replace p144 := eq_true p144
                        replace q144 := eq_true q144
                        refine start_ (n := 16) (S := fun w' => True) (ds := []) #[false, false, false, false, false, false, false, false, false, false, false, false, false, false, false, false] (by kernel_rfl) rfl rfl trivial (fun hHeld => ?_); refine with_tabW quote_Hex.tab18 quote_Hex.bits18 (fun HT_ HW_ => ?_)
                        generalize wc.drew = w147 at HO_7 BK110 HB hHeld ⊢
                        refine pure_ (i := 0) (N := some 54) (v := ?_) (a' := ?_) #[true, false, false, false, false, false, false, false, false, false, false, false, false, false, false, false] rfl rfl (any_of HT_.out (by kernel_rfl)) (fun _ _ _ h => h) (Or.inl ⟨by rfl, ?_⟩) ?_ ?_
                        rotate_left
                        ·
                         intro w'
                         go_simp
                         with_reducible rfl
                        rotate_left
                        ·
                         simp only [Act.put, List.setIfInBounds_toArray, List.set_cons_zero, List.set_cons_succ, i64_w, i32_w]
                         rfl
                        refine pure_ (i := 1) (N := some 55) (v := ?_) (a' := ?_) #[true, true, false, false, false, false, false, false, false, false, false, false, false, false, false, false] rfl rfl (any_of HT_.out (by kernel_rfl)) (fun _ _ _ h => h) (Or.inl ⟨by rfl, ?_⟩) ?_ ?_
                        rotate_left
                        ·
                         intro w'
                         go_simp
                         with_reducible rfl
                        rotate_left
                        ·
                         simp only [Act.put, List.setIfInBounds_toArray, List.set_cons_zero, List.set_cons_succ, i64_w, i32_w]
                         rfl
                        refine pure_ (i := 2) (N := some 56) (v := ?_) (a' := ?_) #[true, true, true, false, false, false, false, false, false, false, false, false, false, false, false, false] rfl rfl (any_of HT_.out (by kernel_rfl)) (fun _ _ _ h => h) (Or.inl ⟨by rfl, ?_⟩) ?_ ?_
                        rotate_left
                        ·
                         intro w'
                         go_simp
                         with_reducible rfl
                        rotate_left
                        ·
                         simp only [Act.put, List.setIfInBounds_toArray, List.set_cons_zero, List.set_cons_succ, i64_w, i32_w]
                         rfl
                        refine pure_ (i := 3) (N := some 57) (v := ?_) (a' := ?_) #[true, true, true, true, false, false, false, false, false, false, false, false, false, false, false, false] rfl rfl (any_of HT_.out (by kernel_rfl)) (fun _ _ _ h => h) (Or.inl ⟨by rfl, ?_⟩) ?_ ?_
                        rotate_left
                        ·
                         intro w'
                         go_simp
                         with_reducible rfl
                        rotate_left
                        ·
                         simp only [Act.put, List.setIfInBounds_toArray, List.set_cons_zero, List.set_cons_succ, i64_w, i32_w]
                         rfl
                        refine pure_ (i := 7) (N := some 61) (v := ?_) (a' := ?_) #[true, true, true, true, false, false, false, true, false, false, false, false, false, false, false, false] rfl rfl (any_of HT_.out (by kernel_rfl)) (fun _ _ _ h => h) (Or.inl ⟨by rfl, ?_⟩) ?_ ?_
                        rotate_left
                        ·
                         intro w'
                         go_simp
                         with_reducible rfl
                        rotate_left
                        ·
                         simp only [Act.put, List.setIfInBounds_toArray, List.set_cons_zero, List.set_cons_succ, i64_w, i32_w]
                         rfl
                        refine pure_ (i := 8) (N := some 62) (v := ?_) (a' := ?_) #[true, true, true, true, false, false, false, true, true, false, false, false, false, false, false, false] rfl rfl (any_of HT_.out (by kernel_rfl)) (fun _ _ _ h => h) (Or.inl ⟨by rfl, ?_⟩) ?_ ?_
                        rotate_left
                        ·
                         intro w'
                         go_simp
                         with_reducible rfl
                        rotate_left
                        ·
                         simp only [Act.put, List.setIfInBounds_toArray, List.set_cons_zero, List.set_cons_succ, i64_w, i32_w]
                         rfl
                        refine pure_ (i := 9) (N := some 63) (v := ?_) (a' := ?_) #[true, true, true, true, false, false, false, true, true, true, false, false, false, false, false, false] rfl rfl (any_of HT_.out (by kernel_rfl)) (fun _ _ _ h => h) (Or.inl ⟨by rfl, ?_⟩) ?_ ?_
                        rotate_left
                        ·
                         intro w'
                         go_simp
                         with_reducible rfl
                        rotate_left
                        ·
                         simp only [Act.put, List.setIfInBounds_toArray, List.set_cons_zero, List.set_cons_succ, i64_w, i32_w]
                         rfl
                        refine take_ (i := 4) (N := some 58) (v := ?_) (a' := ?_) #[true, true, true, true, true, false, false, true, true, true, false, false, false, false, false, false] rfl rfl (take_ofW HT_.out HW_.out (by kernel_rfl)) (fun _ _ _ h => h) (Or.inl ⟨by rfl, ?_⟩) hHeld ?_ ?_
                        rotate_left
                        ·
                         intro w' _
                         go_simp
                         with_reducible rfl
                        rotate_left
                        ·
                         simp only [Act.put, List.setIfInBounds_toArray, List.set_cons_zero, List.set_cons_succ, i64_w, i32_w]
                         rfl
                        refine pure_ (i := 5) (N := some 59) (v := ?_) (a' := ?_) #[true, true, true, true, true, true, false, true, true, true, false, false, false, false, false, false] rfl rfl (any_of HT_.out (by kernel_rfl)) (fun _ _ _ h => h) (Or.inl ⟨by rfl, ?_⟩) ?_ ?_
                        rotate_left
                        ·
                         intro w'
                         go_simp
                         with_reducible rfl
                        rotate_left
                        ·
                         simp only [Act.put, List.setIfInBounds_toArray, List.set_cons_zero, List.set_cons_succ, i64_w, i32_w]
                         rfl
                        refine take_ (i := 6) (N := some 60) (v := ?_) (a' := ?_) #[true, true, true, true, true, true, true, true, true, true, false, false, false, false, false, false] rfl rfl (take_ofW HT_.out HW_.out (by kernel_rfl)) (fun _ _ _ h => h) (Or.inl ⟨by rfl, ?_⟩) hHeld ?_ ?_
                        rotate_left
                        ·
                         intro w' _
                         go_simp
                         with_reducible rfl
                        rotate_left
                        ·
                         simp only [Act.put, List.setIfInBounds_toArray, List.set_cons_zero, List.set_cons_succ, i64_w, i32_w]
                         rfl
                        refine take_ (i := 10) (N := some 64) (v := ?_) (a' := ?_) #[true, true, true, true, true, true, true, true, true, true, true, false, false, false, false, false] rfl rfl (take_ofW HT_.out HW_.out (by kernel_rfl)) (fun _ _ _ h => h) (Or.inl ⟨by rfl, ?_⟩) hHeld ?_ ?_
                        rotate_left
                        ·
                         intro w' _
                         go_simp
                         with_reducible rfl
                        rotate_left
                        ·
                         simp only [Act.put, List.setIfInBounds_toArray, List.set_cons_zero, List.set_cons_succ, i64_w, i32_w]
                         rfl
                        refine pure_ (i := 11) (N := some 65) (v := ?_) (a' := ?_) #[true, true, true, true, true, true, true, true, true, true, true, true, false, false, false, false] rfl rfl (any_of HT_.out (by kernel_rfl)) (fun _ _ _ h => h) (Or.inl ⟨by rfl, ?_⟩) ?_ ?_
                        rotate_left
                        ·
                         intro w'
                         go_simp
                         with_reducible rfl
                        rotate_left
                        ·
                         simp only [Act.put, List.setIfInBounds_toArray, List.set_cons_zero, List.set_cons_succ, i64_w, i32_w]
                         rfl
                        refine take_ (i := 12) (N := some 66) (v := ?_) (a' := ?_) #[true, true, true, true, true, true, true, true, true, true, true, true, true, false, false, false] rfl rfl (take_ofW HT_.out HW_.out (by kernel_rfl)) (fun _ _ _ h => h) (Or.inl ⟨by rfl, ?_⟩) hHeld ?_ ?_
                        rotate_left
                        ·
                         intro w' _
                         go_simp
                         with_reducible rfl
                        rotate_left
                        ·
                         simp only [Act.put, List.setIfInBounds_toArray, List.set_cons_zero, List.set_cons_succ, i64_w, i32_w]
                         rfl
                        refine one_ (i := 13) (N := some 67) #[true, true, true, true, true, true, true, true, true, true, true, true, true, true, false, false] rfl rfl (one_of HT_.out (by kernel_rfl)) (by decide) (fun K hK => ?_)
                        refine Kd.R_lit_step (Kd.int .u8) _ 5 ?hg (N := 67) ?hd (xs := ([bt x5_12 (ji137), bt x5_12 (Go.bits .and .u8 (bt x0_7 x33_5) 15)] : List Int)) (inner := [.int .u8 (bt x5_12 (ji137)), .int .u8 (bt x5_12 (Go.bits .and .u8 (bt x0_7 x33_5) 15))]) (ok := fun _ => True) (okp := fun _ => True) ?hr ?hp (fun _ hk => hk) trivial (Below.refl _ _) (Nat.le_refl _) (by simp) ?_; (case hd => rfl); (case hg => rfl); (case hr => first | (go_simp; done) | (go_simp; rfl)); (case hp => exact (Reps.one (show Kd.M (Kd.int .u8) _ _ _ (bt x5_12 (ji137)) [.int .u8 (bt x5_12 (ji137))] from rfl) (Reps.one (show Kd.M (Kd.int .u8) _ _ _ (bt x5_12 (Go.bits .and .u8 (bt x0_7 x33_5) 15)) [.int .u8 (bt x5_12 (Go.bits .and .u8 (bt x0_7 x33_5) 15))] from rfl) (Reps.none _ _))))
                        intro v158 w148 ho149 hb hg_ hnew_
                        clear hg_ hnew_
                        (first | rw [← Ny157.out] at ho149 | (simp only [Int.reduceToNat] at ho149; rw [← Ny157.out] at ho149))
                        have n0_ := Aside0.mk (Kd.R_elder' (by (with_reducible repeat (first | apply Kd.R_alloc | apply Kd.R_drewN | apply Kd.R_drew)); exact HO_7.out) (Kd.R_base ho149) hb)
                        have n1_ := Aside0.mk (Kd.R_lower (Kd.R_new' ho149 (Kd.R_lt (by (with_reducible repeat (first | apply Kd.R_alloc | apply Kd.R_drewN | apply Kd.R_drew)); exact HO_7.out))) (below_size (by repeat (first | (with_reducible first | exact HB.out | apply below_alloc | apply pw_below_drewN | apply below_drew1 | refine below_set ?_ GE110.out) | exact HB.out))))
                        have n2_ := Aside0.mk (blk_below (g := gb110) (o := .cells #[.bool a1_0, .bool a1_1, .bool a1_2, .bool false, .bool a1_4, .int .i64 a1_5, .int .i64 a1_6, .int .i32 a1_7] 28 (0, 0)) (by (with_reducible repeat (first | refine blk_drewN ?_ _ | refine blk_drew ?_ | refine blk_alloc ?_ _)); exact BK110.out) hb)
                        have n3_ := Aside0.mk (below_step (by repeat (first | (with_reducible first | exact HB.out | apply below_alloc | apply pw_below_drewN | apply below_drew1 | refine below_set ?_ GE110.out) | exact HB.out)) hb)
                        clear HO_7
                        clear BK110
                        clear HB
                        have HO_7 := n0_
                        have HO159 := n1_
                        have BK110 := n2_
                        have HB := n3_
                        clear n0_ n1_ n2_ n3_
                        clear hb ho149
                        obtain ⟨Ao151, co151, eo151⟩ := Kd.R_slice HO159.out
                        (first | subst eo151 | (injection eo151 with f1_ f2_ f3_; have f4_ := f1_.symm; have f5_ := f3_.symm; clear f1_ f2_ f3_; subst f4_; subst f5_))
                        refine hK.out _ _ trivial (fun hHeld => ?_)
                        clear hK K
                        refine norm_ (a' := ?_) ?_ ?_
                        rotate_left
                        ·
                         show Act.put _ (some 67) _ = _
                         simp only [Act.put, List.setIfInBounds_toArray, List.set_cons_zero, List.set_cons_succ, i64_w, i32_w]
                         rfl
                        refine one_ (i := 14) (N := some 68) #[true, true, true, true, true, true, true, true, true, true, true, true, true, true, true, false] rfl rfl (one_of HT_.out (by kernel_rfl)) (by decide) (fun K hK => ?_)
                        refine Kd.R_append_rows_step (Kd.int .u8) (w0 := w) w.heap.size (by rfl) (.tmp 54) (.tmp 67) 44 5 (.int .u8 0) 1 rfl Tryd.underlying44 info5 rfl (by decide) (by omega) u7 x7_5 y157 _ _ _ (fun k_ => some k_ ≠ (.slice Ao151 y157.length co151 : Value).ownBlock) (fun _ => False) rfl rfl ?aO ?aR (fun _ _ h => h) (fun _ h => h.elim) ?aF ?aB ?aS ?aL ?_
                        (case aR => repeat (first | exact (Kd.R_reads' HO159.out).2.2 | (with_reducible refine Kd.C_alloc ?_ _) | (with_reducible refine Kd.C_drewN ?_ _) | (with_reducible refine Kd.C_drew ?_)))
                        (case aB => exact (by repeat (first | (with_reducible first | exact HB.out | apply below_alloc | apply pw_below_drewN | apply below_drew1 | refine below_set ?_ GE110.out) | exact HB.out)))
                        (case aF => exact (fun k_ hk => Kd.fresh' (Kd.R_lt (by (with_reducible repeat (first | apply Kd.R_alloc | apply Kd.R_drewN | apply Kd.R_drew)); exact HO159.out)) k_ hk))
                        (case aO => exact (by (with_reducible repeat (first | apply Kd.R_alloc | apply Kd.R_drewN | apply Kd.R_drew)); exact Kd.R_mono HO_7.out (fun _ hk => hk.2)))
                        (case aS => exact (below_size (by repeat (first | (with_reducible first | exact HB.out | apply below_alloc | apply pw_below_drewN | apply below_drew1 | refine below_set ?_ GE110.out) | exact HB.out))))
                        (case aL => have := LMc145.out; omega)
                        intro v161 w150 ho hb hg hat
                        rw [← Ny160.out] at ho
                        have n0_ := Aside0.mk (blk_grown (g := gb110) (o := .cells #[.bool a1_0, .bool a1_1, .bool a1_2, .bool false, .bool a1_4, .int .i64 a1_5, .int .i64 a1_6, .int .i32 a1_7] 28 (0, 0)) (by (with_reducible repeat (first | refine blk_drewN ?_ _ | refine blk_drew ?_ | refine blk_alloc ?_ _)); exact BK110.out) hg (Kd.R_ne HO_7.out BK110.out (by decide)))
                        have n1_ := Aside0.mk (Kd.R_after (ok := (fun _ => True)) (by (with_reducible repeat (first | apply Kd.R_alloc | apply Kd.R_drewN | apply Kd.R_drew)); exact HO159.out) hg hat)
                        have n2_ := Aside0.mk (hb)
                        have n3_ := Aside0.mk (ho)
                        clear BK110
                        clear HO159
                        clear HB
                        clear HO_7
                        have BK110 := n0_
                        have HO159 := n1_
                        have HB := n2_
                        have HO162 := n3_
                        clear n0_ n1_ n2_ n3_
                        clear ho hb hg hat
                        refine hK.out _ _ trivial (fun hHeld => ?_)
                        clear hK K
                        refine norm_ (a' := ?_) ?_ ?_
                        rotate_left
                        ·
                         show Act.put _ (some 68) _ = _
                         simp only [Act.put, List.setIfInBounds_toArray, List.set_cons_zero, List.set_cons_succ, i64_w, i32_w]
                         rfl
                        refine pure_ (i := 15) (N := some 7) (v := ?_) (a' := ?_) #[true, true, true, true, true, true, true, true, true, true, true, true, true, true, true, true] rfl rfl (any_of HT_.out (by kernel_rfl)) (fun _ _ _ h => h) (Or.inl ⟨by rfl, ?_⟩) ?_ ?_
                        rotate_left
                        ·
                         intro w'
                         go_simp
                         with_reducible rfl
                        rotate_left
                        ·
                         simp only [Act.put, List.setIfInBounds_toArray, List.set_cons_zero, List.set_cons_succ, i64_w, i32_w]
                         rfl
                        refine done_ (done_of HT_.out (by kernel_rfl)) ?_
                        try go_wp2
                        go_roundg kj22
                        case measure => have := HJ2.out; have := HJ7.out; have := HJ12.out; have := HJ15.out; have := HK5.out; have := HJ22.out; omega
                        case rel => exact ⟨(y160), (wrap64 (x33_5 + 1)), (by first | rfl | (simp; done) | (simp [*]; done)), H', ⟨by have := HJ2.out; have := HJ7.out; have := HJ12.out; have := HJ15.out; have := HK5.out; have := HJ22.out; omega⟩, ⟨by (with_reducible repeat (first | apply Kd.R_alloc | apply Kd.R_drewN | apply Kd.R_drew)); exact Kd.R_mono HO162.out (fun _ hk => trivial)⟩, ⟨by (with_reducible repeat (first | refine blk_drewN ?_ _ | refine blk_drew ?_ | refine blk_alloc ?_ _)); exact BK110.out⟩, ⟨by repeat (first | (with_reducible first | exact HB.out | apply below_alloc | apply pw_below_drewN | apply below_drew1 | refine below_set ?_ GE110.out) | exact HB.out)⟩⟩
                       ·
                        rw [if_neg c145] at H
                        exact absurd H (by simp)
                      ·
                       rw [if_neg c143] at H
                       exact absurd H (by simp)
                     ·
                      rw [if_neg c142] at H
                      exact absurd H (by simp)
                    ·
                     rw [if_neg c139] at H
                     exact absurd H (by simp)
                   ·
                    rw [if_neg c138] at H
                    exact absurd H (by simp)
                  ·
                   rw [if_neg c135] at H
                   exact absurd H (by simp)
                 ·
                  rw [if_neg c134] at H
                  exact absurd H (by simp)
           ·
            rw [if_neg c22] at H
            have c22b0 : decide (x33_5 < (x0_7.size : Int)) = false := decide_eq_false c22
            clear c22
            replace H := Option.bind_eq_some_iff.mp H
            obtain ⟨t111, A1520, H⟩ := H
            replace H : (some t111) = some r := H
            have A152 := Aside0.mk A1520
            clear A1520
            obtain rfl := Option.some.inj H
            have hcv153 := own_string (P := Tryd.prog) Tryd.underlying44 Tryd.underlying5 Tryd.underlying9 (Kd.own_of_R HO_7.out)
            try have hcv153d := fun (n_ : Nat) => own_string (P := Tryd.prog) Tryd.underlying44 Tryd.underlying5 Tryd.underlying9 (Kd.own_of_R (Kd.R_drewN HO_7.out n_))
            have hcz154_0 : wr.cell? ⟨gb110, 0, none⟩ = some (.bool a1_0) := (blk_cell BK110.out 0).trans rfl
            have hcz154_1 : wr.cell? ⟨gb110, 1, none⟩ = some (.bool a1_1) := (blk_cell BK110.out 1).trans rfl
            have hcz154_2 : wr.cell? ⟨gb110, 2, none⟩ = some (.bool a1_2) := (blk_cell BK110.out 2).trans rfl
            have hcz154_3 : wr.cell? ⟨gb110, 3, none⟩ = some (.bool a1_3) := (blk_cell BK110.out 3).trans rfl
            have hcz154_4 : wr.cell? ⟨gb110, 4, none⟩ = some (.bool a1_4) := (blk_cell BK110.out 4).trans rfl
            have hcz154_5 : wr.cell? ⟨gb110, 5, none⟩ = some (.int .i64 a1_5) := (blk_cell BK110.out 5).trans rfl
            have hcz154_6 : wr.cell? ⟨gb110, 6, none⟩ = some (.int .i64 a1_6) := (blk_cell BK110.out 6).trans rfl
            have hcz154_7 : wr.cell? ⟨gb110, 7, none⟩ = some (.int .i32 a1_7) := (blk_cell BK110.out 7).trans rfl
            have hfz154_0 := blk_frozen BK110.out 0
            have hfz154_1 := blk_frozen BK110.out 1
            have hfz154_2 := blk_frozen BK110.out 2
            have hfz154_3 := blk_frozen BK110.out 3
            have hfz154_4 := blk_frozen BK110.out 4
            have hfz154_5 := blk_frozen BK110.out 5
            have hfz154_6 := blk_frozen BK110.out 6
            have hfz154_7 := blk_frozen BK110.out 7
            go_wp2_with (first | ((with_reducible refine gate_callee (f := 32) rfl ?_); refine goesL_ (some 73) rfl rfl Tryd.func32 (by kernel_rfl) rfl #[.string (strOfNums x7_5), .agg #[.bool a1_0, .bool a1_1, .bool a1_2, .bool a1_3, .bool a1_4, .int .i64 a1_5, .int .i64 a1_6, .int .i32 a1_7]] rfl (by (try simp only [List.map_toArray, List.map_cons, List.map_nil]); first | done | rfl | (simp only [List.length_drop, List.length_take]; rfl)) ?_; (with_reducible refine (buf_Pad.calls (strOfNums x7_5) a1_0 a1_1 a1_2 a1_3 a1_4 a1_5 a1_6 a1_7 t111 _ A152.out).mono ?_); rintro e w155 ⟨rfl, hb⟩; refine ⟨_, rfl, ?_⟩; have n0_ := Aside0.mk (Kd.R_below (by (with_reducible repeat (first | apply Kd.R_alloc | apply Kd.R_drewN | apply Kd.R_drew)); exact HO_7.out) hb); have n1_ := Aside0.mk (blk_below (g := gb110) (o := .cells #[.bool a1_0, .bool a1_1, .bool a1_2, .bool a1_3, .bool a1_4, .int .i64 a1_5, .int .i64 a1_6, .int .i32 a1_7] 28 (0, 0)) (by (with_reducible repeat (first | refine blk_drewN ?_ _ | refine blk_drew ?_ | refine blk_alloc ?_ _)); exact BK110.out) hb); have n2_ := Aside0.mk (below_step (by repeat (first | (with_reducible first | exact HB.out | apply below_alloc | apply pw_below_drewN | apply below_drew1 | refine below_set ?_ GE110.out) | exact HB.out)) hb); clear HO_7; clear BK110; clear HB; have HO_7 := n0_; have BK110 := n1_; have HB := n2_; clear n0_ n1_ n2_; (try clear hb); (try clear hb2); (try clear hk); (try clear hi)))
            go_ret
            exact ⟨by first | rfl | (simp [errW_none, errW_some] <;> rfl) | (simp [*, errW_none, errW_some] <;> rfl), by repeat (first | (with_reducible first | exact HB.out | apply below_alloc | apply pw_below_drewN | apply below_drew1 | refine below_set ?_ GE110.out) | exact HB.out)⟩
end Go.Proofs.YtcoippikicikoaaDoor.PQGen
