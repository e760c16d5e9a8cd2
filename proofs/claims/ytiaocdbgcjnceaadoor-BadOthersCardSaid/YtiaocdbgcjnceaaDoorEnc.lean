/- The encoding of a number as a rune: plain Lean. -/
import Derived.Test.YtiaocdbgcjnceaaDoorProg
import Derived.RowKit
import Derived.Lib.DecodeN
import Derived.Lib.RuneCountTail
namespace Go.Proofs.YtiaocdbgcjnceaaDoor
open Go.RowKit

theorem wrap64_id {x : Int} (h0 : -9223372036854775808 ≤ x) (h1 : x ≤ 9223372036854775807) : wrap64 x = x := by
  unfold wrap64; omega
theorem wrap32_id {x : Int} (h0 : -2147483648 ≤ x) (h1 : x ≤ 2147483647) : wrap32 x = x := by
  unfold wrap32; omega

/-- The encoding of a natural number that is a code point. -/
def encN (c : Nat) : List UInt8 :=
  if c < 0x80 then [UInt8.ofNat c]
  else if c < 0x800 then [UInt8.ofNat (0xC0 + c / 64), UInt8.ofNat (0x80 + c % 64)]
  else if c < 0x10000 then [UInt8.ofNat (0xE0 + c / 4096), UInt8.ofNat (0x80 + c / 64 % 64), UInt8.ofNat (0x80 + c % 64)]
  else [UInt8.ofNat (0xF0 + c / 262144), UInt8.ofNat (0x80 + c / 4096 % 64), UInt8.ofNat (0x80 + c / 64 % 64), UInt8.ofNat (0x80 + c % 64)]

/-- The encoding of any number: U+FFFD's for what is no code point. -/
def enc (c : Int) : List UInt8 := encN (if Utf8.valid c then c.toNat else 65533)

theorem encode_enc (c : Int) : Utf8.encode c = ⟨(enc c).toArray⟩ := by
  unfold Utf8.encode enc encN Utf8.runeError
  dsimp only
  repeat' split
  all_goals rfl

end Go.Proofs.YtiaocdbgcjnceaaDoor
