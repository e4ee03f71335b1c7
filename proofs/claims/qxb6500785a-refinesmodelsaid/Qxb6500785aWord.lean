/- Words: what the walk writes of uint32, uint8, uint64, said as Lean's own words. -/
import Derived.Test.Qxb6500785aTy
set_option linter.unusedSimpArgs false
set_option linter.unusedVariables false
namespace Go.Proofs.Qxb6500785a
open Go.RowKit Go.Blk
theorem w32_lt (a : UInt32) : a.toNat < 4294967296 := a.toNat_lt
theorem w8_lt (a : UInt8) : a.toNat < 256 := a.toNat_lt
theorem w64_lt (a : UInt64) : a.toNat < 18446744073709551616 := a.toNat_lt
theorem w8_bd (a : UInt8) : 0 ≤ w8 a ∧ w8 a < 256 := by unfold w8; have := w8_lt a; omega
theorem w32_bd (a : UInt32) : 0 ≤ w32 a ∧ w32 a < 4294967296 := by unfold w32; have := w32_lt a; omega
theorem w64_bd (a : UInt64) : 0 ≤ w64 a ∧ w64 a < 18446744073709551616 := by unfold w64; have := w64_lt a; omega
theorem w32_and (a b : UInt32) : bits .and .u32 (w32 a) (w32 b) = w32 (a &&& b) := by unfold w32; rw [u32_and_nat _ _ (w32_lt a) (w32_lt b), UInt32.toNat_and]
theorem w32_or (a b : UInt32) : bits .or .u32 (w32 a) (w32 b) = w32 (a ||| b) := by unfold w32; rw [u32_or_nat _ _ (w32_lt a) (w32_lt b), UInt32.toNat_or]
theorem w32_xor (a b : UInt32) : bits .xor .u32 (w32 a) (w32 b) = w32 (a ^^^ b) := by unfold w32; rw [u32_xor_nat _ _ (w32_lt a) (w32_lt b), UInt32.toNat_xor]
theorem w32_add (a b : UInt32) : (w32 a + w32 b) % 4294967296 = w32 (a + b) := by unfold w32; rw [UInt32.toNat_add]; omega
theorem w32_or8 (a : UInt32) (b : UInt8) : bits .or .u32 (w32 a) (w8 b) = w32 (a ||| b.toUInt32) := by rw [← w32_or]; unfold w32 w8; simp
theorem w8_and (a b : UInt8) : bits .and .u8 (w8 a) (w8 b) = w8 (a &&& b) := by unfold w8; rw [u8_and_nat _ _ (w8_lt a) (w8_lt b), UInt8.toNat_and]
theorem w8_or (a b : UInt8) : bits .or .u8 (w8 a) (w8 b) = w8 (a ||| b) := by unfold w8; rw [u8_or_nat _ _ (w8_lt a) (w8_lt b), UInt8.toNat_or]
theorem w8_xor (a b : UInt8) : bits .xor .u8 (w8 a) (w8 b) = w8 (a ^^^ b) := by unfold w8; rw [u8_xor_nat _ _ (w8_lt a) (w8_lt b), UInt8.toNat_xor]
theorem w32_not (a : UInt32) : bits .xor .u32 IntKind.u32.max (w32 a) = w32 (~~~a) := by
  have h : (IntKind.u32.max : Int) = w32 (4294967295 : UInt32) := by decide
  rw [h, w32_xor]
  congr 2
theorem v32_add (a b : UInt32) : IntKind.u32.wrap (w32 a + w32 b) = w32 (a + b) := by rw [IntKind.wrap_u32]; exact w32_add a b
theorem w64_add (a b : UInt64) : (w64 a + w64 b) % 18446744073709551616 = w64 (a + b) := by unfold w64; rw [UInt64.toNat_add]; omega
theorem w32_shr2 (a : UInt32) : w32 a / (4 : Int) = w32 (a >>> 2) := by unfold w32; rw [UInt32.toNat_shiftRight, Nat.shiftRight_eq_div_pow]; rfl
theorem w32_shl2 (a : UInt32) : w32 a * (4 : Int) % (4294967296 : Int) = w32 (a <<< 2) := by unfold w32; rw [UInt32.toNat_shiftLeft, Nat.shiftLeft_eq]; rfl
theorem v32_shr2 (a : UInt32) : Int.fdiv (w32 a) (4 : Int) = w32 (a >>> 2) := by rw [Int.fdiv_eq_ediv_of_nonneg _ (by decide)]; exact w32_shr2 a
theorem v32_shl2 (a : UInt32) : IntKind.u32.wrap (w32 a * (4 : Int)) = w32 (a <<< 2) := by rw [IntKind.wrap_u32]; exact w32_shl2 a
theorem w32_shr3 (a : UInt32) : w32 a / (8 : Int) = w32 (a >>> 3) := by unfold w32; rw [UInt32.toNat_shiftRight, Nat.shiftRight_eq_div_pow]; rfl
theorem w32_shl3 (a : UInt32) : w32 a * (8 : Int) % (4294967296 : Int) = w32 (a <<< 3) := by unfold w32; rw [UInt32.toNat_shiftLeft, Nat.shiftLeft_eq]; rfl
theorem v32_shr3 (a : UInt32) : Int.fdiv (w32 a) (8 : Int) = w32 (a >>> 3) := by rw [Int.fdiv_eq_ediv_of_nonneg _ (by decide)]; exact w32_shr3 a
theorem v32_shl3 (a : UInt32) : IntKind.u32.wrap (w32 a * (8 : Int)) = w32 (a <<< 3) := by rw [IntKind.wrap_u32]; exact w32_shl3 a
theorem w32_shr6 (a : UInt32) : w32 a / (64 : Int) = w32 (a >>> 6) := by unfold w32; rw [UInt32.toNat_shiftRight, Nat.shiftRight_eq_div_pow]; rfl
theorem w32_shl6 (a : UInt32) : w32 a * (64 : Int) % (4294967296 : Int) = w32 (a <<< 6) := by unfold w32; rw [UInt32.toNat_shiftLeft, Nat.shiftLeft_eq]; rfl
theorem v32_shr6 (a : UInt32) : Int.fdiv (w32 a) (64 : Int) = w32 (a >>> 6) := by rw [Int.fdiv_eq_ediv_of_nonneg _ (by decide)]; exact w32_shr6 a
theorem v32_shl6 (a : UInt32) : IntKind.u32.wrap (w32 a * (64 : Int)) = w32 (a <<< 6) := by rw [IntKind.wrap_u32]; exact w32_shl6 a
theorem w32_shr7 (a : UInt32) : w32 a / (128 : Int) = w32 (a >>> 7) := by unfold w32; rw [UInt32.toNat_shiftRight, Nat.shiftRight_eq_div_pow]; rfl
theorem w32_shl7 (a : UInt32) : w32 a * (128 : Int) % (4294967296 : Int) = w32 (a <<< 7) := by unfold w32; rw [UInt32.toNat_shiftLeft, Nat.shiftLeft_eq]; rfl
theorem v32_shr7 (a : UInt32) : Int.fdiv (w32 a) (128 : Int) = w32 (a >>> 7) := by rw [Int.fdiv_eq_ediv_of_nonneg _ (by decide)]; exact w32_shr7 a
theorem v32_shl7 (a : UInt32) : IntKind.u32.wrap (w32 a * (128 : Int)) = w32 (a <<< 7) := by rw [IntKind.wrap_u32]; exact w32_shl7 a
theorem w32_shr8 (a : UInt32) : w32 a / (256 : Int) = w32 (a >>> 8) := by unfold w32; rw [UInt32.toNat_shiftRight, Nat.shiftRight_eq_div_pow]; rfl
theorem w32_shl8 (a : UInt32) : w32 a * (256 : Int) % (4294967296 : Int) = w32 (a <<< 8) := by unfold w32; rw [UInt32.toNat_shiftLeft, Nat.shiftLeft_eq]; rfl
theorem v32_shr8 (a : UInt32) : Int.fdiv (w32 a) (256 : Int) = w32 (a >>> 8) := by rw [Int.fdiv_eq_ediv_of_nonneg _ (by decide)]; exact w32_shr8 a
theorem v32_shl8 (a : UInt32) : IntKind.u32.wrap (w32 a * (256 : Int)) = w32 (a <<< 8) := by rw [IntKind.wrap_u32]; exact w32_shl8 a
theorem w32_shr10 (a : UInt32) : w32 a / (1024 : Int) = w32 (a >>> 10) := by unfold w32; rw [UInt32.toNat_shiftRight, Nat.shiftRight_eq_div_pow]; rfl
theorem w32_shl10 (a : UInt32) : w32 a * (1024 : Int) % (4294967296 : Int) = w32 (a <<< 10) := by unfold w32; rw [UInt32.toNat_shiftLeft, Nat.shiftLeft_eq]; rfl
theorem v32_shr10 (a : UInt32) : Int.fdiv (w32 a) (1024 : Int) = w32 (a >>> 10) := by rw [Int.fdiv_eq_ediv_of_nonneg _ (by decide)]; exact w32_shr10 a
theorem v32_shl10 (a : UInt32) : IntKind.u32.wrap (w32 a * (1024 : Int)) = w32 (a <<< 10) := by rw [IntKind.wrap_u32]; exact w32_shl10 a
theorem w32_shr11 (a : UInt32) : w32 a / (2048 : Int) = w32 (a >>> 11) := by unfold w32; rw [UInt32.toNat_shiftRight, Nat.shiftRight_eq_div_pow]; rfl
theorem w32_shl11 (a : UInt32) : w32 a * (2048 : Int) % (4294967296 : Int) = w32 (a <<< 11) := by unfold w32; rw [UInt32.toNat_shiftLeft, Nat.shiftLeft_eq]; rfl
theorem v32_shr11 (a : UInt32) : Int.fdiv (w32 a) (2048 : Int) = w32 (a >>> 11) := by rw [Int.fdiv_eq_ediv_of_nonneg _ (by decide)]; exact w32_shr11 a
theorem v32_shl11 (a : UInt32) : IntKind.u32.wrap (w32 a * (2048 : Int)) = w32 (a <<< 11) := by rw [IntKind.wrap_u32]; exact w32_shl11 a
theorem w32_shr13 (a : UInt32) : w32 a / (8192 : Int) = w32 (a >>> 13) := by unfold w32; rw [UInt32.toNat_shiftRight, Nat.shiftRight_eq_div_pow]; rfl
theorem w32_shl13 (a : UInt32) : w32 a * (8192 : Int) % (4294967296 : Int) = w32 (a <<< 13) := by unfold w32; rw [UInt32.toNat_shiftLeft, Nat.shiftLeft_eq]; rfl
theorem v32_shr13 (a : UInt32) : Int.fdiv (w32 a) (8192 : Int) = w32 (a >>> 13) := by rw [Int.fdiv_eq_ediv_of_nonneg _ (by decide)]; exact w32_shr13 a
theorem v32_shl13 (a : UInt32) : IntKind.u32.wrap (w32 a * (8192 : Int)) = w32 (a <<< 13) := by rw [IntKind.wrap_u32]; exact w32_shl13 a
theorem w32_shr14 (a : UInt32) : w32 a / (16384 : Int) = w32 (a >>> 14) := by unfold w32; rw [UInt32.toNat_shiftRight, Nat.shiftRight_eq_div_pow]; rfl
theorem w32_shl14 (a : UInt32) : w32 a * (16384 : Int) % (4294967296 : Int) = w32 (a <<< 14) := by unfold w32; rw [UInt32.toNat_shiftLeft, Nat.shiftLeft_eq]; rfl
theorem v32_shr14 (a : UInt32) : Int.fdiv (w32 a) (16384 : Int) = w32 (a >>> 14) := by rw [Int.fdiv_eq_ediv_of_nonneg _ (by decide)]; exact w32_shr14 a
theorem v32_shl14 (a : UInt32) : IntKind.u32.wrap (w32 a * (16384 : Int)) = w32 (a <<< 14) := by rw [IntKind.wrap_u32]; exact w32_shl14 a
theorem w32_shr15 (a : UInt32) : w32 a / (32768 : Int) = w32 (a >>> 15) := by unfold w32; rw [UInt32.toNat_shiftRight, Nat.shiftRight_eq_div_pow]; rfl
theorem w32_shl15 (a : UInt32) : w32 a * (32768 : Int) % (4294967296 : Int) = w32 (a <<< 15) := by unfold w32; rw [UInt32.toNat_shiftLeft, Nat.shiftLeft_eq]; rfl
theorem v32_shr15 (a : UInt32) : Int.fdiv (w32 a) (32768 : Int) = w32 (a >>> 15) := by rw [Int.fdiv_eq_ediv_of_nonneg _ (by decide)]; exact w32_shr15 a
theorem v32_shl15 (a : UInt32) : IntKind.u32.wrap (w32 a * (32768 : Int)) = w32 (a <<< 15) := by rw [IntKind.wrap_u32]; exact w32_shl15 a
theorem w32_shr16 (a : UInt32) : w32 a / (65536 : Int) = w32 (a >>> 16) := by unfold w32; rw [UInt32.toNat_shiftRight, Nat.shiftRight_eq_div_pow]; rfl
theorem w32_shl16 (a : UInt32) : w32 a * (65536 : Int) % (4294967296 : Int) = w32 (a <<< 16) := by unfold w32; rw [UInt32.toNat_shiftLeft, Nat.shiftLeft_eq]; rfl
theorem v32_shr16 (a : UInt32) : Int.fdiv (w32 a) (65536 : Int) = w32 (a >>> 16) := by rw [Int.fdiv_eq_ediv_of_nonneg _ (by decide)]; exact w32_shr16 a
theorem v32_shl16 (a : UInt32) : IntKind.u32.wrap (w32 a * (65536 : Int)) = w32 (a <<< 16) := by rw [IntKind.wrap_u32]; exact w32_shl16 a
theorem w32_shr17 (a : UInt32) : w32 a / (131072 : Int) = w32 (a >>> 17) := by unfold w32; rw [UInt32.toNat_shiftRight, Nat.shiftRight_eq_div_pow]; rfl
theorem w32_shl17 (a : UInt32) : w32 a * (131072 : Int) % (4294967296 : Int) = w32 (a <<< 17) := by unfold w32; rw [UInt32.toNat_shiftLeft, Nat.shiftLeft_eq]; rfl
theorem v32_shr17 (a : UInt32) : Int.fdiv (w32 a) (131072 : Int) = w32 (a >>> 17) := by rw [Int.fdiv_eq_ediv_of_nonneg _ (by decide)]; exact w32_shr17 a
theorem v32_shl17 (a : UInt32) : IntKind.u32.wrap (w32 a * (131072 : Int)) = w32 (a <<< 17) := by rw [IntKind.wrap_u32]; exact w32_shl17 a
theorem w32_shr18 (a : UInt32) : w32 a / (262144 : Int) = w32 (a >>> 18) := by unfold w32; rw [UInt32.toNat_shiftRight, Nat.shiftRight_eq_div_pow]; rfl
theorem w32_shl18 (a : UInt32) : w32 a * (262144 : Int) % (4294967296 : Int) = w32 (a <<< 18) := by unfold w32; rw [UInt32.toNat_shiftLeft, Nat.shiftLeft_eq]; rfl
theorem v32_shr18 (a : UInt32) : Int.fdiv (w32 a) (262144 : Int) = w32 (a >>> 18) := by rw [Int.fdiv_eq_ediv_of_nonneg _ (by decide)]; exact w32_shr18 a
theorem v32_shl18 (a : UInt32) : IntKind.u32.wrap (w32 a * (262144 : Int)) = w32 (a <<< 18) := by rw [IntKind.wrap_u32]; exact w32_shl18 a
theorem w32_shr19 (a : UInt32) : w32 a / (524288 : Int) = w32 (a >>> 19) := by unfold w32; rw [UInt32.toNat_shiftRight, Nat.shiftRight_eq_div_pow]; rfl
theorem w32_shl19 (a : UInt32) : w32 a * (524288 : Int) % (4294967296 : Int) = w32 (a <<< 19) := by unfold w32; rw [UInt32.toNat_shiftLeft, Nat.shiftLeft_eq]; rfl
theorem v32_shr19 (a : UInt32) : Int.fdiv (w32 a) (524288 : Int) = w32 (a >>> 19) := by rw [Int.fdiv_eq_ediv_of_nonneg _ (by decide)]; exact w32_shr19 a
theorem v32_shl19 (a : UInt32) : IntKind.u32.wrap (w32 a * (524288 : Int)) = w32 (a <<< 19) := by rw [IntKind.wrap_u32]; exact w32_shl19 a
theorem w32_shr21 (a : UInt32) : w32 a / (2097152 : Int) = w32 (a >>> 21) := by unfold w32; rw [UInt32.toNat_shiftRight, Nat.shiftRight_eq_div_pow]; rfl
theorem w32_shl21 (a : UInt32) : w32 a * (2097152 : Int) % (4294967296 : Int) = w32 (a <<< 21) := by unfold w32; rw [UInt32.toNat_shiftLeft, Nat.shiftLeft_eq]; rfl
theorem v32_shr21 (a : UInt32) : Int.fdiv (w32 a) (2097152 : Int) = w32 (a >>> 21) := by rw [Int.fdiv_eq_ediv_of_nonneg _ (by decide)]; exact w32_shr21 a
theorem v32_shl21 (a : UInt32) : IntKind.u32.wrap (w32 a * (2097152 : Int)) = w32 (a <<< 21) := by rw [IntKind.wrap_u32]; exact w32_shl21 a
theorem w32_shr22 (a : UInt32) : w32 a / (4194304 : Int) = w32 (a >>> 22) := by unfold w32; rw [UInt32.toNat_shiftRight, Nat.shiftRight_eq_div_pow]; rfl
theorem w32_shl22 (a : UInt32) : w32 a * (4194304 : Int) % (4294967296 : Int) = w32 (a <<< 22) := by unfold w32; rw [UInt32.toNat_shiftLeft, Nat.shiftLeft_eq]; rfl
theorem v32_shr22 (a : UInt32) : Int.fdiv (w32 a) (4194304 : Int) = w32 (a >>> 22) := by rw [Int.fdiv_eq_ediv_of_nonneg _ (by decide)]; exact w32_shr22 a
theorem v32_shl22 (a : UInt32) : IntKind.u32.wrap (w32 a * (4194304 : Int)) = w32 (a <<< 22) := by rw [IntKind.wrap_u32]; exact w32_shl22 a
theorem w32_shr24 (a : UInt32) : w32 a / (16777216 : Int) = w32 (a >>> 24) := by unfold w32; rw [UInt32.toNat_shiftRight, Nat.shiftRight_eq_div_pow]; rfl
theorem w32_shl24 (a : UInt32) : w32 a * (16777216 : Int) % (4294967296 : Int) = w32 (a <<< 24) := by unfold w32; rw [UInt32.toNat_shiftLeft, Nat.shiftLeft_eq]; rfl
theorem v32_shr24 (a : UInt32) : Int.fdiv (w32 a) (16777216 : Int) = w32 (a >>> 24) := by rw [Int.fdiv_eq_ediv_of_nonneg _ (by decide)]; exact w32_shr24 a
theorem v32_shl24 (a : UInt32) : IntKind.u32.wrap (w32 a * (16777216 : Int)) = w32 (a <<< 24) := by rw [IntKind.wrap_u32]; exact w32_shl24 a
theorem w32_shr25 (a : UInt32) : w32 a / (33554432 : Int) = w32 (a >>> 25) := by unfold w32; rw [UInt32.toNat_shiftRight, Nat.shiftRight_eq_div_pow]; rfl
theorem w32_shl25 (a : UInt32) : w32 a * (33554432 : Int) % (4294967296 : Int) = w32 (a <<< 25) := by unfold w32; rw [UInt32.toNat_shiftLeft, Nat.shiftLeft_eq]; rfl
theorem v32_shr25 (a : UInt32) : Int.fdiv (w32 a) (33554432 : Int) = w32 (a >>> 25) := by rw [Int.fdiv_eq_ediv_of_nonneg _ (by decide)]; exact w32_shr25 a
theorem v32_shl25 (a : UInt32) : IntKind.u32.wrap (w32 a * (33554432 : Int)) = w32 (a <<< 25) := by rw [IntKind.wrap_u32]; exact w32_shl25 a
theorem w32_shr26 (a : UInt32) : w32 a / (67108864 : Int) = w32 (a >>> 26) := by unfold w32; rw [UInt32.toNat_shiftRight, Nat.shiftRight_eq_div_pow]; rfl
theorem w32_shl26 (a : UInt32) : w32 a * (67108864 : Int) % (4294967296 : Int) = w32 (a <<< 26) := by unfold w32; rw [UInt32.toNat_shiftLeft, Nat.shiftLeft_eq]; rfl
theorem v32_shr26 (a : UInt32) : Int.fdiv (w32 a) (67108864 : Int) = w32 (a >>> 26) := by rw [Int.fdiv_eq_ediv_of_nonneg _ (by decide)]; exact w32_shr26 a
theorem v32_shl26 (a : UInt32) : IntKind.u32.wrap (w32 a * (67108864 : Int)) = w32 (a <<< 26) := by rw [IntKind.wrap_u32]; exact w32_shl26 a
theorem w32_shr30 (a : UInt32) : w32 a / (1073741824 : Int) = w32 (a >>> 30) := by unfold w32; rw [UInt32.toNat_shiftRight, Nat.shiftRight_eq_div_pow]; rfl
theorem w32_shl30 (a : UInt32) : w32 a * (1073741824 : Int) % (4294967296 : Int) = w32 (a <<< 30) := by unfold w32; rw [UInt32.toNat_shiftLeft, Nat.shiftLeft_eq]; rfl
theorem v32_shr30 (a : UInt32) : Int.fdiv (w32 a) (1073741824 : Int) = w32 (a >>> 30) := by rw [Int.fdiv_eq_ediv_of_nonneg _ (by decide)]; exact w32_shr30 a
theorem v32_shl30 (a : UInt32) : IntKind.u32.wrap (w32 a * (1073741824 : Int)) = w32 (a <<< 30) := by rw [IntKind.wrap_u32]; exact w32_shl30 a
theorem w8_shl24 (a : UInt8) : w8 a * (16777216 : Int) = w32 (a.toUInt32 <<< 24) := by unfold w8 w32; rw [UInt32.toNat_shiftLeft, Nat.shiftLeft_eq]; have := w8_lt a; simp; omega
theorem v8_shl24 (a : UInt8) : IntKind.u32.wrap (w8 a * (16777216 : Int)) = w32 (a.toUInt32 <<< 24) := by rw [IntKind.wrap_u32]; have h := w8_shl24 a; have := w32_bd (a.toUInt32 <<< 24); omega
theorem w32_byte24 (a : UInt32) : w32 a / (16777216 : Int) % 256 = w8 (a >>> 24).toUInt8 := by rw [w32_shr24]; unfold w32 w8; simp
theorem w8_shl16 (a : UInt8) : w8 a * (65536 : Int) = w32 (a.toUInt32 <<< 16) := by unfold w8 w32; rw [UInt32.toNat_shiftLeft, Nat.shiftLeft_eq]; have := w8_lt a; simp; omega
theorem v8_shl16 (a : UInt8) : IntKind.u32.wrap (w8 a * (65536 : Int)) = w32 (a.toUInt32 <<< 16) := by rw [IntKind.wrap_u32]; have h := w8_shl16 a; have := w32_bd (a.toUInt32 <<< 16); omega
theorem w32_byte16 (a : UInt32) : w32 a / (65536 : Int) % 256 = w8 (a >>> 16).toUInt8 := by rw [w32_shr16]; unfold w32 w8; simp
theorem w8_shl8 (a : UInt8) : w8 a * (256 : Int) = w32 (a.toUInt32 <<< 8) := by unfold w8 w32; rw [UInt32.toNat_shiftLeft, Nat.shiftLeft_eq]; have := w8_lt a; simp; omega
theorem v8_shl8 (a : UInt8) : IntKind.u32.wrap (w8 a * (256 : Int)) = w32 (a.toUInt32 <<< 8) := by rw [IntKind.wrap_u32]; have h := w8_shl8 a; have := w32_bd (a.toUInt32 <<< 8); omega
theorem w32_byte8 (a : UInt32) : w32 a / (256 : Int) % 256 = w8 (a >>> 8).toUInt8 := by rw [w32_shr8]; unfold w32 w8; simp
theorem w32_byte0 (a : UInt32) : w32 a % 256 = w8 a.toUInt8 := by unfold w32 w8; simp
theorem v32_byte (a : UInt32) : IntKind.u8.wrap (w32 a) = w8 a.toUInt8 := by rw [IntKind.wrap_u8]; exact w32_byte0 a
end Go.Proofs.Qxb6500785a
