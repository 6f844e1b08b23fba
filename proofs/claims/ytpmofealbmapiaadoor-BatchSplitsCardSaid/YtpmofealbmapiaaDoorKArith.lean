/- Plain facts on numbers of fixed width, and on loops. -/
import Derived.Test.YtpmofealbmapiaaDoorKGen2
set_option linter.unusedSimpArgs false
set_option linter.unusedVariables false
namespace Go.KK
open Go
theorem w_i64 {n : Int} (h0 : -9223372036854775808 ≤ n) (h1 : n ≤ 9223372036854775807) : IntKind.i64.wrap n = n := by
  exact IntWalk.i64_in n (by omega)
theorem w_u64 {n : Int} (h0 : 0 ≤ n) (h1 : n ≤ 18446744073709551615) : IntKind.u64.wrap n = n := by
  simp only [IntKind.wrap, IntKind.signed, IntKind.bits]; simp; omega
theorem w_u32 {n : Int} (h0 : 0 ≤ n) (h1 : n ≤ 4294967295) : IntKind.u32.wrap n = n := by
  simp only [IntKind.wrap, IntKind.signed, IntKind.bits]; simp; omega
theorem w_u8 {n : Int} (h0 : 0 ≤ n) (h1 : n ≤ 255) : IntKind.u8.wrap n = n := by
  simp only [IntKind.wrap, IntKind.signed, IntKind.bits]; simp; omega
theorem u32_mod (n : Int) : IntKind.u32.wrap n = n % 4294967296 := by
  simp only [IntKind.wrap, IntKind.signed, IntKind.bits]; simp
theorem u8_mod (n : Int) : IntKind.u8.wrap n = n % 256 := by
  simp only [IntKind.wrap, IntKind.signed, IntKind.bits]; simp
theorem u64_mod (n : Int) : IntKind.u64.wrap n = n % 18446744073709551616 := by
  simp only [IntKind.wrap, IntKind.signed, IntKind.bits]; simp
theorem grd_t {α : Type} {c : Prop} [Decidable c] {x : Option α} (h : c) : grd c x = x := by unfold grd; rw [if_pos h]
theorem nat32 (S : BitVec 32) : (S.toNat : Int) < 4294967296 := by have := S.isLt; omega
theorem ofInt_toNat {n : Nat} (S : BitVec n) : BitVec.ofInt n (S.toNat : Int) = S := by simp
theorem xor32 (S T : BitVec 32) : xorI .u32 (S.toNat : Int) (T.toNat : Int) = ((S ^^^ T).toNat : Int) := by
  unfold xorI
  show IntKind.u32.wrap (((BitVec.ofInt 32 (S.toNat : Int)) ^^^ (BitVec.ofInt 32 (T.toNat : Int))).toNat : Int) = _
  rw [ofInt_toNat, ofInt_toNat, w_u32 (by omega) (by have := nat32 (S ^^^ T); omega)]
theorem and32 (S T : BitVec 32) : andI .u32 (S.toNat : Int) (T.toNat : Int) = ((S &&& T).toNat : Int) := by
  unfold andI
  show IntKind.u32.wrap (((BitVec.ofInt 32 (S.toNat : Int)) &&& (BitVec.ofInt 32 (T.toNat : Int))).toNat : Int) = _
  rw [ofInt_toNat, ofInt_toNat, w_u32 (by omega) (by have := nat32 (S &&& T); omega)]
theorem or32 (S T : BitVec 32) : orI .u32 (S.toNat : Int) (T.toNat : Int) = ((S ||| T).toNat : Int) := by
  unfold orI
  show IntKind.u32.wrap (((BitVec.ofInt 32 (S.toNat : Int)) ||| (BitVec.ofInt 32 (T.toNat : Int))).toNat : Int) = _
  rw [ofInt_toNat, ofInt_toNat, w_u32 (by omega) (by have := nat32 (S ||| T); omega)]
theorem not32 (S : BitVec 32) : notI .u32 (S.toNat : Int) = ((~~~S).toNat : Int) := by
  have h : (4294967295 : Int) = ((BitVec.allOnes 32).toNat : Int) := by decide
  show xorI .u32 4294967295 (S.toNat : Int) = _
  rw [h, xor32, BitVec.allOnes_xor]
theorem shr32 (S : BitVec 32) (k : Nat) (hk : k ≤ 32) : shrI .u32 (S.toNat : Int) (k : Int) = ((S >>> k).toNat : Int) := by
  unfold shrI
  rw [show min ((k : Int).toNat) IntKind.u32.bits = k by show min _ 32 = k; omega, BitVec.toNat_ushiftRight, Nat.shiftRight_eq_div_pow]
  rw [Int.fdiv_eq_ediv_of_nonneg _ (Int.pow_nonneg (by decide)), Int.natCast_ediv, Int.natCast_pow]
  rfl
theorem shl32 (S : BitVec 32) (k : Nat) (hk : k ≤ 32) : shlI .u32 (S.toNat : Int) (k : Int) = ((S <<< k).toNat : Int) := by
  unfold shlI
  rw [show min ((k : Int).toNat) IntKind.u32.bits = k by show min _ 32 = k; omega, BitVec.toNat_shiftLeft, Nat.shiftLeft_eq, u32_mod, Int.natCast_emod, Int.natCast_mul, Int.natCast_pow, Int.natCast_pow]
  rfl
theorem len_lt {α : Type} {xs : List α} {i : Nat} (h : i < xs.length) [Inhabited α] : rd xs (i : Int) = xs[i] := by
  simp [rd, List.getD_eq_getElem?_getD, List.getElem?_eq_getElem h]
theorem iter_run {σ ε : Type} {step : σ → Option (σ ⊕ ε)} (n : Nat) {s : σ} {e : ε} (h : runK n step s = some e) : iter step s = some e := iter_comes.2 (runK_comes n h)
end Go.KK
