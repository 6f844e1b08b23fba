/- Spoilt bytes are told: the law CrcTells of what the printed functions compute. No condition. -/
import Derived.Test.YtmifmgpfjamdkaaLCrc2
set_option linter.unusedSimpArgs false
set_option linter.unusedVariables false
namespace Go.Proofs.Ytmifmgpfjamdkaa.G
open Go Go.KK

def bitsN (n : Nat) (x : B32) : List Bool := (List.range n).map fun j => x.getLsbD j
theorem bitsN_succ (n : Nat) (x : B32) : bitsN (n + 1) x = x.getLsbD 0 :: bitsN n (x >>> 1) := by
  unfold bitsN
  rw [List.range_succ_eq_map, List.map_cons, List.map_map]
  congr 1
  refine List.map_congr_left fun j _ => ?_
  simp [BitVec.getLsbD_ushiftRight, Nat.add_comm]
theorem low_of (x : B32) : low (x.getLsbD 0) ^^^ ((x >>> 1) <<< 1) = x := by
  apply BitVec.eq_of_getLsbD_eq
  intro i hi
  rw [BitVec.getLsbD_xor, BitVec.getLsbD_shiftLeft]
  rcases Nat.eq_zero_or_pos i with rfl | hp
  · cases x.getLsbD 0 <;> simp [low]
  · have h1 : ∀ b, (low b).getLsbD i = false := by
      intro b
      cases b
      · simp [low]
      · have : ∀ j, j < 32 → 0 < j → (1#32 : B32).getLsbD j = false := by decide
        exact this i hi hp
    rw [h1, Bool.false_xor, decide_eq_true hi, decide_eq_false (by omega), BitVec.getLsbD_ushiftRight]
    rw [show 1 + (i - 1) = i by omega]; simp
theorem st_shl (y : B32) (h : y.getLsbD 31 = false) : st (y <<< 1) = y := by
  rw [st_even (by simp)]
  apply BitVec.eq_of_getLsbD_eq
  intro i hi
  rw [BitVec.getLsbD_ushiftRight, BitVec.getLsbD_shiftLeft]
  by_cases h2 : 1 + i < 32
  · rw [decide_eq_true h2, decide_eq_false (by omega), show 1 + i - 1 = i by omega]; simp
  · have : i = 31 := by omega
    subst this
    rw [h]; simp
theorem dir_bitsN : ∀ (n : Nat) (s x : B32), (∀ i, n ≤ i → x.getLsbD i = false) → dir s (bitsN n x) = stn n (s ^^^ x)
  | 0, s, x, h => by
    have : x = 0#32 := BitVec.eq_of_getLsbD_eq fun i hi => by rw [h i (by omega)]; simp
    subst this
    rw [BitVec.xor_zero]; rfl
  | n + 1, s, x, h => by
    rw [bitsN_succ, dir, dir_bitsN n _ (x >>> 1) (fun i hi => by rw [BitVec.getLsbD_ushiftRight]; exact h _ (by omega))]
    show _ = stn n (st (s ^^^ x))
    congr 1
    conv => rhs; rw [← low_of x, ← BitVec.xor_assoc, st_xor, st_shl _ (by rw [BitVec.getLsbD_ushiftRight]; exact BitVec.getLsbD_of_ge _ _ (by omega))]
theorem bits8_le (c : B32) (k : Nat) : bits8 ((c.toNat : Int) / 2 ^ (8 * k) % 256) = (List.range 8).map fun j => c.getLsbD (8 * k + j) := by
  unfold bits8
  refine List.map_congr_left fun j hj => ?_
  have hj8 : j < 8 := List.mem_range.1 hj
  have e : (c.toNat : Int) / 2 ^ (8 * k) % 256 = ((c.toNat / 2 ^ (8 * k) % 2 ^ 8 : Nat) : Int) := by
    rw [Int.natCast_emod, Int.natCast_ediv, Int.natCast_pow]; rfl
  rw [e]
  unfold bv
  rw [BitVec.ofInt_natCast, BitVec.getLsbD_ofNat, Nat.testBit_mod_two_pow, Nat.testBit_div_two_pow, decide_eq_true hj8, decide_eq_true (show j < 32 by omega)]
  simp only [Bool.true_and]
  rw [Nat.add_comm]
  rfl
theorem bits_le4 (c : B32) : bits (le4 c) = bitsN 32 c := by
  have h0 := bits8_le c 0
  have h1 := bits8_le c 1
  have h2 := bits8_le c 2
  have h3 := bits8_le c 3
  have e : bits (le4 c) = bits8 ((c.toNat : Int) / 2 ^ (8 * 0) % 256) ++ (bits8 ((c.toNat : Int) / 2 ^ (8 * 1) % 256) ++ (bits8 ((c.toNat : Int) / 2 ^ (8 * 2) % 256) ++ (bits8 ((c.toNat : Int) / 2 ^ (8 * 3) % 256) ++ []))) := by
    unfold bits le4
    simp only [List.flatMap_cons, List.flatMap_nil]
    rw [show (c.toNat : Int) / 2 ^ (8 * 0) % 256 = (c.toNat : Int) % 256 by simp]
    rfl
  rw [e, h0, h1, h2, h3]
  rfl
theorem dir_le4 (s c : B32) : dir s (bits (le4 c)) = stn 32 (s ^^^ c) := by
  rw [bits_le4, dir_bitsN 32 s c (fun i hi => BitVec.getLsbD_of_ge _ _ hi)]
theorem bits_append (a b : List Int) : bits (a ++ b) = bits a ++ bits b := by simp [bits]
theorem xor_not (a : B32) : a ^^^ ~~~a = ~~~0#32 := by
  apply BitVec.eq_of_getLsbD_eq
  intro i hi
  rw [BitVec.getLsbD_xor, BitVec.getLsbD_not, BitVec.getLsbD_not, decide_eq_true hi]
  cases a.getLsbD i <;> simp
/-- Whole bytes leave what no bytes leave. -/
theorem dir_whole (q : List Int) (hq : ∀ x ∈ q, isB x) : dir (~~~0#32) (bits (q ++ le4 (crc q))) = stn 32 (~~~0#32) := by
  rw [bits_append, dir_append, dir_fold q _ hq, dir_le4]
  unfold crc
  rw [xor_not]
theorem opened_ok {b : List Int} (h : (opened b).2 = true) : ∃ q, b = q ++ le4 (crc q) := by
  unfold opened at h
  split at h
  · cases h
  · split at h
    · rename_i _ e
      exact ⟨b.take (b.length - 4), by rw [← e, List.take_append_drop]⟩
    · cases h

/-! ### bits that are turned -/
theorem pow8 {r : Nat} (h : r < 8) : isB (shlI .u8 1 (r : Int)) ∧ ∀ j, j < 8 → (bv (shlI .u8 1 (r : Int))).getLsbD j = decide (j = r) := by
  have : r = 0 ∨ r = 1 ∨ r = 2 ∨ r = 3 ∨ r = 4 ∨ r = 5 ∨ r = 6 ∨ r = 7 := by omega
  unfold isB
  rcases this with rfl | rfl | rfl | rfl | rfl | rfl | rfl | rfl <;> decide +kernel
theorem mbit_set {p : List Int} (hp : ∀ x ∈ p, isB x) {q r : Nat} (hq : q < p.length) (hr : r < 8) (j : Nat) :
    mbit (p.set q (xorI .u8 p[q] (shlI .u8 1 (r : Int)))) j = (mbit p j ^^ decide (j = 8 * q + r)) := by
  obtain ⟨k1, k2⟩ := pow8 hr
  obtain ⟨k3, k4⟩ := xor8 (hp _ (List.getElem_mem hq)) k1
  unfold mbit
  simp only [List.length_set]
  by_cases hj : j < 8 * p.length
  · rw [dif_pos hj, dif_pos hj, List.getElem_set]
    split
    · rename_i e
      subst e
      rw [k4, BitVec.getLsbD_xor, k2 _ (by omega)]
      congr 1
      simp only [decide_eq_decide]; omega
    · rename_i e
      rw [decide_eq_false (by omega), Bool.xor_false]
  · rw [dif_neg hj, dif_neg hj, decide_eq_false (by omega)]; rfl
def turned (p : List Int) (k i : Nat) (y : B32) : List Int := if y.getLsbD i then p.set ((k + i) / 8) (xorI .u8 (rd p (((k + i) / 8 : Nat) : Int)) (shlI .u8 1 (((k + i) % 8 : Nat) : Int))) else p
theorem turned_len (p : List Int) (k i : Nat) (y : B32) : (turned p k i y).length = p.length := by unfold turned; split <;> simp
theorem turned_b {p : List Int} (hp : ∀ x ∈ p, isB x) {k i : Nat} (h : k + i < 8 * p.length) (y : B32) : ∀ x ∈ turned p k i y, isB x := by
  unfold turned
  split
  · intro x hx
    rcases List.mem_or_eq_of_mem_set hx with hx | rfl
    · exact hp x hx
    · rw [rd_nat (by omega)]
      exact (xor8 (hp _ (List.getElem_mem _)) (pow8 (by omega)).1).1
  · exact hp
theorem turned_bit {p : List Int} (hp : ∀ x ∈ p, isB x) {k i : Nat} (h : k + i < 8 * p.length) (y : B32) (j : Nat) : mbit (turned p k i y) j = (mbit p j ^^ (decide (j = k + i) && y.getLsbD i)) := by
  unfold turned
  split
  · rename_i e
    rw [rd_nat (by omega), mbit_set hp (by omega) (by omega), e, Bool.and_true, show 8 * ((k + i) / 8) + (k + i) % 8 = k + i by omega]
  · rename_i e
    have : y.getLsbD i = false := by simpa using e
    rw [this, Bool.and_false, Bool.xor_false]
theorem tells_loop (at_ by_ : Int) (r : List Int) (k : Nat) (y : B32) (hy : (y.toNat : Int) = by_) (hk : IntKind.i64.wrap ((IntKind.u64.wrap at_).tmod (IntKind.u64.wrap (IntKind.i64.wrap ((IntKind.i64.wrap ((8 : Int) * (r.length : Int))) - (31 : Int))))) = (k : Int))
    (hm : r.length ≤ 1000) (hkl : k + 32 ≤ 8 * r.length) : ∀ (n i : Nat) (p : List Int), i + n = 32 → p.length = r.length → (∀ x ∈ p, isB x) →
    ∃ p', iter (f_law03_CrcTells_l0 at_ by_ r) (p, (i : Int)) = some p' ∧ p'.length = r.length ∧ (∀ x ∈ p', isB x) ∧ ∀ j, mbit p' j = (mbit p j ^^ (decide (k + i ≤ j ∧ j < k + 32) && y.getLsbD (j - k)))
  | 0, i, p, hi, hl, hp => by
    refine ⟨p, iter_stop ?_, hl, hp, fun j => ?_⟩
    · unfold f_law03_CrcTells_l0
      simp only
      rw [if_neg (by simp; omega)]
    · rw [decide_eq_false (by omega), Bool.false_and, Bool.xor_false]
  | n + 1, i, p, hi, hl, hp => by
    have hstep : f_law03_CrcTells_l0 at_ by_ r (p, (i : Int)) = some (.inl (turned p k i y, ((i + 1 : Nat) : Int))) := by
      have hd : ((k + i : Nat) : Int).tdiv 8 = (((k + i) / 8 : Nat) : Int) := by rw [Int.tdiv_eq_ediv_of_nonneg (by omega)]; omega
      have hmo : ((k + i : Nat) : Int).tmod 8 = (((k + i) % 8 : Nat) : Int) := by rw [Int.tmod_eq_emod_of_nonneg (by omega)]; omega
      unfold f_law03_CrcTells_l0
      simp only
      rw [hk, show (k : Int) + (i : Int) = ((k + i : Nat) : Int) by omega, w_i64 (n := ((k + i : Nat) : Int)) (by omega) (by omega), hd, hmo, w_i64 (n := (((k + i) / 8 : Nat) : Int)) (by omega) (by omega)]
      rw [if_pos (by simp; omega), grd_t (by omega), ← hy, shr32 y i (by omega), show (1 : Int) = ((1#32 : B32).toNat : Int) from rfl, and32, low_and, BitVec.getLsbD_ushiftRight, Nat.add_zero]
      rw [show (((1#32 : B32).toNat : Nat) : Int) = 1 from rfl, w_i64 (n := (i : Int) + 1) (by omega) (by omega)]
      unfold turned
      cases hb : y.getLsbD i with
      | true =>
        rw [if_pos (by decide), grd_t ⟨by omega, by omega⟩, grd_t (by omega), grd_t ⟨by omega, by omega⟩]
        simp only [Option.bind_some, if_true]
        rfl
      | false =>
        rw [if_neg (by decide)]
        simp only [Option.bind_some, Bool.false_eq_true, if_false]
        rfl
    obtain ⟨p', h1, h2, h3, h4⟩ := tells_loop at_ by_ r k y hy hk hm hkl n (i + 1) (turned p k i y) (by omega) (by rw [turned_len]; exact hl) (turned_b hp (by omega) y)
    refine ⟨p', by rw [iter_next hstep]; exact h1, h2, h3, fun j => ?_⟩
    rw [h4, turned_bit hp (by omega) y, Bool.xor_assoc]
    congr 1
    by_cases e : j = k + i
    · subst e
      rw [decide_eq_true rfl, decide_eq_false (by omega), decide_eq_true (by omega), show k + i - k = i by omega]; simp
    · rw [decide_eq_false e]
      simp only [Bool.false_and, Bool.false_xor]
      congr 1
      simp only [decide_eq_decide]; omega
theorem mbit_bits (b : List Int) (i : Nat) (h : i < 8 * b.length) : (bits b)[i]'(by rw [bits_len]; exact h) = mbit b i := by
  rw [bits_get b i h]; unfold mbit; rw [dif_pos h]
theorem bitsN_len (n : Nat) (x : B32) : (bitsN n x).length = n := by simp [bitsN]
theorem told {p p' : List Int} {k : Nat} {y : B32} (hl : p'.length = p.length) (hkl : k + 32 ≤ 8 * p.length) (h : ∀ j, mbit p' j = (mbit p j ^^ (decide (k ≤ j ∧ j < k + 32) && y.getLsbD (j - k)))) :
    bits p' = List.zipWith (· ^^ ·) (bits p) (List.replicate k false ++ (bitsN 32 y ++ List.replicate (8 * p.length - (k + 32)) false)) := by
  apply List.ext_getElem
  · rw [List.length_zipWith, bits_len, bits_len, List.length_append, List.length_append, List.length_replicate, List.length_replicate, bitsN_len]; omega
  · intro j h1 h2
    rw [bits_len] at h1
    rw [mbit_bits p' j h1, List.getElem_zipWith, mbit_bits p j (by omega), h]
    congr 1
    by_cases c1 : j < k
    · rw [List.getElem_append_left (by rw [List.length_replicate]; exact c1), List.getElem_replicate, decide_eq_false (by omega)]; rfl
    · rw [List.getElem_append_right (by rw [List.length_replicate]; omega)]
      simp only [List.length_replicate]
      by_cases c2 : j < k + 32
      · rw [List.getElem_append_left (by rw [bitsN_len]; omega), decide_eq_true ⟨by omega, c2⟩]
        simp [bitsN]
      · rw [List.getElem_append_right (by rw [bitsN_len]; omega), List.getElem_replicate, decide_eq_false (by omega)]; rfl
theorem not_opened {b p' : List Int} {k : Nat} {y : B32} (hb : ∀ x ∈ b, isB x) (hp' : ∀ x ∈ p', isB x) (hl : p'.length = (b ++ le4 (crc b)).length) (hkl : k + 32 ≤ 8 * (b ++ le4 (crc b)).length)
    (h : ∀ j, mbit p' j = (mbit (b ++ le4 (crc b)) j ^^ (decide (k ≤ j ∧ j < k + 32) && y.getLsbD (j - k)))) (hy : y ≠ 0#32) : (opened p').2 = false := by
  cases ho : (opened p').2 with
  | false => rfl
  | true =>
    exfalso
    obtain ⟨q, rfl⟩ := opened_ok ho
    have e1 := dir_whole q (fun x hx => hp' x (by simp [hx]))
    have e2 := dir_whole b hb
    rw [told hl hkl h] at e1
    have e3 := dir_xor (bits (b ++ le4 (crc b))) (List.replicate k false ++ (bitsN 32 y ++ List.replicate (8 * (b ++ le4 (crc b)).length - (k + 32)) false)) (~~~0#32) 0#32 (by
      simp only [bits_len, List.length_append, List.length_replicate, bitsN_len] at hkl ⊢; omega)
    rw [BitVec.xor_zero] at e3
    rw [e3, e2, dir_append, dir_zeros, stn_zero, dir_append, dir_zeros, dir_bitsN 32 _ y (fun i hi => BitVec.getLsbD_of_ge _ _ hi), BitVec.zero_xor] at e1
    have e4 : stn (8 * (b ++ le4 (crc b)).length - (k + 32)) (stn 32 y) = 0#32 := by
      have := congrArg (fun z => stn 32 (~~~0#32) ^^^ z) e1
      rw [← BitVec.xor_assoc, BitVec.xor_self, BitVec.zero_xor] at this
      exact this
    exact hy (stn_inj0 _ (stn_inj0 _ e4))
theorem pure_CrcTells (b : List Int) (c d : Int) (h : (∀ x ∈ b, (Lit.int .u8 x).wf = true) ∧ b.length ≤ maxLen) (hc : (Lit.int .i64 c).wf = true) (hd : (Lit.int .u32 d).wf = true) : f_law03_CrcTells b c d = some true := by
  have ib := isB_of h.1
  obtain ⟨d0, d1⟩ := bounds_u32 hd
  unfold f_law03_CrcTells
  rw [works_eq]
  by_cases h5 : 500 < b.length
  · rw [if_pos (by simp; omega)]; rfl
  rw [if_neg (by simp; omega)]
  by_cases hz : d = 0
  · rw [decide_eq_true hz]; rfl
  rw [decide_eq_false hz, put_eq b ib (by omega)]
  simp only [Option.bind_some, Bool.false_eq_true, if_false]
  have hpl : (b ++ le4 (crc b)).length = b.length + 4 := by rw [List.length_append, le4_len]
  have hp : ∀ x ∈ b ++ le4 (crc b), isB x := fun x hx => (List.mem_append.1 hx).elim (ib x) (le4_b _ x)
  rw [hpl, if_neg (by rw [w_i64 (by omega) (by omega)]; simp)]
  have e1 : IntKind.u64.wrap (IntKind.i64.wrap (IntKind.i64.wrap (8 * ((b.length + 4 : Nat) : Int)) - 31)) = ((8 * b.length + 1 : Nat) : Int) := by
    rw [w_i64 (n := 8 * ((b.length + 4 : Nat) : Int)) (by omega) (by omega), w_i64 (by omega) (by omega), w_u64 (by omega) (by omega)]; omega
  rw [e1, grd_t (by omega)]
  obtain ⟨m, hm⟩ : ∃ m : Nat, IntKind.u64.wrap c = (m : Int) := by
    rw [u64_mod]
    exact Int.eq_ofNat_of_zero_le (Int.emod_nonneg _ (by decide))
  have hmod : (m : Int).tmod ((8 * b.length + 1 : Nat) : Int) = ((m % (8 * b.length + 1) : Nat) : Int) := by
    rw [Int.tmod_eq_emod_of_nonneg (by omega)]; exact (Int.natCast_emod _ _).symm
  have hlt : m % (8 * b.length + 1) < 8 * b.length + 1 := Nat.mod_lt _ (by omega)
  obtain ⟨p', k1, k2, k3, k4⟩ := tells_loop c d (b ++ le4 (crc b)) (m % (8 * b.length + 1)) (bv d) (by unfold bv; rw [BitVec.toNat_ofInt]; omega) (by rw [hpl, e1, hm, hmod, w_i64 (by omega) (by omega)]) (by omega) (by omega) 32 0 _ (by omega) rfl hp
  rw [show ((0 : Nat) : Int) = 0 from rfl] at k1
  rw [k1]
  simp only [Option.bind_some]
  have hne : bv d ≠ 0#32 := by
    intro e
    have : ((bv d).toNat : Int) = d := by unfold bv; rw [BitVec.toNat_ofInt]; omega
    rw [e] at this
    exact hz (by rw [← this]; rfl)
  have hno := not_opened (k := m % (8 * b.length + 1)) ib k3 k2 (by omega) (by simpa using k4) hne
  rw [open_eq p' k3 (by omega)]
  simp only [Option.bind_some]
  rw [hno]
  rfl
end Go.Proofs.Ytmifmgpfjamdkaa.G
