/- The sums of chapter 03: what the printed functions compute, and that the laws on them hold. No condition. -/
import Derived.Test.YtmifmgpfjamdkaaG3
import Derived.Test.YtmifmgpfjamdkaaKArith
import Derived.KernelRfl
import Derived.OpenShut
set_option linter.unusedSimpArgs false
set_option linter.unusedVariables false
namespace Go.Proofs.Ytmifmgpfjamdkaa.G
open Go Go.KK

/-! ### the register -/
abbrev B32 := BitVec 32
def st (s : B32) : B32 := (s >>> 1) ^^^ (if s.getLsbD 0 then 0x82F63B78#32 else 0#32)
def stn : Nat → B32 → B32
  | 0, s => s
  | n + 1, s => stn n (st s)
theorem st_xor (a b : B32) : st (a ^^^ b) = st a ^^^ st b := by
  unfold st
  rw [BitVec.ushiftRight_xor_distrib, BitVec.getLsbD_xor]
  cases a.getLsbD 0 <;> cases b.getLsbD 0 <;> simp
  · rw [BitVec.xor_assoc]
  · rw [BitVec.xor_assoc, BitVec.xor_assoc, BitVec.xor_comm (b >>> 1)]
  · rw [BitVec.xor_assoc, BitVec.xor_comm (0x82F63B78#32) _, BitVec.xor_assoc, BitVec.xor_self, BitVec.xor_zero]
theorem stn_xor : ∀ (n : Nat) (a b : B32), stn n (a ^^^ b) = stn n a ^^^ stn n b
  | 0, _, _ => rfl
  | n + 1, a, b => by rw [stn, st_xor, stn_xor n]; rfl
theorem stn_add : ∀ (m n : Nat) (s : B32), stn (m + n) s = stn n (stn m s)
  | 0, n, s => by rw [Nat.zero_add]; rfl
  | m + 1, n, s => by rw [show m + 1 + n = (m + n) + 1 by omega, stn, stn_add m n]; rfl
theorem st_even {s : B32} (h : s.getLsbD 0 = false) : st s = s >>> 1 := by unfold st; rw [h]; simp
/-- No step loses anything. -/
theorem st_inj0 {s : B32} (h : st s = 0#32) : s = 0#32 := by
  unfold st at h
  cases h0 : s.getLsbD 0 with
  | true =>
    rw [h0] at h
    have h1 := congrArg (fun x : B32 => x.getLsbD 31) h
    simp at h1
  | false =>
    rw [h0] at h
    simp at h
    apply BitVec.eq_of_getLsbD_eq
    intro i hi
    rcases Nat.eq_zero_or_pos i with rfl | hp
    · rw [h0]; simp
    · have := congrArg (fun x : B32 => x.getLsbD (i - 1)) h
      simp only [BitVec.getLsbD_ushiftRight] at this
      rw [show 1 + (i - 1) = i by omega] at this
      rw [this]; simp
theorem stn_inj0 : ∀ (n : Nat) {s : B32}, stn n s = 0#32 → s = 0#32
  | 0, _, h => h
  | n + 1, s, h => st_inj0 (stn_inj0 n h)
theorem stn_zero : ∀ (n : Nat), stn n 0#32 = 0#32
  | 0 => rfl
  | n + 1 => by rw [stn, show st 0#32 = 0#32 by decide, stn_zero n]
theorem xor_eq_zero {a b : B32} (h : a ^^^ b = 0#32) : a = b := by
  have : (a ^^^ b) ^^^ b = 0#32 ^^^ b := by rw [h]
  rw [BitVec.xor_assoc, BitVec.xor_self, BitVec.xor_zero, BitVec.zero_xor] at this
  exact this
theorem stn_inj (n : Nat) {a b : B32} (h : stn n a = stn n b) : a = b := by
  refine xor_eq_zero (stn_inj0 n ?_)
  rw [stn_xor, h, BitVec.xor_self]

/-! ### half a byte -/
theorem stn_low (k : Nat) : ∀ (n : Nat) (s : B32), (∀ i, i < n → s.getLsbD i = false) → stn n s = s >>> n
  | 0, s, _ => by simp [stn]
  | n + 1, s, h => by
    rw [stn, st_even (h 0 (by omega)), stn_low k n (s >>> 1) (fun i hi => by rw [BitVec.getLsbD_ushiftRight]; exact h _ (by omega))]
    rw [← BitVec.shiftRight_add]
    congr 1; omega
theorem stn4 (s : B32) : stn 4 s = (s >>> 4) ^^^ stn 4 (s &&& 15#32) := by
  have h : s = (s &&& 0xFFFFFFF0#32) ^^^ (s &&& 15#32) := by
    apply BitVec.eq_of_getLsbD_eq
    intro i hi
    simp only [BitVec.getLsbD_xor, BitVec.getLsbD_and]
    have : (0xFFFFFFF0#32 : B32).getLsbD i = !(15#32 : B32).getLsbD i := by
      revert i; decide
    rw [this]
    cases s.getLsbD i <;> cases (15#32 : B32).getLsbD i <;> rfl
  conv => lhs; rw [h, stn_xor]
  rw [stn_low 0 4 (s &&& 0xFFFFFFF0#32) (fun i hi => by
    rw [BitVec.getLsbD_and]
    have : (0xFFFFFFF0#32 : B32).getLsbD i = false := by
      have : i = 0 ∨ i = 1 ∨ i = 2 ∨ i = 3 := by omega
      rcases this with rfl | rfl | rfl | rfl <;> decide
    rw [this]; simp)]
  congr 1
  apply BitVec.eq_of_getLsbD_eq
  intro i hi
  simp only [BitVec.getLsbD_ushiftRight, BitVec.getLsbD_and]
  by_cases h2 : 4 + i < 32
  · have : (0xFFFFFFF0#32 : B32).getLsbD (4 + i) = true := by
      have : ∀ j, j < 32 → 4 ≤ j → (0xFFFFFFF0#32 : B32).getLsbD j = true := by decide
      exact this _ h2 (by omega)
    rw [this]; simp
  · rw [BitVec.getLsbD_of_ge s _ (by omega)]; rfl
def tab : List Int := [0, 274646895, 549293790, 820201905, 1098587580, 1361435347, 1640403810, 1905808397, 2197175160, 2460548119, 2722870694, 2987750089, 3280807620, 3553878443, 3811616794, 4084100981]
theorem tab_ok : ∀ n, n < 16 → tab.getD n 0 = ((stn 4 (BitVec.ofNat 32 n)).toNat : Int) := by decide +kernel
theorem half_eq (s : B32) : f_crc_half (s.toNat : Int) = some ((stn 4 (s &&& 15#32)).toNat : Int) := by
  have h15 : (15 : Int) = ((15#32 : B32).toNat : Int) := by decide
  have hle : (s &&& 15#32).toNat < 16 := by
    rw [BitVec.toNat_and]; exact Nat.lt_of_le_of_lt Nat.and_le_right (by decide)
  unfold f_crc_half
  rw [h15, and32, grd_t ⟨by omega, by omega⟩]
  congr 1
  show tab.getD _ 0 = _
  rw [Int.toNat_natCast, tab_ok _ hle]
  congr 2
  simp

/-! ### bytes -/
def isB (x : Int) : Prop := 0 ≤ x ∧ x ≤ 255
def bv (x : Int) : B32 := BitVec.ofInt 32 x
theorem bv_toNat {x : Int} (h : isB x) : ((bv x).toNat : Int) = x := by
  obtain ⟨h0, h1⟩ := h
  unfold bv
  rw [BitVec.toNat_ofInt]
  omega
def bstep (s : B32) (c : Int) : B32 := stn 8 (s ^^^ bv c)
def fold (s : B32) (b : List Int) : B32 := b.foldl bstep s
theorem stn8 (s : B32) : stn 8 s = stn 4 (stn 4 s) := stn_add 4 4 s
theorem rd_nat {xs : List Int} {i : Nat} (h : i < xs.length) : rd xs (i : Int) = xs[i] := len_lt h
theorem more_loop (b : List Int) (hb : ∀ x ∈ b, isB x) (hl : b.length ≤ 4611686018427387904) : ∀ (k i : Nat) (s : B32), i + k = b.length → iter (f_crc_More_l0 b) ((s.toNat : Int), (i : Int)) = some ((fold s (b.drop i)).toNat : Int)
  | 0, i, s, hi => by
    refine iter_stop ?_
    unfold f_crc_More_l0
    simp only
    rw [if_neg (by simp; omega), List.drop_eq_nil_of_le (by omega)]
    rfl
  | k + 1, i, s, hi => by
    have hlt : i < b.length := by omega
    have hx : isB b[i] := hb _ (List.getElem_mem hlt)
    have hstep : f_crc_More_l0 b ((s.toNat : Int), (i : Int)) = some (.inl (((bstep s b[i]).toNat : Int), ((i + 1 : Nat) : Int))) := by
      unfold f_crc_More_l0
      simp only
      rw [if_pos (by simp; omega), grd_t ⟨by omega, by omega⟩, rd_nat hlt, w_u32 hx.1 (by have := hx.2; omega)]
      have e1 : xorI .u32 (s.toNat : Int) b[i] = ((s ^^^ bv b[i]).toNat : Int) := by rw [← xor32, bv_toNat hx]
      rw [e1, half_eq]
      simp only [Option.bind_some]
      have e4 : (4 : Int) = ((4 : Nat) : Int) := rfl
      rw [e4, shr32 _ 4 (by decide), xor32, ← stn4, half_eq]
      simp only [Option.bind_some]
      rw [shr32 _ 4 (by decide), xor32, ← stn4, ← stn8, w_i64 (by omega) (by omega)]
      rfl
    rw [iter_next hstep, more_loop b hb hl k (i + 1) _ (by omega), List.drop_eq_getElem_cons hlt]
    rfl
theorem more_eq (s : B32) (b : List Int) (hb : ∀ x ∈ b, isB x) (hl : b.length ≤ 4611686018427387904) : f_crc_More (s.toNat : Int) b = some ((~~~(fold (~~~s) b)).toNat : Int) := by
  unfold f_crc_More
  rw [not32, show (0 : Int) = ((0 : Nat) : Int) from rfl, more_loop b hb hl b.length 0 _ (by omega)]
  simp only [Option.bind_some, List.drop_zero, not32]
/-- What the program's sum is. -/
def crc (b : List Int) : B32 := ~~~(fold (~~~0#32) b)
theorem sum_eq (b : List Int) (hb : ∀ x ∈ b, isB x) (hl : b.length ≤ 4611686018427387904) : f_crc_Sum b = some ((crc b).toNat : Int) := by
  unfold f_crc_Sum
  rw [show (0 : Int) = (((0#32 : B32).toNat : Nat) : Int) from rfl, more_eq _ b hb hl]
  rfl

/-! ### bit by bit -/
def low (b : Bool) : B32 := if b then 1#32 else 0#32
def top (b : Bool) : B32 := if b then 0x80000000#32 else 0#32
def dir : B32 → List Bool → B32
  | d, [] => d
  | d, b :: r => dir (st (d ^^^ low b)) r
def aug : B32 → List Bool → B32
  | r, [] => r
  | r, b :: l => aug (st r ^^^ top b) l
theorem low_xor (a b : Bool) : low (a ^^ b) = low a ^^^ low b := by cases a <;> cases b <;> decide
theorem top_xor (a b : Bool) : top (a ^^ b) = top a ^^^ top b := by cases a <;> cases b <;> decide
theorem xor4 (a b c d : B32) : (a ^^^ b) ^^^ (c ^^^ d) = (a ^^^ c) ^^^ (b ^^^ d) := by
  rw [BitVec.xor_assoc, BitVec.xor_assoc, ← BitVec.xor_assoc b, ← BitVec.xor_assoc c, BitVec.xor_comm b c]
theorem dir_xor : ∀ (x y : List Bool) (d e : B32), x.length = y.length → dir (d ^^^ e) (List.zipWith (· ^^ ·) x y) = dir d x ^^^ dir e y
  | [], [], d, e, _ => rfl
  | a :: x, b :: y, d, e, h => by
    simp only [List.zipWith_cons_cons, dir]
    rw [low_xor, xor4, st_xor, dir_xor x y _ _ (by simpa using h)]
theorem aug_xor : ∀ (x y : List Bool) (d e : B32), x.length = y.length → aug (d ^^^ e) (List.zipWith (· ^^ ·) x y) = aug d x ^^^ aug e y
  | [], [], d, e, _ => rfl
  | a :: x, b :: y, d, e, h => by
    simp only [List.zipWith_cons_cons, aug]
    rw [top_xor, st_xor, xor4, aug_xor x y _ _ (by simpa using h)]
theorem dir_append : ∀ (x y : List Bool) (d : B32), dir d (x ++ y) = dir (dir d x) y
  | [], _, _ => rfl
  | a :: x, y, d => by simp only [List.cons_append, dir]; exact dir_append x y _
theorem aug_append : ∀ (x y : List Bool) (d : B32), aug d (x ++ y) = aug (aug d x) y
  | [], _, _ => rfl
  | a :: x, y, d => by simp only [List.cons_append, aug]; exact aug_append x y _
theorem dir_zeros : ∀ (n : Nat) (d : B32), dir d (List.replicate n false) = stn n d
  | 0, _ => rfl
  | n + 1, d => by
    rw [List.replicate_succ, dir, show low false = 0#32 from rfl, BitVec.xor_zero, dir_zeros n]; rfl
theorem aug_zeros : ∀ (n : Nat) (d : B32), aug d (List.replicate n false) = stn n d
  | 0, _ => rfl
  | n + 1, d => by
    rw [List.replicate_succ, aug, show top false = 0#32 from rfl, BitVec.xor_zero, aug_zeros n]; rfl
theorem zip_zeros : ∀ (x : List Bool), List.zipWith (· ^^ ·) x (List.replicate x.length false) = x
  | [] => rfl
  | a :: x => by simp only [List.length_cons, List.replicate_succ, List.zipWith_cons_cons, zip_zeros x, Bool.xor_false]
theorem zip_zeros' : ∀ (x : List Bool), List.zipWith (· ^^ ·) (List.replicate x.length false) x = x
  | [] => rfl
  | a :: x => by simp only [List.length_cons, List.replicate_succ, List.zipWith_cons_cons, zip_zeros' x, Bool.false_xor]
theorem dir_split (x : List Bool) (d : B32) : dir d x = stn x.length d ^^^ dir 0#32 x := by
  have := dir_xor (List.replicate x.length false) x d 0#32 (by simp)
  rw [zip_zeros', BitVec.xor_zero, dir_zeros] at this
  exact this
theorem aug_split (x : List Bool) (d : B32) : aug d x = stn x.length d ^^^ aug 0#32 x := by
  have := aug_xor (List.replicate x.length false) x d 0#32 (by simp)
  rw [zip_zeros', BitVec.xor_zero, aug_zeros] at this
  exact this
theorem top_low (b : Bool) : stn 31 (top b) = low b := by cases b <;> decide +kernel
/-- With 32 noughts behind, what is led in at the top is as if it were led in at the bottom. -/
theorem aug_dir : ∀ (x : List Bool), aug 0#32 (x ++ List.replicate 32 false) = dir 0#32 x
  | [] => by rw [List.nil_append, aug_zeros, stn_zero]; rfl
  | b :: x => by
    simp only [List.cons_append, aug, dir]
    rw [show st 0#32 = 0#32 by decide, BitVec.zero_xor, BitVec.zero_xor, aug_split, aug_dir x, dir_split x (st (low b))]
    congr 1
    rw [List.length_append, List.length_replicate, show x.length + 32 = 31 + (1 + x.length) by omega, stn_add, top_low, stn_add]
    rfl
/-- The first 32 turned. -/
def flips (n : Nat) : List Bool := List.replicate 32 true ++ List.replicate n false
theorem aug_flips (n : Nat) : aug 0#32 (flips n) = stn n (~~~0#32) := by
  have h : aug 0#32 (List.replicate 32 true) = ~~~0#32 := by decide +kernel
  unfold flips
  rw [aug_append, aug_zeros, h]
theorem aug_flipped (x : List Bool) : aug 0#32 (List.zipWith (· ^^ ·) (x ++ List.replicate 32 false) (flips x.length)) = dir (~~~0#32) x := by
  have := aug_xor (x ++ List.replicate 32 false) (flips x.length) 0#32 0#32 (by rw [List.length_append, List.length_replicate, flips, List.length_append, List.length_replicate, List.length_replicate]; exact Nat.add_comm _ _)
  rw [BitVec.xor_zero] at this
  rw [this, aug_dir, aug_flips, dir_split x (~~~0#32), BitVec.xor_comm]

/-! ### the bits of bytes -/
def bits8 (c : Int) : List Bool := (List.range 8).map fun j => (bv c).getLsbD j
def bits (b : List Int) : List Bool := b.flatMap bits8
theorem bits8_len (c : Int) : (bits8 c).length = 8 := by simp [bits8]
theorem bits_len : ∀ (b : List Int), (bits b).length = 8 * b.length
  | [] => rfl
  | c :: b => by
    show (bits8 c ++ bits b).length = _
    rw [List.length_append, bits8_len, bits_len b, List.length_cons]; omega
theorem dir8 : ∀ n, n < 256 → dir 0#32 ((List.range 8).map fun j => (BitVec.ofNat 32 n).getLsbD j) = stn 8 (BitVec.ofNat 32 n) := by
  have h : (List.range 256).all (fun n => dir 0#32 ((List.range 8).map fun j => (BitVec.ofNat 32 n).getLsbD j) == stn 8 (BitVec.ofNat 32 n)) = true := by decide +kernel
  intro n hn
  have := List.all_eq_true.1 h n (List.mem_range.2 hn)
  simpa using this
theorem bv_ofNat {c : Int} (h : isB c) : bv c = BitVec.ofNat 32 c.toNat := by
  obtain ⟨m, rfl⟩ := Int.eq_ofNat_of_zero_le h.1
  unfold bv
  simp
theorem dir_byte (s : B32) {c : Int} (h : isB c) : dir s (bits8 c) = bstep s c := by
  rw [dir_split, bits8_len]
  unfold bstep bits8
  rw [stn_xor, bv_ofNat h, dir8 c.toNat (by have := h.1; have := h.2; omega)]
theorem dir_fold : ∀ (b : List Int) (s : B32), (∀ x ∈ b, isB x) → dir s (bits b) = fold s b
  | [], _, _ => rfl
  | c :: b, s, h => by
    show dir s (bits8 c ++ bits b) = _
    rw [dir_append, dir_byte s (h c (by simp)), dir_fold b _ (fun x hx => h x (by simp [hx]))]
    rfl

/-! ### the chapter's sum -/
theorem low_and (s : B32) : s &&& 1#32 = low (s.getLsbD 0) := by
  apply BitVec.eq_of_getLsbD_eq
  intro i hi
  rw [BitVec.getLsbD_and]
  rcases Nat.eq_zero_or_pos i with rfl | hp
  · cases s.getLsbD 0 <;> decide
  · have h1 : (1#32 : B32).getLsbD i = false := by
      have : ∀ j, j < 32 → 0 < j → (1#32 : B32).getLsbD j = false := by decide
      exact this i hi hp
    rw [h1, Bool.and_false]
    cases s.getLsbD 0
    · simp [low]
    · exact h1.symm
theorem low_nat (b : Bool) : ((low b).toNat : Int) = if b then 1 else 0 := by cases b <;> rfl
theorem bits_get : ∀ (b : List Int) (i : Nat) (h : i < 8 * b.length), (bits b)[i]'(by rw [bits_len]; exact h) = (bv (b[i / 8]'(by omega))).getLsbD (i % 8)
  | [], i, h => by simp at h
  | c :: b, i, h => by
    have e : bits (c :: b) = bits8 c ++ bits b := rfl
    by_cases h8 : i < 8
    · have e0 : i / 8 = 0 := by omega
      have e1 : i % 8 = i := by omega
      simp only [e, e0, e1, List.getElem_cons_zero]
      rw [List.getElem_append_left (by rw [bits8_len]; exact h8)]
      simp [bits8]
    · have h' : i - 8 < 8 * b.length := by simp at h; omega
      have e0 : i / 8 = (i - 8) / 8 + 1 := by omega
      have e1 : i % 8 = (i - 8) % 8 := by omega
      simp only [e, e0, e1, List.getElem_cons_succ]
      rw [List.getElem_append_right (by rw [bits8_len]; omega)]
      simp only [bits8_len]
      exact bits_get b (i - 8) h'
def X (b : List Int) : List Bool := List.zipWith (· ^^ ·) (bits b ++ List.replicate 32 false) (flips (8 * b.length))
theorem flips_len (n : Nat) : (flips n).length = 32 + n := by rw [flips, List.length_append, List.length_replicate, List.length_replicate]
theorem X_len (b : List Int) : (X b).length = 8 * b.length + 32 := by
  rw [X, List.length_zipWith, flips_len, List.length_append, bits_len, List.length_replicate]; omega
theorem flips_get (n i : Nat) (h : i < 32 + n) : (flips n)[i]'(by rw [flips_len]; exact h) = decide (i < 32) := by
  unfold flips
  by_cases h2 : i < 32
  · rw [List.getElem_append_left (by rw [List.length_replicate]; exact h2), List.getElem_replicate, decide_eq_true h2]
  · rw [List.getElem_append_right (by rw [List.length_replicate]; omega), List.getElem_replicate, decide_eq_false h2]
def mbit (b : List Int) (i : Nat) : Bool := if h : i < 8 * b.length then (bv (b[i / 8]'(by omega))).getLsbD (i % 8) else false
theorem X_get (b : List Int) (i : Nat) (h : i < 8 * b.length + 32) : (X b)[i]'(by rw [X_len]; exact h) = (mbit b i ^^ decide (i < 32)) := by
  unfold X
  rw [List.getElem_zipWith, flips_get _ _ (by omega)]
  congr 1
  unfold mbit
  split
  · rename_i h1
    rw [List.getElem_append_left (by rw [bits_len]; exact h1), bits_get b i h1]
  · rename_i h1
    rw [List.getElem_append_right (by rw [bits_len]; omega), List.getElem_replicate]
theorem bit_eq (b : List Int) (hb : ∀ x ∈ b, isB x) (hl : b.length ≤ 1000000000000000000) (i : Nat) (h : i < 8 * b.length + 32) : f_ref03_bit b (i : Int) = some ((low (mbit b i ^^ decide (i < 32))).toNat : Int) := by
  have h1 : (if (decide ((i : Int) < (IntKind.i64.wrap ((8 : Int) * (b.length : Int))))) = true then (grd (0 ≤ IntKind.i64.wrap ((i : Int).tdiv (8 : Int)) ∧ IntKind.i64.wrap ((i : Int).tdiv (8 : Int)) < b.length) (grd (0 ≤ (i : Int).tmod (8 : Int)) (some (andI .u32 (shrI .u32 (IntKind.u32.wrap (rd b (IntKind.i64.wrap ((i : Int).tdiv (8 : Int))))) ((i : Int).tmod (8 : Int))) (1 : Int))))) else (some (0 : Int))) = some ((low (mbit b i)).toNat : Int) := by
    rw [w_i64 (n := (8 : Int) * (b.length : Int)) (by omega) (by omega)]
    by_cases h8 : i < 8 * b.length
    · have hlt : i / 8 < b.length := by omega
      have hd : (i : Int).tdiv 8 = ((i / 8 : Nat) : Int) := by rw [Int.tdiv_eq_ediv_of_nonneg (by omega)]; omega
      have hm : (i : Int).tmod 8 = ((i % 8 : Nat) : Int) := by rw [Int.tmod_eq_emod_of_nonneg (by omega)]; omega
      have hx : isB b[i / 8] := hb _ (List.getElem_mem hlt)
      rw [if_pos (by simp; omega), hd, hm, w_i64 (by omega) (by omega), grd_t ⟨by omega, by omega⟩, grd_t (by omega), rd_nat hlt, w_u32 hx.1 (by have := hx.2; omega), ← bv_toNat hx, shr32 _ _ (by omega)]
      rw [show (1 : Int) = ((1#32 : B32).toNat : Int) from rfl, and32, low_and, BitVec.getLsbD_ushiftRight, Nat.add_zero]
      unfold mbit
      rw [dif_pos h8]
    · rw [if_neg (by simp; omega)]
      unfold mbit
      rw [dif_neg h8]
      rfl
  unfold f_ref03_bit
  rw [h1]
  simp only [Option.bind_some]
  by_cases h3 : i < 32
  · rw [if_pos (by simp; omega), decide_eq_true h3]
    cases mbit b i <;> rfl
  · rw [if_neg (by simp; omega), decide_eq_false h3]
    cases mbit b i <;> rfl
theorem top_add (s : B32) (b : Bool) : ((s >>> 1).toNat : Int) + ((top b).toNat : Int) = (((s >>> 1) ^^^ top b).toNat : Int) := by
  cases b with
  | false => rw [show top false = 0#32 from rfl, BitVec.xor_zero]; rfl
  | true =>
    have hlt : (s >>> 1).toNat < 2147483648 := by rw [BitVec.toNat_ushiftRight, Nat.shiftRight_eq_div_pow]; have := s.isLt; omega
    have e : (s >>> 1) ^^^ top true = (s >>> 1) + top true := by
      apply BitVec.eq_of_toNat_eq
      have e2 : (s >>> 1).toNat ^^^ 2147483648 = (s >>> 1).toNat + 2147483648 := by
        apply Nat.eq_of_testBit_eq
        intro j
        rw [Nat.testBit_xor, show 2147483648 = 2 ^ 31 by decide, Nat.add_comm]
        rw [Nat.testBit_two_pow]
        by_cases hj : j = 31
        · subst hj
          rw [Nat.testBit_two_pow_add_eq, Nat.testBit_lt_two_pow (by omega)]; simp
        · by_cases hj2 : j < 31
          · rw [Nat.testBit_two_pow_add_gt hj2, decide_eq_false (by omega), Bool.xor_false]
          · rw [Nat.testBit_lt_two_pow (x := (s >>> 1).toNat) (i := j) (Nat.lt_of_lt_of_le hlt (by rw [show 2147483648 = 2 ^ 31 by decide]; exact Nat.pow_le_pow_right (by decide) (by omega)))]
            rw [Nat.testBit_lt_two_pow (Nat.lt_of_lt_of_le (show 2 ^ 31 + (s >>> 1).toNat < 2 ^ 32 by omega) (Nat.pow_le_pow_right (by decide) (by omega)))]
            simp; omega
      rw [BitVec.toNat_xor, BitVec.toNat_add, show (top true).toNat = 2147483648 from rfl, e2, Nat.mod_eq_of_lt (by omega)]
    rw [e, BitVec.toNat_add, show (top true).toNat = 2147483648 from rfl, Nat.mod_eq_of_lt (by omega)]
    rfl
theorem ref_loop (b : List Int) (hb : ∀ x ∈ b, isB x) (hl : b.length ≤ 1000000000000000000) : ∀ (k i : Nat) (s : B32), i + k = 8 * b.length + 32 → iter (f_ref03_Sum_l0 b) ((s.toNat : Int), (i : Int)) = some ((aug s ((X b).drop i)).toNat : Int)
  | 0, i, s, hi => by
    refine iter_stop ?_
    unfold f_ref03_Sum_l0
    simp only
    rw [w_i64 (n := (8 : Int) * (b.length : Int)) (by omega) (by omega), w_i64 (n := (8 : Int) * (b.length : Int) + 32) (by omega) (by omega), if_neg (by simp; omega), List.drop_eq_nil_of_le (by rw [X_len]; omega)]
    rfl
  | k + 1, i, s, hi => by
    have hlt : i < 8 * b.length + 32 := by omega
    have hx := X_get b i hlt
    have hstep : f_ref03_Sum_l0 b ((s.toNat : Int), (i : Int)) = some (.inl (((st s ^^^ top ((X b)[i]'(by rw [X_len]; exact hlt))).toNat : Int), ((i + 1 : Nat) : Int))) := by
      unfold f_ref03_Sum_l0
      simp only
      rw [w_i64 (n := (8 : Int) * (b.length : Int)) (by omega) (by omega), w_i64 (n := (8 : Int) * (b.length : Int) + 32) (by omega) (by omega), if_pos (by simp; omega), bit_eq b hb hl i hlt, ← hx]
      simp only [Option.bind_some]
      generalize (X b)[i]'(by rw [X_len]; exact hlt) = x
      have e1 : IntKind.u32.wrap ((low x).toNat * 2147483648 : Int) = ((top x).toNat : Int) := by cases x <;> rfl
      have e2 : IntKind.u32.wrap ((s.toNat : Int).tdiv 2) = ((s >>> 1).toNat : Int) := by
        rw [Int.tdiv_eq_ediv_of_nonneg (by omega), BitVec.toNat_ushiftRight, Nat.shiftRight_eq_div_pow, w_u32 (by omega) (by have := nat32 s; omega)]
        omega
      rw [e1, e2, top_add, w_u32 (by omega) (by have := nat32 ((s >>> 1) ^^^ top x); omega)]
      rw [show (1 : Int) = ((1#32 : B32).toNat : Int) from rfl, and32, low_and, w_i64 (by omega) (by omega)]
      have hst : st s = (s >>> 1) ^^^ (if s.getLsbD 0 then 0x82F63B78#32 else 0#32) := rfl
      cases h0 : s.getLsbD 0 with
      | true =>
        rw [if_pos (by decide), show (2197175160 : Int) = ((0x82F63B78#32 : B32).toNat : Int) from rfl, xor32, hst, h0]
        simp only [Option.bind_some, if_true]
        rw [BitVec.xor_assoc, BitVec.xor_comm (top x), ← BitVec.xor_assoc]
        rfl
      | false =>
        rw [if_neg (by decide), hst, h0]
        simp only [Option.bind_some, Bool.false_eq_true, if_false, BitVec.xor_zero]
        rfl
    rw [iter_next hstep, ref_loop b hb hl k (i + 1) _ (by omega), List.drop_eq_getElem_cons (i := i) (by rw [X_len]; exact hlt)]
    rfl
theorem ref_eq (b : List Int) (hb : ∀ x ∈ b, isB x) (hl : b.length ≤ 1000000000000000000) : f_ref03_Sum b = some ((crc b).toNat : Int) := by
  unfold f_ref03_Sum
  have e := ref_loop b hb hl (8 * b.length + 32) 0 0#32 (by omega)
  rw [show (((0#32 : B32).toNat : Nat) : Int) = 0 from rfl, show ((0 : Nat) : Int) = 0 from rfl] at e
  rw [e]
  simp only [Option.bind_some, List.drop_zero]
  have e2 : aug 0#32 (X b) = fold (~~~0#32) b := by
    have := aug_flipped (bits b)
    rw [bits_len] at this
    rw [← dir_fold b _ hb, ← this]; rfl
  rw [e2]
  congr 1
  unfold crc
  rw [BitVec.toNat_not, w_u32 (by have := nat32 (fold (~~~0#32) b); omega) (by omega)]
  have := (fold (~~~0#32) b).isLt
  omega

/-! ### a sum as four bytes -/
def le4 (s : B32) : List Int := [(s.toNat : Int) % 256, (s.toNat : Int) / 256 % 256, (s.toNat : Int) / 65536 % 256, (s.toNat : Int) / 16777216 % 256]
theorem shr_nat (s : B32) (k : Nat) : ((s >>> k).toNat : Int) = (s.toNat : Int) / 2 ^ k := by
  rw [BitVec.toNat_ushiftRight, Nat.shiftRight_eq_div_pow, Int.natCast_ediv, Int.natCast_pow]; rfl
theorem put_eq (b : List Int) (hb : ∀ x ∈ b, isB x) (hl : b.length ≤ 274877906000) : f_crc_Put b = some (b ++ le4 (crc b)) := by
  unfold f_crc_Put
  rw [sum_eq b hb (by omega)]
  simp only [Option.bind_some, List.nil_append, List.length_nil, Nat.zero_add, List.length_append, List.length_cons]
  rw [w_i64 (by omega) (by omega), grd_t ⟨by omega, by omega⟩, grd_t (by omega), grd_t (by omega)]
  have h8 := shr32 (crc b) 8 (by decide)
  have h16 := shr32 (crc b) 16 (by decide)
  have h24 := shr32 (crc b) 24 (by decide)
  rw [show (8 : Int) = ((8 : Nat) : Int) from rfl, show (16 : Int) = ((16 : Nat) : Int) from rfl, show (24 : Int) = ((24 : Nat) : Int) from rfl, h8, h16, h24, shr_nat, shr_nat, shr_nat, u8_mod, u8_mod, u8_mod, u8_mod]
  rfl
theorem orI4 {x0 x1 x2 x3 : Int} (h0 : isB x0) (h1 : isB x1) (h2 : isB x2) (h3 : isB x3) :
    orI .u32 (orI .u32 (orI .u32 (IntKind.u32.wrap x0) (shlI .u32 (IntKind.u32.wrap x1) 8)) (shlI .u32 (IntKind.u32.wrap x2) 16)) (shlI .u32 (IntKind.u32.wrap x3) 24) = x0 + 256 * x1 + 65536 * x2 + 16777216 * x3 := by
  have e (x : Int) (h : isB x) : IntKind.u32.wrap x = ((bv x).toNat : Int) := by rw [w_u32 h.1 (by have := h.2; omega), bv_toNat h]
  rw [e _ h0, e _ h1, e _ h2, e _ h3, show (8 : Int) = ((8 : Nat) : Int) from rfl, show (16 : Int) = ((16 : Nat) : Int) from rfl, show (24 : Int) = ((24 : Nat) : Int) from rfl, shl32 _ 8 (by decide), shl32 _ 16 (by decide), shl32 _ 24 (by decide), or32, or32, or32]
  have k0 := bv_toNat h0; have k1 := bv_toNat h1; have k2 := bv_toNat h2; have k3 := bv_toNat h3
  obtain ⟨l0, u0⟩ := h0; obtain ⟨l1, u1⟩ := h1; obtain ⟨l2, u2⟩ := h2; obtain ⟨l3, u3⟩ := h3
  generalize (bv x0) = b0 at *; generalize (bv x1) = b1 at *; generalize (bv x2) = b2 at *; generalize (bv x3) = b3 at *
  have o (a c : Nat) (n : Nat) (h : c < 2 ^ n) : c ||| a <<< n = a * 2 ^ n + c := by
    rw [Nat.or_comm, ← Nat.shiftLeft_add_eq_or_of_lt h, Nat.shiftLeft_eq]
  have sh (c : B32) (n : Nat) (h : c.toNat * 2 ^ n < 4294967296) : (c <<< n).toNat = c.toNat <<< n := by
    rw [BitVec.toNat_shiftLeft, Nat.shiftLeft_eq, Nat.mod_eq_of_lt h]
  rw [BitVec.toNat_or, BitVec.toNat_or, BitVec.toNat_or, sh b1 8 (by omega), sh b2 16 (by omega), sh b3 24 (by omega), o b1.toNat b0.toNat 8 (by omega), o b2.toNat _ 16 (by omega), o b3.toNat _ 24 (by omega)]
  omega
theorem le4_iff (s : B32) {x0 x1 x2 x3 : Int} (h0 : isB x0) (h1 : isB x1) (h2 : isB x2) (h3 : isB x3) : (s.toNat : Int) = x0 + 256 * x1 + 65536 * x2 + 16777216 * x3 ↔ [x0, x1, x2, x3] = le4 s := by
  obtain ⟨l0, u0⟩ := h0; obtain ⟨l1, u1⟩ := h1; obtain ⟨l2, u2⟩ := h2; obtain ⟨l3, u3⟩ := h3
  have := nat32 s
  unfold le4
  simp only [List.cons.injEq, and_true]
  omega
theorem drop4 {b : List Int} {n : Nat} (h : b.length = n + 4) : b.drop n = [b[n]'(by omega), b[n + 1]'(by omega), b[n + 2]'(by omega), b[n + 3]'(by omega)] := by
  rw [List.drop_eq_getElem_cons (by omega), List.drop_eq_getElem_cons (by omega), List.drop_eq_getElem_cons (by omega), List.drop_eq_getElem_cons (by omega), List.drop_eq_nil_of_le (by omega)]
def opened (b : List Int) : List Int × Bool := if b.length < 4 then ([], false) else if b.drop (b.length - 4) = le4 (crc (b.take (b.length - 4))) then (b.take (b.length - 4), true) else ([], false)
theorem open_eq (b : List Int) (hb : ∀ x ∈ b, isB x) (hl : b.length ≤ 274877906000) : f_crc_Open b = some (opened b) := by
  unfold f_crc_Open opened
  by_cases h4 : b.length < 4
  · rw [w_i64 (by omega) (by omega), if_pos (by simp; omega), if_pos h4]
  · obtain ⟨n, hn⟩ : ∃ n, b.length = n + 4 := ⟨b.length - 4, by omega⟩
    have e : IntKind.i64.wrap ((b.length : Int) - 4) = (n : Int) := by rw [w_i64 (by omega) (by omega)]; omega
    rw [e, if_neg (by simp), if_neg h4, show b.length - 4 = n by omega]
    rw [w_i64 (n := (n : Int) + 1) (by omega) (by omega), w_i64 (n := (n : Int) + 2) (by omega) (by omega), w_i64 (n := (n : Int) + 3) (by omega) (by omega)]
    rw [grd_t ⟨by omega, by omega⟩, grd_t ⟨by omega, by omega⟩, grd_t ⟨by omega, by omega⟩, grd_t ⟨by omega, by omega⟩, grd_t ⟨by omega, by omega, by omega⟩]
    have hs : sub b 0 (n : Int) = b.take n := by simp [sub]
    rw [hs, sum_eq _ (fun x hx => hb x (List.mem_of_mem_take hx)) (by rw [List.length_take]; omega)]
    simp only [Option.bind_some]
    have r0 : rd b (n : Int) = b[n] := rd_nat (by omega)
    have r1 : rd b ((n : Int) + 1) = b[n + 1] := rd_nat (i := n + 1) (by omega)
    have r2 : rd b ((n : Int) + 2) = b[n + 2] := rd_nat (i := n + 2) (by omega)
    have r3 : rd b ((n : Int) + 3) = b[n + 3] := rd_nat (i := n + 3) (by omega)
    have x0 := hb _ (List.getElem_mem (show n < b.length by omega))
    have x1 := hb _ (List.getElem_mem (show n + 1 < b.length by omega))
    have x2 := hb _ (List.getElem_mem (show n + 2 < b.length by omega))
    have x3 := hb _ (List.getElem_mem (show n + 3 < b.length by omega))
    rw [r0, r1, r2, r3, orI4 x0 x1 x2 x3, drop4 hn]
    have hiff := le4_iff (crc (b.take n)) x0 x1 x2 x3
    by_cases hc : ((crc (b.take n)).toNat : Int) = b[n] + 256 * b[n + 1] + 65536 * b[n + 2] + 16777216 * b[n + 3]
    · rw [if_neg (by simpa using hc), if_pos (hiff.1 hc), grd_t ⟨by omega, by omega⟩, Int.toNat_natCast, List.length_replicate, List.drop_eq_nil_of_le (by rw [List.length_replicate]; omega), List.append_nil]
    · rw [if_pos (by simpa using hc), if_neg (fun h => hc (hiff.2 h))]
theorem le4_len (s : B32) : (le4 s).length = 4 := rfl
theorem le4_b (s : B32) : ∀ x ∈ le4 s, isB x := by
  intro x hx
  have := nat32 s
  unfold le4 at hx
  simp only [List.mem_cons, List.not_mem_nil, or_false] at hx
  unfold isB
  rcases hx with rfl | rfl | rfl | rfl <;> omega
theorem opened_put (b : List Int) : opened (b ++ le4 (crc b)) = (b, true) := by
  have h : (b ++ le4 (crc b)).length - 4 = b.length := by rw [List.length_append, le4_len]; omega
  unfold opened
  rw [h, if_neg (by rw [List.length_append, le4_len]; omega), List.take_left' rfl, List.drop_left' rfl, if_pos rfl]
def nine : List Int := [49, 50, 51, 52, 53, 54, 55, 56, 57]
theorem works_eq : f_law03_works = some true := by
  have hn : ∀ x ∈ nine, isB x := by unfold nine isB; decide
  have h3 : ∀ x ∈ ([1, 2, 3] : List Int), isB x := by unfold isB; decide
  have hp := put_eq nine hn (by decide)
  have hpb : ∀ x ∈ nine ++ le4 (crc nine), isB x := fun x hx => (List.mem_append.1 hx).elim (hn x) (le4_b _ x)
  have ho := open_eq (nine ++ le4 (crc nine)) hpb (by rw [List.length_append, le4_len]; decide)
  rw [opened_put] at ho
  have ho3 := open_eq [1, 2, 3] h3 (by decide)
  have hs := sum_eq nine hn (by decide)
  have hs0 := sum_eq [] (by simp) (by decide)
  have hc : ((crc nine).toNat : Int) = 3808858755 := by decide +kernel
  have hc0 : ((crc []).toNat : Int) = 0 := by decide +kernel
  unfold f_law03_works
  rw [show ([(49 : Int), 50, 51, 52, 53, 54, 55, 56, 57] : List Int) = nine from rfl, hp]
  simp only [Option.bind_some]
  rw [ho, ho3]
  simp only [Option.bind_some]
  rw [hs, hs0, hc, hc0]
  rfl
theorem isB_of {b : List Int} (h : ∀ x ∈ b, (Lit.int .u8 x).wf = true) : ∀ x ∈ b, isB x := fun x hx => bounds_u8 (h x hx)
theorem pure_CrcSums (b : List Int) (h : (∀ x ∈ b, (Lit.int .u8 x).wf = true) ∧ b.length ≤ maxLen) : f_law03_CrcSums b = some true := by
  unfold f_law03_CrcSums
  rw [works_eq]
  by_cases h6 : 600 < b.length
  · rw [if_pos (by simp; omega)]; rfl
  · rw [if_neg (by simp; omega), sum_eq b (isB_of h.1) (by omega), ref_eq b (isB_of h.1) (by omega)]
    simp
end Go.Proofs.Ytmifmgpfjamdkaa.G
