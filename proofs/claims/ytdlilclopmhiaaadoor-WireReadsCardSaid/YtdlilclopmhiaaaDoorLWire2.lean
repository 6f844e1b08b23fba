/- Chapter 2, on: the reference writes the same; a number read, by both. No condition. -/
import Derived.Test.YtdlilclopmhiaaaDoorLWire
set_option linter.unusedSimpArgs false
set_option linter.unusedVariables false
namespace Go.Proofs.YtdlilclopmhiaaaDoor.G
open Go Go.KK

/-! ### the reference writes -/
theorem numStep (x : Int) (l : List Int) (i : Nat) (h0 : 0 ≤ x) (h1 : x ≤ top) (hi : i < l.length) (hl : l.length ≤ 8) : f_ref02_Num_l0 (x, l, (i : Int)) = some (.inl (x / 256, l.set i (x % 256), (i : Int) - 1)) := by
  unfold top at h1
  unfold f_ref02_Num_l0
  simp only
  rw [if_pos (decide_eq_true (by omega)), grd_t ⟨by omega, by omega⟩, Int.tdiv_eq_ediv_of_nonneg h0, Int.tmod_eq_emod_of_nonneg h0, w_u64 (by omega) (by omega), w_u8 (n := x % 256) (by omega) (by omega), w_i64 (by omega) (by omega), show ((i : Int)).toNat = i by omega]
theorem numStop (x : Int) (l : List Int) : iter f_ref02_Num_l0 (x, l, (-1 : Int)) = some l := iter_stop (by
  unfold f_ref02_Num_l0
  simp only
  rw [if_neg (by decide)])
theorem size_eq (k : Int) : f_ref02_size k = some (if k < 64 then 1 else if k < 16384 then 2 else if k < 1073741824 then 4 else 8) := by
  unfold f_ref02_size
  by_cases h1 : k < 64
  · rw [if_pos (decide_eq_true h1), if_pos h1]
  rw [if_neg (fun q => h1 (of_decide_eq_true q)), if_neg h1]
  by_cases h2 : k < 16384
  · rw [if_pos (decide_eq_true h2), if_pos h2]
  rw [if_neg (fun q => h2 (of_decide_eq_true q)), if_neg h2]
  by_cases h3 : k < 1073741824
  · rw [if_pos (decide_eq_true h3), if_pos h3]
  rw [if_neg (fun q => h3 (of_decide_eq_true q)), if_neg h3]
theorem rnum_eq (n : Int) (h0 : 0 ≤ n) : f_ref02_Num n = some (numB n) := by
  have hc := cap62_le h0
  unfold f_ref02_Num numB
  have e0 : (if (decide ((4611686018427387903 : Int) < n)) = true then (some (4611686018427387903 : Int)) else (some n)) = some (cap62 n) := by
    unfold cap62 top
    by_cases h : 4611686018427387903 < n
    · rw [if_pos (decide_eq_true h), if_pos h]
    · rw [if_neg (fun q => h (of_decide_eq_true q)), if_neg h]
  rw [e0]
  generalize cap62 n = k at hc
  have hk := hc
  unfold top at hk
  simp only [Option.bind_some, size_eq]
  unfold numC
  by_cases h1 : k < 64
  · rw [if_pos h1, if_pos h1, grd_t (by decide), show IntKind.i64.wrap (1 - 1) = ((0 : Nat) : Int) from rfl, show List.replicate (1 : Int).toNat (0 : Int) = [0] from rfl]
    rw [iter_next (numStep k [0] 0 hc.1 hc.2 (by decide) (by decide)), show (((0 : Nat) : Int) - 1) = -1 from rfl, numStop]
    simp only [Option.bind_some]
    rw [iter_run (e := 0) 3 rfl]
    simp only [Option.bind_some]
    rw [grd_t (by simp), grd_t (by simp)]
    show some [IntKind.u8.wrap (k % 256 + 0)] = _
    rw [w_u8 (by omega) (by omega)]
    congr 2
    omega
  rw [if_neg h1, if_neg h1]
  by_cases h2 : k < 16384
  · rw [if_pos h2, if_pos h2, grd_t (by decide), show IntKind.i64.wrap (2 - 1) = ((1 : Nat) : Int) from rfl, show List.replicate (2 : Int).toNat (0 : Int) = [0, 0] from rfl]
    rw [iter_next (numStep k [0, 0] 1 hc.1 hc.2 (by decide) (by decide)), show (((1 : Nat) : Int) - 1) = ((0 : Nat) : Int) from rfl, iter_next (numStep (k / 256) _ 0 (by omega) (by unfold top; omega) (by simp) (by simp)), show (((0 : Nat) : Int) - 1) = -1 from rfl, numStop]
    simp only [Option.bind_some]
    rw [iter_run (e := 64) 3 rfl]
    simp only [Option.bind_some]
    rw [grd_t (by simp), grd_t (by simp)]
    show some [IntKind.u8.wrap (k / 256 % 256 + 64), k % 256] = _
    rw [w_u8 (by omega) (by omega)]
    congr 2
    omega
  rw [if_neg h2, if_neg h2]
  by_cases h3 : k < 1073741824
  · rw [if_pos h3, if_pos h3, grd_t (by decide), show IntKind.i64.wrap (4 - 1) = ((3 : Nat) : Int) from rfl, show List.replicate (4 : Int).toNat (0 : Int) = [0, 0, 0, 0] from rfl]
    rw [iter_next (numStep k [0, 0, 0, 0] 3 hc.1 hc.2 (by decide) (by decide)), show (((3 : Nat) : Int) - 1) = ((2 : Nat) : Int) from rfl, iter_next (numStep (k / 256) _ 2 (by omega) (by unfold top; omega) (by simp) (by simp)),
      show (((2 : Nat) : Int) - 1) = ((1 : Nat) : Int) from rfl, iter_next (numStep (k / 256 / 256) _ 1 (by omega) (by unfold top; omega) (by simp) (by simp)), show (((1 : Nat) : Int) - 1) = ((0 : Nat) : Int) from rfl, iter_next (numStep (k / 256 / 256 / 256) _ 0 (by omega) (by unfold top; omega) (by simp) (by simp)), show (((0 : Nat) : Int) - 1) = -1 from rfl, numStop]
    simp only [Option.bind_some]
    rw [iter_run (e := 128) 4 rfl]
    simp only [Option.bind_some]
    rw [grd_t (by simp), grd_t (by simp)]
    show some [IntKind.u8.wrap (k / 256 / 256 / 256 % 256 + 128), k / 256 / 256 % 256, k / 256 % 256, k % 256] = _
    rw [w_u8 (by omega) (by omega)]
    congr 2
    omega
  · rw [if_neg h3, if_neg h3, grd_t (by decide), show IntKind.i64.wrap (8 - 1) = ((7 : Nat) : Int) from rfl, show List.replicate (8 : Int).toNat (0 : Int) = [0, 0, 0, 0, 0, 0, 0, 0] from rfl]
    rw [iter_next (numStep k [0, 0, 0, 0, 0, 0, 0, 0] 7 hc.1 hc.2 (by decide) (by decide)), show (((7 : Nat) : Int) - 1) = ((6 : Nat) : Int) from rfl, iter_next (numStep (k / 256) _ 6 (by omega) (by unfold top; omega) (by simp) (by simp)),
      show (((6 : Nat) : Int) - 1) = ((5 : Nat) : Int) from rfl, iter_next (numStep (k / 256 / 256) _ 5 (by omega) (by unfold top; omega) (by simp) (by simp)),
      show (((5 : Nat) : Int) - 1) = ((4 : Nat) : Int) from rfl, iter_next (numStep (k / 256 / 256 / 256) _ 4 (by omega) (by unfold top; omega) (by simp) (by simp)),
      show (((4 : Nat) : Int) - 1) = ((3 : Nat) : Int) from rfl, iter_next (numStep (k / 256 / 256 / 256 / 256) _ 3 (by omega) (by unfold top; omega) (by simp) (by simp)),
      show (((3 : Nat) : Int) - 1) = ((2 : Nat) : Int) from rfl, iter_next (numStep (k / 256 / 256 / 256 / 256 / 256) _ 2 (by omega) (by unfold top; omega) (by simp) (by simp)),
      show (((2 : Nat) : Int) - 1) = ((1 : Nat) : Int) from rfl, iter_next (numStep (k / 256 / 256 / 256 / 256 / 256 / 256) _ 1 (by omega) (by unfold top; omega) (by simp) (by simp)), show (((1 : Nat) : Int) - 1) = ((0 : Nat) : Int) from rfl, iter_next (numStep (k / 256 / 256 / 256 / 256 / 256 / 256 / 256) _ 0 (by omega) (by unfold top; omega) (by simp) (by simp)), show (((0 : Nat) : Int) - 1) = -1 from rfl, numStop]
    simp only [Option.bind_some]
    rw [iter_run (e := 192) 5 rfl]
    simp only [Option.bind_some]
    rw [grd_t (by simp), grd_t (by simp)]
    show some [IntKind.u8.wrap (k / 256 / 256 / 256 / 256 / 256 / 256 / 256 % 256 + 192), k / 256 / 256 / 256 / 256 / 256 / 256 % 256, k / 256 / 256 / 256 / 256 / 256 % 256, k / 256 / 256 / 256 / 256 % 256, k / 256 / 256 / 256 % 256, k / 256 / 256 % 256, k / 256 % 256, k % 256] = _
    rw [w_u8 (by omega) (by omega)]
    congr 2
    omega
theorem rint_eq (n : Int) (hn : n ≤ 9223372036854775807) : f_ref02_Int n = some (intB n) := by
  unfold f_ref02_Int intB
  by_cases h : n < 0
  · rw [if_pos (decide_eq_true h), if_pos h]; rfl
  · rw [if_neg (fun q => h (of_decide_eq_true q)), if_neg h, w_u64 (by omega) (by omega), rnum_eq n (by omega)]; rfl
theorem rflag_eq (is : Bool) : f_ref02_Flag is = some (flagB is) := by cases is <;> rfl
theorem rtext_eq (s : List Int) (hs : s.length ≤ 274877800000) : f_ref02_Text s = some (textB s) := by
  unfold f_ref02_Text textB
  rw [rint_eq _ (by omega)]
  have := intB_len (s.length : Int)
  simp only [Option.bind_some]
  rw [grd_t (by omega)]
theorem rrow_loop (l : List Int) (hl : ∀ x ∈ l, x ≤ 9223372036854775807) (hn : l.length ≤ 1000000) : ∀ (d i : Nat) (b : List Int), i + d = l.length → b.length + 8 * d ≤ 274877900000 →
    iter (f_ref02_Row_l0 l) (b, (i : Int)) = some (b ++ intsB (l.drop i))
  | 0, i, b, hi, hb => by
    rw [List.drop_of_length_le (by omega)]
    refine iter_stop ?_
    unfold f_ref02_Row_l0
    simp only
    rw [if_neg (fun q => absurd (of_decide_eq_true q) (by omega))]
    simp [intsB]
  | d + 1, i, b, hi, hb => by
    have hlt : i < l.length := by omega
    have hlen := (intB_len l[i]).1
    have hstep : f_ref02_Row_l0 l (b, (i : Int)) = some (.inl (b ++ intB l[i], ((i + 1 : Nat) : Int))) := by
      unfold f_ref02_Row_l0
      simp only
      rw [if_pos (decide_eq_true (by omega)), grd_t ⟨by omega, by omega⟩, rdn hlt, rint_eq _ (hl _ (List.getElem_mem hlt)), w_i64 (by omega) (by omega)]
      simp only [Option.bind_some]
      rw [grd_t (by omega)]
      rfl
    rw [iter_next hstep, rrow_loop l hl hn d (i + 1) _ (by omega) (by simp; omega), List.drop_eq_getElem_cons hlt, intsB_cons, List.append_assoc]
theorem rrow_eq (l : List Int) (hl : ∀ x ∈ l, x ≤ 9223372036854775807) (hn : l.length ≤ 1000000) : f_ref02_Row l = some (rowB l) := by
  unfold f_ref02_Row rowB
  rw [rint_eq _ (by omega)]
  simp only [Option.bind_some]
  have h := rrow_loop l hl hn l.length 0 (intB (l.length : Int)) (by omega) (by have := (intB_len (l.length : Int)).1; omega)
  rw [show ((0 : Nat) : Int) = 0 from rfl] at h
  rw [h]
  simp
theorem rsame_loop (l : List Int) (hl : l.length ≤ 274877906944) : ∀ (d m : Nat), m + d = l.length → iter (f_ref02_Same_l0 l l) (m : Int) = some (.inl ())
  | 0, m, hm => by
    refine iter_stop ?_
    unfold f_ref02_Same_l0
    simp only
    rw [if_neg (fun q => absurd (of_decide_eq_true q) (by omega))]
  | d + 1, m, hm => by
    have hstep : f_ref02_Same_l0 l l (m : Int) = some (.inl ((m + 1 : Nat) : Int)) := by
      unfold f_ref02_Same_l0
      simp only
      rw [if_pos (decide_eq_true (by omega)), grd_t ⟨by omega, by omega⟩, grd_t ⟨by omega, by omega⟩, w_i64 (by omega) (by omega)]
      simp
    rw [iter_next hstep]
    exact rsame_loop l hl d (m + 1) (by omega)
theorem rsame_eq (l : List Int) (hl : l.length ≤ 274877906944) : f_ref02_Same l l = some true := by
  unfold f_ref02_Same
  have h := rsame_loop l hl l.length 0 (by omega)
  rw [show ((0 : Nat) : Int) = 0 from rfl] at h
  rw [h, if_neg (by simp)]
  rfl

/-! ### a number read -/
/-- What stands in the bytes from a on, i more of them taken. -/
def accN (b : List Int) (a : Nat) : Nat → Int
  | 0 => rd b (a : Int) % 64
  | i + 1 => accN b a i * 256 + rd b ((a + (i + 1) : Nat) : Int)
def capN : Nat → Int
  | 0 => 63
  | i + 1 => capN i * 256 + 255
theorem capN_le : ∀ i : Fin 8, capN i.val ≤ top := by decide
theorem capN_le6 : ∀ i : Fin 7, capN i.val ≤ 18014398509481983 := by decide
theorem accN_bnd {b : List Int} (hb : okB b) {a : Nat} : ∀ i : Nat, a + i < b.length → 0 ≤ accN b a i ∧ accN b a i ≤ capN i
  | 0, h => by
    have := hb.at (i := a) (by omega)
    simp only [accN, capN]
    omega
  | i + 1, h => by
    have h1 := accN_bnd (a := a) hb i (by omega)
    have h2 := hb.at (i := a + (i + 1)) h
    simp only [accN, capN]
    omega
def headK (h : Int) : Nat := if h / 64 = 0 then 1 else if h / 64 = 1 then 2 else if h / 64 = 2 then 4 else 8
def sizeK (n : Int) : Nat := if n < 64 then 1 else if n < 16384 then 2 else if n < 1073741824 then 4 else 8
/-- A number read at a place: what is wrong, or it and where it ends. -/
def numR (b : List Int) (a : Nat) (most : Int) : Int ⊕ (Int × Nat) :=
  if b.length ≤ a then .inl 3
  else if b.length < a + headK (rd b (a : Int)) then .inl 3
  else if sizeK (accN b a (headK (rd b (a : Int)) - 1)) ≠ headK (rd b (a : Int)) then .inl 5
  else if most < accN b a (headK (rd b (a : Int)) - 1) then .inl 6
  else .inr (accN b a (headK (rd b (a : Int)) - 1), a + headK (rd b (a : Int)))
theorem size_eq' (k : Int) : f_ref02_size k = some ((sizeK k : Nat) : Int) := by
  rw [size_eq]
  unfold sizeK
  split
  · rfl
  split
  · rfl
  split <;> rfl
theorem headK_le (h : Int) : headK h ≤ 8 ∧ 1 ≤ headK h := by
  unfold headK
  split
  · simp
  split
  · simp
  split <;> simp
abbrev numOp : ByteArray := ⟨#[110, 117, 109]⟩
theorem rnum_l1 {b : List Int} (hb : okB b) (hl : b.length ≤ 1000000000000) {a : Nat} {s : T_ref02_State} (hs : s.At = (a : Int)) (k : Nat) (hk : a + k ≤ b.length) (hk8 : k ≤ 8) : ∀ (d i : Nat), i + 1 + d = k →
    iter (f_ref02_num_l1 b s (k : Int)) (accN b a i, ((i + 1 : Nat) : Int)) = some (accN b a (k - 1))
  | 0, i, h => by
    refine iter_stop ?_
    unfold f_ref02_num_l1
    simp only
    rw [if_neg (fun q => absurd (of_decide_eq_true q) (by omega)), show k - 1 = i by omega]
  | d + 1, i, h => by
    have hb1 := accN_bnd (a := a) hb i (by omega)
    have hb2 := capN_le6 ⟨i, by omega⟩
    have hb3 := hb.at (i := a + (i + 1)) (by omega)
    have ea : IntKind.i64.wrap (s.At + ((i + 1 : Nat) : Int)) = ((a + (i + 1) : Nat) : Int) := by rw [hs, w_i64 (by omega) (by omega)]; omega
    simp only at hb2
    have hstep : f_ref02_num_l1 b s (k : Int) (accN b a i, ((i + 1 : Nat) : Int)) = some (.inl (accN b a (i + 1), ((i + 1 + 1 : Nat) : Int))) := by
      unfold f_ref02_num_l1
      simp only
      rw [if_pos (decide_eq_true (by omega)), ea, grd_t ⟨by omega, by omega⟩, w_u64 (n := accN b a i * 256) (by omega) (by omega), w_u64 (n := rd b ((a + (i + 1) : Nat) : Int)) (by omega) (by omega), w_u64 (by omega) (by omega), w_i64 (by omega) (by omega)]
      rfl
    rw [iter_next hstep]
    exact rnum_l1 hb hl hs k hk hk8 d (i + 1) (by omega)
theorem rnum_l0 {h : Int} (h0 : 0 ≤ h) (h1 : h ≤ 255) : iter f_ref02_num_l0 ((1 : Int), IntKind.u8.wrap (h.tdiv 64)) = some ((headK h : Nat) : Int) := by
  rw [Int.tdiv_eq_ediv_of_nonneg h0, w_u8 (by omega) (by omega)]
  have hq : h / 64 = 0 ∨ h / 64 = 1 ∨ h / 64 = 2 ∨ h / 64 = 3 := by omega
  unfold headK
  rcases hq with q | q | q | q <;> rw [q]
  · exact iter_run 2 rfl
  · exact iter_run 3 rfl
  · exact iter_run 4 rfl
  · exact iter_run 5 rfl
theorem rbad_eq (s : T_ref02_State) (h : s.Code = 0) (o : ByteArray) (a c : Int) : f_ref02_bad s o a c = some ⟨s.At, c, o, a⟩ := by
  unfold f_ref02_bad
  rw [if_neg (fun q => absurd h (of_decide_eq_true q))]
def numS (b : List Int) (a : Nat) (most : Int) : T_ref02_State × Int :=
  match numR b a most with
  | .inl c => (⟨(a : Int), c, numOp, (a : Int)⟩, 0)
  | .inr (n, a') => (⟨(a' : Int), 0, ⟨#[]⟩, 0⟩, n)
theorem rnum_read {b : List Int} (hb : okB b) (hl : b.length ≤ 1000000000000) {a : Nat} {s : T_ref02_State} (hs : s.At = (a : Int)) (hc : s.Code = 0) (most : Int) : f_ref02_num b s most = some (numS b a most) := by
  unfold f_ref02_num numS numR
  rw [if_neg (fun q => absurd hc (of_decide_eq_true q)), hs]
  by_cases g1 : b.length ≤ a
  · rw [if_pos (decide_eq_true (by omega)), if_pos g1, rbad_eq s hc, hs]; rfl
  rw [if_neg (fun q => absurd (of_decide_eq_true q) (by omega)), if_neg g1, grd_t ⟨by omega, by omega⟩]
  have hB := hb.at (i := a) (by omega)
  rw [rnum_l0 hB.1 hB.2]
  have hK := headK_le (rd b (a : Int))
  generalize hkk : headK (rd b (a : Int)) = k at hK
  simp only [Option.bind_some]
  have ea : IntKind.i64.wrap ((a : Int) + (k : Int)) = ((a + k : Nat) : Int) := by rw [w_i64 (by omega) (by omega)]; omega
  rw [ea]
  by_cases g2 : b.length < a + k
  · rw [if_pos (decide_eq_true (by omega)), if_pos g2, rbad_eq s hc, hs]; rfl
  rw [if_neg (fun q => absurd (of_decide_eq_true q) (by omega)), if_neg g2, grd_t ⟨by omega, by omega⟩]
  have e0 : IntKind.u64.wrap ((rd b (a : Int)).tmod 64) = accN b a 0 := by
    rw [Int.tmod_eq_emod_of_nonneg hB.1, w_u64 (by omega) (by omega)]; rfl
  have hloop := rnum_l1 hb hl hs k (by omega) (by omega) (k - 1) 0 (by omega)
  rw [show ((0 + 1 : Nat) : Int) = 1 from rfl] at hloop
  rw [e0, hloop]
  simp only [Option.bind_some, size_eq']
  by_cases g3 : sizeK (accN b a (k - 1)) = k
  · rw [if_neg (fun q => absurd (of_decide_eq_true q) (by omega)), if_neg (show ¬ (sizeK (accN b a (k - 1)) ≠ k) from fun q => q g3)]
    by_cases g4 : most < accN b a (k - 1)
    · rw [if_pos (decide_eq_true g4), if_pos g4, rbad_eq s hc, hs]; rfl
    · rw [if_neg (fun q => g4 (of_decide_eq_true q)), if_neg g4]
  · rw [if_pos (decide_eq_true (by omega)), if_pos g3, rbad_eq s hc, hs]; rfl
theorem rnum_bad {b : List Int} {s : T_ref02_State} (hc : s.Code ≠ 0) (most : Int) : f_ref02_num b s most = some (s, 0) := by
  unfold f_ref02_num
  rw [if_pos (decide_eq_true hc)]
end Go.Proofs.YtdlilclopmhiaaaDoor.G
