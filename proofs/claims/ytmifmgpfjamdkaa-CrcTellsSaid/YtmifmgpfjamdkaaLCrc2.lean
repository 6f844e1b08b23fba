/- The other laws of chapter 03, of what the printed functions compute. No condition. -/
import Derived.Test.YtmifmgpfjamdkaaLCrc
set_option linter.unusedSimpArgs false
set_option linter.unusedVariables false
namespace Go.Proofs.Ytmifmgpfjamdkaa.G
open Go Go.KK

/-! ### parts -/
theorem fold_append (s : B32) (a b : List Int) : fold s (a ++ b) = fold (fold s a) b := by simp [fold, List.foldl_append]
theorem crc_append (a b : List Int) : ~~~(fold (~~~(crc a)) b) = crc (a ++ b) := by
  unfold crc
  rw [BitVec.not_not, fold_append]
theorem pure_CrcParts (a b c : List Int) (ha : (∀ x ∈ a, (Lit.int .u8 x).wf = true) ∧ a.length ≤ maxLen) (hb : (∀ x ∈ b, (Lit.int .u8 x).wf = true) ∧ b.length ≤ maxLen) (hc : (∀ x ∈ c, (Lit.int .u8 x).wf = true) ∧ c.length ≤ maxLen) : f_law03_CrcParts a b c = some true := by
  unfold f_law03_CrcParts
  rw [works_eq]
  by_cases h1 : 400 < a.length
  · rw [if_pos (by simp; omega)]; rfl
  by_cases h2 : 400 < b.length
  · rw [if_neg (by simp; omega), if_pos (by simp; omega)]; rfl
  by_cases h3 : 400 < c.length
  · rw [if_neg (by simp; omega), if_neg (by simp; omega)]
    simp; omega
  rw [if_neg (by simp; omega), if_neg (by simp; omega), show decide ((400 : Int) < (c.length : Int)) = false by simp; omega]
  simp only [Option.bind_some, Bool.false_eq_true, if_false, List.nil_append, List.length_nil, List.length_append]
  rw [grd_t (by omega), grd_t (by omega), grd_t (by omega)]
  have ia := isB_of ha.1; have ib := isB_of hb.1; have ic := isB_of hc.1
  rw [sum_eq a ia (by omega)]
  simp only [Option.bind_some]
  rw [more_eq _ b ib (by omega), crc_append]
  simp only [Option.bind_some]
  rw [more_eq _ c ic (by omega), crc_append]
  simp only [Option.bind_some]
  rw [ref_eq _ (fun x hx => by
    rcases List.mem_append.1 hx with hx | hx
    · rcases List.mem_append.1 hx with hx | hx
      · exact ia x hx
      · exact ib x hx
    · exact ic x hx) (by simp only [List.length_append]; omega)]
  simp

/-! ### what is put, and opened -/
theorem same_loop (a b : List Int) (hl : a.length = b.length) (hm : a.length ≤ 4611686018427387904) : ∀ (k i : Nat), i + k = a.length →
    iter (f_ref02_Same_l0 a b) (i : Int) = some (if a.drop i = b.drop i then Sum.inl () else Sum.inr ())
  | 0, i, hi => by
    refine iter_stop ?_
    unfold f_ref02_Same_l0
    simp only
    rw [if_neg (by simp; omega), List.drop_eq_nil_of_le (by omega), List.drop_eq_nil_of_le (by omega), if_pos rfl]
  | k + 1, i, hi => by
    have h1 : i < a.length := by omega
    have h2 : i < b.length := by omega
    by_cases he : a[i] = b[i]
    · have hstep : f_ref02_Same_l0 a b (i : Int) = some (.inl ((i + 1 : Nat) : Int)) := by
        unfold f_ref02_Same_l0
        simp only
        rw [if_pos (by simp; omega), grd_t ⟨by omega, by omega⟩, grd_t ⟨by omega, by omega⟩, rd_nat h1, rd_nat h2, if_neg (by simpa using he), w_i64 (by omega) (by omega)]
        rfl
      rw [iter_next hstep, same_loop a b hl hm k (i + 1) (by omega), List.drop_eq_getElem_cons (i := i) h1, List.drop_eq_getElem_cons (i := i) h2, he]
      simp only [List.cons.injEq, true_and]
    · refine iter_stop ?_
      unfold f_ref02_Same_l0
      simp only
      rw [if_pos (by simp; omega), grd_t ⟨by omega, by omega⟩, grd_t ⟨by omega, by omega⟩, rd_nat h1, rd_nat h2, if_pos (by simpa using he), List.drop_eq_getElem_cons (i := i) h1, List.drop_eq_getElem_cons (i := i) h2, if_neg (fun q => he (List.cons.inj q).1)]
theorem same_eq (a b : List Int) (hm : a.length ≤ 4611686018427387904) : f_ref02_Same a b = some (decide (a = b)) := by
  unfold f_ref02_Same
  by_cases hl : a.length = b.length
  · rw [if_neg (by simp; omega)]
    have h := same_loop a b hl hm a.length 0 (by omega)
    rw [show ((0 : Nat) : Int) = 0 from rfl] at h
    rw [h]
    simp only [List.drop_zero, Option.bind_some]
    by_cases e : a = b
    · rw [if_pos e, decide_eq_true e]; rfl
    · rw [if_neg e, decide_eq_false e]; rfl
  · rw [if_pos (by simp; omega), decide_eq_false (fun e => hl (by rw [e]))]
theorem refput_eq (b : List Int) (hb : ∀ x ∈ b, isB x) (hl : b.length ≤ 274877906000) : f_ref03_Put b = some (b ++ le4 (crc b)) := by
  unfold f_ref03_Put
  rw [grd_t (by simp; omega), ref_eq b hb (by omega)]
  simp only [Option.bind_some, List.nil_append]
  have hs := nat32 (crc b)
  generalize hS : ((crc b).toNat : Int) = S at hs
  have hS0 : 0 ≤ S := by omega
  have step (p : List Int) (s i : Int) (h0 : 0 ≤ s) (h1 : s < 4294967296) (h2 : 0 ≤ i) (h3 : i < 4) (h4 : p.length ≤ 274877906900) : f_ref03_Put_l0 (p, s, i) = some (.inl (p ++ [s % 256], s / 256, i + 1)) := by
    unfold f_ref03_Put_l0
    simp only
    rw [if_pos (by simp; omega), grd_t (by simp; omega), Int.tmod_eq_emod_of_nonneg h0, Int.tdiv_eq_ediv_of_nonneg h0, w_u8 (by omega) (by omega), w_u32 (by omega) (by omega), w_i64 (by omega) (by omega)]
  have stop (p : List Int) (s : Int) : f_ref03_Put_l0 (p, s, 4) = some (.inr p) := by
    unfold f_ref03_Put_l0
    rfl
  rw [iter_next (step b S 0 (by omega) (by omega) (by omega) (by omega) (by omega)), iter_next (step _ _ _ (by omega) (by omega) (by omega) (by omega) (by simp; omega)), iter_next (step _ _ _ (by omega) (by omega) (by omega) (by omega) (by simp; omega)), iter_next (step _ _ _ (by omega) (by omega) (by omega) (by omega) (by simp; omega))]
  rw [show (0 : Int) + 1 + 1 + 1 + 1 = 4 from rfl, iter_stop (stop _ _)]
  simp only [Option.bind_some, le4, hS, List.append_assoc, List.cons_append, List.nil_append]
  have e1 : S / 256 / 256 = S / 65536 := by omega
  have e2 : S / 65536 / 256 = S / 16777216 := by omega
  rw [e1, e2]
theorem refopen_loop (a p : List Int) (hl : p.length = a.length) (hm : a.length ≤ 4611686018427387904) : ∀ (k i : Nat), i + k = a.length →
    iter (f_ref03_Open_l0 a p) (i : Int) = some (if p.drop i = a.drop i then Sum.inl () else Sum.inr [])
  | 0, i, hi => by
    refine iter_stop ?_
    unfold f_ref03_Open_l0
    simp only
    rw [if_neg (by simp; omega), List.drop_eq_nil_of_le (by omega), List.drop_eq_nil_of_le (by omega), if_pos rfl]
  | k + 1, i, hi => by
    have h1 : i < a.length := by omega
    have h2 : i < p.length := by omega
    by_cases he : p[i] = a[i]
    · have hstep : f_ref03_Open_l0 a p (i : Int) = some (.inl ((i + 1 : Nat) : Int)) := by
        unfold f_ref03_Open_l0
        simp only
        rw [if_pos (by simp; omega), grd_t ⟨by omega, by omega⟩, grd_t ⟨by omega, by omega⟩, rd_nat h1, rd_nat h2, if_neg (by simpa using he), w_i64 (by omega) (by omega)]
        rfl
      rw [iter_next hstep, refopen_loop a p hl hm k (i + 1) (by omega), List.drop_eq_getElem_cons (i := i) h1, List.drop_eq_getElem_cons (i := i) h2, he]
      simp only [List.cons.injEq, true_and]
    · refine iter_stop ?_
      unfold f_ref03_Open_l0
      simp only
      rw [if_pos (by simp; omega), grd_t ⟨by omega, by omega⟩, grd_t ⟨by omega, by omega⟩, rd_nat h1, rd_nat h2, if_pos (by simpa using he), List.drop_eq_getElem_cons (i := i) h1, List.drop_eq_getElem_cons (i := i) h2, if_neg (fun q => he (List.cons.inj q).1)]
theorem refopen_eq (b : List Int) (hb : ∀ x ∈ b, isB x) (hl : b.length ≤ 274877906000) : f_ref03_Open b = some (opened b) := by
  unfold f_ref03_Open opened
  by_cases h4 : b.length < 4
  · rw [if_pos (by simp; omega), if_pos h4]
  · obtain ⟨n, hn⟩ : ∃ n, b.length = n + 4 := ⟨b.length - 4, by omega⟩
    have e : IntKind.i64.wrap ((b.length : Int) - 4) = (n : Int) := by rw [w_i64 (by omega) (by omega)]; omega
    have hs : sub b 0 (n : Int) = b.take n := by simp [sub]
    rw [e, if_neg (by simp; omega), if_neg h4, show b.length - 4 = n by omega, grd_t ⟨by omega, by omega, by omega⟩, grd_t ⟨by omega, by omega, by omega⟩, hs, refput_eq _ (fun x hx => hb x (List.mem_of_mem_take hx)) (by rw [List.length_take]; omega)]
    simp only [Option.bind_some]
    have h := refopen_loop b (b.take n ++ le4 (crc (b.take n))) (by rw [List.length_append, List.length_take, le4_len]; omega) (by omega) b.length 0 (by omega)
    rw [show ((0 : Nat) : Int) = 0 from rfl] at h
    rw [h]
    simp only [List.drop_zero, Option.bind_some]
    have hiff : b.take n ++ le4 (crc (b.take n)) = b ↔ b.drop n = le4 (crc (b.take n)) := by
      constructor
      · intro q
        have q2 : b.take n ++ le4 (crc (b.take n)) = b.take n ++ b.drop n := by rw [List.take_append_drop]; exact q
        exact (List.append_cancel_left q2).symm
      · intro q
        rw [← q, List.take_append_drop]
    by_cases q : b.take n ++ le4 (crc (b.take n)) = b
    · rw [if_pos q, if_pos (hiff.1 q)]; rfl
    · rw [if_neg q, if_neg (fun z => q (hiff.2 z))]; rfl
theorem opened_b (b : List Int) : (opened b).1.length ≤ b.length := by
  unfold opened
  split
  · exact Nat.zero_le _
  · split
    · simp only [List.length_take]; omega
    · exact Nat.zero_le _
theorem pure_CrcPuts (b : List Int) (h : (∀ x ∈ b, (Lit.int .u8 x).wf = true) ∧ b.length ≤ maxLen) : f_law03_CrcPuts b = some true := by
  have ib := isB_of h.1
  unfold f_law03_CrcPuts
  rw [works_eq]
  by_cases h5 : 500 < b.length
  · rw [if_pos (by simp; omega)]; rfl
  have hp : ∀ x ∈ b ++ le4 (crc b), isB x := fun x hx => (List.mem_append.1 hx).elim (ib x) (le4_b _ x)
  have hpl : (b ++ le4 (crc b)).length = b.length + 4 := by rw [List.length_append, le4_len]
  have ob := opened_b b
  rw [if_neg (by simp; omega), open_eq b ib (by omega), refopen_eq b ib (by omega), put_eq b ib (by omega), refput_eq b ib (by omega)]
  simp only [Option.bind_some]
  rw [if_neg (by simp), same_eq _ _ (by omega)]
  simp only [Option.bind_some, decide_true, Bool.not_true, Bool.false_eq_true, if_false]
  rw [same_eq _ _ (by omega)]
  simp only [Option.bind_some, decide_true, Bool.not_true, Bool.false_eq_true, if_false]
  rw [open_eq _ hp (by omega), opened_put]
  simp only [Option.bind_some, if_true]
  rw [same_eq _ _ (by omega)]
  simp

/-! ### three texts together -/
theorem xor8 {x y : Int} (hx : isB x) (hy : isB y) : isB (xorI .u8 x y) ∧ bv (xorI .u8 x y) = bv x ^^^ bv y := by
  have e : xorI .u8 x y = ((x.toNat ^^^ y.toNat : Nat) : Int) := by
    unfold xorI
    show IntKind.u8.wrap (((BitVec.ofInt 8 x) ^^^ (BitVec.ofInt 8 y)).toNat : Int) = _
    have e1 : (BitVec.ofInt 8 x).toNat = x.toNat := by rw [BitVec.toNat_ofInt]; have := hx.1; have := hx.2; omega
    have e2 : (BitVec.ofInt 8 y).toNat = y.toNat := by rw [BitVec.toNat_ofInt]; have := hy.1; have := hy.2; omega
    have hlt := ((BitVec.ofInt 8 x) ^^^ (BitVec.ofInt 8 y)).isLt
    rw [w_u8 (by omega) (by omega), BitVec.toNat_xor, e1, e2]
  have hlt : x.toNat ^^^ y.toNat < 2 ^ 8 := Nat.xor_lt_two_pow (by have := hx.1; have := hx.2; omega) (by have := hy.1; have := hy.2; omega)
  have hb : isB (xorI .u8 x y) := by rw [e]; exact ⟨by omega, by omega⟩
  refine ⟨hb, ?_⟩
  apply BitVec.eq_of_toNat_eq
  have k := bv_toNat hb
  have kx := bv_toNat hx
  have ky := bv_toNat hy
  rw [BitVec.toNat_xor]
  have e3 : (bv x).toNat = x.toNat := by have := hx.1; omega
  have e4 : (bv y).toNat = y.toNat := by have := hy.1; omega
  rw [e3, e4]
  rw [e] at k ⊢
  omega
def zip3 : List Int → List Int → List Int → List Int
  | a :: x, b :: y, c :: z => xorI .u8 (xorI .u8 a b) c :: zip3 x y z
  | _, _, _ => []
theorem zip3_ok : ∀ (x y z : List Int) (s t u : B32), y.length = x.length → z.length = x.length → (∀ q ∈ x, isB q) → (∀ q ∈ y, isB q) → (∀ q ∈ z, isB q) →
    (∀ q ∈ zip3 x y z, isB q) ∧ fold (s ^^^ t ^^^ u) (zip3 x y z) = fold s x ^^^ fold t y ^^^ fold u z
  | [], [], [], s, t, u, _, _, _, _, _ => ⟨by simp [zip3], rfl⟩
  | a :: x, b :: y, c :: z, s, t, u, h1, h2, ha, hb, hc => by
    obtain ⟨k1, k2⟩ := xor8 (ha a (by simp)) (hb b (by simp))
    obtain ⟨k3, k4⟩ := xor8 k1 (hc c (by simp))
    have ih := zip3_ok x y z (bstep s a) (bstep t b) (bstep u c) (by simpa using h1) (by simpa using h2) (fun q hq => ha q (by simp [hq])) (fun q hq => hb q (by simp [hq])) (fun q hq => hc q (by simp [hq]))
    refine ⟨fun q hq => ?_, ?_⟩
    · simp only [zip3, List.mem_cons] at hq
      rcases hq with rfl | hq
      · exact k3
      · exact ih.1 q hq
    · have e : bstep (s ^^^ t ^^^ u) (xorI .u8 (xorI .u8 a b) c) = bstep s a ^^^ bstep t b ^^^ bstep u c := by
        unfold bstep
        rw [k4, k2, ← stn_xor, ← stn_xor]
        congr 1
        rw [xor4 s (bv a) t (bv b), xor4 (s ^^^ t) (bv a ^^^ bv b) u (bv c)]
      show fold (bstep (s ^^^ t ^^^ u) _) (zip3 x y z) = _
      rw [e, ih.2]
      rfl
theorem linear_loop (a b c : List Int) (ha : ∀ q ∈ a, isB q) (h1 : a.length ≤ b.length) (h2 : a.length ≤ c.length) (hm : a.length ≤ 400) : ∀ (k i : Nat) (x : List Int), i + k = a.length → x.length = i →
    iter (f_law03_CrcLinear_l0 a b c) (x, (i : Int)) = some (x ++ zip3 (a.drop i) ((b.take a.length).drop i) ((c.take a.length).drop i))
  | 0, i, x, hi, hx => by
    refine iter_stop ?_
    unfold f_law03_CrcLinear_l0
    simp only
    rw [if_neg (by simp; omega), List.drop_eq_nil_of_le (by omega)]
    simp [zip3]
  | k + 1, i, x, hi, hx => by
    have la : i < a.length := by omega
    have lb : i < b.length := by omega
    have lc : i < c.length := by omega
    have hstep : f_law03_CrcLinear_l0 a b c (x, (i : Int)) = some (.inl (x ++ [xorI .u8 (xorI .u8 a[i] b[i]) c[i]], ((i + 1 : Nat) : Int))) := by
      unfold f_law03_CrcLinear_l0
      simp only
      rw [if_pos (by simp; omega), grd_t ⟨by omega, by omega⟩, grd_t ⟨by omega, by omega⟩, grd_t ⟨by omega, by omega⟩, grd_t (by simp; omega), rd_nat la, rd_nat lb, rd_nat lc, w_i64 (by omega) (by omega)]
      rfl
    rw [iter_next hstep, linear_loop a b c ha h1 h2 hm k (i + 1) _ (by omega) (by simp [hx])]
    rw [List.drop_eq_getElem_cons (i := i) la, List.drop_eq_getElem_cons (l := b.take a.length) (i := i) (by rw [List.length_take]; omega), List.drop_eq_getElem_cons (l := c.take a.length) (i := i) (by rw [List.length_take]; omega)]
    simp [zip3]
theorem not_xor3 (a b c : B32) : ~~~(a ^^^ b ^^^ c) = ~~~a ^^^ ~~~b ^^^ ~~~c := by
  apply BitVec.eq_of_getLsbD_eq
  intro i hi
  simp only [BitVec.getLsbD_not, BitVec.getLsbD_xor, decide_eq_true hi, Bool.true_and]
  cases a.getLsbD i <;> cases b.getLsbD i <;> cases c.getLsbD i <;> rfl
theorem pure_CrcLinear (a b c : List Int) (ha : (∀ x ∈ a, (Lit.int .u8 x).wf = true) ∧ a.length ≤ maxLen) (hb : (∀ x ∈ b, (Lit.int .u8 x).wf = true) ∧ b.length ≤ maxLen) (hc : (∀ x ∈ c, (Lit.int .u8 x).wf = true) ∧ c.length ≤ maxLen) : f_law03_CrcLinear a b c = some true := by
  unfold f_law03_CrcLinear
  rw [works_eq]
  by_cases h1 : 400 < a.length
  · rw [if_pos (by simp; omega)]; rfl
  by_cases h2 : b.length < a.length
  · rw [if_neg (by simp; omega), if_pos (by simp; omega)]; rfl
  by_cases h3 : c.length < a.length
  · rw [if_neg (by simp; omega), if_neg (by simp; omega), show decide ((c.length : Int) < (a.length : Int)) = true by simp; omega]; rfl
  rw [if_neg (by simp; omega), if_neg (by simp; omega), show decide ((c.length : Int) < (a.length : Int)) = false by simp; omega]
  simp only [Option.bind_some, Bool.false_eq_true, if_false]
  have ia := isB_of ha.1; have ib := isB_of hb.1; have ic := isB_of hc.1
  have hloop := linear_loop a b c ia (by omega) (by omega) (by omega) a.length 0 [] (by omega) rfl
  rw [show ((0 : Nat) : Int) = 0 from rfl] at hloop
  rw [hloop]
  simp only [Option.bind_some, List.nil_append, List.drop_zero]
  rw [grd_t ⟨by omega, by omega, by omega⟩, grd_t ⟨by omega, by omega, by omega⟩]
  have sb : sub b 0 (a.length : Int) = b.take a.length := by simp [sub]
  have sc : sub c 0 (a.length : Int) = c.take a.length := by simp [sub]
  have ib' : ∀ x ∈ b.take a.length, isB x := fun x hx => ib x (List.mem_of_mem_take hx)
  have ic' : ∀ x ∈ c.take a.length, isB x := fun x hx => ic x (List.mem_of_mem_take hx)
  have lb : (b.take a.length).length = a.length := by rw [List.length_take]; omega
  have lc : (c.take a.length).length = a.length := by rw [List.length_take]; omega
  obtain ⟨z1, z2⟩ := zip3_ok a (b.take a.length) (c.take a.length) (~~~0#32) (~~~0#32) (~~~0#32) lb lc ia ib' ic'
  have zl : ∀ (x y z : List Int), (zip3 x y z).length ≤ x.length := by
    intro x
    induction x with
    | nil => intro y z; simp [zip3]
    | cons q x ih =>
      intro y z
      cases y with
      | nil => simp [zip3]
      | cons r y => cases z with
        | nil => simp [zip3]
        | cons s z => simp only [zip3, List.length_cons]; have := ih y z; omega
  have zl' := zl a (b.take a.length) (c.take a.length)
  rw [sb, sc, sum_eq _ z1 (by omega), sum_eq a ia (by omega), sum_eq _ ib' (by omega), sum_eq _ ic' (by omega)]
  simp only [Option.bind_some]
  have e : crc (zip3 a (b.take a.length) (c.take a.length)) = crc a ^^^ crc (b.take a.length) ^^^ crc (c.take a.length) := by
    unfold crc
    rw [← not_xor3, ← z2]
    congr 2
  rw [xor32, xor32, e]
  simp
end Go.Proofs.Ytmifmgpfjamdkaa.G
