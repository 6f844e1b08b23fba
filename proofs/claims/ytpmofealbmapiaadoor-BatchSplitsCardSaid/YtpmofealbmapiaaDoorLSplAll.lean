
/- The plain part: what the printed functions compute, and that the laws hold of it. No condition. -/
import Derived.Test.YtpmofealbmapiaaDoorS0
import Derived.Test.YtpmofealbmapiaaDoorS1
import Derived.Test.YtpmofealbmapiaaDoorS2
import Derived.Test.YtpmofealbmapiaaDoorS3
import Derived.Test.YtpmofealbmapiaaDoorS4
import Derived.Test.YtpmofealbmapiaaDoorKArith
import Derived.KernelRfl
import Derived.OpenShut
import Derived.Test.YtpmofealbmapiaaDoorKConv
set_option linter.unusedSimpArgs false
set_option linter.unusedVariables false
set_option maxHeartbeats 8000000
namespace Go.Proofs.YtpmofealbmapiaaDoor.G
open Go Go.KK
def codeIn : GErr → Option Int
  | .nil => none
  | .code n => some n
  | .fault _ _ e => codeIn e
  | .other _ => none
def OfE (e : GErr) : Int := match e with | .nil => 0 | e => (codeIn e).getD 21
@[simp] theorem OfE_nil : OfE .nil = 0 := rfl
@[simp] theorem OfE_code (n : Int) : OfE (.code n) = n := rfl
@[simp] theorem OfE_fault (o : ByteArray) (a n : Int) : OfE (.fault o a (.code n)) = n := rfl
theorem rdn {α : Type} [Inhabited α] {xs : List α} {i : Nat} (h : i < xs.length) : rd xs (i : Int) = xs[i] := len_lt h
def okB (l : List Int) : Prop := ∀ x ∈ l, 0 ≤ x ∧ x ≤ 255
theorem okB.nil : okB [] := fun _ h => by cases h
theorem okB.append {a b : List Int} (h : okB a) (k : okB b) : okB (a ++ b) := fun x hx => (List.mem_append.1 hx).elim (h x) (k x)
theorem okB.at {l : List Int} (h : okB l) {i : Nat} (hi : i < l.length) : 0 ≤ rd l (i : Int) ∧ rd l (i : Int) ≤ 255 := by
  rw [rdn hi]; exact h _ (List.getElem_mem hi)
theorem okB.drop {l : List Int} (h : okB l) (n : Nat) : okB (l.drop n) := fun x hx => h x (List.mem_of_mem_drop hx)
theorem okB.take {l : List Int} (h : okB l) (n : Nat) : okB (l.take n) := fun x hx => h x (List.mem_of_mem_take hx)
/-! ### operations on numbers -/
theorem fdiv_nn {a b : Int} (h : 0 < b) : a.fdiv b = a / b := Int.fdiv_eq_ediv_of_nonneg _ (Int.le_of_lt h)
theorem shr8 (n : Int) (k : Nat) (hk : k + 8 ≤ 64) : shrI .u64 n ((k + 8 : Nat) : Int) = shrI .u64 n (k : Int) / 256 := by
  unfold shrI
  rw [show min (((k + 8 : Nat) : Int)).toNat IntKind.u64.bits = k + 8 by show min _ 64 = _; omega, show min ((k : Int)).toNat IntKind.u64.bits = k by show min _ 64 = _; omega]
  rw [fdiv_nn (Int.pow_pos (by decide)), fdiv_nn (Int.pow_pos (by decide)), Int.pow_add]
  exact (Int.ediv_ediv_of_nonneg (Int.pow_nonneg (by decide))).symm
theorem shr0 (n : Int) : shrI .u64 n (0 : Int) = n := by
  unfold shrI
  show n.fdiv (2 ^ 0) = n
  rw [fdiv_nn (by decide)]
  omega
theorem s8 (n : Int) : shrI .u64 n 8 = n / 256 := by have := shr8 n 0 (by decide); rw [show ((0 : Nat) : Int) = 0 from rfl, shr0] at this; exact this
/-! ### a number as bytes -/
/-! ### the reference writes -/
/-! ### a number read -/
abbrev RdR (α : Type) := (Int × ByteArray × Int × Nat) ⊕ (α × Nat)
/-! ### the reference reads -/
/-! ### what is read was written just so -/
/-! ### what is written is read -/
def mapR {α β : Type} (f : α → β) : RdR α → RdR β
  | .inl x => .inl x
  | .inr (x, a) => .inr (f x, a)
def leR {α : Type} (N : Nat) (P : α → Prop) : RdR α → Prop
  | .inl (c, _, _, a) => a ≤ N ∧ c ≠ 0
  | .inr (x, a) => a ≤ N ∧ P x
theorem leR.map {α β : Type} {N : Nat} {P : α → Prop} {Q : β → Prop} {f : α → β} {R : RdR α} (h : leR N P R) (k : ∀ x, P x → Q (f x)) : leR N Q (mapR f R) := by
  cases R with
  | inl x => exact h
  | inr x => exact ⟨h.1, k _ h.2⟩
/-! ### what was written is read -/
/-! ### what is read was written in just that way -/
structure stC (c : Nat) (pre : List Int) (a : Int) (e : GErr) : Prop where
  whole : pre.length ≤ c → a = (pre.length : Int) ∧ e = .nil
  short : c < pre.length → ∃ o w, e = .fault o w (.code 3)
theorem stC.on {c : Nat} {pre x : List Int} {a : Int} {e : GErr} (h : stC c pre a e) (g : c < pre.length) : stC c (pre ++ x) a e := ⟨fun k => by rw [List.length_append] at k; omega, fun _ => h.short g⟩
theorem stC.no {c : Nat} {pre : List Int} {a : Int} {e : GErr} (h : stC c pre a e) : stC c (pre ++ []) a e := by rw [List.append_nil]; exact h
section
variable {b : List Int} {c : Nat} {pre post : List Int} {a : Int} {e : GErr}
end
/-! ### brokers -/
def brOk (l : List Int) : Prop := l.length ≤ 7 ∧ ∀ i (h : i < l.length), 1 ≤ l[i] ∧ l[i] ≤ 64 ∧ l[i] ∉ l.take i
/-! ### what a kind is about -/
/-! ### what may be sent -/
theorem bindQ {α β : Type} {x : Option α} {y : α} {f : α → Option β} (h : x = some y) : x.bind f = f y := by rw [h]; rfl
/-! ### written -/
/-! ### what was written is read -/
/-! ### the example -/
abbrev Rec := T_api_Record
/-! ### what a kind is about -/
def aboutR (k : Int) : Int := if k = 2 then 1027 else if k = 3 ∨ k = 4 ∨ k = 5 ∨ k = 6 then 3 else if k = 7 then 132 else if k = 8 then 6172 else if k = 9 then 14366 else if k = 10 then 836 else if k = 11 then 4 else if k = 12 then 32 else 0
def hasR (k bit : Int) : Bool := decide (andI .i64 (aboutR k) bit ≠ 0)
/-! ### names -/
def okC (c : Int) : Bool := (decide (97 ≤ c) && decide (c ≤ 122)) || (decide (48 ≤ c) && decide (c ≤ 57)) || decide (c = 46) || decide (c = 45)
def nameV (s : ByteArray) : Bool := decide (1 ≤ s.size) && decide (s.size ≤ 40) && !decide (s = ⟨#[46]⟩) && !decide (s = ⟨#[46, 46]⟩) && (bytesOf s).all okC
/-! ### whether a record may be -/
def numW (n : Int) (has : Bool) (least most : Int) : Bool := if has = true then decide (least ≤ n ∧ n ≤ most) else decide (n = 0)
def textN (s : ByteArray) (has : Bool) : Bool := if has = true then nameV s else decide (s = ⟨#[]⟩)
def textW (s : ByteArray) (has : Bool) : Bool := if has = true then decide ((s.size : Int) ≤ 256) else decide (s = ⟨#[]⟩)
open Classical in
noncomputable def brB (l : List Int) : Bool := decide (brOk l)
noncomputable def rowV (l : List Int) (has : Bool) : Bool := if has = true then brB l else decide ((l.length : Int) = 0)
def leastR (k : Int) : Int := if k = 10 then 0 else 1
structure okRec (r : Rec) : Prop where
  kind : 1 ≤ r.Kind ∧ r.Kind ≤ 12
  broker : numW r.Broker (hasR r.Kind 1) 1 64 = true
  epoch : numW r.Epoch (hasR r.Kind 2) 0 1073741824 = true
  topic : numW r.Topic (hasR r.Kind 4) (leastR r.Kind) 1073741824 = true
  part : numW r.Part (hasR r.Kind 8) 0 255 = true
  leader : numW r.Leader (hasR r.Kind 16) 0 64 = true
  client : numW r.Client (hasR r.Kind 32) 1 1073741824 = true
  serial : numW r.Serial (hasR r.Kind 32) 1 1073741824 = true
  code : numW r.Code (hasR r.Kind 32) 0 21 = true
  flag : hasR r.Kind 64 = false → r.Flag = false
  name : textN r.Name (hasR r.Kind 128) = true
  key : textN r.Key (hasR r.Kind 256) = true
  rack : textN r.Rack (hasR r.Kind 1024) = true
  value : textW r.Value (hasR r.Kind 512) = true
  ids : rowV r.Ids (hasR r.Kind 2048) = true
  isr : rowV r.Isr (hasR r.Kind 4096) = true
  add : rowV r.Add (hasR r.Kind 8192) = true
  drop : rowV r.Drop (hasR r.Kind 8192) = true
/-! ### the bytes -/
/-! ### put -/
theorem ints_self (l : List Int) (hl : l.length ≤ 1000000) : f_ref02_Ints l l = some true := by
  unfold f_ref02_Ints
  rw [if_neg (by simp)]
  have go : ∀ (d i : Nat), i + d = l.length → iter (f_ref02_Ints_l0 l l) (i : Int) = some (.inl ()) := by
    intro d
    induction d with
    | zero =>
      intro i h
      refine iter_stop ?_
      unfold f_ref02_Ints_l0
      simp only
      rw [if_neg (fun z => absurd (of_decide_eq_true z) (by omega))]
    | succ d ih =>
      intro i h
      have hs : f_ref02_Ints_l0 l l (i : Int) = some (.inl ((i + 1 : Nat) : Int)) := by
        unfold f_ref02_Ints_l0
        simp only
        rw [if_pos (decide_eq_true (by omega)), grd_t (by omega), grd_t (by omega), if_neg (by simp), w_i64 (by omega) (by omega)]
        rfl
      rw [iter_next hs]
      exact ih (i + 1) (by omega)
  have := go l.length 0 (by omega)
  rw [show ((0 : Nat) : Int) = 0 from rfl] at this
  rw [this]
  rfl
theorem same_self (a : Rec) (h1 : a.Ids.length ≤ 1000000) (h2 : a.Isr.length ≤ 1000000) (h3 : a.Add.length ≤ 1000000) (h4 : a.Drop.length ≤ 1000000) : f_ref05_Same a a = some true := by
  unfold f_ref05_Same
  simp [ints_self _ h1, ints_self _ h2, ints_self _ h3, ints_self _ h4]
/-! ### from the first bytes -/
section
variable {b : List Int} {c : Nat} {pre post : List Int} {a : Int} {e : GErr} {k k' bit : Int}
end
section
variable {k bit : Int} {b : List Int} {a : Nat}
end
/-! ### the example -/
def r8 : Rec := ⟨8, 0, 0, 5, 2, 1, 0, 0, 0, false, ⟨#[]⟩, ⟨#[]⟩, ⟨#[]⟩, ⟨#[]⟩, [1, 2, 3], [1], [], []⟩
def r7 : Rec := ⟨7, 0, 0, 1, 0, 0, 0, 0, 0, false, ⟨#[65]⟩, ⟨#[]⟩, ⟨#[]⟩, ⟨#[]⟩, [], [], [], []⟩
theorem short_eq5 (r : Rec) : ∃ b, f_ref05_Short r = some b ∧ (b = true → r.Ids.length ≤ 60 ∧ r.Isr.length ≤ 60 ∧ r.Add.length ≤ 60 ∧ r.Drop.length ≤ 60) := by
  unfold f_ref05_Short
  have e1 : (if (decide ((r.Name.size : Int) ≤ (400 : Int))) = true then (if (decide ((r.Key.size : Int) ≤ (400 : Int))) = true then (if (decide ((r.Value.size : Int) ≤ (400 : Int))) = true then (some (decide ((r.Rack.size : Int) ≤ (400 : Int)))) else (some false)) else (some false)) else (some false)) = some (decide ((r.Name.size : Int) ≤ 400) && decide ((r.Key.size : Int) ≤ 400) && decide ((r.Value.size : Int) ≤ 400) && decide ((r.Rack.size : Int) ≤ 400)) := by
    cases decide ((r.Name.size : Int) ≤ 400) <;> cases decide ((r.Key.size : Int) ≤ 400) <;> cases decide ((r.Value.size : Int) ≤ 400) <;> rfl
  have e2 : (if (decide ((r.Ids.length : Int) ≤ (60 : Int))) = true then (if (decide ((r.Isr.length : Int) ≤ (60 : Int))) = true then (if (decide ((r.Add.length : Int) ≤ (60 : Int))) = true then (some (decide ((r.Drop.length : Int) ≤ (60 : Int)))) else (some false)) else (some false)) else (some false)) = some (decide ((r.Ids.length : Int) ≤ 60) && decide ((r.Isr.length : Int) ≤ 60) && decide ((r.Add.length : Int) ≤ 60) && decide ((r.Drop.length : Int) ≤ 60)) := by
    cases decide ((r.Ids.length : Int) ≤ 60) <;> cases decide ((r.Isr.length : Int) ≤ 60) <;> cases decide ((r.Add.length : Int) ≤ 60) <;> rfl
  rw [e1, e2]
  generalize (decide ((r.Name.size : Int) ≤ 400) && decide ((r.Key.size : Int) ≤ 400) && decide ((r.Value.size : Int) ≤ 400) && decide ((r.Rack.size : Int) ≤ 400)) = c
  cases c
  · exact ⟨false, rfl, fun q => by cases q⟩
  · refine ⟨_, rfl, fun q => ?_⟩
    simp only [Bool.and_eq_true, decide_eq_true_eq] at q
    omega
abbrev Bat := T_api_Batch
theorem rdR {α : Type} [Inhabited α] {l : List α} {i : Nat} (h : i < l.length) : rd l (i : Int) = l[i] := len_lt h
/-! ### not more than is waited for -/
def shortR (r : Rec) : Prop := r.Ids.length ≤ 60 ∧ r.Isr.length ≤ 60 ∧ r.Add.length ≤ 60 ∧ r.Drop.length ≤ 60
theorem short6_loop (l : List Rec) (hl : l.length ≤ 1000000) : ∀ (d i : Nat), i + d = l.length → (∀ j (h : j < l.length), j < i → shortR l[j]) →
    (iter (f_ref06_Short_l0 l) (i : Int) = some (.inl ()) ∧ ∀ r ∈ l, shortR r) ∨ iter (f_ref06_Short_l0 l) (i : Int) = some (.inr ())
  | 0, i, h, hj => by
    refine .inl ⟨iter_stop ?_, fun r hr => ?_⟩
    · unfold f_ref06_Short_l0
      simp only
      rw [if_neg (fun z => absurd (of_decide_eq_true z) (by omega))]
    · obtain ⟨j, hj', rfl⟩ := List.getElem_of_mem hr
      exact hj j hj' (by omega)
  | d + 1, i, h, hj => by
    have hlt : i < l.length := by omega
    obtain ⟨x, h1, h2⟩ := short_eq5 l[i]
    cases x
    · refine .inr (iter_stop ?_)
      unfold f_ref06_Short_l0
      simp only
      rw [if_pos (decide_eq_true (by omega)), grd_t (by omega), rdR hlt]
      exact (bindQ h1).trans rfl
    · have hs : f_ref06_Short_l0 l (i : Int) = some (.inl ((i + 1 : Nat) : Int)) := by
        unfold f_ref06_Short_l0
        simp only
        rw [if_pos (decide_eq_true (by omega)), grd_t (by omega), rdR hlt, w_i64 (by omega) (by omega)]
        exact (bindQ h1).trans rfl
      rw [iter_next hs]
      refine short6_loop l hl d (i + 1) (by omega) fun j hj' hji => ?_
      by_cases ej : j = i
      · subst ej; exact h2 rfl
      · exact hj j hj' (by omega)
theorem short6 (l : List Rec) : ∃ x, f_ref06_Short l = some x ∧ (x = true → l.length ≤ 80 ∧ ∀ r ∈ l, shortR r) := by
  unfold f_ref06_Short
  by_cases g : (80 : Int) < (l.length : Int)
  · exact ⟨false, if_pos (decide_eq_true g), fun q => by cases q⟩
  · rw [if_neg (fun z => g (of_decide_eq_true z))]
    rcases short6_loop l (by omega) l.length 0 (by omega) (fun j h q => by omega) with ⟨h1, h2⟩ | h1
    · rw [show ((0 : Nat) : Int) = 0 from rfl] at h1
      rw [h1]
      exact ⟨true, rfl, fun _ => ⟨by omega, h2⟩⟩
    · rw [show ((0 : Nat) : Int) = 0 from rfl] at h1
      rw [h1]
      exact ⟨false, rfl, fun q => by cases q⟩
/-! ### whether a batch may be -/
structure okBat (b : Bat) : Prop where
  term : 1 ≤ b.Term ∧ b.Term ≤ 1073741824
  base : 0 ≤ b.Base ∧ b.Base ≤ 1073741824
  many : 1 ≤ b.Records.length ∧ b.Records.length ≤ 64
  recs : ∀ r ∈ b.Records, f_record_Check r = some .nil
/-! ### two the same -/
theorem same6_self (a : Bat) (hm : a.Records.length ≤ 1000000) (hr : ∀ r ∈ a.Records, shortR r) : f_ref06_Same a a = some true := by
  have go : ∀ (d i : Nat), i + d = a.Records.length → iter (f_ref06_Same_l0 a a) (i : Int) = some (.inl ()) := by
    intro d
    induction d with
    | zero =>
      intro i h
      refine iter_stop ?_
      unfold f_ref06_Same_l0
      simp only
      rw [if_neg (fun z => absurd (of_decide_eq_true z) (by omega))]
    | succ d ih =>
      intro i h
      have hlt : i < a.Records.length := by omega
      have hs := hr _ (List.getElem_mem hlt)
      unfold shortR at hs
      have e2 : f_ref06_Same_l0 a a (i : Int) = some (.inl ((i + 1 : Nat) : Int)) := by
        unfold f_ref06_Same_l0
        simp only
        rw [if_pos (decide_eq_true (by omega)), grd_t (by omega), grd_t (by omega), rdR hlt, w_i64 (by omega) (by omega)]
        exact (bindQ (same_self _ (by omega) (by omega) (by omega) (by omega))).trans rfl
      rw [iter_next e2]
      exact ih (i + 1) (by omega)
  have := go a.Records.length 0 (by omega)
  rw [show ((0 : Nat) : Int) = 0 from rfl] at this
  unfold f_ref06_Same
  simp [this]
/-! ### in new memory -/
theorem clone5 (l : List Int) (h : l.length ≤ 60) : f_slices_Clone_int_int l = some l := by
  unfold f_slices_Clone_int_int
  rw [grd_t (by show 0 + l.length ≤ _; omega)]
  rfl
theorem one6 (r : Rec) (h : shortR r) : f_batch_one r = some r := by
  unfold f_batch_one
  unfold shortR at h
  rw [clone5 _ h.1]
  simp only [Option.bind_some]
  rw [clone5 _ h.2.1]
  simp only [Option.bind_some]
  rw [clone5 _ h.2.2.1]
  simp only [Option.bind_some]
  rw [clone5 _ h.2.2.2]
  rfl
theorem of_loop (l : List Rec) (hl : l.length ≤ 1000000) (hr : ∀ r ∈ l, shortR r) : ∀ (d i : Nat), i + d = l.length → iter (f_batch_Of_l0 l) ((i : Int), l.take i) = some l
  | 0, i, h => by
    refine iter_stop ?_
    unfold f_batch_Of_l0
    simp only
    rw [if_neg (fun z => absurd (of_decide_eq_true z) (by omega)), List.take_of_length_le (by omega)]
  | d + 1, i, h => by
    have hlt : i < l.length := by omega
    have hs : f_batch_Of_l0 l ((i : Int), l.take i) = some (.inl (((i + 1 : Nat) : Int), l.take (i + 1))) := by
      unfold f_batch_Of_l0
      simp only
      rw [if_pos (decide_eq_true (by omega)), grd_t (by omega), rdR hlt, w_i64 (by omega) (by omega)]
      refine (bindQ (one6 _ (hr _ (List.getElem_mem hlt)))).trans ?_
      refine (grd_t (by rw [List.length_take]; show min i l.length + 1 ≤ _; omega)).trans ?_
      rw [List.take_succ_eq_append_getElem hlt]
      rfl
    rw [iter_next hs]
    exact of_loop l hl hr d (i + 1) (by omega)
theorem of6 (t s : Int) (l : List Rec) (hl : l.length ≤ 1000000) (hr : ∀ r ∈ l, shortR r) : f_batch_Of t s l = some ⟨t, s, l⟩ := by
  unfold f_batch_Of
  have := of_loop l hl hr l.length 0 (by omega)
  rw [List.take_zero, show ((0 : Nat) : Int) = 0 from rfl] at this
  rw [this]
  rfl
theorem works06S : f_law06_works = some true := by kernel_rfl
def batJ (t b : Int) (k : Nat) (l : List Rec) (j : Nat) : Bat := ⟨t, b + (j : Int), (l.drop (j * k)).take k⟩
def batN (t b : Int) (k : Nat) (l : List Rec) (n : Nat) : List Bat := (List.range n).map (batJ t b k l)
theorem batN_len (t b : Int) (k : Nat) (l : List Rec) (n : Nat) : (batN t b k l n).length = n := by simp [batN]
theorem batN_succ (t b : Int) (k : Nat) (l : List Rec) (n : Nat) : batN t b k l (n + 1) = batN t b k l n ++ [batJ t b k l n] := by simp [batN, List.range_succ]
theorem batN_get {t b : Int} {k : Nat} {l : List Rec} {n j : Nat} (h : j < n) : rd (batN t b k l n) (j : Int) = batJ t b k l j := by
  rw [rdR (by rw [batN_len]; exact h)]; simp [batN]
def many (k i n : Nat) : Prop := i ≤ n * k ∧ (n = 0 ∨ (n - 1) * k < i)
theorem many_one {k i n m : Nat} (h : many k i n) (g : many k i m) : n = m := by
  have key : ∀ {n m : Nat}, many k i n → many k i m → ¬ n < m := fun {n m} h g q => by
    rcases g.2 with e | e
    · omega
    · have := Nat.mul_le_mul_right k (show n ≤ m - 1 by omega)
      have := h.1
      omega
  have h1 := key h g; have h2 := key g h
  omega
theorem many_le {k i n : Nat} (hk : 1 ≤ k) (h : many k i n) : n ≤ i := by
  rcases h.2 with e | e
  · omega
  · have := Nat.mul_le_mul_left (n - 1) hk
    omega
theorem splitP_loop {t b : Int} {l : List Rec} {k : Nat} (hk : 1 ≤ k) (hl : l.length ≤ 80) (hr : ∀ r ∈ l, shortR r) (hb : 0 ≤ b ∧ b ≤ 4294967295) : ∀ (d j : Nat), l.length ≤ j * k + d → (j = 0 ∨ (j - 1) * k < l.length) →
    ∃ n, iter (f_batch_Split_l0 t b (k : Int)) (l.drop (j * k), batN t b k l j) = some (batN t b k l n) ∧ many k l.length n := by
  have stop : ∀ j, l.length ≤ j * k → (j = 0 ∨ (j - 1) * k < l.length) → ∃ n, iter (f_batch_Split_l0 t b (k : Int)) (l.drop (j * k), batN t b k l j) = some (batN t b k l n) ∧ many k l.length n := fun j h1 h2 => by
    refine ⟨j, iter_stop ?_, h1, h2⟩
    unfold f_batch_Split_l0
    simp only
    rw [List.drop_of_length_le h1]; rfl
  intro d
  induction d with
  | zero => intro j h1 h2; exact stop j (by omega) h2
  | succ d ih =>
    intro j h1 h2
    by_cases g : l.length ≤ j * k
    · exact stop j g h2
    have hj : j ≤ 80 := by
      have := Nat.mul_le_mul_left j hk
      omega
    have hd : (l.drop (j * k)).length = l.length - j * k := List.length_drop
    have hm : (if ((l.drop (j * k)).length : Int) < (k : Int) then ((l.drop (j * k)).length : Int) else (k : Int)) = ((min (l.drop (j * k)).length k : Nat) : Int) := by
      split <;> omega
    have hsk : (j + 1) * k = j * k + k := Nat.succ_mul j k
    have e : f_batch_Split_l0 t b (k : Int) (l.drop (j * k), batN t b k l j) = some (.inl (l.drop ((j + 1) * k), batN t b k l (j + 1))) := by
      unfold f_batch_Split_l0
      simp only
      rw [hm, if_pos (decide_eq_true (by omega)), grd_t (by omega), batN_len, w_i64 (by omega) (by omega)]
      have h3 : sub (l.drop (j * k)) (0 : Int) ((min (l.drop (j * k)).length k : Nat) : Int) = (l.drop (j * k)).take k := by
        unfold sub
        rw [show (0 : Int).toNat = 0 from rfl, List.drop_zero, Int.toNat_natCast, Nat.sub_zero, ← List.take_take, List.take_of_length_le (by rw [List.length_take]; omega)]
      have h4 : sub (l.drop (j * k)) ((min (l.drop (j * k)).length k : Nat) : Int) ((l.drop (j * k)).length : Int) = l.drop ((j + 1) * k) := by
        unfold sub
        rw [Int.toNat_natCast, Int.toNat_natCast]
        by_cases q : (l.drop (j * k)).length ≤ k
        · rw [Nat.min_eq_left q, List.drop_of_length_le (Nat.le_refl _), List.take_nil, List.drop_of_length_le (by omega)]
        · rw [Nat.min_eq_right (by omega), List.drop_drop, hsk, List.take_of_length_le (by rw [List.length_drop]; omega)]
      rw [h3, h4]
      refine (bindQ (of6 _ _ _ (by rw [List.length_take]; omega) (fun r hm => hr r (List.mem_of_mem_drop (List.mem_of_mem_take hm))))).trans ?_
      refine (grd_t (by show j + 1 ≤ _; omega)).trans ?_
      refine (grd_t (by omega)).trans ?_
      rw [batN_succ]; rfl
    rw [iter_next e]
    exact ih (j + 1) (by omega) (.inr (by rw [Nat.add_sub_cancel]; omega))
theorem batJ_at {t b : Int} {k : Nat} {l : List Rec} {i j : Nat} : batJ t b k (l.take i) j = ⟨t, b + (j : Int), (l.drop (j * k)).take (min k (i - j * k))⟩ := by
  unfold batJ
  rw [List.drop_take, List.take_take]
theorem batN_at {t b : Int} {k : Nat} {l : List Rec} {i i' n : Nat} (h : n * k ≤ i) (h' : n * k ≤ i') : batN t b k (l.take i) n = batN t b k (l.take i') n := by
  unfold batN
  refine List.map_congr_left fun j hj => ?_
  have hj := List.mem_range.1 hj
  have := Nat.mul_le_mul_right k (show j + 1 ≤ n from hj)
  rw [Nat.succ_mul] at this
  rw [batJ_at, batJ_at, Nat.min_eq_left (by omega), Nat.min_eq_left (by omega)]
theorem split_last {t b : Int} {l : List Rec} {k i p : Nat} {a : List Bat} (hi : i < l.length) (hp : p * k ≤ i) (hpk : i < (p + 1) * k) (ha : a = batN t b k (l.take i) p ++ [⟨t, b + (p : Int), (l.drop (p * k)).take (i - p * k)⟩]) :
    a.length = p + 1 ∧ rd a (p : Int) = ⟨t, b + (p : Int), (l.drop (p * k)).take (i - p * k)⟩ ∧ a.set p ⟨t, b + (p : Int), (l.drop (p * k)).take (i - p * k) ++ [l[i]]⟩ = batN t b k (l.take (i + 1)) (p + 1) := by
  have hn := batN_len t b k (l.take i) p
  have hl : a.length = p + 1 := by rw [ha, List.length_append, hn]; rfl
  refine ⟨hl, ?_, ?_⟩
  · rw [rdR (by omega)]
    subst ha
    rw [List.getElem_append_right (by omega)]
    simp [hn]
  · rw [ha, List.set_append_right _ _ (by omega), hn, Nat.sub_self, batN_succ, batN_at (i := i + 1) (i' := i) (by omega) hp, batJ_at]
    rw [Nat.succ_mul] at hpk
    rw [Nat.min_eq_right (by omega), show i + 1 - p * k = i - p * k + 1 by omega, List.take_succ_eq_append_getElem (by rw [List.length_drop]; omega)]
    congr 4
    rw [List.getElem_drop]
    congr 2
    simp only [show p * k + (i - p * k) = i by omega]
    rfl
theorem splitR_loop {t b : Int} {l : List Rec} {k : Nat} (hk : 1 ≤ k) (hl : l.length ≤ 80) (hb : 0 ≤ b ∧ b ≤ 4294967295) : ∀ (d i n : Nat), i + d = l.length → many k i n →
    ∃ m, iter (f_ref06_Split_l0 t b (k : Int) l) (batN t b k (l.take i) n, (i : Int)) = some (batN t b k l m) ∧ many k l.length m := by
  intro d
  induction d with
  | zero =>
    intro i n h1 h2
    have hi : i = l.length := by omega
    subst hi
    refine ⟨n, iter_stop ?_, h2⟩
    unfold f_ref06_Split_l0
    simp only
    rw [List.take_length]
    refine (bindQ (y := false) (if_neg (fun z => absurd (of_decide_eq_true z) (by omega)))).trans ?_
    rfl
  | succ d ih =>
    intro i n h1 h2
    have hi : i < l.length := by omega
    have hnl := many_le hk h2
    -- which batch the record comes to
    obtain ⟨p, hp, hpk, a, ha, hstep⟩ : ∃ p, p * k ≤ i ∧ i < (p + 1) * k ∧ ∃ a, a = batN t b k (l.take i) p ++ [⟨t, b + (p : Int), (l.drop (p * k)).take (i - p * k)⟩] ∧
        ((grd ((k : Int) ≠ 0) (if (decide (((i : Int).tmod (k : Int)) = (0 : Int))) = true then (grd ((k : Int) ≠ 0) (grd ((batN t b k (l.take i) n).length + [(⟨t, IntKind.i64.wrap (b + (IntKind.i64.wrap ((i : Int).tdiv (k : Int)))), []⟩ : T_api_Batch)].length ≤ 274877906944) (some (batN t b k (l.take i) n ++ [(⟨t, IntKind.i64.wrap (b + (IntKind.i64.wrap ((i : Int).tdiv (k : Int)))), []⟩ : T_api_Batch)])))) else (some (batN t b k (l.take i) n)))) : Option (List T_api_Batch)) = some a := by
      have hk0 : (k : Int) ≠ 0 := by omega
      by_cases g : i % k = 0
      · have hin : i = n * k := by
          have e1 := Nat.div_add_mod i k
          rw [g, Nat.add_zero, Nat.mul_comm] at e1
          have hn : many k i (i / k) := ⟨by omega, by
            rcases Nat.eq_zero_or_pos (i / k) with z | z
            · exact .inl z
            · refine .inr ?_
              have : (i / k - 1 + 1) * k = i / k * k := by rw [Nat.sub_add_cancel z]
              rw [Nat.succ_mul] at this
              omega⟩
          rw [many_one h2 hn]; exact e1.symm
        have hq : (i : Int).tdiv (k : Int) = (n : Int) := by
          rw [hin, Int.tdiv_eq_ediv_of_nonneg (by omega), Int.natCast_mul, Int.mul_ediv_cancel _ hk0]
        refine ⟨n, by omega, by rw [Nat.succ_mul]; omega, _, rfl, ?_⟩
        rw [grd_t hk0, if_pos (decide_eq_true (by rw [Int.tmod_eq_emod_of_nonneg (by omega), ← Int.natCast_emod, g]; rfl)), grd_t hk0, hq, w_i64 (n := (n : Int)) (by omega) (by omega), w_i64 (n := b + (n : Int)) (by omega) (by omega), batN_len, grd_t (by show n + 1 ≤ _; omega)]
        rw [show i - n * k = 0 by omega, List.take_zero]
      · have hn0 : n ≠ 0 := by
          rintro rfl
          have := h2.1
          rw [Nat.zero_mul] at this
          have : i = 0 := by omega
          rw [this, Nat.zero_mod] at g; exact g rfl
        have hn1 : (n - 1) * k < i := h2.2.resolve_left hn0
        have hn2 : (n - 1 + 1) * k = n * k := by rw [Nat.sub_add_cancel (by omega)]
        have hlt : i < n * k := by
          rcases Nat.lt_or_eq_of_le h2.1 with q | q
          · exact q
          · rw [q, Nat.mul_mod_left] at g; exact absurd rfl g
        refine ⟨n - 1, by omega, by omega, _, rfl, ?_⟩
        rw [grd_t hk0, if_neg (fun z => by
          have := of_decide_eq_true z
          rw [Int.tmod_eq_emod_of_nonneg (by omega), ← Int.natCast_emod] at this
          exact g (by omega))]
        rw [show n = n - 1 + 1 by omega, batN_succ, batJ_at, Nat.add_sub_cancel]
        rw [Nat.succ_mul] at hn2
        rw [Nat.min_eq_right (by omega)]
    obtain ⟨q1, q2, q3⟩ := split_last hi hp hpk ha
    have hpl : p ≤ i := by
      have := Nat.mul_le_mul_left p hk
      omega
    have hw : IntKind.i64.wrap ((a.length : Int) - 1) = (p : Int) := by rw [q1, w_i64 (by omega) (by omega)]; omega
    have e : f_ref06_Split_l0 t b (k : Int) l (batN t b k (l.take i) n, (i : Int)) = some (.inl (batN t b k (l.take (i + 1)) (p + 1), ((i + 1 : Nat) : Int))) := by
      unfold f_ref06_Split_l0
      simp only
      refine (bindQ (y := true) ((if_pos (decide_eq_true (by omega))).trans (by rw [decide_eq_true (show (0 : Int) < (k : Int) by omega)]))).trans ?_
      refine (if_pos rfl).trans ?_
      refine (bindQ hstep).trans ?_
      rw [hw, grd_t (by omega), grd_t (by omega), q2, rdR hi]
      refine (grd_t (by show (List.take _ _).length + 1 ≤ _; rw [List.length_take, List.length_drop]; omega)).trans ?_
      refine (grd_t (by omega)).trans ?_
      rw [w_i64 (by omega) (by omega), Int.toNat_natCast, q3]; rfl
    rw [iter_next e]
    exact ih (i + 1) (p + 1) (by omega) ⟨by omega, .inr (by rw [Nat.add_sub_cancel]; omega)⟩
theorem all_self {a : List Bat} (hl : a.length ≤ 1000000) (h : ∀ x ∈ a, f_ref06_Same x x = some true) : f_ref06_All a a = some true := by
  have go : ∀ (d i : Nat), i + d = a.length → iter (f_ref06_All_l0 a a) (i : Int) = some (.inl ()) := by
    intro d
    induction d with
    | zero =>
      intro i h
      refine iter_stop ?_
      unfold f_ref06_All_l0
      simp only
      rw [if_neg (fun z => absurd (of_decide_eq_true z) (by omega))]
    | succ d ih =>
      intro i h1
      have hlt : i < a.length := by omega
      have e2 : f_ref06_All_l0 a a (i : Int) = some (.inl ((i + 1 : Nat) : Int)) := by
        unfold f_ref06_All_l0
        simp only
        rw [if_pos (decide_eq_true (by omega)), grd_t (by omega), grd_t (by omega), rdR hlt, w_i64 (by omega) (by omega)]
        exact (bindQ (h _ (List.getElem_mem hlt))).trans rfl
      rw [iter_next e2]
      exact ih (i + 1) (by omega)
  have := go a.length 0 (by omega)
  rw [show ((0 : Nat) : Int) = 0 from rfl] at this
  unfold f_ref06_All
  simp [this]
theorem sums_loop {t a1 : Int} {l : List Rec} {k n : Nat} (hk : 1 ≤ k) (hl : l.length ≤ 80) (hb : 0 ≤ a1 ∧ a1 ≤ 4294967295) (hn : many k l.length n) : ∀ (d i : Nat), i + d = n →
    iter (f_law06_BatchSplits_l0 a1 (k : Int) (batN t a1 k l n)) (((min (i * k) l.length : Nat) : Int), (i : Int)) = some (.inl (l.length : Int)) := by
  have hnl := many_le hk hn
  intro d
  induction d with
  | zero =>
    intro i h
    have hi : i = n := by omega
    subst hi
    refine iter_stop ?_
    unfold f_law06_BatchSplits_l0
    simp only
    rw [if_neg (fun z => absurd (of_decide_eq_true z) (by rw [batN_len]; omega)), Nat.min_eq_right hn.1]
  | succ d ih =>
    intro i h
    have hik : i * k < l.length := by
      have h1 := hn.2.resolve_left (by omega)
      have := Nat.mul_le_mul_right k (show i ≤ n - 1 by omega)
      omega
    have hsk : (i + 1) * k = i * k + k := Nat.succ_mul i k
    have hlen : ((batJ t a1 k l i).Records).length = min k (l.length - i * k) := by unfold batJ; simp
    have hbase : (batJ t a1 k l i).Base = a1 + (i : Int) := rfl
    have e : f_law06_BatchSplits_l0 a1 (k : Int) (batN t a1 k l n) (((min (i * k) l.length : Nat) : Int), (i : Int)) = some (.inl (((min ((i + 1) * k) l.length : Nat) : Int), ((i + 1 : Nat) : Int))) := by
      unfold f_law06_BatchSplits_l0
      simp only
      have hin : 0 ≤ (i : Int) ∧ (i : Int) < ((batN t a1 k l n).length : Int) := by rw [batN_len]; omega
      rw [if_pos (decide_eq_true hin.2), batN_get (show i < n by omega)]
      refine (bindQ (y := false) ?_).trans ?_
      · rw [grd_t hin, if_neg (fun z => absurd (of_decide_eq_true z) (by omega)), grd_t hin, if_neg (fun z => absurd (of_decide_eq_true z) (by omega)), grd_t hin, hbase, w_i64 (n := a1) (by omega) (by omega), w_i64 (by omega) (by omega)]
        simp
      · rw [if_neg (by decide), grd_t hin, hlen, w_i64 (by omega) (by omega), w_i64 (by omega) (by omega)]
        congr 4
        omega
    rw [iter_next e]
    exact ih (i + 1) (by omega)
theorem splitP {t b : Int} {l : List Rec} {k : Nat} (hk : 1 ≤ k) (hl : l.length ≤ 80) (hr : ∀ r ∈ l, shortR r) (hb : 0 ≤ b ∧ b ≤ 4294967295) : ∃ n, many k l.length n ∧ f_batch_Split t b (k : Int) l = some (batN t b k l n) := by
  obtain ⟨n, h1, h2⟩ := splitP_loop (t := t) hk hl hr hb l.length 0 (by omega) (.inl rfl)
  rw [Nat.zero_mul, List.drop_zero, show batN t b k l 0 = [] from rfl] at h1
  refine ⟨n, h2, ?_⟩
  unfold f_batch_Split
  rw [if_neg (fun z => absurd (of_decide_eq_true z) (by omega)), h1]; rfl
theorem splitR {t b : Int} {l : List Rec} {k : Nat} (hk : 1 ≤ k) (hl : l.length ≤ 80) (hb : 0 ≤ b ∧ b ≤ 4294967295) : ∃ n, many k l.length n ∧ f_ref06_Split t b (k : Int) l = some (batN t b k l n) := by
  obtain ⟨n, h1, h2⟩ := splitR_loop (t := t) hk hl hb l.length 0 0 (by omega) ⟨by omega, .inl rfl⟩
  rw [show batN t b k (l.take 0) 0 = [] from rfl, show ((0 : Nat) : Int) = 0 from rfl] at h1
  refine ⟨n, h2, ?_⟩
  unfold f_ref06_Split
  rw [h1]; rfl
theorem pure_BatchSplits (a0 a1 a2 : Int) (l : List Rec) (_ : (Lit.int .i64 a0).wf = true) (h1 : (Lit.int .u32 a1).wf = true) (h2 : (Lit.int .i64 a2).wf = true) {p0 : Prop} (_ : p0) : f_law06_BatchSplits a0 a1 a2 l = some true := by
  have hb : 0 ≤ a1 ∧ a1 ≤ 4294967295 := by
    simp [Lit.wf, IntKind.min, IntKind.max, IntKind.signed, IntKind.bits] at h1; omega
  obtain ⟨x, hx, hs⟩ := short6 l
  unfold f_law06_BatchSplits
  refine (bindQ hx).trans ?_
  cases x with
  | false => exact (if_pos rfl).trans (by rw [works06S]; rfl)
  | true =>
    obtain ⟨hl, hr⟩ := hs rfl
    rw [if_neg (by decide), w_i64 (n := a1) (by omega) (by omega)]
    by_cases g : a2 < 1
    · have e1 : f_batch_Split a0 a1 a2 l = some [] := if_pos (decide_eq_true g)
      have e2 : f_ref06_Split a0 a1 a2 l = some [] := by
        unfold f_ref06_Split
        have : iter (f_ref06_Split_l0 a0 a1 a2 l) ([], (0 : Int)) = some [] := by
          refine iter_stop ?_
          unfold f_ref06_Split_l0
          simp only
          refine (bindQ (y := false) ?_).trans rfl
          split
          · rw [decide_eq_false (by omega)]
          · rfl
        rw [this]; rfl
      refine (bindQ e1).trans ((bindQ e2).trans ((bindQ (all_self (a := []) (by decide) (fun x h => by cases h))).trans ?_))
      refine (if_neg (by decide)).trans ?_
      have : iter (f_law06_BatchSplits_l0 a1 a2 []) ((0 : Int), (0 : Int)) = some (.inl 0) := iter_stop rfl
      rw [this]
      simp only [Option.bind_some, Sum.elim_inl]
      rw [if_pos (decide_eq_true g), works06S]; rfl
    · obtain ⟨k, rfl⟩ := Int.eq_ofNat_of_zero_le (show 0 ≤ a2 by omega)
      have hk : 1 ≤ k := by omega
      obtain ⟨n, m1, e1⟩ := splitP (t := a0) hk hl hr hb
      obtain ⟨n', m2, e2⟩ := splitR (t := a0) (b := a1) hk hl hb
      obtain rfl := many_one m1 m2
      have hnl := many_le hk m1
      have e3 : f_ref06_All (batN a0 a1 k l n) (batN a0 a1 k l n) = some true := all_self (by rw [batN_len]; omega) fun x hx => by
        obtain ⟨j, _, rfl⟩ := List.mem_map.1 hx
        exact same6_self _ (by show (List.take _ _).length ≤ _; rw [List.length_take, List.length_drop]; omega) (fun r hm => hr r (List.mem_of_mem_drop (List.mem_of_mem_take hm)))
      have e4 := sums_loop (t := a0) hk hl hb m1 n 0 (by omega)
      rw [Nat.zero_mul, Nat.zero_min, show ((0 : Nat) : Int) = 0 from rfl] at e4
      refine (bindQ e1).trans ((bindQ e2).trans ((bindQ e3).trans ?_))
      refine (if_neg (by decide)).trans ?_
      rw [e4]
      simp only [Option.bind_some, Sum.elim_inl]
      rw [if_neg (fun z => g (of_decide_eq_true z)), works06S]; rfl
end Go.Proofs.YtpmofealbmapiaaDoor.G
