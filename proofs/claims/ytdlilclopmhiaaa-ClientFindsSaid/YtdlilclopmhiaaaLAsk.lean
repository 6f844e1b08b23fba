/- Requests (chapter 22): whether one may be sent, by the program and by the reference. No condition. -/
import Derived.Test.YtdlilclopmhiaaaC13
import Derived.Test.YtdlilclopmhiaaaKArith
import Derived.OpenShut
set_option linter.unusedSimpArgs false
set_option linter.unusedVariables false
namespace Go.Proofs.Ytdlilclopmhiaaa.G
open Go Go.KK

abbrev Req := T_api_Request
theorem rdnA {α : Type} [Inhabited α] {xs : List α} {i : Nat} (h : i < xs.length) : rd xs (i : Int) = xs[i] := len_lt h
theorem newA (o : ByteArray) (a c : Int) : f_fault_New o a c = some (.fault o a (.code c)) := rfl

/-! ### brokers -/
/-- Numbers of brokers: no more than seven, each from 1 to 64, none twice. -/
def brOk (l : List Int) : Prop := l.length ≤ 7 ∧ ∀ i (h : i < l.length), 1 ≤ l[i] ∧ l[i] ≤ 64 ∧ l[i] ∉ l.take i
theorem index_loop (l : List Int) (x : Int) (hl : l.length ≤ 1000000) : ∀ (d i : Nat), i + d = l.length → (x ∉ l.take i) →
    (x ∈ l ∧ ∃ j : Nat, iter (f_slices_Index_int_int_l0 l x) (i : Int) = some (.inr (j : Int))) ∨ (x ∉ l ∧ iter (f_slices_Index_int_int_l0 l x) (i : Int) = some (.inl ()))
  | 0, i, hi, hx => by
    rw [List.take_of_length_le (by omega)] at hx
    refine .inr ⟨hx, iter_stop ?_⟩
    unfold f_slices_Index_int_int_l0
    simp only
    rw [if_neg (fun q => absurd (of_decide_eq_true q) (by omega))]
  | d + 1, i, hi, hx => by
    have hlt : i < l.length := by omega
    by_cases g : x = l[i]
    · refine .inl ⟨by rw [g]; exact List.getElem_mem hlt, i, iter_stop ?_⟩
      unfold f_slices_Index_int_int_l0
      simp only
      rw [if_pos (decide_eq_true (by omega)), grd_t ⟨by omega, by omega⟩, rdnA hlt, if_pos (decide_eq_true g)]
    · have hstep : f_slices_Index_int_int_l0 l x (i : Int) = some (.inl ((i + 1 : Nat) : Int)) := by
        unfold f_slices_Index_int_int_l0
        simp only
        rw [if_pos (decide_eq_true (by omega)), grd_t ⟨by omega, by omega⟩, rdnA hlt, if_neg (fun q => g (of_decide_eq_true q)), w_i64 (by omega) (by omega)]
        rfl
      rw [iter_next hstep]
      refine index_loop l x hl d (i + 1) (by omega) ?_
      rw [List.take_succ_eq_append_getElem hlt, List.mem_append, List.mem_singleton]
      exact fun q => q.elim hx g
theorem contains_eq (l : List Int) (x : Int) (hl : l.length ≤ 1000000) : f_slices_Contains_int_int l x = some (decide (x ∈ l)) := by
  unfold f_slices_Contains_int_int f_slices_Index_int_int
  have h := index_loop l x hl l.length 0 (by omega) (by simp)
  rw [show ((0 : Nat) : Int) = 0 from rfl] at h
  rcases h with ⟨h1, j, h2⟩ | ⟨h1, h2⟩
  · rw [h2, decide_eq_true h1]
    simp
  · rw [h2, decide_eq_false h1]
    rfl
theorem sub_take (l : List Int) (i : Nat) : sub l 0 (i : Int) = l.take i := by
  unfold sub
  rw [show (0 : Int).toNat = 0 from rfl, show ((i : Int)).toNat = i by omega]
  simp
theorem pbrok_loop (l : List Int) (hl : l.length ≤ 7) : ∀ (d i : Nat), i + d = l.length → (∀ j (h : j < l.length), j < i → 1 ≤ l[j] ∧ l[j] ≤ 64 ∧ l[j] ∉ l.take j) →
    (brOk l ∧ iter (f_record_Brokers_l0 l) (i : Int) = some (.inl ())) ∨ (¬ brOk l ∧ iter (f_record_Brokers_l0 l) (i : Int) = some (.inr ()))
  | 0, i, hi, hp => by
    refine .inl ⟨⟨hl, fun j hj => hp j hj (by omega)⟩, iter_stop ?_⟩
    unfold f_record_Brokers_l0
    simp only
    rw [if_neg (fun q => absurd (of_decide_eq_true q) (by omega))]
  | d + 1, i, hi, hp => by
    have hlt : i < l.length := by omega
    have e : f_record_Brokers_l0 l (i : Int) = if 1 ≤ l[i] ∧ l[i] ≤ 64 ∧ l[i] ∉ l.take i then some (.inl ((i + 1 : Nat) : Int)) else some (.inr (.inr ())) := by
      unfold f_record_Brokers_l0
      simp only
      rw [if_pos (decide_eq_true (by omega)), grd_t ⟨by omega, by omega⟩, rdnA hlt]
      by_cases g1 : l[i] < 1
      · rw [if_pos (decide_eq_true g1), if_neg (show ¬ (1 ≤ l[i] ∧ l[i] ≤ 64 ∧ l[i] ∉ l.take i) from fun q => by omega)]; rfl
      rw [if_neg (fun q => g1 (of_decide_eq_true q))]
      by_cases g2 : 64 < l[i]
      · rw [if_pos (decide_eq_true g2), if_neg (show ¬ (1 ≤ l[i] ∧ l[i] ≤ 64 ∧ l[i] ∉ l.take i) from fun q => by omega)]; rfl
      rw [if_neg (fun q => g2 (of_decide_eq_true q)), grd_t ⟨by omega, by omega, by omega⟩, sub_take, contains_eq _ _ (by simp; omega)]
      simp only [Option.bind_some]
      by_cases g3 : l[i] ∈ l.take i
      · rw [decide_eq_true g3, if_pos rfl, if_neg (show ¬ (1 ≤ l[i] ∧ l[i] ≤ 64 ∧ l[i] ∉ l.take i) from fun q => q.2.2 g3)]
      · rw [decide_eq_false g3, if_neg (by decide), if_pos (show 1 ≤ l[i] ∧ l[i] ≤ 64 ∧ l[i] ∉ l.take i from ⟨by omega, by omega, g3⟩), w_i64 (by omega) (by omega)]; rfl
    by_cases g : 1 ≤ l[i] ∧ l[i] ≤ 64 ∧ l[i] ∉ l.take i
    · rw [if_pos g] at e
      rw [iter_next e]
      refine pbrok_loop l hl d (i + 1) (by omega) fun j hj hji => ?_
      by_cases ej : j = i
      · subst ej; exact g
      · exact hp j hj (by omega)
    · rw [if_neg g] at e
      exact .inr ⟨fun q => g (q.2 i hlt), iter_stop e⟩
theorem rbrok_in (l : List Int) (hl : l.length ≤ 7) (i : Nat) (hi : i < l.length) : ∀ (d j : Nat), j + d = i → l[i] ∉ l.take j →
    (l[i] ∉ l.take i ∧ iter (f_ref05_Brokers_l1 l (i : Int)) (j : Int) = some (.inl ())) ∨ (l[i] ∈ l.take i ∧ iter (f_ref05_Brokers_l1 l (i : Int)) (j : Int) = some (.inr ()))
  | 0, j, hj, hx => by
    have e : j = i := by omega
    subst e
    refine .inl ⟨hx, iter_stop ?_⟩
    unfold f_ref05_Brokers_l1
    simp only
    rw [if_neg (fun q => absurd (of_decide_eq_true q) (by omega))]
  | d + 1, j, hj, hx => by
    have hlt : j < l.length := by omega
    by_cases g : l[j] = l[i]
    · refine .inr ⟨?_, iter_stop ?_⟩
      · rw [← g]
        exact List.mem_take_iff_getElem.2 ⟨j, by omega, rfl⟩
      · unfold f_ref05_Brokers_l1
        simp only
        rw [if_pos (decide_eq_true (by omega)), grd_t ⟨by omega, by omega⟩, grd_t ⟨by omega, by omega⟩, rdnA hlt, rdnA hi, if_pos (decide_eq_true g)]
    · have hstep : f_ref05_Brokers_l1 l (i : Int) (j : Int) = some (.inl ((j + 1 : Nat) : Int)) := by
        unfold f_ref05_Brokers_l1
        simp only
        rw [if_pos (decide_eq_true (by omega)), grd_t ⟨by omega, by omega⟩, grd_t ⟨by omega, by omega⟩, rdnA hlt, rdnA hi, if_neg (fun q => g (of_decide_eq_true q)), w_i64 (by omega) (by omega)]
        rfl
      rw [iter_next hstep]
      refine rbrok_in l hl i hi d (j + 1) (by omega) ?_
      rw [List.take_succ_eq_append_getElem hlt, List.mem_append, List.mem_singleton]
      exact fun q => q.elim hx fun q => g q.symm
theorem rbrok_loop (l : List Int) (hl : l.length ≤ 7) : ∀ (d i : Nat), i + d = l.length → (∀ j (h : j < l.length), j < i → 1 ≤ l[j] ∧ l[j] ≤ 64 ∧ l[j] ∉ l.take j) →
    (brOk l ∧ iter (f_ref05_Brokers_l0 l) (i : Int) = some (.inl ())) ∨ (¬ brOk l ∧ iter (f_ref05_Brokers_l0 l) (i : Int) = some (.inr ()))
  | 0, i, hi, hp => by
    refine .inl ⟨⟨hl, fun j hj => hp j hj (by omega)⟩, iter_stop ?_⟩
    unfold f_ref05_Brokers_l0
    simp only
    rw [if_neg (fun q => absurd (of_decide_eq_true q) (by omega))]
  | d + 1, i, hi, hp => by
    have hlt : i < l.length := by omega
    have e : f_ref05_Brokers_l0 l (i : Int) = if 1 ≤ l[i] ∧ l[i] ≤ 64 ∧ l[i] ∉ l.take i then some (.inl ((i + 1 : Nat) : Int)) else some (.inr (.inr ())) := by
      unfold f_ref05_Brokers_l0
      simp only
      rw [if_pos (decide_eq_true (by omega)), grd_t ⟨by omega, by omega⟩, rdnA hlt]
      by_cases g1 : l[i] < 1
      · rw [if_pos (decide_eq_true g1), if_neg (show ¬ (1 ≤ l[i] ∧ l[i] ≤ 64 ∧ l[i] ∉ l.take i) from fun q => by omega)]; rfl
      rw [if_neg (fun q => g1 (of_decide_eq_true q)), grd_t ⟨by omega, by omega⟩]
      simp only [Option.bind_some]
      by_cases g2 : 64 < l[i]
      · rw [if_pos (decide_eq_true g2), if_neg (show ¬ (1 ≤ l[i] ∧ l[i] ≤ 64 ∧ l[i] ∉ l.take i) from fun q => by omega)]; rfl
      rw [if_neg (fun q => g2 (of_decide_eq_true q))]
      have h := rbrok_in l hl i hlt i 0 (by omega) (by simp)
      rw [show ((0 : Nat) : Int) = 0 from rfl] at h
      rcases h with ⟨h1, h2⟩ | ⟨h1, h2⟩
      · rw [h2, if_pos (show 1 ≤ l[i] ∧ l[i] ≤ 64 ∧ l[i] ∉ l.take i from ⟨by omega, by omega, h1⟩), w_i64 (by omega) (by omega)]; rfl
      · rw [h2, if_neg (show ¬ (1 ≤ l[i] ∧ l[i] ≤ 64 ∧ l[i] ∉ l.take i) from fun q => q.2.2 h1)]; rfl
    by_cases g : 1 ≤ l[i] ∧ l[i] ≤ 64 ∧ l[i] ∉ l.take i
    · rw [if_pos g] at e
      rw [iter_next e]
      refine rbrok_loop l hl d (i + 1) (by omega) fun j hj hji => ?_
      by_cases ej : j = i
      · subst ej; exact g
      · exact hp j hj (by omega)
    · rw [if_neg g] at e
      exact .inr ⟨fun q => g (q.2 i hlt), iter_stop e⟩
theorem brokers_eq (l : List Int) : ∃ b : Bool, f_record_Brokers l = some b ∧ f_ref05_Brokers l = some b ∧ (b = true ↔ brOk l) := by
  unfold f_record_Brokers f_ref05_Brokers
  by_cases h : 7 < l.length
  · rw [if_pos (decide_eq_true (by omega)), if_pos (decide_eq_true (by omega))]
    exact ⟨false, rfl, rfl, fun q => (by cases q), fun q => absurd q.1 (by omega)⟩
  · rw [if_neg (fun q => absurd (of_decide_eq_true q) (by omega)), if_neg (fun q => absurd (of_decide_eq_true q) (by omega))]
    have h1 := pbrok_loop l (by omega) l.length 0 (by omega) (fun j hj hji => by omega)
    have h2 := rbrok_loop l (by omega) l.length 0 (by omega) (fun j hj hji => by omega)
    rw [show ((0 : Nat) : Int) = 0 from rfl] at h1 h2
    rcases h1 with ⟨a1, b1⟩ | ⟨a1, b1⟩
    · rcases h2 with ⟨a2, b2⟩ | ⟨a2, b2⟩
      · exact ⟨true, by rw [b1]; rfl, by rw [b2]; rfl, fun _ => a1, fun _ => rfl⟩
      · exact absurd a1 a2
    · rcases h2 with ⟨a2, b2⟩ | ⟨a2, b2⟩
      · exact absurd a2 a1
      · exact ⟨false, by rw [b1]; rfl, by rw [b2]; rfl, fun q => (by cases q), fun q => absurd q a1⟩

/-! ### what a kind is about -/
def aboutV (k : Int) : Int := if k = 1 then 13 else if k = 2 then 1 else if k = 3 then 5 else if k = 4 then 3 else if k = 5 then 49 else if k = 6 ∨ k = 7 then 17 else if k = 8 then 64 else if k = 9 then 448 else if k = 10 then 512 else if k = 11 then 241 else -1
def hasV (k bit : Int) : Bool := decide (andI .i64 (aboutV k) bit ≠ 0)
theorem kinds (k : Int) : (k = 1 ∨ k = 2 ∨ k = 3 ∨ k = 4 ∨ k = 5 ∨ k = 6 ∨ k = 7 ∨ k = 8 ∨ k = 9 ∨ k = 10 ∨ k = 11) ∨ (k ≠ 1 ∧ k ≠ 2 ∧ k ≠ 3 ∧ k ≠ 4 ∧ k ≠ 5 ∧ k ≠ 6 ∧ k ≠ 7 ∧ k ≠ 8 ∧ k ≠ 9 ∧ k ≠ 10 ∧ k ≠ 11) := by omega
theorem about_eq (k : Int) : f_ask_about k = some (aboutV k) := by
  rcases kinds k with (rfl | rfl | rfl | rfl | rfl | rfl | rfl | rfl | rfl | rfl | rfl) | h
  all_goals first
    | rfl
    | (unfold f_ask_about aboutV
       simp [h])
theorem about_neg {k : Int} (h : k ≠ 1 ∧ k ≠ 2 ∧ k ≠ 3 ∧ k ≠ 4 ∧ k ≠ 5 ∧ k ≠ 6 ∧ k ≠ 7 ∧ k ≠ 8 ∧ k ≠ 9 ∧ k ≠ 10 ∧ k ≠ 11) : aboutV k = -1 ∧ f_ref22_letters k = some ⟨#[]⟩ := by
  constructor
  · unfold aboutV; simp [h]
  · unfold f_ref22_letters; simp [h]
def known (k : Int) : Prop := k = 1 ∨ k = 2 ∨ k = 3 ∨ k = 4 ∨ k = 5 ∨ k = 6 ∨ k = 7 ∨ k = 8 ∨ k = 9 ∨ k = 10 ∨ k = 11
theorem about_pos {k : Int} (h : known k) : ¬ aboutV k < 0 ∧ ∃ s, f_ref22_letters k = some s ∧ decide (s = (⟨#[]⟩ : ByteArray)) = false := by
  rcases h with rfl | rfl | rfl | rfl | rfl | rfl | rfl | rfl | rfl | rfl | rfl <;> exact ⟨by decide, _, rfl, by decide⟩
theorem has_run {k l : Int} {s : ByteArray} {e : Unit ⊕ Unit} (h : f_ref22_letters k = some s) (n : Nat) (hr : runK n (f_ref22_has_l0 l s) 0 = some e) : f_ref22_has k l = some (match e with | .inl _ => false | .inr _ => true) := by
  unfold f_ref22_has
  rw [h]
  simp only [Option.bind_some]
  rw [iter_run n hr]
  cases e <;> rfl
theorem has_eq {k : Int} (h : known k) : f_ref22_has k 110 = some (hasV k 1) ∧ f_ref22_has k 107 = some (hasV k 2) ∧ f_ref22_has k 113 = some (hasV k 4) ∧ f_ref22_has k 114 = some (hasV k 8) ∧ f_ref22_has k 112 = some (hasV k 16) ∧ f_ref22_has k 105 = some (hasV k 32) ∧
    f_ref22_has k 98 = some (hasV k 64) ∧ f_ref22_has k 101 = some (hasV k 128) ∧ f_ref22_has k 99 = some (hasV k 256) ∧ f_ref22_has k 119 = some (hasV k 512) := by
  rcases h with rfl | rfl | rfl | rfl | rfl | rfl | rfl | rfl | rfl | rfl | rfl
  all_goals
    refine ⟨?_, ?_, ?_, ?_, ?_, ?_, ?_, ?_, ?_, ?_⟩
    all_goals first
      | exact (has_run (e := .inr ()) rfl 8 rfl).trans (by decide +kernel)
      | exact (has_run (e := .inl ()) rfl 8 rfl).trans (by decide +kernel)
def textV (s : ByteArray) (has : Bool) (most : Int) : Bool := if has = true then decide ((s.size : Int) ≤ most) else decide (s = ⟨#[]⟩)
def numV (n : Int) (has : Bool) (most : Int) : Bool := if has = true then decide (0 ≤ n ∧ n ≤ most) else decide (n = 0)
theorem text_eq (s : ByteArray) (h : Bool) (m : Int) : f_ask_text s h m = some (textV s h m) ∧ f_ref22_txt s h m = some (textV s h m) := by
  cases h <;> exact ⟨rfl, rfl⟩
theorem num_eq (n : Int) (h : Bool) (m : Int) : f_ask_number n h m = some (numV n h m) ∧ f_ref22_num n h m = some (numV n h m) := by
  unfold f_ask_number f_ref22_num numV
  cases h
  · exact ⟨rfl, rfl⟩
  · simp only [Bool.not_true, Bool.false_eq_true, if_false, if_true]
    by_cases g : 0 ≤ n
    · simp [g]
    · simp [g]
def saidV (w : T_api_Word) (has : Bool) : Bool :=
  if has = true then decide (1 ≤ w.Broker ∧ w.Broker ≤ 64 ∧ 0 ≤ w.Epoch ∧ w.Epoch ≤ 1073741824 ∧ 0 ≤ w.High ∧ w.High ≤ 1073741824) else decide (w.Broker = 0 ∧ w.Epoch = 0 ∧ w.High = 0) && (!w.Fence && !w.Leave)
theorem said_eq (w : T_api_Word) (h : Bool) : f_ask_said w h = some (saidV w h) ∧ f_ref22_said w h = some (saidV w h) := by
  unfold f_ask_said f_ref22_said saidV
  cases h
  · simp only [Bool.not_false, if_true, Bool.false_eq_true, if_false, andL]
    by_cases g1 : w.Broker = 0 <;> by_cases g2 : w.Epoch = 0 <;> by_cases g3 : w.High = 0 <;> cases w.Fence <;> cases w.Leave <;> simp [g1, g2, g3]
  · simp only [Bool.not_true, Bool.false_eq_true, if_false, if_true, (num_eq _ _ _).2, numV, Option.bind_some]
    by_cases g1 : 1 ≤ w.Broker
    · by_cases g2 : w.Broker ≤ 64
      · by_cases g3 : 0 ≤ w.Epoch
        · by_cases g4 : w.Epoch ≤ 1073741824
          · by_cases g5 : 0 ≤ w.High
            · have g0 : 0 ≤ w.Broker := by omega
              simp [g0, g1, g2, g3, g4, g5]
            · have g0 : 0 ≤ w.Broker := by omega
              simp [g0, g1, g2, g3, g4, g5]
          · have g0 : 0 ≤ w.Broker := by omega
            simp [g0, g1, g2, g3, g4]
        · have g0 : 0 ≤ w.Broker := by omega
          simp [g0, g1, g2, g3]
      · have g0 : 0 ≤ w.Broker := by omega
        simp [g0, g1, g2]
    · simp [g1]
def toE (w : T_ref22_Wrong) : GErr := if w.Code = 0 then .nil else .fault w.Op w.At (.code w.Code)
theorem chk {X Y : Option Bool} {A : T_ref22_Wrong} {R : Option T_ref22_Wrong} {A' : GErr} {R' : Option GErr} (hX : ∃ x, X = some x) (hY : Y = X) (hA : A' = toE A) (h : X = some false → ∃ w, R = some w ∧ R' = some (toE w)) :
    ∃ w, (X.bind fun x => if x = true then some A else R) = some w ∧ (Y.bind fun x => if x = true then some A' else R') = some (toE w) := by
  subst hY hA
  obtain ⟨x, hx⟩ := hX
  cases x with
  | true => exact ⟨A, by rw [hx]; rfl, by rw [hx]; rfl⟩
  | false =>
    obtain ⟨w, h1, h2⟩ := h hx
    exact ⟨w, by rw [hx]; exact h1, by rw [hx]; exact h2⟩
theorem some3 {a b : Bool} {X : Option Bool} (h : ∃ x, X = some x) : ∃ x, (if a = true then some b else X) = some x := by
  cases a
  · exact h
  · exact ⟨b, rfl⟩
/-- What is wrong with a request: of what, at what, a code (0: nothing); both tell the same. -/
theorem check_eq22 (q : Req) : ∃ w, f_ref22_Check q = some w ∧ f_ask_Check q = some (toE w) := by
  unfold f_ref22_Check f_ask_Check
  rw [about_eq]
  rcases kinds q.Kind with hk | hk
  · have hk : known q.Kind := hk
    obtain ⟨p1, s, p2, p3⟩ := about_pos hk
    obtain ⟨hn, hkk, hq, hr, hp, hi, hb, he, hc, hw⟩ := has_eq hk
    have c1 : ∀ bit, f_ask_Check_1 bit (aboutV q.Kind) = some (hasV q.Kind bit) := fun bit => rfl
    obtain ⟨B, hB1, hB2, _⟩ := brokers_eq q.Ids
    rw [p2]
    simp only [Option.bind_some, p3, Bool.false_eq_true, if_false, decide_eq_false p1, c1, hn, hkk, hq, hr, hp, hi, hb, he, hc, hw, (text_eq _ _ _).1, (text_eq _ _ _).2, (num_eq _ _ _).1, (num_eq _ _ _).2, (said_eq _ _).1, (said_eq _ _).2, newA, hB1, hB2]
    refine chk (some3 (some3 (some3 ⟨_, rfl⟩))) rfl rfl fun _ => ?_
    refine chk (some3 (some3 ⟨_, rfl⟩)) rfl rfl fun _ => ?_
    refine chk (some3 ?_) ?_ rfl fun _ => ?_
    · cases q.Flag <;> exact ⟨_, rfl⟩
    · cases q.Flag <;> cases hasV q.Kind 2 <;> rfl
    refine chk (some3 (some3 ⟨_, rfl⟩)) rfl rfl fun _ => ?_
    refine chk (some3 (some3 ⟨_, rfl⟩)) rfl rfl fun _ => ?_
    refine chk ?_ ?_ rfl fun _ => ?_
    · by_cases g : (0 : Int) < (q.Ids.length : Int)
      · rw [if_pos (decide_eq_true g)]; exact some3 ⟨_, rfl⟩
      · rw [if_neg (fun q => g (of_decide_eq_true q))]; exact ⟨_, rfl⟩
    · by_cases g : (0 : Int) < (q.Ids.length : Int)
      · simp only [decide_eq_true g, if_true]
        all_goals (cases hasV q.Kind 32 <;> rfl)
      · simp only [decide_eq_false g, Bool.false_eq_true, if_false]
        all_goals (cases hasV q.Kind 32 <;> rfl)
    exact ⟨_, rfl, rfl⟩
  · obtain ⟨h1, h2⟩ := about_neg hk
    rw [h1, h2]
    exact ⟨_, rfl, rfl⟩
end Go.Proofs.Ytdlilclopmhiaaa.G
