/- A frame of its own for walks: the world told as what is fixed (IM) and what is owned, block by block; rules for code, regions and calls in it. -/
import Derived.Tactics
import Derived.KernelRfl
import Derived.Orders
import Derived.Below
import Derived.Laws.World
namespace Go.KK
open Go

/-! ### 1. What is told of the world -/

/-- What is fixed: blocks that nobody writes any more, and the streams. -/
structure IM where
  blk : Nat → Option Obj
  os : Os
  tape : Nat → Question → Nat
  output : Array (Nat × ByteArray)
  /-- Of a block of which only the first cells are fixed: these. -/
  pre : Nat → Option (Array Value)

def Pref (a b : Array Value) : Prop := ∀ (j : Nat) (v : Value), a[j]? = some v → b[j]? = some v
theorem Pref.refl (a : Array Value) : Pref a a := fun _ _ h => h
theorem Pref.trans {a b c : Array Value} (h : Pref a b) (k : Pref b c) : Pref a c := fun j v q => k j v (h j v q)
structure IM.le (M M' : IM) : Prop where
  os : M'.os = M.os
  tape : M'.tape = M.tape
  output : M'.output = M.output
  blk : ∀ b o, M.blk b = some o → M'.blk b = some o
  pre : ∀ b a, M.pre b = some a → M'.blk b = M.blk b ∧ ∃ a', M'.pre b = some a' ∧ Pref a a'

theorem IM.le.refl (M : IM) : M.le M := ⟨rfl, rfl, rfl, fun _ _ h => h, fun _ a h => ⟨rfl, a, h, .refl a⟩⟩
theorem IM.le.trans {A B C : IM} (h : A.le B) (k : B.le C) : A.le C :=
  ⟨k.os.trans h.os, k.tape.trans h.tape, k.output.trans h.output, fun b o hb => k.blk b o (h.blk b o hb), fun b a hb => by
    obtain ⟨e1, a1, h1, h2⟩ := h.pre b a hb
    obtain ⟨e2, a2, h3, h4⟩ := k.pre b a1 h1
    exact ⟨e2.trans e1, a2, h3, h2.trans h4⟩⟩

/-- A piece of what is owned: some blocks, each with what it holds. -/
abbrev Chunk := List (Nat × Obj)
abbrev HL := List Chunk

end Go.KK
namespace Go
/-- An entry that is owned whole; a channel's form marks one of which the first cells are fixed already, and only the rest is owned. -/
def Obj.excl : Obj → Bool
  | .chan .. => false
  | _ => true
end Go
namespace Go.KK
open Go
structure Sat (w : World) (M : IM) (H : HL) : Prop where
  os : w.os = M.os
  tape : w.tape = M.tape
  output : w.output = M.output
  imm : ∀ b o, M.blk b = some o → w.heap[b]? = some o
  own : ∀ p ∈ H.flatten, p.2.excl = true → w.heap[p.1]? = some p.2
  nodup : (H.flatten.map (·.1)).Nodup
  apart : ∀ p ∈ H.flatten, M.blk p.1 = none
  pre : ∀ b a, M.pre b = some a → M.blk b = none ∧ ∃ arr T fr, w.heap[b]? = some (.cells arr T fr) ∧ Pref a arr
  apre : ∀ p ∈ H.flatten, p.2.excl = true → M.pre p.1 = none
  shr : ∀ p ∈ H.flatten, ∀ n a x T y z, p.2 = .chan n a x T y z → M.pre p.1 = some a ∧ ∃ arr fr, w.heap[p.1]? = some (.cells arr T fr) ∧ arr.size = n ∧ (fr.1 = fr.2 ∨ arr.size ≤ fr.1)

theorem Sat.drawn {w : World} {M : IM} {H : HL} (h : Sat w M H) (n : Nat) : Sat { w with drawn := n } M H :=
  ⟨h.os, h.tape, h.output, h.imm, h.own, h.nodup, h.apart, h.pre, h.apre, h.shr⟩

theorem Sat.perm {w : World} {M : IM} {H H' : HL} (h : Sat w M H) (p : H.flatten.Perm H'.flatten) : Sat w M H' :=
  ⟨h.os, h.tape, h.output, h.imm, fun q hq => h.own q (p.mem_iff.2 hq), (p.map _).nodup_iff.1 h.nodup, fun q hq => h.apart q (p.mem_iff.2 hq), h.pre, fun q hq => h.apre q (p.mem_iff.2 hq), fun q hq => h.shr q (p.mem_iff.2 hq)⟩

theorem Sat.drop {w : World} {M : IM} {c : Chunk} {H : HL} (h : Sat w M (c :: H)) : Sat w M H := by
  have hm : ∀ q, q ∈ H.flatten → q ∈ (c :: H).flatten := fun q hq => by simp only [List.flatten_cons, List.mem_append]; exact .inr hq
  refine ⟨h.os, h.tape, h.output, h.imm, fun q hq => h.own q (hm q hq), ?_, fun q hq => h.apart q (hm q hq), h.pre, fun q hq => h.apre q (hm q hq), fun q hq => h.shr q (hm q hq)⟩
  have := h.nodup; simp only [List.flatten_cons, List.map_append] at this; exact (List.nodup_append.1 this).2.1

theorem front_perm : ∀ (k : Nat) (H : HL) (c : Chunk), H[k]? = some c → H.flatten.Perm ((c :: H.eraseIdx k).flatten)
  | 0, x :: H, c, h => by simp at h; subst h; simp
  | k + 1, x :: H, c, h => by
    have ih := front_perm k H c (by simpa using h)
    simp only [List.flatten_cons, List.eraseIdx_cons_succ] at ih ⊢
    refine (List.Perm.append_left x ih).trans ?_
    rw [← List.append_assoc, ← List.append_assoc]
    exact List.Perm.append_right _ List.perm_append_comm

theorem Sat.front {w : World} {M : IM} {H : HL} (h : Sat w M H) (k : Nat) {c : Chunk} (hc : H[k]? = some c) : Sat w M (c :: H.eraseIdx k) :=
  h.perm (front_perm k H c hc)

theorem Obj.not_excl {o : Obj} (h : ¬ o.excl = true) : ∃ n a x T y z, o = .chan n a x T y z := by
  cases o <;> first | exact ⟨_, _, _, _, _, _, rfl⟩ | exact absurd rfl h
theorem Sat.lt {w : World} {M : IM} {H : HL} (h : Sat w M H) {p : Nat × Obj} (hp : p ∈ H.flatten) : p.1 < w.heap.size := by
  by_cases e : p.2.excl = true
  · exact (Array.getElem?_eq_some_iff.1 (h.own p hp e)).1
  · obtain ⟨n, a, x, T, y, z, e⟩ := Obj.not_excl e
    obtain ⟨_, arr, fr, hh, _⟩ := h.shr p hp _ _ _ _ _ _ e
    exact (Array.getElem?_eq_some_iff.1 hh).1

theorem Sat.mem {w : World} {M : IM} {H : HL} (h : Sat w M H) (k : Nat) {c : Chunk} (hc : H[k]? = some c) {p : Nat × Obj} (hp : p ∈ c) (he : p.2.excl = true) : w.heap[p.1]? = some p.2 :=
  h.own p (List.mem_flatten.2 ⟨c, List.mem_of_getElem? hc, hp⟩) he

/-- A new block. -/
theorem Sat.alloc {w : World} {M : IM} {H : HL} (h : Sat w M H) (o : Obj) (ho : o.excl = true := by rfl) : Sat (w.alloc o) M ([(w.heap.size, o)] :: H) := by
  have hsz : ∀ (b : Nat) (x : Obj), w.heap[b]? = some x → b < w.heap.size := fun b x hb => (Array.getElem?_eq_some_iff.1 hb).1
  have keep : ∀ (b : Nat) (x : Obj), w.heap[b]? = some x → (w.alloc o).heap[b]? = some x := fun b x hb => by
    show (w.heap.push o)[b]? = _
    rw [Array.getElem?_push, if_neg (by have := hsz b x hb; omega)]; exact hb
  have hno : M.pre w.heap.size = none := by
    cases e : M.pre w.heap.size with
    | none => rfl
    | some a =>
      obtain ⟨_, arr, T, fr, hh, _⟩ := h.pre _ _ e
      exact absurd (hsz _ _ hh) (by omega)
  refine ⟨h.os, h.tape, h.output, fun b x hb => keep b x (h.imm b x hb), ?_, ?_, ?_, fun b a hb => ?_, ?_, ?_⟩
  · intro p hp he
    simp only [List.flatten_cons, List.cons_append, List.nil_append, List.mem_cons] at hp
    rcases hp with rfl | hp
    · show (w.heap.push o)[w.heap.size]? = _; simp
    · exact keep _ _ (h.own p hp he)
  · simp only [List.flatten_cons, List.cons_append, List.nil_append, List.map_cons, List.nodup_cons]
    refine ⟨fun hm => ?_, h.nodup⟩
    obtain ⟨p, hp, e⟩ := List.mem_map.1 hm
    have := h.lt hp; omega
  · intro p hp
    simp only [List.flatten_cons, List.cons_append, List.nil_append, List.mem_cons] at hp
    rcases hp with rfl | hp
    · cases e : M.blk w.heap.size with
      | none => rfl
      | some x => exact absurd (hsz _ _ (h.imm _ _ e)) (by omega)
    · exact h.apart p hp
  · obtain ⟨h1, arr, T, fr, hh, h2⟩ := h.pre b a hb
    exact ⟨h1, arr, T, fr, keep _ _ hh, h2⟩
  · intro p hp he
    simp only [List.flatten_cons, List.cons_append, List.nil_append, List.mem_cons] at hp
    rcases hp with rfl | hp
    · exact hno
    · exact h.apre p hp he
  · intro p hp n a x T y z e
    simp only [List.flatten_cons, List.cons_append, List.nil_append, List.mem_cons] at hp
    rcases hp with rfl | hp
    · rw [show o = _ from e] at ho; cases ho
    · obtain ⟨h1, arr, fr, hh, h2⟩ := h.shr p hp n a x T y z e
      exact ⟨h1, arr, fr, keep _ _ hh, h2⟩

/-- A block of the first piece is written. -/
theorem Sat.write {w w' : World} {M : IM} {g : Nat} {o o' : Obj} {c : Chunk} {H : HL} (h : Sat w M (((g, o) :: c) :: H))
    (hos : w'.os = w.os) (ht : w'.tape = w.tape) (hout : w'.output = w.output) (hg : w'.heap[g]? = some o') (hk : ∀ b, b ≠ g → w'.heap[b]? = w.heap[b]?) (ho : o.excl = true := by rfl) (ho' : o'.excl = true := by rfl) :
    Sat w' M (((g, o') :: c) :: H) := by
  have hn := h.nodup
  simp only [List.flatten_cons, List.cons_append, List.map_cons, List.nodup_cons] at hn
  have hin : ∀ p, p ∈ c ++ H.flatten → p.1 ≠ g := fun p hp e => hn.1 (List.mem_map.2 ⟨p, hp, e⟩)
  have hap := h.apart (g, o) (by simp)
  have hpre := h.apre (g, o) (by simp) ho
  refine ⟨hos.trans h.os, ht.trans h.tape, hout.trans h.output, fun b x hb => ?_, ?_, ?_, ?_, fun b a hb => ?_, ?_, ?_⟩
  · have : b ≠ g := by rintro rfl; simp only [hap] at hb; cases hb
    rw [hk b this]; exact h.imm b x hb
  · intro p hp he
    simp only [List.flatten_cons, List.cons_append, List.mem_cons] at hp
    rcases hp with rfl | hp
    · exact hg
    · rw [hk _ (hin p hp)]; exact h.own p (by simp only [List.flatten_cons, List.cons_append, List.mem_cons]; exact .inr hp) he
  · simp only [List.flatten_cons, List.cons_append, List.map_cons, List.nodup_cons]; exact hn
  · intro p hp
    simp only [List.flatten_cons, List.cons_append, List.mem_cons] at hp
    rcases hp with rfl | hp
    · exact hap
    · exact h.apart p (by simp only [List.flatten_cons, List.cons_append, List.mem_cons]; exact .inr hp)
  · obtain ⟨h1, arr, T, fr, hh, h2⟩ := h.pre b a hb
    have : b ≠ g := by rintro rfl; simp only [hpre] at hb; cases hb
    exact ⟨h1, arr, T, fr, by rw [hk b this]; exact hh, h2⟩
  · intro p hp he
    simp only [List.flatten_cons, List.cons_append, List.mem_cons] at hp
    rcases hp with rfl | hp
    · exact hpre
    · exact h.apre p (by simp only [List.flatten_cons, List.cons_append, List.mem_cons]; exact .inr hp) he
  · intro p hp n a x T y z e
    simp only [List.flatten_cons, List.cons_append, List.mem_cons] at hp
    rcases hp with rfl | hp
    · rw [show o' = _ from e] at ho'; cases ho'
    · obtain ⟨h1, arr, fr, hh, h2⟩ := h.shr p (by simp only [List.flatten_cons, List.cons_append, List.mem_cons]; exact .inr hp) n a x T y z e
      exact ⟨h1, arr, fr, by rw [hk _ (hin p hp)]; exact hh, h2⟩

/-- What is owned becomes fixed. -/
def IM.add (M : IM) (c : Chunk) : IM := { M with blk := fun b => match M.blk b with | some o => some o | none => match M.pre b with | some _ => none | none => (c.find? fun p => p.1 == b && p.2.excl).map (·.2) }

theorem IM.le_add (M : IM) (c : Chunk) : M.le (M.add c) := ⟨rfl, rfl, rfl, fun b o h => by simp [IM.add, h], fun b a h => ⟨by simp only [IM.add, h]; cases M.blk b <;> rfl, a, h, .refl a⟩⟩

theorem Sat.freeze {w : World} {M : IM} {c : Chunk} {H : HL} (h : Sat w M (c :: H)) : Sat w (M.add c) H := by
  have hd := h.drop
  have hn := h.nodup
  simp only [List.flatten_cons, List.map_append] at hn
  refine ⟨h.os, h.tape, h.output, fun b x hb => ?_, hd.own, hd.nodup, fun p hp => ?_, fun b a hb => ?_, hd.apre, hd.shr⟩
  · simp only [IM.add] at hb
    split at hb
    · rename_i o' ho; cases hb; exact h.imm b _ ho
    · split at hb
      · cases hb
      · obtain ⟨p, hp, rfl⟩ := Option.map_eq_some_iff.1 hb
        have h1 := List.mem_of_find?_eq_some hp
        have h2 : p.1 = b ∧ p.2.excl = true := by simpa using List.find?_some hp
        obtain ⟨h2, h3⟩ := h2
        subst h2
        exact h.own p (by simp only [List.flatten_cons, List.mem_append]; exact .inl h1) h3
  · have ha := hd.apart p hp
    simp only [IM.add, ha]
    cases M.pre p.1 with
    | some a => rfl
    | none =>
      simp only
      cases hf : c.find? fun q => q.1 == p.1 && q.2.excl with
      | none => rfl
      | some q =>
        have h1 := List.mem_of_find?_eq_some hf
        have h2 : q.1 = p.1 ∧ q.2.excl = true := by simpa using List.find?_some hf
        exact absurd h2.1 ((List.nodup_append.1 hn).2.2 q.1 (List.mem_map.2 ⟨q, h1, rfl⟩) p.1 (List.mem_map.2 ⟨p, hp, rfl⟩))
  · obtain ⟨h1, arr, T, fr, hh, h2⟩ := h.pre b a hb
    refine ⟨?_, arr, T, fr, hh, h2⟩
    have hb' : M.pre b = some a := hb
    simp only [IM.add, h1, hb']

theorem IM.add_blk {M : IM} {c : Chunk} {p : Nat × Obj} (hn : (c.map (·.1)).Nodup) (ha : M.blk p.1 = none) (hp : p ∈ c) (he : p.2.excl = true) (hq : M.pre p.1 = none) : (M.add c).blk p.1 = some p.2 := by
  simp only [IM.add, ha, hq]
  clear ha hq
  induction c with
  | nil => cases hp
  | cons q c ih =>
    simp only [List.map_cons, List.nodup_cons] at hn
    by_cases e : q.1 = p.1
    · have : q = p := by
        rcases List.mem_cons.1 hp with rfl | h
        · rfl
        · exact absurd (List.mem_map.2 ⟨p, h, rfl⟩) (e ▸ hn.1)
      subst this
      simp [he]
    · have hp' : p ∈ c := by
        rcases List.mem_cons.1 hp with rfl | h
        · exact absurd rfl e
        · exact h
      rw [List.find?_cons_of_neg (by simp [e])]
      exact ih hn.2 hp'

/-- The law's beginning: all that is there is fixed. -/
def IM.of (w : World) : IM := ⟨fun b => w.heap[b]?, w.os, w.tape, w.output, fun _ => none⟩
theorem Sat.begin (w : World) : Sat w (IM.of w) [] := ⟨rfl, rfl, rfl, fun _ _ h => h, fun _ h => by simp at h, by simp, fun _ h => by simp at h, (fun _ _ h => by cases h), fun _ h => by simp at h, fun _ h => by simp at h⟩
theorem Sat.below {w w' : World} {M : IM} {H : HL} (h : Sat w' M H) (hm : (IM.of w).le M) : RowKit.Below w.heap.size w w' := by
  have hb : ∀ k, k < w.heap.size → w'.heap[k]? = w.heap[k]? := fun k hk => by
    have e : w.heap[k]? = some w.heap[k] := Array.getElem?_eq_getElem hk
    rw [e]; exact h.imm _ _ (hm.blk _ _ e)
  refine ⟨h.os.trans hm.os, h.tape.trans hm.tape, h.output.trans hm.output, ?_, hb⟩
  rcases Nat.eq_zero_or_pos w.heap.size with h0 | h0
  · omega
  · have e := hb (w.heap.size - 1) (by omega)
    rw [Array.getElem?_eq_getElem (xs := w.heap) (by omega)] at e
    have := (Array.getElem?_eq_some_iff.1 e).1
    omega

/-! ### 2. What is told of the frame -/

theorem beq_no {s d : Nat} (h : s ≠ d) : Nat.beq s d = false := by
  cases e : Nat.beq s d with
  | false => rfl
  | true => exact absurd (Nat.eq_of_beq_eq_true e) h
theorem no_beq {s d : Nat} (h : Nat.beq s d = false) : s ≠ d := by
  rintro rfl; rw [Nat.beq_refl] at h; cases h
def upd (ρ : Nat → Value) (d : Nat) (v : Value) : Nat → Value := fun s => bif Nat.beq s d then v else ρ s
def updo (ρ : Nat → Value) (d : Option Nat) (v : Value) : Nat → Value := match d with | some d => upd ρ d v | none => ρ
def ev (ρ : Nat → Value) : Operand → Value
  | .tmp t => ρ t
  | .const v => v
  | .global g => .pointer (some ⟨g, 0, none⟩)
  | .func f => .func (.func f) #[] #[]

structure OkA (n : Nat) (a : Act) (ρ : Nat → Value) : Prop where
  defers : a.defers = []
  size : a.tmps.size = n
  get : ∀ s, a.tmps.getD s undef = ρ s

theorem OkA.eval {n : Nat} {a : Act} {ρ : Nat → Value} (h : OkA n a ρ) : a.eval = ev ρ := by
  funext x; cases x <;> simp only [Act.eval, ev, h.get]

def dstB (n : Nat) : Option Nat → Bool | some d => Nat.blt d n | none => true
def dstOk (n : Nat) (d : Option Nat) : Prop := dstB n d = true

theorem OkA.put {n : Nat} {a : Act} {ρ : Nat → Value} (h : OkA n a ρ) (d : Option Nat) (hd : dstOk n d) (v : Value) : OkA n (a.put d v) (updo ρ d v) := by
  cases d with
  | none => exact h
  | some d =>
    have hlt : d < a.tmps.size := by rw [h.size]; have h1 : Nat.blt d n = true := hd; rw [Nat.blt_eq] at h1; exact h1
    refine ⟨h.defers, by simp [Act.put, h.size], fun s => ?_⟩
    show (a.tmps.setIfInBounds d v).getD s undef = upd ρ d v s
    unfold upd
    by_cases e : s = d
    · subst e; simp [hlt]
    · have hb : Nat.beq s d = false := beq_no e
      rw [hb, cond_false, ← h.get s]
      simp only [Array.getD_eq_getD_getElem?, Array.getElem?_setIfInBounds_ne (Ne.symm e)]

theorem OkA.ext {n : Nat} {a b : Act} {ρ : Nat → Value} (h : OkA n a ρ) (k : OkA n b ρ) : a = b := by
  obtain ⟨ta, da⟩ := a; obtain ⟨tb, db⟩ := b
  have e1 : da = db := h.defers.trans k.defers.symm
  have e2 : ta = tb := by
    apply Array.ext
    · exact h.size.trans k.size.symm
    · intro i h1 h2
      have x := (h.get i).trans (k.get i).symm
      change ta.getD i undef = tb.getD i undef at x
      simp only [Array.getD_eq_getD_getElem?] at x
      rw [Array.getElem?_eq_getElem h1, Array.getElem?_eq_getElem h2] at x
      exact x
  rw [e1, e2]

/-! ### 3. An operation -/

/-- Where an operation's run goes on: 'next' of what it yields. -/
def Res (P : Program) (next : Value → World → Prop) : Result Next → Prop
  | .ok (.value v) w' => next v w'
  | .ok .skip w' => next undef w'
  | .ok (.enter f args) w' => Calls P f args w' fun e w'' => match e with | .returned v => next v w'' | _ => False
  | _ => False

theorem Res.mono {P : Program} {r : Result Next} {K K' : Value → World → Prop} (hk : ∀ v w, K v w → K' v w) (h : Res P K r) : Res P K' r := by
  cases r with
  | halt x w => exact h
  | ok nx w =>
    cases nx <;> simp only [Res] at h ⊢ <;> first
      | exact hk _ _ h
      | exact h
      | exact Calls.mono h (fun e w'' he => by cases e <;> first | exact hk _ _ he | exact he)

theorem Res.upon {P : Program} {o : Oper} {a : Act} {K : Act → World → Prop} {Q : Exit → Act → World → Prop} {r : Result Next}
    (h : Res P (fun v w => K (a.put o.dst v) w) r) : o.upon P a K Q r := by
  cases r with
  | halt x w => exact h.elim
  | ok nx w =>
    cases nx <;> simp only [Res] at h <;> first
      | exact h
      | exact h.elim
      | exact Calls.mono h (fun e w'' he => by cases e <;> first | exact he | exact he.elim)

/-- An operation that only yields a value. -/
def PO (P : Program) (o : Oper) (ρ : Nat → Value) (M : IM) (H : HL) (v : Value) : Prop :=
  ∀ w, Sat w M H → (execOp (ev ρ) o).run P w = .ok (.value v) w

/-- An operation that acts. -/
def EO (P : Program) (o : Oper) (ρ : Nat → Value) (M : IM) (H : HL) (post : Value → IM → HL → Prop) : Prop :=
  ∀ w, Sat w M H → Res P (fun v w' => ∃ M' H', M.le M' ∧ Sat w' M' H' ∧ post v M' H') ((execOp (ev ρ) o).run P w)

theorem PO.eo {P : Program} {o : Oper} {ρ : Nat → Value} {M : IM} {H : HL} {v : Value} (h : PO P o ρ M H v) : EO P o ρ M H fun u M' H' => v = u ∧ M = M' ∧ H = H' :=
  fun w hs => by rw [h w hs]; exact ⟨M, H, .refl M, hs, rfl, rfl, rfl⟩

/-! ### 4. Lists of operations, one behind the other -/

def WL (P : Program) (ops : Array Oper) (n : Nat) (Q : Exit → Act → World → Prop) (l : List Oper) (ρ : Nat → Value) (M : IM) (H : HL) : Prop :=
  ∀ a w, OkA n a ρ → Sat w M H → wpList P ops Q l a w

section
variable {P : Program} {ops : Array Oper} {n : Nat} {Q : Exit → Act → World → Prop} {rest : List Oper} {ρ : Nat → Value} {M : IM} {H : HL}

theorem WL.eff {d : Option Nat} {op : Op} {ty : TypeId} {pos : String} {af : Array Edge} {post : Value → IM → HL → Prop}
    (h : EO P ⟨d, op, ty, pos, af, none⟩ ρ M H post) (hd : dstOk n d)
    (k : ∀ v M' H', M.le M' → post v M' H' → WL P ops n Q rest (updo ρ d v) M' H') : WL P ops n Q (⟨d, op, ty, pos, af, none⟩ :: rest) ρ M H := by
  intro a w ha hs
  unfold wpList
  rw [if_pos (by simp [Region.wanted])]
  refine .inl ?_
  unfold Oper.wp
  rw [ha.eval]
  refine Res.upon (Res.mono ?_ (h w hs))
  rintro v w' ⟨M', H', hle, hs', hp⟩
  exact k v M' H' hle hp _ _ (ha.put d hd v) hs'

theorem WL.pure {d : Nat} {op : Op} {ty : TypeId} {pos : String} {af : Array Edge} {v : Value}
    (h : PO P ⟨some d, op, ty, pos, af, none⟩ ρ M H v) (hd : dstOk n (some d))
    (k : WL P ops n Q rest (upd ρ d v) M H) : WL P ops n Q (⟨some d, op, ty, pos, af, none⟩ :: rest) ρ M H := by
  intro a w ha hs
  unfold wpList
  rw [if_pos (by simp [Region.wanted])]
  refine .inl ?_
  unfold Oper.wp
  rw [ha.eval, h w hs]
  exact k _ _ (ha.put (some d) hd v) hs

theorem wanted_of {g : Nat} {want b : Bool} {t : Nat} {a : Act} {o : Oper} (ho : o.guard = some (g, want)) (ha : OkA n a ρ) (hg : (ops[g]?).bind (·.dst) = some t) (ht : ρ t = .bool b) :
    Region.wanted o (yielded ops a.tmps) = (b == want) := by
  have hy : yielded ops a.tmps g = some b := by
    unfold yielded
    rw [hg]
    have := ha.get t
    rw [ht, Array.getD_eq_getD_getElem?] at this
    show (match a.tmps[t]? with | some (.bool b) => some b | _ => none) = some b
    cases e : a.tmps[t]? with
    | none => rw [e] at this; cases this
    | some x => rw [e] at this; simp only [Option.getD_some] at this; subst this; rfl
  simp only [Region.wanted, ho, hy]
  cases b <;> cases want <;> rfl

/-- A guarded operation that runs: as one without a guard. -/
theorem WL.on {d : Option Nat} {op : Op} {ty : TypeId} {pos : String} {af : Array Edge} {g : Nat} {want b : Bool} (t : Nat)
    (hg : (ops[g]?).bind (·.dst) = some t) (ht : ρ t = .bool b) (hb : b = want)
    (k : WL P ops n Q (⟨d, op, ty, pos, af, none⟩ :: rest) ρ M H) : WL P ops n Q (⟨d, op, ty, pos, af, some (g, want)⟩ :: rest) ρ M H := by
  intro a w ha hs
  have h := k a w ha hs
  unfold wpList at h ⊢
  rw [if_pos (by rw [wanted_of rfl ha hg ht, hb]; simp)]
  rw [if_pos (by simp [Region.wanted])] at h
  exact h

theorem wanted_undef {g : Nat} {want : Bool} {t : Nat} {a : Act} {o : Oper} (ho : o.guard = some (g, want)) (ha : OkA n a ρ) (hg : (ops[g]?).bind (·.dst) = some t) (ht : ρ t = undef) :
    Region.wanted o (yielded ops a.tmps) = false := by
  have hy : yielded ops a.tmps g = none := by
    unfold yielded
    rw [hg]
    have := ha.get t
    rw [ht, Array.getD_eq_getD_getElem?] at this
    show (match a.tmps[t]? with | some (.bool b) => some b | _ => none) = none
    cases e : a.tmps[t]? with
    | none => rfl
    | some x => rw [e] at this; simp only [Option.getD_some] at this; subst this; rfl
  simp only [Region.wanted, ho, hy]
  rfl
/-- A guarded operation whose guard has not run. -/
theorem WL.offU {d : Option Nat} {op : Op} {ty : TypeId} {pos : String} {af : Array Edge} {g : Nat} {want : Bool} (t : Nat)
    (hg : (ops[g]?).bind (·.dst) = some t) (ht : ρ t = undef) (hd : dstOk n d)
    (k : WL P ops n Q rest (updo ρ d undef) M H) : WL P ops n Q (⟨d, op, ty, pos, af, some (g, want)⟩ :: rest) ρ M H := by
  intro a w ha hs
  unfold wpList
  rw [if_neg (by rw [wanted_undef rfl ha hg ht]; simp)]
  exact k _ _ (ha.put d hd undef) hs
/-- A guarded operation that does not run. -/
theorem WL.off {d : Option Nat} {op : Op} {ty : TypeId} {pos : String} {af : Array Edge} {g : Nat} {want b : Bool} (t : Nat)
    (hg : (ops[g]?).bind (·.dst) = some t) (ht : ρ t = .bool b) (hb : b = !want) (hd : dstOk n d)
    (k : WL P ops n Q rest (updo ρ d undef) M H) : WL P ops n Q (⟨d, op, ty, pos, af, some (g, want)⟩ :: rest) ρ M H := by
  intro a w ha hs
  unfold wpList
  rw [if_neg (by rw [wanted_of rfl ha hg ht, hb]; cases want <;> simp)]
  exact k _ _ (ha.put d hd undef) hs

theorem WL.perm {l : List Oper} {H' : HL} (p : H.flatten.Perm H'.flatten) (k : WL P ops n Q l ρ M H') : WL P ops n Q l ρ M H :=
  fun a w ha hs => k a w ha (hs.perm p)
theorem WL.front {l : List Oper} (i : Nat) {c : Chunk} (hc : H[i]? = some c) (k : WL P ops n Q l ρ M (c :: H.eraseIdx i)) : WL P ops n Q l ρ M H :=
  fun a w ha hs => k a w ha (hs.front i hc)
theorem WL.drop {l : List Oper} {c : Chunk} (k : WL P ops n Q l ρ M H) : WL P ops n Q l ρ M (c :: H) := fun a w ha hs => k a w ha hs.drop
theorem WL.freeze {l : List Oper} {c : Chunk} (k : M.le (M.add c) → WL P ops n Q l ρ (M.add c) H) : WL P ops n Q l ρ M (c :: H) :=
  fun a w ha hs => k (M.le_add c) a w ha hs.freeze
/-- What the state implies may be used. -/
theorem WL.know {l : List Oper} {F : Prop} (hf : ∀ w, Sat w M H → F) (k : F → WL P ops n Q l ρ M H) : WL P ops n Q l ρ M H :=
  fun a w ha hs => k (hf w hs) a w ha hs
end

/-! ### 5. Code -/

def WC (P : Program) (n : Nat) (Q : Exit → Act → World → Prop) (c : Code) (ρ : Nat → Value) (M : IM) (H : HL) : Prop :=
  ∀ a w, OkA n a ρ → Sat w M H → c.wp P Q a w
def WQ (n : Nat) (Q : Exit → Act → World → Prop) (e : Exit) (ρ : Nat → Value) (M : IM) (H : HL) : Prop :=
  ∀ a w, OkA n a ρ → Sat w M H → Q e a w
/-- What is told where ways meet. -/
def JJ (n : Nat) (F : (Nat → Value) → IM → HL → Prop) (a : Act) (w : World) : Prop := ∃ ρ M H, OkA n a ρ ∧ Sat w M H ∧ F ρ M H

section
variable {P : Program} {n : Nat} {Q : Exit → Act → World → Prop} {ρ : Nat → Value} {M : IM} {H : HL} {x y : Code}

theorem WL.nil {ops : Array Oper} (h : WQ n Q .normal ρ M H) : WL P ops n Q [] ρ M H := h
theorem WL.nilC {ops : Array Oper} (h : WC P n Q y ρ M H) : WL P ops n (Exit.then (y.wp P Q) Q) [] ρ M H := h
theorem WC.region {id : Nat} {l : List Oper} (h : WL P l.toArray n Q l ρ M H) : WC P n Q (.region id l.toArray false) ρ M H :=
  fun a w ha hs => wp_region_lit (h a w ha hs)
theorem WC.seq (h : WC P n (Exit.then (y.wp P Q) Q) x ρ M H) : WC P n Q (.seq x y) ρ M H := fun a w ha hs => wp_seq (h a w ha hs)
theorem WC.join (F : (Nat → Value) → IM → HL → Prop) (h1 : WC P n (Exit.then (JJ n F) Q) x ρ M H) (h2 : ∀ ρ M H, F ρ M H → WC P n Q y ρ M H) : WC P n Q (.seq x y) ρ M H :=
  fun a w ha hs => wp_seq (wp_mono (h1 a w ha hs) fun e a w he => by
    cases e <;> first
      | exact he
      | (obtain ⟨ρ', M', H', ho, hs', hf⟩ := he; exact h2 ρ' M' H' hf a w ho hs'))
theorem WC.joinF {J : Type} (F : J → (Nat → Value) → IM → HL → Prop) (j : J) (h1 : WC P n (Exit.then (JJ n (F j)) Q) x ρ M H) (h2 : ∀ ρ M H, F j ρ M H → WC P n Q y ρ M H) : WC P n Q (.seq x y) ρ M H := WC.join (F j) h1 h2
theorem WC.joinE {J R : Type} (F : J → (Nat → Value) → IM → HL → Prop) (j : J ⊕ R) (h1 : WC P n (Exit.then (JJ n fun ρ M H => ∃ v, j = .inl v ∧ F v ρ M H) Q) x ρ M H) (h2 : ∀ v ρ M H, j = .inl v → F v ρ M H → WC P n Q y ρ M H) : WC P n Q (.seq x y) ρ M H :=
  WC.join _ h1 fun ρ M H ⟨v, e, h⟩ => h2 v ρ M H e h
theorem WC.skip (h : WQ n Q .normal ρ M H) : WC P n Q .skip ρ M H := fun a w ha hs => wp_skip (h a w ha hs)
theorem WC.exit {id : Nat} (h : WQ n Q (.exit id) ρ M H) : WC P n Q (.exit id) ρ M H := fun a w ha hs => wp_exit (h a w ha hs)
theorem WC.ret (h : WQ n Q .ret ρ M H) : WC P n Q .ret ρ M H := fun a w ha hs => wp_ret (h a w ha hs)
theorem WC.block {id : Nat} (h : WC P n (Exit.inBlock id Q) x ρ M H) : WC P n Q (.block id x) ρ M H := fun a w ha hs => wp_block (h a w ha hs)
theorem WC.cond {c : Operand} {b : Bool} (hc : ev ρ c = .bool b) (ht : b = true → WC P n Q x ρ M H) (hf : b = false → WC P n Q y ρ M H) : WC P n Q (.cond c x y) ρ M H :=
  fun a w ha hs => wp_cond_split (by rw [ha.eval]; exact hc) (fun e => ht e a w ha hs) (fun e => hf e a w ha hs)
theorem WC.condT {c : Operand} {b : Bool} (hc : ev ρ c = .bool b) (hb : b = true) (ht : WC P n Q x ρ M H) : WC P n Q (.cond c x y) ρ M H :=
  fun a w ha hs => wp_cond_true (by rw [ha.eval, hc, hb]) (ht a w ha hs)
theorem WC.condF {c : Operand} {b : Bool} (hc : ev ρ c = .bool b) (hb : b = false) (hf : WC P n Q y ρ M H) : WC P n Q (.cond c x y) ρ M H :=
  fun a w ha hs => wp_cond_false (by rw [ha.eval, hc, hb]) (hf a w ha hs)
theorem WC.front {c : Code} (i : Nat) {k : Chunk} (hc : H[i]? = some k) (h : WC P n Q c ρ M (k :: H.eraseIdx i)) : WC P n Q c ρ M H :=
  fun a w ha hs => h a w ha (hs.front i hc)
theorem WC.drop {c : Code} {k : Chunk} (h : WC P n Q c ρ M H) : WC P n Q c ρ M (k :: H) := fun a w ha hs => h a w ha hs.drop
theorem WC.freeze {c : Code} {k : Chunk} (h : M.le (M.add k) → WC P n Q c ρ (M.add k) H) : WC P n Q c ρ M (k :: H) :=
  fun a w ha hs => h (M.le_add k) a w ha hs.freeze
theorem WC.know {c : Code} {F : Prop} (hf : ∀ w, Sat w M H → F) (k : F → WC P n Q c ρ M H) : WC P n Q c ρ M H :=
  fun a w ha hs => k (hf w hs) a w ha hs

theorem WQ.front {e : Exit} (i : Nat) {k : Chunk} (hc : H[i]? = some k) (h : WQ n Q e ρ M (k :: H.eraseIdx i)) : WQ n Q e ρ M H :=
  fun a w ha hs => h a w ha (hs.front i hc)
theorem WQ.drop {e : Exit} {k : Chunk} (h : WQ n Q e ρ M H) : WQ n Q e ρ M (k :: H) := fun a w ha hs => h a w ha hs.drop
theorem WQ.freeze {e : Exit} {k : Chunk} (h : M.le (M.add k) → WQ n Q e ρ (M.add k) H) : WQ n Q e ρ M (k :: H) :=
  fun a w ha hs => h (M.le_add k) a w ha hs.freeze
theorem WQ.know {e : Exit} {F : Prop} (hf : ∀ w, Sat w M H → F) (k : F → WQ n Q e ρ M H) : WQ n Q e ρ M H :=
  fun a w ha hs => k (hf w hs) a w ha hs

theorem WQ.thenC {K : Exit → Act → World → Prop} (h : WC P n K y ρ M H) : WQ n (Exit.then (y.wp P K) Q) .normal ρ M H := h
theorem WQ.thenJ {F : (Nat → Value) → IM → HL → Prop} (h : F ρ M H) : WQ n (Exit.then (JJ n F) Q) .normal ρ M H := fun _ _ ha hs => ⟨ρ, M, H, ha, hs, h⟩
theorem WQ.thenF {J : Type} {F : J → (Nat → Value) → IM → HL → Prop} {j e : J} (hj : some e = some j) (h : F e ρ M H) : WQ n (Exit.then (JJ n (F j)) Q) .normal ρ M H := by cases hj; exact WQ.thenJ h
theorem WQ.thenFE {J R : Type} {F : J → (Nat → Value) → IM → HL → Prop} {j : J ⊕ R} {e : J} (hj : some (Sum.inl e) = some j) (h : F e ρ M H) : WQ n (Exit.then (JJ n fun ρ M H => ∃ v, j = .inl v ∧ F v ρ M H) Q) .normal ρ M H := by
  cases hj; exact WQ.thenJ ⟨e, rfl, h⟩
theorem WQ.thenE {K : Act → World → Prop} {i : Nat} (h : WQ n Q (.exit i) ρ M H) : WQ n (Exit.then K Q) (.exit i) ρ M H := h
theorem WQ.thenR {K : Act → World → Prop} (h : WQ n Q .ret ρ M H) : WQ n (Exit.then K Q) .ret ρ M H := h
theorem WQ.blockN {i : Nat} (h : WQ n Q .normal ρ M H) : WQ n (Exit.inBlock i Q) .normal ρ M H := h
theorem WQ.blockR {i : Nat} (h : WQ n Q .ret ρ M H) : WQ n (Exit.inBlock i Q) .ret ρ M H := h
theorem WQ.blockH {i : Nat} (h : WQ n Q .normal ρ M H) : WQ n (Exit.inBlock i Q) (.exit i) ρ M H := fun a w ha hs => by
  show (if i = i then _ else _); rw [if_pos rfl]; exact h a w ha hs
theorem WQ.blockM {i j : Nat} (hne : Nat.beq j i = false) (h : WQ n Q (.exit j) ρ M H) : WQ n (Exit.inBlock i Q) (.exit j) ρ M H := fun a w ha hs => by
  show (if j = i then _ else _); rw [if_neg (no_beq hne)]; exact h a w ha hs
end

/-! ### 6. Loops -/

inductive ComesTo {σ ε : Type} (step : σ → Option (σ ⊕ ε)) : σ → ε → Prop
  | stop {s e} (h : step s = some (.inr e)) : ComesTo step s e
  | next {s s' e} (h : step s = some (.inl s')) (k : ComesTo step s' e) : ComesTo step s e

theorem ComesTo.unique {σ ε : Type} {step : σ → Option (σ ⊕ ε)} {s : σ} {e e' : ε} (h : ComesTo step s e) (k : ComesTo step s e') : e = e' := by
  induction h with
  | stop h =>
    cases k with
    | stop k => rw [h] at k; cases k; rfl
    | next k _ => rw [h] at k; cases k
  | next h _ ih =>
    cases k with
    | stop k => rw [h] at k; cases k
    | next k k' => rw [h] at k; cases k; exact ih k'

/-- Some rounds, one behind the other, by reckoning. -/
def runK {σ ε : Type} : Nat → (σ → Option (σ ⊕ ε)) → σ → Option ε
  | 0, _, _ => none
  | n + 1, step, s => match step s with
    | some (.inl s') => runK n step s'
    | some (.inr e) => some e
    | none => none
theorem runK_comes {σ ε : Type} {step : σ → Option (σ ⊕ ε)} : ∀ (n : Nat) {s : σ} {e : ε}, runK n step s = some e → ComesTo step s e
  | 0, _, _, h => by cases h
  | n + 1, s, e, h => by
    unfold runK at h
    cases hs : step s with
    | none => rw [hs] at h; cases h
    | some x =>
      rw [hs] at h
      cases x with
      | inl s' => exact .next hs (runK_comes n h)
      | inr e' => cases h; exact .stop hs
open Classical in
/-- What rounds come to, one behind the other (the first ones by reckoning, so that the kernel can tell what an example comes to). -/
noncomputable def iter {σ ε : Type} (step : σ → Option (σ ⊕ ε)) (s : σ) : Option ε :=
  match runK 4096 step s with
  | some e => some e
  | none => if h : ∃ e, ComesTo step s e then some h.choose else none

theorem iter_comes {σ ε : Type} {step : σ → Option (σ ⊕ ε)} {s : σ} {e : ε} : iter step s = some e ↔ ComesTo step s e := by
  unfold iter
  split
  · rename_i x hx
    exact ⟨fun k => by cases k; exact runK_comes _ hx, fun k => by rw [ComesTo.unique (runK_comes _ hx) k]⟩
  split
  · rename_i h
    constructor
    · intro k; cases k; exact h.choose_spec
    · intro k; rw [ComesTo.unique h.choose_spec k]
  · rename_i h
    exact ⟨fun k => (by cases k), fun k => absurd ⟨e, k⟩ h⟩
attribute [irreducible] iter

theorem iter_stop {σ ε : Type} {step : σ → Option (σ ⊕ ε)} {s : σ} {e : ε} (h : step s = some (.inr e)) : iter step s = some e := iter_comes.2 (.stop h)
theorem iter_next {σ ε : Type} {step : σ → Option (σ ⊕ ε)} {s s' : σ} (h : step s = some (.inl s')) : iter step s = iter step s' := by
  cases e : iter step s' with
  | some x => exact iter_comes.2 (.next h (iter_comes.1 e))
  | none =>
    cases k : iter step s with
    | none => rfl
    | some x =>
      have := iter_comes.1 k
      cases this with
      | stop q => rw [h] at q; cases q
      | next q r => rw [h] at q; cases q; rw [iter_comes.2 r] at e; cases e

/-- A round's end: o is what the round comes to. -/
def LoopQ {σ ε : Type} (n : Nat) (e : ε) (o : σ ⊕ ε) (I : σ → (Nat → Value) → IM → HL → Prop) (Q : Exit → Act → World → Prop) : Exit → Act → World → Prop
  | .normal, a, w => ∃ s', o = .inl s' ∧ JJ n (I s') a w
  | ex, a, w => ∃ e', o = .inr e' ∧ (e' = e → Q ex a w)

theorem WC.loop {P : Program} {n : Nat} {Q : Exit → Act → World → Prop} {ρ : Nat → Value} {M : IM} {H : HL} {x : Code} {σ ε : Type} {step : σ → Option (σ ⊕ ε)} {s : σ} {e : ε}
    (h : iter step s = some e) (I : σ → (Nat → Value) → IM → HL → Prop) (h0 : I s ρ M H)
    (round : ∀ s o ρ M H, step s = some o → I s ρ M H → WC P n (LoopQ n e o I Q) x ρ M H) : WC P n Q (.loop x) ρ M H := by
  have hcomes := iter_comes.1 h
  clear h
  intro a w ha hs
  have key : ∀ s e₀, ComesTo step s e₀ → e₀ = e → ∀ a w, JJ n (I s) a w → ∀ (b : Frame) (k : List Item) (cs : List Frame),
      ∃ ex a' w', Q ex a' w' ∧ Arrives P (lone (b.at a (.code x :: .inLoop x :: k)) cs w) b k cs ex a' w' := by
    intro s e₀ hc
    induction hc with
    | stop hst =>
      rintro rfl a w hj b k cs
      obtain ⟨ρ, M, H, ho, hs, hi⟩ := hj
      obtain ⟨ex, a₁, w₁, hq, harr⟩ := round _ _ ρ M H hst hi a w ho hs b (.inLoop x :: k) cs
      cases ex with
      | normal => obtain ⟨s', hs', _⟩ := hq; cases hs'
      | exit id => obtain ⟨e', he', hq⟩ := hq; cases he'; exact ⟨_, a₁, w₁, hq rfl, .pass (x := .inLoop x) rfl (fun _ _ => .inl (by simp)) harr⟩
      | goto l => obtain ⟨e', he', hq⟩ := hq; cases he'; exact ⟨_, a₁, w₁, hq rfl, .pass (x := .inLoop x) rfl (fun _ _ => .inl (by simp)) harr⟩
      | ret => obtain ⟨e', he', hq⟩ := hq; cases he'; exact ⟨_, a₁, w₁, hq rfl, .pass (x := .inLoop x) rfl (fun _ _ => .inl (by simp)) harr⟩
      | panic ch => obtain ⟨e', he', hq⟩ := hq; cases he'; exact ⟨_, a₁, w₁, hq rfl, .pass (x := .inLoop x) rfl (fun _ _ => .inl (by simp)) harr⟩
      | outgrown => obtain ⟨e', he', hq⟩ := hq; cases he'; exact ⟨_, a₁, w₁, hq rfl, .pass (x := .inLoop x) rfl (fun _ _ => .inl (by simp)) harr⟩
    | next hst _ ih =>
      intro he₀ a w hj b k cs
      obtain ⟨ρ, M, H, ho, hs, hi⟩ := hj
      obtain ⟨ex, a₁, w₁, hq, harr⟩ := round _ _ ρ M H hst hi a w ho hs b (.inLoop x :: k) cs
      cases ex with
      | normal =>
        obtain ⟨s', hs', hj'⟩ := hq
        cases hs'
        obtain ⟨e₂, a₂, w₂, hq₂, harr₂⟩ := ih he₀ a₁ w₁ hj' b k cs
        exact ⟨e₂, a₂, w₂, hq₂, .of_steps (Steps.trans harr (.one step_inLoop)) harr₂⟩
      | exit id => obtain ⟨e', he', hq⟩ := hq; cases he'
      | goto l => obtain ⟨e', he', hq⟩ := hq; cases he'
      | ret => obtain ⟨e', he', hq⟩ := hq; cases he'
      | panic ch => obtain ⟨e', he', hq⟩ := hq; cases he'
      | outgrown => obtain ⟨e', he', hq⟩ := hq; cases he'
  intro b k cs
  obtain ⟨ex, a', w', hq, harr⟩ := key s e hcomes rfl a w ⟨ρ, M, H, ha, hs, h0⟩ b k cs
  exact ⟨ex, a', w', hq, .of_steps (.one step_loop) harr⟩

section
variable {n : Nat} {Q : Exit → Act → World → Prop} {ρ : Nat → Value} {M : IM} {H : HL} {σ ε : Type} {e : ε} {o : σ ⊕ ε} {I : σ → (Nat → Value) → IM → HL → Prop}
theorem WQ.again (s' : σ) (ho : o = .inl s') (h : I s' ρ M H) : WQ n (LoopQ n e o I Q) .normal ρ M H := fun _ _ ha hs => ⟨s', ho, ρ, M, H, ha, hs, h⟩
theorem WQ.leaveE {i : Nat} (e' : ε) (ho : o = .inr e') (h : e' = e → WQ n Q (.exit i) ρ M H) : WQ n (LoopQ n e o I Q) (.exit i) ρ M H := fun a w ha hs => ⟨e', ho, fun k => h k a w ha hs⟩
theorem WQ.leaveR (e' : ε) (ho : o = .inr e') (h : e' = e → WQ n Q .ret ρ M H) : WQ n (LoopQ n e o I Q) .ret ρ M H := fun a w ha hs => ⟨e', ho, fun k => h k a w ha hs⟩
end

/-! ### 7. What a pure function comes to -/
def grd {α : Type} (c : Prop) [Decidable c] (x : Option α) : Option α := if c then x else none
theorem grd_i {α : Type} {c : Prop} [Decidable c] {x : Option α} {r : α} (h : grd c x = some r) : c ∧ x = some r := by
  unfold grd at h; split at h
  · exact ⟨‹c›, h⟩
  · cases h
theorem ite_t {α : Type} {b : Bool} {x y : Option α} {r : α} (hb : b = true) (h : (if b = true then x else y) = some r) : x = some r := by rwa [if_pos hb] at h
theorem ite_f {α : Type} {b : Bool} {x y : Option α} {r : α} (hb : b = false) (h : (if b = true then x else y) = some r) : y = some r := by rwa [if_neg (by rw [hb]; exact Bool.false_ne_true)] at h
theorem bnd {α β : Type} {x : Option α} {f : α → Option β} {r : β} (h : x.bind f = some r) : ∃ y, x = some y ∧ f y = some r := Option.bind_eq_some_iff.1 h

theorem asE {α : Type} {a : α} (v : α) (h : a = v) : a = v := h
theorem elimR {α β γ : Type} {f : α → γ} {g : β → γ} {x : β} {y : γ} (h : Sum.elim f g (.inr x) = y) : g x = y := h
theorem elimL {α β γ : Type} {f : α → γ} {g : β → γ} {x : α} {y : γ} (h : Sum.elim f g (.inl x) = y) : f x = y := h
theorem early {α β : Type} {T : Option β} {j : α ⊕ β} {k : α → Option β} {res : β} (hj : (T.bind fun r => some (Sum.inr r)) = some j) (h : Sum.elim k some j = some res) : T = some res := by
  obtain ⟨r, hr, e⟩ := bnd hj
  cases e
  rw [hr]; exact h

/-! ### 8. Calls -/

/-- Called with these values, where this is owned (and whatever else): it returns. -/
def Tri (P : Program) (f : FuncId) (args : Array Value) (M : IM) (Hf : HL) (post : Value → IM → HL → Prop) : Prop :=
  ∀ w F, Sat w M (Hf ++ F) → Calls P f args w fun e w' => ∃ v M' H', e = .returned v ∧ M.le M' ∧ Sat w' M' (H' ++ F) ∧ post v M' H'

theorem Tri.mono {P : Program} {f : FuncId} {args : Array Value} {M : IM} {Hf : HL} {post post' : Value → IM → HL → Prop}
    (h : Tri P f args M Hf post) (k : ∀ v M' H', M.le M' → post v M' H' → post' v M' H') : Tri P f args M Hf post' :=
  fun w F hs => (h w F hs).mono fun _ _ ⟨v, M', H', e, hle, hs', hp⟩ => ⟨v, M', H', e, hle, hs', k v M' H' hle hp⟩

/-- A function's own post. -/
def RetQ (P : Program) (fn : Func) (M0 : IM) (F : HL) (post : Value → IM → HL → Prop) : Exit → Act → World → Prop :=
  bodyPost P fn fun e w' => ∃ v M' H', e = .returned v ∧ M0.le M' ∧ Sat w' M' (H' ++ F) ∧ post v M' H'

theorem Tri.enter {P : Program} {f : FuncId} {fn : Func} {c : Code} {args : Array Value} {M : IM} {Hf : HL} {post : Value → IM → HL → Prop}
    (hf : P.funcs[f]? = some fn) (hb : fn.body = some c) (hn : args.size ≤ fn.ntmps)
    (h : ∀ F ρ, (∀ s, ρ s = (args.toList)[s]?.getD undef) → WC P fn.ntmps (RetQ P fn M F post) c ρ M (Hf ++ F)) : Tri P f args M Hf post := by
  intro w F hs
  refine calls_of_wp hf hb (h F (fun s => (args.toList)[s]?.getD undef) (fun _ => rfl) _ w ⟨rfl, ?_, fun s => ?_⟩ hs)
  · simp; omega
  · show (args ++ Array.replicate (fn.ntmps - args.size) undef).getD s undef = _
    rw [Array.getD_eq_getD_getElem?]
    by_cases hs : s < args.size
    · rw [Array.getElem?_append_left hs]; simp
    · rw [Array.getElem?_append_right (by omega), Array.getElem?_replicate]
      have : args.toList[s]? = none := by simp; omega
      rw [this]
      split <;> rfl

theorem WQ.returns {P : Program} {fn : Func} {M0 M : IM} {F H : HL} {post : Value → IM → HL → Prop} {n : Nat} {ρ : Nat → Value} {v : Value} (H' : HL) (hH : H = H' ++ F)
    (hr : ∀ a w, OkA n a ρ → Sat w M H → (results fn a.tmps).run P w = .ok v w) (hle : M0.le M) (hp : post v M H') : WQ n (RetQ P fn M0 F post) .ret ρ M H :=
  fun a w ha hs => ⟨ha.defers, v, hr a w ha hs, v, M, H', rfl, hle, hH ▸ hs, hp⟩
theorem WQ.ends {P : Program} {fn : Func} {M0 M : IM} {F H : HL} {post : Value → IM → HL → Prop} {n : Nat} {ρ : Nat → Value} {v : Value} (H' : HL) (hH : H = H' ++ F)
    (hr : ∀ a w, OkA n a ρ → Sat w M H → (results fn a.tmps).run P w = .ok v w) (hle : M0.le M) (hp : post v M H') : WQ n (RetQ P fn M0 F post) .normal ρ M H :=
  fun a w ha hs => ⟨ha.defers, v, hr a w ha hs, v, M, H', rfl, hle, hH ▸ hs, hp⟩

theorem WQ.returnsF {P : Program} {fn : Func} {M0 M : IM} {F H : HL} {R : Type} {post : R → Value → IM → HL → Prop} {n : Nat} {ρ : Nat → Value} {v : Value} {e res : R} (hres : some e = some res) (H' : HL) (hH : H = H' ++ F)
    (hr : ∀ a w, OkA n a ρ → Sat w M H → (results fn a.tmps).run P w = .ok v w) (hle : M0.le M) (hp : post e v M H') : WQ n (RetQ P fn M0 F (post res)) .ret ρ M H := by
  cases hres; exact WQ.returns H' hH hr hle hp
theorem WQ.endsF {P : Program} {fn : Func} {M0 M : IM} {F H : HL} {R : Type} {post : R → Value → IM → HL → Prop} {n : Nat} {ρ : Nat → Value} {v : Value} {e res : R} (hres : some e = some res) (H' : HL) (hH : H = H' ++ F)
    (hr : ∀ a w, OkA n a ρ → Sat w M H → (results fn a.tmps).run P w = .ok v w) (hle : M0.le M) (hp : post e v M H') : WQ n (RetQ P fn M0 F (post res)) .normal ρ M H := by
  cases hres; exact WQ.ends H' hH hr hle hp
theorem results0 {P : Program} {fn : Func} {M : IM} {H : HL} {n : Nat} {ρ : Nat → Value} (h : fn.results = #[]) : ∀ a w, OkA n a ρ → Sat w M H → (results fn a.tmps).run P w = .ok (.tuple #[]) w :=
  fun a w _ _ => results_none h _ _ _
theorem results1 {P : Program} {fn : Func} {M : IM} {H : HL} {n : Nat} {ρ : Nat → Value} {t : Tmp} {v : Value} (h : fn.results = #[.tmp t]) (hv : ρ t = v) : ∀ a w, OkA n a ρ → Sat w M H → (results fn a.tmps).run P w = .ok v w :=
  fun a w ha _ => by rw [results_tmp h, ha.get, hv]
theorem results2 {P : Program} {fn : Func} {M : IM} {H : HL} {n : Nat} {ρ : Nat → Value} {t u : Tmp} {v x : Value} (h : fn.results = #[.tmp t, .tmp u]) (hv : ρ t = v) (hx : ρ u = x) : ∀ a w, OkA n a ρ → Sat w M H → (results fn a.tmps).run P w = .ok (.tuple #[v, x]) w :=
  fun a w ha _ => by rw [results_tmp2 h, ha.get, ha.get, hv, hx]
theorem results3 {P : Program} {fn : Func} {M : IM} {H : HL} {n : Nat} {ρ : Nat → Value} {t u s : Tmp} {v x y : Value} (h : fn.results = #[.tmp t, .tmp u, .tmp s]) (hv : ρ t = v) (hx : ρ u = x) (hy : ρ s = y) : ∀ a w, OkA n a ρ → Sat w M H → (results fn a.tmps).run P w = .ok (.tuple #[v, x, y]) w :=
  fun a w ha _ => by simp [results, h, ha.get, hv, hx, hy]
theorem results4 {P : Program} {fn : Func} {M : IM} {H : HL} {n : Nat} {ρ : Nat → Value} {t u s r : Tmp} {v x y z : Value} (h : fn.results = #[.tmp t, .tmp u, .tmp s, .tmp r]) (hv : ρ t = v) (hx : ρ u = x) (hy : ρ s = y) (hz : ρ r = z) : ∀ a w, OkA n a ρ → Sat w M H → (results fn a.tmps).run P w = .ok (.tuple #[v, x, y, z]) w :=
  fun a w ha _ => by simp [results, h, ha.get, hv, hx, hy, hz]
theorem results5 {P : Program} {fn : Func} {M : IM} {H : HL} {n : Nat} {ρ : Nat → Value} {t u s r q : Tmp} {v x y z k : Value} (h : fn.results = #[.tmp t, .tmp u, .tmp s, .tmp r, .tmp q]) (hv : ρ t = v) (hx : ρ u = x) (hy : ρ s = y) (hz : ρ r = z) (hk : ρ q = k) : ∀ a w, OkA n a ρ → Sat w M H → (results fn a.tmps).run P w = .ok (.tuple #[v, x, y, z, k]) w :=
  fun a w ha _ => by simp [results, h, ha.get, hv, hx, hy, hz, hk]

/-- A law's beginning and end. -/
theorem Tri.law {P : Program} {f : FuncId} {args : Array Value} {w : World} {post : Value → IM → HL → Prop} (v : Value)
    (h : Tri P f args (IM.of w) [] post) (hv : ∀ u M' H', post u M' H' → u = v) : Calls P f args w fun e w' => e = .returned v ∧ RowKit.Below w.heap.size w w' :=
  (h w [] (Sat.begin w)).mono fun _ _ ⟨u, M', H', e, hle, hs', hp⟩ => ⟨by rw [e, hv u M' H' hp], hs'.below hle⟩
theorem Sat.f1 {w : World} {M : IM} {c0 c1 : Chunk} {H : HL} (h : Sat w M (c0 :: c1 :: H)) : Sat w M (c1 :: c0 :: H) := h.front 1 rfl
theorem WL.f1 {P : Program} {ops : Array Oper} {n : Nat} {Q : Exit → Act → World → Prop} {l : List Oper} {ρ : Nat → Value} {M : IM} {c0 c1 : Chunk} {H : HL} (k : WL P ops n Q l ρ M (c1 :: c0 :: H)) : WL P ops n Q l ρ M (c0 :: c1 :: H) := fun a w ha hs => k a w ha hs.f1
theorem WC.f1 {P : Program} {n : Nat} {Q : Exit → Act → World → Prop} {x : Code} {ρ : Nat → Value} {M : IM} {c0 c1 : Chunk} {H : HL} (k : WC P n Q x ρ M (c1 :: c0 :: H)) : WC P n Q x ρ M (c0 :: c1 :: H) := fun a w ha hs => k a w ha hs.f1
theorem WQ.f1 {n : Nat} {Q : Exit → Act → World → Prop} {e : Exit} {ρ : Nat → Value} {M : IM} {c0 c1 : Chunk} {H : HL} (k : WQ n Q e ρ M (c1 :: c0 :: H)) : WQ n Q e ρ M (c0 :: c1 :: H) := fun a w ha hs => k a w ha hs.f1
theorem Sat.f2 {w : World} {M : IM} {c0 c1 c2 : Chunk} {H : HL} (h : Sat w M (c0 :: c1 :: c2 :: H)) : Sat w M (c2 :: c0 :: c1 :: H) := h.front 2 rfl
theorem WL.f2 {P : Program} {ops : Array Oper} {n : Nat} {Q : Exit → Act → World → Prop} {l : List Oper} {ρ : Nat → Value} {M : IM} {c0 c1 c2 : Chunk} {H : HL} (k : WL P ops n Q l ρ M (c2 :: c0 :: c1 :: H)) : WL P ops n Q l ρ M (c0 :: c1 :: c2 :: H) := fun a w ha hs => k a w ha hs.f2
theorem WC.f2 {P : Program} {n : Nat} {Q : Exit → Act → World → Prop} {x : Code} {ρ : Nat → Value} {M : IM} {c0 c1 c2 : Chunk} {H : HL} (k : WC P n Q x ρ M (c2 :: c0 :: c1 :: H)) : WC P n Q x ρ M (c0 :: c1 :: c2 :: H) := fun a w ha hs => k a w ha hs.f2
theorem WQ.f2 {n : Nat} {Q : Exit → Act → World → Prop} {e : Exit} {ρ : Nat → Value} {M : IM} {c0 c1 c2 : Chunk} {H : HL} (k : WQ n Q e ρ M (c2 :: c0 :: c1 :: H)) : WQ n Q e ρ M (c0 :: c1 :: c2 :: H) := fun a w ha hs => k a w ha hs.f2
theorem Sat.f3 {w : World} {M : IM} {c0 c1 c2 c3 : Chunk} {H : HL} (h : Sat w M (c0 :: c1 :: c2 :: c3 :: H)) : Sat w M (c3 :: c0 :: c1 :: c2 :: H) := h.front 3 rfl
theorem WL.f3 {P : Program} {ops : Array Oper} {n : Nat} {Q : Exit → Act → World → Prop} {l : List Oper} {ρ : Nat → Value} {M : IM} {c0 c1 c2 c3 : Chunk} {H : HL} (k : WL P ops n Q l ρ M (c3 :: c0 :: c1 :: c2 :: H)) : WL P ops n Q l ρ M (c0 :: c1 :: c2 :: c3 :: H) := fun a w ha hs => k a w ha hs.f3
theorem WC.f3 {P : Program} {n : Nat} {Q : Exit → Act → World → Prop} {x : Code} {ρ : Nat → Value} {M : IM} {c0 c1 c2 c3 : Chunk} {H : HL} (k : WC P n Q x ρ M (c3 :: c0 :: c1 :: c2 :: H)) : WC P n Q x ρ M (c0 :: c1 :: c2 :: c3 :: H) := fun a w ha hs => k a w ha hs.f3
theorem WQ.f3 {n : Nat} {Q : Exit → Act → World → Prop} {e : Exit} {ρ : Nat → Value} {M : IM} {c0 c1 c2 c3 : Chunk} {H : HL} (k : WQ n Q e ρ M (c3 :: c0 :: c1 :: c2 :: H)) : WQ n Q e ρ M (c0 :: c1 :: c2 :: c3 :: H) := fun a w ha hs => k a w ha hs.f3
theorem Sat.f4 {w : World} {M : IM} {c0 c1 c2 c3 c4 : Chunk} {H : HL} (h : Sat w M (c0 :: c1 :: c2 :: c3 :: c4 :: H)) : Sat w M (c4 :: c0 :: c1 :: c2 :: c3 :: H) := h.front 4 rfl
theorem WL.f4 {P : Program} {ops : Array Oper} {n : Nat} {Q : Exit → Act → World → Prop} {l : List Oper} {ρ : Nat → Value} {M : IM} {c0 c1 c2 c3 c4 : Chunk} {H : HL} (k : WL P ops n Q l ρ M (c4 :: c0 :: c1 :: c2 :: c3 :: H)) : WL P ops n Q l ρ M (c0 :: c1 :: c2 :: c3 :: c4 :: H) := fun a w ha hs => k a w ha hs.f4
theorem WC.f4 {P : Program} {n : Nat} {Q : Exit → Act → World → Prop} {x : Code} {ρ : Nat → Value} {M : IM} {c0 c1 c2 c3 c4 : Chunk} {H : HL} (k : WC P n Q x ρ M (c4 :: c0 :: c1 :: c2 :: c3 :: H)) : WC P n Q x ρ M (c0 :: c1 :: c2 :: c3 :: c4 :: H) := fun a w ha hs => k a w ha hs.f4
theorem WQ.f4 {n : Nat} {Q : Exit → Act → World → Prop} {e : Exit} {ρ : Nat → Value} {M : IM} {c0 c1 c2 c3 c4 : Chunk} {H : HL} (k : WQ n Q e ρ M (c4 :: c0 :: c1 :: c2 :: c3 :: H)) : WQ n Q e ρ M (c0 :: c1 :: c2 :: c3 :: c4 :: H) := fun a w ha hs => k a w ha hs.f4
theorem Sat.f5 {w : World} {M : IM} {c0 c1 c2 c3 c4 c5 : Chunk} {H : HL} (h : Sat w M (c0 :: c1 :: c2 :: c3 :: c4 :: c5 :: H)) : Sat w M (c5 :: c0 :: c1 :: c2 :: c3 :: c4 :: H) := h.front 5 rfl
theorem WL.f5 {P : Program} {ops : Array Oper} {n : Nat} {Q : Exit → Act → World → Prop} {l : List Oper} {ρ : Nat → Value} {M : IM} {c0 c1 c2 c3 c4 c5 : Chunk} {H : HL} (k : WL P ops n Q l ρ M (c5 :: c0 :: c1 :: c2 :: c3 :: c4 :: H)) : WL P ops n Q l ρ M (c0 :: c1 :: c2 :: c3 :: c4 :: c5 :: H) := fun a w ha hs => k a w ha hs.f5
theorem WC.f5 {P : Program} {n : Nat} {Q : Exit → Act → World → Prop} {x : Code} {ρ : Nat → Value} {M : IM} {c0 c1 c2 c3 c4 c5 : Chunk} {H : HL} (k : WC P n Q x ρ M (c5 :: c0 :: c1 :: c2 :: c3 :: c4 :: H)) : WC P n Q x ρ M (c0 :: c1 :: c2 :: c3 :: c4 :: c5 :: H) := fun a w ha hs => k a w ha hs.f5
theorem WQ.f5 {n : Nat} {Q : Exit → Act → World → Prop} {e : Exit} {ρ : Nat → Value} {M : IM} {c0 c1 c2 c3 c4 c5 : Chunk} {H : HL} (k : WQ n Q e ρ M (c5 :: c0 :: c1 :: c2 :: c3 :: c4 :: H)) : WQ n Q e ρ M (c0 :: c1 :: c2 :: c3 :: c4 :: c5 :: H) := fun a w ha hs => k a w ha hs.f5
theorem Sat.f6 {w : World} {M : IM} {c0 c1 c2 c3 c4 c5 c6 : Chunk} {H : HL} (h : Sat w M (c0 :: c1 :: c2 :: c3 :: c4 :: c5 :: c6 :: H)) : Sat w M (c6 :: c0 :: c1 :: c2 :: c3 :: c4 :: c5 :: H) := h.front 6 rfl
theorem WL.f6 {P : Program} {ops : Array Oper} {n : Nat} {Q : Exit → Act → World → Prop} {l : List Oper} {ρ : Nat → Value} {M : IM} {c0 c1 c2 c3 c4 c5 c6 : Chunk} {H : HL} (k : WL P ops n Q l ρ M (c6 :: c0 :: c1 :: c2 :: c3 :: c4 :: c5 :: H)) : WL P ops n Q l ρ M (c0 :: c1 :: c2 :: c3 :: c4 :: c5 :: c6 :: H) := fun a w ha hs => k a w ha hs.f6
theorem WC.f6 {P : Program} {n : Nat} {Q : Exit → Act → World → Prop} {x : Code} {ρ : Nat → Value} {M : IM} {c0 c1 c2 c3 c4 c5 c6 : Chunk} {H : HL} (k : WC P n Q x ρ M (c6 :: c0 :: c1 :: c2 :: c3 :: c4 :: c5 :: H)) : WC P n Q x ρ M (c0 :: c1 :: c2 :: c3 :: c4 :: c5 :: c6 :: H) := fun a w ha hs => k a w ha hs.f6
theorem WQ.f6 {n : Nat} {Q : Exit → Act → World → Prop} {e : Exit} {ρ : Nat → Value} {M : IM} {c0 c1 c2 c3 c4 c5 c6 : Chunk} {H : HL} (k : WQ n Q e ρ M (c6 :: c0 :: c1 :: c2 :: c3 :: c4 :: c5 :: H)) : WQ n Q e ρ M (c0 :: c1 :: c2 :: c3 :: c4 :: c5 :: c6 :: H) := fun a w ha hs => k a w ha hs.f6
theorem Sat.f7 {w : World} {M : IM} {c0 c1 c2 c3 c4 c5 c6 c7 : Chunk} {H : HL} (h : Sat w M (c0 :: c1 :: c2 :: c3 :: c4 :: c5 :: c6 :: c7 :: H)) : Sat w M (c7 :: c0 :: c1 :: c2 :: c3 :: c4 :: c5 :: c6 :: H) := h.front 7 rfl
theorem WL.f7 {P : Program} {ops : Array Oper} {n : Nat} {Q : Exit → Act → World → Prop} {l : List Oper} {ρ : Nat → Value} {M : IM} {c0 c1 c2 c3 c4 c5 c6 c7 : Chunk} {H : HL} (k : WL P ops n Q l ρ M (c7 :: c0 :: c1 :: c2 :: c3 :: c4 :: c5 :: c6 :: H)) : WL P ops n Q l ρ M (c0 :: c1 :: c2 :: c3 :: c4 :: c5 :: c6 :: c7 :: H) := fun a w ha hs => k a w ha hs.f7
theorem WC.f7 {P : Program} {n : Nat} {Q : Exit → Act → World → Prop} {x : Code} {ρ : Nat → Value} {M : IM} {c0 c1 c2 c3 c4 c5 c6 c7 : Chunk} {H : HL} (k : WC P n Q x ρ M (c7 :: c0 :: c1 :: c2 :: c3 :: c4 :: c5 :: c6 :: H)) : WC P n Q x ρ M (c0 :: c1 :: c2 :: c3 :: c4 :: c5 :: c6 :: c7 :: H) := fun a w ha hs => k a w ha hs.f7
theorem WQ.f7 {n : Nat} {Q : Exit → Act → World → Prop} {e : Exit} {ρ : Nat → Value} {M : IM} {c0 c1 c2 c3 c4 c5 c6 c7 : Chunk} {H : HL} (k : WQ n Q e ρ M (c7 :: c0 :: c1 :: c2 :: c3 :: c4 :: c5 :: c6 :: H)) : WQ n Q e ρ M (c0 :: c1 :: c2 :: c3 :: c4 :: c5 :: c6 :: c7 :: H) := fun a w ha hs => k a w ha hs.f7
theorem Sat.f8 {w : World} {M : IM} {c0 c1 c2 c3 c4 c5 c6 c7 c8 : Chunk} {H : HL} (h : Sat w M (c0 :: c1 :: c2 :: c3 :: c4 :: c5 :: c6 :: c7 :: c8 :: H)) : Sat w M (c8 :: c0 :: c1 :: c2 :: c3 :: c4 :: c5 :: c6 :: c7 :: H) := h.front 8 rfl
theorem WL.f8 {P : Program} {ops : Array Oper} {n : Nat} {Q : Exit → Act → World → Prop} {l : List Oper} {ρ : Nat → Value} {M : IM} {c0 c1 c2 c3 c4 c5 c6 c7 c8 : Chunk} {H : HL} (k : WL P ops n Q l ρ M (c8 :: c0 :: c1 :: c2 :: c3 :: c4 :: c5 :: c6 :: c7 :: H)) : WL P ops n Q l ρ M (c0 :: c1 :: c2 :: c3 :: c4 :: c5 :: c6 :: c7 :: c8 :: H) := fun a w ha hs => k a w ha hs.f8
theorem WC.f8 {P : Program} {n : Nat} {Q : Exit → Act → World → Prop} {x : Code} {ρ : Nat → Value} {M : IM} {c0 c1 c2 c3 c4 c5 c6 c7 c8 : Chunk} {H : HL} (k : WC P n Q x ρ M (c8 :: c0 :: c1 :: c2 :: c3 :: c4 :: c5 :: c6 :: c7 :: H)) : WC P n Q x ρ M (c0 :: c1 :: c2 :: c3 :: c4 :: c5 :: c6 :: c7 :: c8 :: H) := fun a w ha hs => k a w ha hs.f8
theorem WQ.f8 {n : Nat} {Q : Exit → Act → World → Prop} {e : Exit} {ρ : Nat → Value} {M : IM} {c0 c1 c2 c3 c4 c5 c6 c7 c8 : Chunk} {H : HL} (k : WQ n Q e ρ M (c8 :: c0 :: c1 :: c2 :: c3 :: c4 :: c5 :: c6 :: c7 :: H)) : WQ n Q e ρ M (c0 :: c1 :: c2 :: c3 :: c4 :: c5 :: c6 :: c7 :: c8 :: H) := fun a w ha hs => k a w ha hs.f8
theorem Sat.f9 {w : World} {M : IM} {c0 c1 c2 c3 c4 c5 c6 c7 c8 c9 : Chunk} {H : HL} (h : Sat w M (c0 :: c1 :: c2 :: c3 :: c4 :: c5 :: c6 :: c7 :: c8 :: c9 :: H)) : Sat w M (c9 :: c0 :: c1 :: c2 :: c3 :: c4 :: c5 :: c6 :: c7 :: c8 :: H) := h.front 9 rfl
theorem WL.f9 {P : Program} {ops : Array Oper} {n : Nat} {Q : Exit → Act → World → Prop} {l : List Oper} {ρ : Nat → Value} {M : IM} {c0 c1 c2 c3 c4 c5 c6 c7 c8 c9 : Chunk} {H : HL} (k : WL P ops n Q l ρ M (c9 :: c0 :: c1 :: c2 :: c3 :: c4 :: c5 :: c6 :: c7 :: c8 :: H)) : WL P ops n Q l ρ M (c0 :: c1 :: c2 :: c3 :: c4 :: c5 :: c6 :: c7 :: c8 :: c9 :: H) := fun a w ha hs => k a w ha hs.f9
theorem WC.f9 {P : Program} {n : Nat} {Q : Exit → Act → World → Prop} {x : Code} {ρ : Nat → Value} {M : IM} {c0 c1 c2 c3 c4 c5 c6 c7 c8 c9 : Chunk} {H : HL} (k : WC P n Q x ρ M (c9 :: c0 :: c1 :: c2 :: c3 :: c4 :: c5 :: c6 :: c7 :: c8 :: H)) : WC P n Q x ρ M (c0 :: c1 :: c2 :: c3 :: c4 :: c5 :: c6 :: c7 :: c8 :: c9 :: H) := fun a w ha hs => k a w ha hs.f9
theorem WQ.f9 {n : Nat} {Q : Exit → Act → World → Prop} {e : Exit} {ρ : Nat → Value} {M : IM} {c0 c1 c2 c3 c4 c5 c6 c7 c8 c9 : Chunk} {H : HL} (k : WQ n Q e ρ M (c9 :: c0 :: c1 :: c2 :: c3 :: c4 :: c5 :: c6 :: c7 :: c8 :: H)) : WQ n Q e ρ M (c0 :: c1 :: c2 :: c3 :: c4 :: c5 :: c6 :: c7 :: c8 :: c9 :: H) := fun a w ha hs => k a w ha hs.f9
theorem Sat.f10 {w : World} {M : IM} {c0 c1 c2 c3 c4 c5 c6 c7 c8 c9 c10 : Chunk} {H : HL} (h : Sat w M (c0 :: c1 :: c2 :: c3 :: c4 :: c5 :: c6 :: c7 :: c8 :: c9 :: c10 :: H)) : Sat w M (c10 :: c0 :: c1 :: c2 :: c3 :: c4 :: c5 :: c6 :: c7 :: c8 :: c9 :: H) := h.front 10 rfl
theorem WL.f10 {P : Program} {ops : Array Oper} {n : Nat} {Q : Exit → Act → World → Prop} {l : List Oper} {ρ : Nat → Value} {M : IM} {c0 c1 c2 c3 c4 c5 c6 c7 c8 c9 c10 : Chunk} {H : HL} (k : WL P ops n Q l ρ M (c10 :: c0 :: c1 :: c2 :: c3 :: c4 :: c5 :: c6 :: c7 :: c8 :: c9 :: H)) : WL P ops n Q l ρ M (c0 :: c1 :: c2 :: c3 :: c4 :: c5 :: c6 :: c7 :: c8 :: c9 :: c10 :: H) := fun a w ha hs => k a w ha hs.f10
theorem WC.f10 {P : Program} {n : Nat} {Q : Exit → Act → World → Prop} {x : Code} {ρ : Nat → Value} {M : IM} {c0 c1 c2 c3 c4 c5 c6 c7 c8 c9 c10 : Chunk} {H : HL} (k : WC P n Q x ρ M (c10 :: c0 :: c1 :: c2 :: c3 :: c4 :: c5 :: c6 :: c7 :: c8 :: c9 :: H)) : WC P n Q x ρ M (c0 :: c1 :: c2 :: c3 :: c4 :: c5 :: c6 :: c7 :: c8 :: c9 :: c10 :: H) := fun a w ha hs => k a w ha hs.f10
theorem WQ.f10 {n : Nat} {Q : Exit → Act → World → Prop} {e : Exit} {ρ : Nat → Value} {M : IM} {c0 c1 c2 c3 c4 c5 c6 c7 c8 c9 c10 : Chunk} {H : HL} (k : WQ n Q e ρ M (c10 :: c0 :: c1 :: c2 :: c3 :: c4 :: c5 :: c6 :: c7 :: c8 :: c9 :: H)) : WQ n Q e ρ M (c0 :: c1 :: c2 :: c3 :: c4 :: c5 :: c6 :: c7 :: c8 :: c9 :: c10 :: H) := fun a w ha hs => k a w ha hs.f10
theorem Sat.f11 {w : World} {M : IM} {c0 c1 c2 c3 c4 c5 c6 c7 c8 c9 c10 c11 : Chunk} {H : HL} (h : Sat w M (c0 :: c1 :: c2 :: c3 :: c4 :: c5 :: c6 :: c7 :: c8 :: c9 :: c10 :: c11 :: H)) : Sat w M (c11 :: c0 :: c1 :: c2 :: c3 :: c4 :: c5 :: c6 :: c7 :: c8 :: c9 :: c10 :: H) := h.front 11 rfl
theorem WL.f11 {P : Program} {ops : Array Oper} {n : Nat} {Q : Exit → Act → World → Prop} {l : List Oper} {ρ : Nat → Value} {M : IM} {c0 c1 c2 c3 c4 c5 c6 c7 c8 c9 c10 c11 : Chunk} {H : HL} (k : WL P ops n Q l ρ M (c11 :: c0 :: c1 :: c2 :: c3 :: c4 :: c5 :: c6 :: c7 :: c8 :: c9 :: c10 :: H)) : WL P ops n Q l ρ M (c0 :: c1 :: c2 :: c3 :: c4 :: c5 :: c6 :: c7 :: c8 :: c9 :: c10 :: c11 :: H) := fun a w ha hs => k a w ha hs.f11
theorem WC.f11 {P : Program} {n : Nat} {Q : Exit → Act → World → Prop} {x : Code} {ρ : Nat → Value} {M : IM} {c0 c1 c2 c3 c4 c5 c6 c7 c8 c9 c10 c11 : Chunk} {H : HL} (k : WC P n Q x ρ M (c11 :: c0 :: c1 :: c2 :: c3 :: c4 :: c5 :: c6 :: c7 :: c8 :: c9 :: c10 :: H)) : WC P n Q x ρ M (c0 :: c1 :: c2 :: c3 :: c4 :: c5 :: c6 :: c7 :: c8 :: c9 :: c10 :: c11 :: H) := fun a w ha hs => k a w ha hs.f11
theorem WQ.f11 {n : Nat} {Q : Exit → Act → World → Prop} {e : Exit} {ρ : Nat → Value} {M : IM} {c0 c1 c2 c3 c4 c5 c6 c7 c8 c9 c10 c11 : Chunk} {H : HL} (k : WQ n Q e ρ M (c11 :: c0 :: c1 :: c2 :: c3 :: c4 :: c5 :: c6 :: c7 :: c8 :: c9 :: c10 :: H)) : WQ n Q e ρ M (c0 :: c1 :: c2 :: c3 :: c4 :: c5 :: c6 :: c7 :: c8 :: c9 :: c10 :: c11 :: H) := fun a w ha hs => k a w ha hs.f11
theorem Sat.f12 {w : World} {M : IM} {c0 c1 c2 c3 c4 c5 c6 c7 c8 c9 c10 c11 c12 : Chunk} {H : HL} (h : Sat w M (c0 :: c1 :: c2 :: c3 :: c4 :: c5 :: c6 :: c7 :: c8 :: c9 :: c10 :: c11 :: c12 :: H)) : Sat w M (c12 :: c0 :: c1 :: c2 :: c3 :: c4 :: c5 :: c6 :: c7 :: c8 :: c9 :: c10 :: c11 :: H) := h.front 12 rfl
theorem WL.f12 {P : Program} {ops : Array Oper} {n : Nat} {Q : Exit → Act → World → Prop} {l : List Oper} {ρ : Nat → Value} {M : IM} {c0 c1 c2 c3 c4 c5 c6 c7 c8 c9 c10 c11 c12 : Chunk} {H : HL} (k : WL P ops n Q l ρ M (c12 :: c0 :: c1 :: c2 :: c3 :: c4 :: c5 :: c6 :: c7 :: c8 :: c9 :: c10 :: c11 :: H)) : WL P ops n Q l ρ M (c0 :: c1 :: c2 :: c3 :: c4 :: c5 :: c6 :: c7 :: c8 :: c9 :: c10 :: c11 :: c12 :: H) := fun a w ha hs => k a w ha hs.f12
theorem WC.f12 {P : Program} {n : Nat} {Q : Exit → Act → World → Prop} {x : Code} {ρ : Nat → Value} {M : IM} {c0 c1 c2 c3 c4 c5 c6 c7 c8 c9 c10 c11 c12 : Chunk} {H : HL} (k : WC P n Q x ρ M (c12 :: c0 :: c1 :: c2 :: c3 :: c4 :: c5 :: c6 :: c7 :: c8 :: c9 :: c10 :: c11 :: H)) : WC P n Q x ρ M (c0 :: c1 :: c2 :: c3 :: c4 :: c5 :: c6 :: c7 :: c8 :: c9 :: c10 :: c11 :: c12 :: H) := fun a w ha hs => k a w ha hs.f12
theorem WQ.f12 {n : Nat} {Q : Exit → Act → World → Prop} {e : Exit} {ρ : Nat → Value} {M : IM} {c0 c1 c2 c3 c4 c5 c6 c7 c8 c9 c10 c11 c12 : Chunk} {H : HL} (k : WQ n Q e ρ M (c12 :: c0 :: c1 :: c2 :: c3 :: c4 :: c5 :: c6 :: c7 :: c8 :: c9 :: c10 :: c11 :: H)) : WQ n Q e ρ M (c0 :: c1 :: c2 :: c3 :: c4 :: c5 :: c6 :: c7 :: c8 :: c9 :: c10 :: c11 :: c12 :: H) := fun a w ha hs => k a w ha hs.f12
theorem Sat.e0 {w : World} {M : IM} {H : HL} (h : Sat w M H) : Sat w M ([] :: H) := h.perm (by simp)
theorem WL.e0 {P : Program} {ops : Array Oper} {n : Nat} {Q : Exit → Act → World → Prop} {l : List Oper} {ρ : Nat → Value} {M : IM} {H : HL} (k : WL P ops n Q l ρ M ([] :: H)) : WL P ops n Q l ρ M H := fun a w ha hs => k a w ha hs.e0
theorem WL.a0 {P : Program} {ops : Array Oper} {n : Nat} {Q : Exit → Act → World → Prop} {l : List Oper} {ρ : Nat → Value} {M : IM} {H : HL} (k : WL P ops n Q l ρ M (H)) : WL P ops n Q l ρ M ([] ++ H) := k
theorem WL.a1 {P : Program} {ops : Array Oper} {n : Nat} {Q : Exit → Act → World → Prop} {l : List Oper} {ρ : Nat → Value} {M : IM} {c0 : Chunk} {H : HL} (k : WL P ops n Q l ρ M (c0 :: H)) : WL P ops n Q l ρ M ([c0] ++ H) := k
theorem WL.a2 {P : Program} {ops : Array Oper} {n : Nat} {Q : Exit → Act → World → Prop} {l : List Oper} {ρ : Nat → Value} {M : IM} {c0 c1 : Chunk} {H : HL} (k : WL P ops n Q l ρ M (c0 :: c1 :: H)) : WL P ops n Q l ρ M ([c0, c1] ++ H) := k
theorem WL.a3 {P : Program} {ops : Array Oper} {n : Nat} {Q : Exit → Act → World → Prop} {l : List Oper} {ρ : Nat → Value} {M : IM} {c0 c1 c2 : Chunk} {H : HL} (k : WL P ops n Q l ρ M (c0 :: c1 :: c2 :: H)) : WL P ops n Q l ρ M ([c0, c1, c2] ++ H) := k
theorem WL.a4 {P : Program} {ops : Array Oper} {n : Nat} {Q : Exit → Act → World → Prop} {l : List Oper} {ρ : Nat → Value} {M : IM} {c0 c1 c2 c3 : Chunk} {H : HL} (k : WL P ops n Q l ρ M (c0 :: c1 :: c2 :: c3 :: H)) : WL P ops n Q l ρ M ([c0, c1, c2, c3] ++ H) := k
theorem WL.a5 {P : Program} {ops : Array Oper} {n : Nat} {Q : Exit → Act → World → Prop} {l : List Oper} {ρ : Nat → Value} {M : IM} {c0 c1 c2 c3 c4 : Chunk} {H : HL} (k : WL P ops n Q l ρ M (c0 :: c1 :: c2 :: c3 :: c4 :: H)) : WL P ops n Q l ρ M ([c0, c1, c2, c3, c4] ++ H) := k
theorem WL.a6 {P : Program} {ops : Array Oper} {n : Nat} {Q : Exit → Act → World → Prop} {l : List Oper} {ρ : Nat → Value} {M : IM} {c0 c1 c2 c3 c4 c5 : Chunk} {H : HL} (k : WL P ops n Q l ρ M (c0 :: c1 :: c2 :: c3 :: c4 :: c5 :: H)) : WL P ops n Q l ρ M ([c0, c1, c2, c3, c4, c5] ++ H) := k
theorem WL.a7 {P : Program} {ops : Array Oper} {n : Nat} {Q : Exit → Act → World → Prop} {l : List Oper} {ρ : Nat → Value} {M : IM} {c0 c1 c2 c3 c4 c5 c6 : Chunk} {H : HL} (k : WL P ops n Q l ρ M (c0 :: c1 :: c2 :: c3 :: c4 :: c5 :: c6 :: H)) : WL P ops n Q l ρ M ([c0, c1, c2, c3, c4, c5, c6] ++ H) := k
theorem WL.a8 {P : Program} {ops : Array Oper} {n : Nat} {Q : Exit → Act → World → Prop} {l : List Oper} {ρ : Nat → Value} {M : IM} {c0 c1 c2 c3 c4 c5 c6 c7 : Chunk} {H : HL} (k : WL P ops n Q l ρ M (c0 :: c1 :: c2 :: c3 :: c4 :: c5 :: c6 :: c7 :: H)) : WL P ops n Q l ρ M ([c0, c1, c2, c3, c4, c5, c6, c7] ++ H) := k
theorem WC.e0 {P : Program} {n : Nat} {Q : Exit → Act → World → Prop} {x : Code} {ρ : Nat → Value} {M : IM} {H : HL} (k : WC P n Q x ρ M ([] :: H)) : WC P n Q x ρ M H := fun a w ha hs => k a w ha hs.e0
theorem WC.a0 {P : Program} {n : Nat} {Q : Exit → Act → World → Prop} {x : Code} {ρ : Nat → Value} {M : IM} {H : HL} (k : WC P n Q x ρ M (H)) : WC P n Q x ρ M ([] ++ H) := k
theorem WC.a1 {P : Program} {n : Nat} {Q : Exit → Act → World → Prop} {x : Code} {ρ : Nat → Value} {M : IM} {c0 : Chunk} {H : HL} (k : WC P n Q x ρ M (c0 :: H)) : WC P n Q x ρ M ([c0] ++ H) := k
theorem WC.a2 {P : Program} {n : Nat} {Q : Exit → Act → World → Prop} {x : Code} {ρ : Nat → Value} {M : IM} {c0 c1 : Chunk} {H : HL} (k : WC P n Q x ρ M (c0 :: c1 :: H)) : WC P n Q x ρ M ([c0, c1] ++ H) := k
theorem WC.a3 {P : Program} {n : Nat} {Q : Exit → Act → World → Prop} {x : Code} {ρ : Nat → Value} {M : IM} {c0 c1 c2 : Chunk} {H : HL} (k : WC P n Q x ρ M (c0 :: c1 :: c2 :: H)) : WC P n Q x ρ M ([c0, c1, c2] ++ H) := k
theorem WC.a4 {P : Program} {n : Nat} {Q : Exit → Act → World → Prop} {x : Code} {ρ : Nat → Value} {M : IM} {c0 c1 c2 c3 : Chunk} {H : HL} (k : WC P n Q x ρ M (c0 :: c1 :: c2 :: c3 :: H)) : WC P n Q x ρ M ([c0, c1, c2, c3] ++ H) := k
theorem WC.a5 {P : Program} {n : Nat} {Q : Exit → Act → World → Prop} {x : Code} {ρ : Nat → Value} {M : IM} {c0 c1 c2 c3 c4 : Chunk} {H : HL} (k : WC P n Q x ρ M (c0 :: c1 :: c2 :: c3 :: c4 :: H)) : WC P n Q x ρ M ([c0, c1, c2, c3, c4] ++ H) := k
theorem WC.a6 {P : Program} {n : Nat} {Q : Exit → Act → World → Prop} {x : Code} {ρ : Nat → Value} {M : IM} {c0 c1 c2 c3 c4 c5 : Chunk} {H : HL} (k : WC P n Q x ρ M (c0 :: c1 :: c2 :: c3 :: c4 :: c5 :: H)) : WC P n Q x ρ M ([c0, c1, c2, c3, c4, c5] ++ H) := k
theorem WC.a7 {P : Program} {n : Nat} {Q : Exit → Act → World → Prop} {x : Code} {ρ : Nat → Value} {M : IM} {c0 c1 c2 c3 c4 c5 c6 : Chunk} {H : HL} (k : WC P n Q x ρ M (c0 :: c1 :: c2 :: c3 :: c4 :: c5 :: c6 :: H)) : WC P n Q x ρ M ([c0, c1, c2, c3, c4, c5, c6] ++ H) := k
theorem WC.a8 {P : Program} {n : Nat} {Q : Exit → Act → World → Prop} {x : Code} {ρ : Nat → Value} {M : IM} {c0 c1 c2 c3 c4 c5 c6 c7 : Chunk} {H : HL} (k : WC P n Q x ρ M (c0 :: c1 :: c2 :: c3 :: c4 :: c5 :: c6 :: c7 :: H)) : WC P n Q x ρ M ([c0, c1, c2, c3, c4, c5, c6, c7] ++ H) := k
theorem WQ.e0 {n : Nat} {Q : Exit → Act → World → Prop} {e : Exit} {ρ : Nat → Value} {M : IM} {H : HL} (k : WQ n Q e ρ M ([] :: H)) : WQ n Q e ρ M H := fun a w ha hs => k a w ha hs.e0
theorem WQ.a0 {n : Nat} {Q : Exit → Act → World → Prop} {e : Exit} {ρ : Nat → Value} {M : IM} {H : HL} (k : WQ n Q e ρ M (H)) : WQ n Q e ρ M ([] ++ H) := k
theorem WQ.a1 {n : Nat} {Q : Exit → Act → World → Prop} {e : Exit} {ρ : Nat → Value} {M : IM} {c0 : Chunk} {H : HL} (k : WQ n Q e ρ M (c0 :: H)) : WQ n Q e ρ M ([c0] ++ H) := k
theorem WQ.a2 {n : Nat} {Q : Exit → Act → World → Prop} {e : Exit} {ρ : Nat → Value} {M : IM} {c0 c1 : Chunk} {H : HL} (k : WQ n Q e ρ M (c0 :: c1 :: H)) : WQ n Q e ρ M ([c0, c1] ++ H) := k
theorem WQ.a3 {n : Nat} {Q : Exit → Act → World → Prop} {e : Exit} {ρ : Nat → Value} {M : IM} {c0 c1 c2 : Chunk} {H : HL} (k : WQ n Q e ρ M (c0 :: c1 :: c2 :: H)) : WQ n Q e ρ M ([c0, c1, c2] ++ H) := k
theorem WQ.a4 {n : Nat} {Q : Exit → Act → World → Prop} {e : Exit} {ρ : Nat → Value} {M : IM} {c0 c1 c2 c3 : Chunk} {H : HL} (k : WQ n Q e ρ M (c0 :: c1 :: c2 :: c3 :: H)) : WQ n Q e ρ M ([c0, c1, c2, c3] ++ H) := k
theorem WQ.a5 {n : Nat} {Q : Exit → Act → World → Prop} {e : Exit} {ρ : Nat → Value} {M : IM} {c0 c1 c2 c3 c4 : Chunk} {H : HL} (k : WQ n Q e ρ M (c0 :: c1 :: c2 :: c3 :: c4 :: H)) : WQ n Q e ρ M ([c0, c1, c2, c3, c4] ++ H) := k
theorem WQ.a6 {n : Nat} {Q : Exit → Act → World → Prop} {e : Exit} {ρ : Nat → Value} {M : IM} {c0 c1 c2 c3 c4 c5 : Chunk} {H : HL} (k : WQ n Q e ρ M (c0 :: c1 :: c2 :: c3 :: c4 :: c5 :: H)) : WQ n Q e ρ M ([c0, c1, c2, c3, c4, c5] ++ H) := k
theorem WQ.a7 {n : Nat} {Q : Exit → Act → World → Prop} {e : Exit} {ρ : Nat → Value} {M : IM} {c0 c1 c2 c3 c4 c5 c6 : Chunk} {H : HL} (k : WQ n Q e ρ M (c0 :: c1 :: c2 :: c3 :: c4 :: c5 :: c6 :: H)) : WQ n Q e ρ M ([c0, c1, c2, c3, c4, c5, c6] ++ H) := k
theorem WQ.a8 {n : Nat} {Q : Exit → Act → World → Prop} {e : Exit} {ρ : Nat → Value} {M : IM} {c0 c1 c2 c3 c4 c5 c6 c7 : Chunk} {H : HL} (k : WQ n Q e ρ M (c0 :: c1 :: c2 :: c3 :: c4 :: c5 :: c6 :: c7 :: H)) : WQ n Q e ρ M ([c0, c1, c2, c3, c4, c5, c6, c7] ++ H) := k
end Go.KK
