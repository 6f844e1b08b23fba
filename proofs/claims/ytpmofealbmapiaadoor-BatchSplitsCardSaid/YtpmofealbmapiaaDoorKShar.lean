/- Rows of which the cells so far are fixed, and the room behind them is owned: they are read as what is fixed, and can be appended to in place. -/
import Derived.Test.YtpmofealbmapiaaDoorKMem5
import Derived.Control
import Derived.Scope
set_option linter.unusedSimpArgs false
set_option linter.unusedVariables false
namespace Go.KK
open Go

def shObj (n : Nat) (a : Array Value) (T : TypeId) : Obj := .chan n a false T 0 false
def OwnSh {α : Type} (d : Kd α) (M : IM) (v : Value) (xs : List α) (c : Chunk) : Prop :=
  ∃ a n cap, v = .slice a n cap ∧ n = xs.length ∧ n ≤ cap ∧ ((a = none ∧ cap = 0 ∧ c = []) ∨
    ∃ g off size pre T, a = some ⟨g, off, none⟩ ∧ c = [(g, shObj size pre T)] ∧ off + cap * d.sz ≤ size ∧ off + n * d.sz ≤ pre.size ∧ (pre.size ≤ off + n * d.sz ∨ n = cap) ∧ RowsOf d M (fun j => pre[off + j]?) xs)
theorem OwnSh.mono {α : Type} {d : Kd α} {M M' : IM} {v : Value} {xs : List α} {c : Chunk} (h : OwnSh d M v xs c) (hle : M.le M') : OwnSh d M' v xs c := by
  obtain ⟨a, n, cap, h1, h2, h3, h4⟩ := h
  refine ⟨a, n, cap, h1, h2, h3, h4.imp id ?_⟩
  rintro ⟨g, off, size, pre, T, e1, e2, e3, e4, e5, e6⟩
  exact ⟨g, off, size, pre, T, e1, e2, e3, e4, e5, e6.mono hle fun _ _ h => h⟩
theorem OwnSh.nil {α : Type} (d : Kd α) (M : IM) : OwnSh d M (.slice none 0 0) [] [] := ⟨none, 0, 0, rfl, rfl, Nat.le_refl _, .inl ⟨rfl, rfl, rfl⟩⟩
theorem OwnSh.len {α : Type} {d : Kd α} {M : IM} {v : Value} {xs : List α} {c : Chunk} (h : OwnSh d M v xs c) : SlLen v xs.length := by
  obtain ⟨a, n, cap, rfl, rfl, _⟩ := h; exact ⟨a, cap, rfl⟩
theorem OwnSh.cap {α : Type} {d : Kd α} {M : IM} {v : Value} {xs : List α} {c : Chunk} (h : OwnSh d M v xs c) : ∀ a cap, v = .slice a xs.length cap → xs.length ≤ cap := by
  obtain ⟨a, n, cap, rfl, rfl, hc, _⟩ := h; rintro a' cap' e; cases e; exact hc
theorem OwnSh.one {α : Type} {d : Kd α} {M : IM} {v : Value} {xs : List α} {c : Chunk} (h : OwnSh d M v xs c) : v.oneCell' = true := by obtain ⟨a, n, cap, rfl, _⟩ := h; rfl
theorem OwnSh.cells {α : Type} {d : Kd α} {M : IM} {v : Value} {xs : List α} {c : Chunk} (h : OwnSh d M v xs c) : v.cells = #[v] := by obtain ⟨a, n, cap, rfl, _⟩ := h; rfl
theorem OwnSh.any {α : Type} {d : Kd α} {M M' : IM} {v : Value} {xs : List α} {c : Chunk} (h : OwnSh d M v xs c) (hf : ∀ (M M' : IM) (cs : List Value) (x : α), d.rc M cs x → d.rc M' cs x) : OwnSh d M' v xs c := by
  obtain ⟨a, n, cap, h1, h2, h3, h4⟩ := h
  refine ⟨a, n, cap, h1, h2, h3, h4.imp id ?_⟩
  rintro ⟨g, off, size, pre, T, e1, e2, e3, e4, e5, e6⟩
  refine ⟨g, off, size, pre, T, e1, e2, e3, e4, e5, fun i hi => ?_⟩
  obtain ⟨cs, r, m⟩ := e6 i hi
  exact ⟨cs, hf _ _ _ _ r, m⟩
/-- Read as what is fixed. -/
theorem OwnSh.rs {α : Type} {d : Kd α} {M : IM} {v : Value} {xs : List α} {c : Chunk} {w : World} {H : HL} (h : OwnSh d M v xs c) (hs : Sat w M (c :: H)) : RS d M v xs := by
  obtain ⟨a, n, cap, h1, h2, h3, h4⟩ := h
  refine ⟨a, n, cap, h1, h2, h3, ?_⟩
  rcases h4 with ⟨rfl, rfl, _⟩ | ⟨g, off, size, pre, T, rfl, rfl, e3, e4, e5, e6⟩
  · have : xs = [] := List.eq_nil_of_length_eq_zero (by omega)
    subst this; exact .nil _ _ _
  · refine e6.mono (.refl M) fun j u hj => ?_
    have hb := hs.apart (g, shObj size pre T) (by simp)
    have hp := (hs.shr (g, shObj size pre T) (by simp) _ _ _ _ _ _ rfl).1
    show M.cell _ = _
    rw [add_lit]
    unfold IM.cell
    simp only at hb hp ⊢
    rw [hb, hp]
    exact hj
/-- What is left of it from a place on. -/
theorem OwnSh.sub {α : Type} {d : Kd α} {M : IM} {v : Value} {xs : List α} {c : Chunk} (hs : OwnSh d M v xs c) {l h : Int} (h0 : 0 ≤ l) (h1 : l ≤ h) (h2 : h = xs.length) : OwnSh d M (slV v d.sz l.toNat h.toNat) (sub xs l h) c := by
  obtain ⟨a, n, cap, rfl, rfl, hc, hr⟩ := hs
  refine ⟨_, _, _, rfl, by simp [KK.sub]; omega, by omega, ?_⟩
  rcases hr with ⟨rfl, rfl, rfl⟩ | ⟨g, off, size, pre, T, rfl, rfl, e3, e4, e5, e6⟩
  · refine .inl ⟨by simp, by omega, rfl⟩
  · by_cases e : cap = l.toNat
    · have e2 : KK.sub xs l h = [] := by simp [KK.sub]; omega
      refine .inr ⟨g, off, size, pre, T, by rw [if_pos e], rfl, ?_, ?_, .inr (by omega), by rw [e2]; exact .nil _ _ _⟩
      · rw [show cap - l.toNat = 0 by omega, Nat.zero_mul]; omega
      · rw [show h.toNat - l.toNat = 0 by omega, Nat.zero_mul]; omega
    · have hm : off + l.toNat * d.sz + (h.toNat - l.toNat) * d.sz = off + xs.length * d.sz := by
        rw [Nat.add_assoc, ← Nat.add_mul, show l.toNat + (h.toNat - l.toNat) = xs.length by omega]
      refine .inr ⟨g, off + l.toNat * d.sz, size, pre, T, by rw [if_neg e]; simp [add_lit], rfl, ?_, by omega, ?_, ?_⟩
      · rw [Nat.add_assoc, ← Nat.add_mul, show l.toNat + (cap - l.toNat) = cap by omega]; exact e3
      · exact e5.imp (fun q => by omega) (fun q => by omega)
      · refine (e6.sub l.toNat (h.toNat - l.toNat)).mono (.refl M) fun j u hj => ?_
        rwa [Nat.add_assoc]

def IM.share (M : IM) (g : Nat) (a : Array Value) : IM := { M with pre := fun b => if b = g then some a else M.pre b }
theorem le_share {M : IM} {g : Nat} {a : Array Value} (h : ∀ a', M.pre g = some a' → Pref a' a) : M.le (M.share g a) := by
  refine ⟨rfl, rfl, rfl, fun _ _ h => h, fun b a' hb => ⟨rfl, ?_⟩⟩
  by_cases e : b = g
  · subst e; exact ⟨a, by simp [IM.share], h a' hb⟩
  · exact ⟨a', by simp [IM.share, e, hb], .refl _⟩
/-- A block that is owned whole: its first cells become fixed. -/
theorem Sat.share {w : World} {M : IM} {g : Nat} {arr : Array Value} {T : TypeId} {fr : Nat × Nat} {H : HL} (h : Sat w M ([(g, .cells arr T fr)] :: H)) (hf : fr.1 = fr.2 ∨ arr.size ≤ fr.1) {a : Array Value} (ha : Pref a arr) :
    Sat w (M.share g a) ([(g, shObj arr.size a T)] :: H) ∧ M.le (M.share g a) := by
  have hn := h.nodup
  simp only [List.flatten_cons, List.cons_append, List.nil_append, List.map_cons, List.nodup_cons] at hn
  have hin : ∀ p, p ∈ H.flatten → p.1 ≠ g := fun p hp e => hn.1 (List.mem_map.2 ⟨p, hp, e⟩)
  have hg := h.own (g, .cells arr T fr) (by simp) rfl
  have hb := h.apart (g, .cells arr T fr) (by simp)
  have hp := h.apre (g, .cells arr T fr) (by simp) rfl
  have hm : ∀ q, q ∈ H.flatten → q ∈ ([(g, Obj.cells arr T fr)] :: H).flatten := fun q hq => by simp only [List.flatten_cons, List.mem_append]; exact .inr hq
  refine ⟨⟨h.os, h.tape, h.output, h.imm, ?_, ?_, ?_, ?_, ?_, ?_⟩, le_share fun a' q => by rw [show M.pre g = none from hp] at q; cases q⟩
  · intro p hq he
    simp only [List.flatten_cons, List.cons_append, List.nil_append, List.mem_cons] at hq
    rcases hq with rfl | hq
    · cases he
    · exact h.own p (hm p hq) he
  · simp only [List.flatten_cons, List.cons_append, List.nil_append, List.map_cons, List.nodup_cons]; exact hn
  · intro p hq
    simp only [List.flatten_cons, List.cons_append, List.nil_append, List.mem_cons] at hq
    rcases hq with rfl | hq
    · exact hb
    · exact h.apart p (hm p hq)
  · intro b x hx
    by_cases e : b = g
    · subst e
      have : a = x := by simpa [IM.share] using hx
      subst this
      exact ⟨hb, arr, T, fr, hg, ha⟩
    · exact h.pre b x (by simpa [IM.share, e] using hx)
  · intro p hq he
    simp only [List.flatten_cons, List.cons_append, List.nil_append, List.mem_cons] at hq
    rcases hq with rfl | hq
    · cases he
    · have := h.apre p (hm p hq) he
      simpa [IM.share, hin p hq] using this
  · intro p hq n x y U z z2 e
    simp only [List.flatten_cons, List.cons_append, List.nil_append, List.mem_cons] at hq
    rcases hq with rfl | hq
    · cases e
      exact ⟨by simp [IM.share], arr, fr, hg, rfl, hf⟩
    · obtain ⟨k1, k2⟩ := h.shr p (hm p hq) n x y U z z2 e
      exact ⟨by simpa [IM.share, hin p hq] using k1, k2⟩
/-- Behind the fixed cells of such a block it is written: they are fixed then, too. -/
theorem Sat.writeSh {w w' : World} {M : IM} {g n : Nat} {a a' arr' : Array Value} {T : TypeId} {fr : Nat × Nat} {H : HL} (h : Sat w M ([(g, shObj n a T)] :: H))
    (hos : w'.os = w.os) (ht : w'.tape = w.tape) (hout : w'.output = w.output) (hg : w'.heap[g]? = some (.cells arr' T fr)) (hk : ∀ b, b ≠ g → w'.heap[b]? = w.heap[b]?) (hsz : arr'.size = n) (hf : fr.1 = fr.2 ∨ arr'.size ≤ fr.1) (ha : Pref a' arr') (haa : Pref a a') :
    Sat w' (M.share g a') ([(g, shObj n a' T)] :: H) ∧ M.le (M.share g a') := by
  have hn := h.nodup
  simp only [List.flatten_cons, List.cons_append, List.nil_append, List.map_cons, List.nodup_cons] at hn
  have hin : ∀ p, p ∈ H.flatten → p.1 ≠ g := fun p hp e => hn.1 (List.mem_map.2 ⟨p, hp, e⟩)
  have hb := h.apart (g, shObj n a T) (by simp)
  have hp := (h.shr (g, shObj n a T) (by simp) _ _ _ _ _ _ rfl).1
  have hm : ∀ q, q ∈ H.flatten → q ∈ ([(g, shObj n a T)] :: H).flatten := fun q hq => by simp only [List.flatten_cons, List.mem_append]; exact .inr hq
  refine ⟨⟨hos.trans h.os, ht.trans h.tape, hout.trans h.output, fun b x hx => ?_, ?_, ?_, ?_, ?_, ?_, ?_⟩, le_share fun x q => by rw [show M.pre g = some a from hp] at q; cases q; exact haa⟩
  · have hx' : M.blk b = some x := hx
    have : b ≠ g := by rintro rfl; rw [show M.blk b = none from hb] at hx'; cases hx'
    rw [hk b this]; exact h.imm b x hx'
  · intro p hq he
    simp only [List.flatten_cons, List.cons_append, List.nil_append, List.mem_cons] at hq
    rcases hq with rfl | hq
    · cases he
    · rw [hk _ (hin p hq)]; exact h.own p (hm p hq) he
  · simp only [List.flatten_cons, List.cons_append, List.nil_append, List.map_cons, List.nodup_cons]; exact hn
  · intro p hq
    simp only [List.flatten_cons, List.cons_append, List.nil_append, List.mem_cons] at hq
    rcases hq with rfl | hq
    · exact hb
    · exact h.apart p (hm p hq)
  · intro b x hx
    by_cases e : b = g
    · subst e
      have : a' = x := by simpa [IM.share] using hx
      subst this
      exact ⟨hb, arr', T, fr, hg, ha⟩
    · obtain ⟨k1, arr, U, f, k2, k3⟩ := h.pre b x (by simpa [IM.share, e] using hx)
      exact ⟨k1, arr, U, f, by rw [hk b e]; exact k2, k3⟩
  · intro p hq he
    simp only [List.flatten_cons, List.cons_append, List.nil_append, List.mem_cons] at hq
    rcases hq with rfl | hq
    · cases he
    · have := h.apre p (hm p hq) he
      simpa [IM.share, hin p hq] using this
  · intro p hq n x y U z z2 e
    simp only [List.flatten_cons, List.cons_append, List.nil_append, List.mem_cons] at hq
    rcases hq with rfl | hq
    · cases e
      exact ⟨by simp [IM.share], arr', fr, hg, hsz, hf⟩
    · obtain ⟨k1, arr, f, k2, k3⟩ := h.shr p (hm p hq) n x y U z z2 e
      exact ⟨by simpa [IM.share, hin p hq] using k1, arr, f, by rw [hk _ (hin p hq)]; exact k2, k3⟩
theorem OwnS.toSh {α : Type} {d : Kd α} {M : IM} {v : Value} {xs : List α} {c : Chunk} {w : World} {H : HL} (h : OwnS d M v xs c) (hs : Sat w M (c :: H)) : ∃ M' c', M.le M' ∧ Sat w M' (c' :: H) ∧ OwnSh d M' v xs c' := by
  obtain ⟨a, n, cap, h1, h2, h3, h4⟩ := h
  rcases h4 with ⟨rfl, rfl, rfl⟩ | ⟨g, off, arr, T, fr, rfl, rfl, e3, e4, e5⟩
  · exact ⟨M, [], .refl M, hs, ⟨none, n, 0, h1, h2, h3, .inl ⟨rfl, rfl, rfl⟩⟩⟩
  · have hfit : off + n * d.sz ≤ arr.size := Nat.le_trans (Nat.add_le_add_left (Nat.mul_le_mul_right _ h3) _) e3
    have hps : (arr.extract 0 (off + n * d.sz)).size = off + n * d.sz := by simp; omega
    have hpr : ∀ j, j < off + n * d.sz → (arr.extract 0 (off + n * d.sz))[j]? = arr[j]? := fun j hj => by
      rw [Array.getElem?_extract]; simp; omega
    obtain ⟨k1, k2⟩ := hs.share e4 (a := arr.extract 0 (off + n * d.sz)) (fun j u hj => by
      have : j < off + n * d.sz := by rw [← hps]; exact (Array.getElem?_eq_some_iff.1 hj).1
      rw [hpr j this] at hj; exact hj)
    refine ⟨_, _, k2, k1, ⟨_, n, cap, h1, h2, h3, .inr ⟨g, off, _, _, T, rfl, rfl, e3, by omega, .inl (by omega), ?_⟩⟩⟩
    intro i hi
    obtain ⟨cs, r, m⟩ := e5 i hi
    refine ⟨cs, d.mono k2 r, fun j u hj => ?_⟩
    have hjl : j < d.sz := by rw [← d.len r]; exact (List.getElem?_eq_some_iff.1 hj).1
    have : i * d.sz + j < n * d.sz := by
      rw [h2]
      calc i * d.sz + j < i * d.sz + d.sz := by omega
        _ = (i + 1) * d.sz := by rw [Nat.add_mul, Nat.one_mul]
        _ ≤ _ := Nat.mul_le_mul_right _ hi
    show (arr.extract 0 (off + n * d.sz))[off + (i * d.sz + j)]? = _
    rw [hpr _ (by omega)]
    exact m j u hj
section
variable {P : Program} {ρ : Nat → Value} {M : IM} {H : HL} {d : Option Nat} {ty : TypeId} {pos : String} {af : Array Edge} {g : Option (Nat × Bool)}
theorem EO.appendSh {α : Type} {dd : Kd α} {x y : Operand} {t t2 e e2 : TypeId} {bytes : Nat} {z : Value} {v u : Value} {xs ys : List α} {c : Chunk}
    (hu : P.underlying t = some (.slice e)) (hu2 : P.underlying t2 = some (.slice e2)) (hi : (P.info? e).map (fun i => (i.size, i.bytes, i.zero)) = some (dd.sz, bytes, some z)) (hzs : z.cells.size = dd.sz)
    (hb : 2 * (xs.length + ys.length) * bytes ≤ 281474976710656) (hb0 : 0 < bytes)
    (hx : ev ρ x = v) (hy : ev ρ y = u) (hO : OwnSh dd M v xs c) (hS : Src dd M (c :: H) u ys) :
    EO P ⟨d, .call { callee := .builtin .append, args := #[x, y], argTypes := #[t, t2] }, ty, pos, af, g⟩ ρ M (c :: H) fun v' M' H' => ∃ c', H' = c' :: H ∧ OwnSh dd M' v' (xs ++ ys) c' := by
  intro w hs
  have hRS := hO.rs hs
  obtain ⟨i, hi, hz⟩ := Option.map_eq_some_iff.1 hi
  simp only [Prod.mk.injEq] at hz
  obtain ⟨hz1, hz2, hz3⟩ := hz
  obtain ⟨a2, n2, cap2, f2, rfl, rfl, hr2, hc2⟩ := hS
  obtain ⟨l2, hl2, hg2, ho2, hrow2⟩ := hr2.cells
  have hsrc : ∀ j u, l2[j]? = some u → ∃ ad, a2 = some ad ∧ w.cell? (ad.add j) = some u := fun j u hj => by
    obtain ⟨ad, e, k⟩ := hc2 j u (hg2 j u hj); exact ⟨ad, e, k w hs⟩
  have hfc2 := run_firstCells (P := P) (dd := dd) (cap := cap2) hl2 hsrc
  have hlen : xs.length + ys.length ≤ 140737488355328 := by
    have : (xs.length + ys.length) * 1 ≤ (xs.length + ys.length) * bytes := Nat.mul_le_mul_left _ hb0
    rw [Nat.mul_assoc] at hb; omega
  have hzero : (zeroValue e).run P w = .ok z w := by simp [zeroValue, run_typeInfo w hi, hz3]
  have hsz : (sizeOf e).run P w = .ok dd.sz w := by simp [sizeOf, run_typeInfo w hi, hz1]
  obtain ⟨a, n, cap, rfl, rfl, hcap, hO⟩ := hO
  rw [run_builtin]
  by_cases hroom : xs.length + ys.length ≤ cap
  · -- there is room
    rcases hO with ⟨rfl, rfl, rfl⟩ | ⟨b, off, size, pre, T, rfl, rfl, e3, e4, e5, e6⟩
    · -- nil and nothing behind
      have hx0 : xs = [] := List.eq_nil_of_length_eq_zero (by omega)
      have hy0 : ys = [] := List.eq_nil_of_length_eq_zero (by omega)
      subst hx0 hy0
      have h1 : (Builtin.append_ #[t, t2] ty #[.slice none 0 0, .slice a2 0 cap2]).run P w = .ok (.slice none 0 0) w := by
        simp only [List.length_nil] at hfc2
        simp only [Builtin.append_, List.getElem?_toArray, List.getElem?_cons_zero, List.getElem?_cons_succ, Sem.run_bind, run_underlying hu, run_underlying hu2, Result.andThen_ok, hsz, Sem.run_pure, Bool.false_eq_true, if_false, Builtin.lenOf, Nat.add_zero, Nat.le_refl, if_true, Bool.not_false, hfc2, List.length_nil]
      simp only [Go.builtin, List.map_toArray, List.map_cons, List.map_nil, hx, hy, Sem.run_bind, List.length_nil, h1, Result.andThen_ok]
      exact ⟨M, _, .refl M, hs, [], rfl, .nil _ _⟩
    · obtain ⟨hpre, arr, fr, hb', hsize, hfr⟩ := hs.shr (b, shObj size pre T) (by simp) _ _ _ _ _ _ rfl
      simp only at hpre hb'
      have hpa : Pref pre arr := by
        obtain ⟨_, arr2, T2, fr2, k1, k2⟩ := hs.pre b pre hpre
        rw [hb'] at k1
        cases k1
        exact k2
      have hfit : off + (xs.length * dd.sz) + l2.length ≤ arr.size := by
        rw [hl2, Nat.add_assoc, ← Nat.add_mul, hsize]
        exact Nat.le_trans (Nat.add_le_add_left (Nat.mul_le_mul_right _ hroom) _) e3
      obtain ⟨w', r1, r2, r3, r4, r5, r6⟩ := run_storeCells_blk (P := P) b (off + xs.length * dd.sz) T fr l2 0 arr w hb' (by simpa using hfit) hfr ho2
      have h1 : (Builtin.append_ #[t, t2] ty #[.slice (some ⟨b, off, none⟩) xs.length cap, .slice a2 ys.length cap2]).run P w = .ok (.slice (some ⟨b, off, none⟩) (xs.length + ys.length) cap) w' := by
        simp only [Builtin.append_, List.getElem?_toArray, List.getElem?_cons_zero, List.getElem?_cons_succ, Sem.run_bind, run_underlying hu, run_underlying hu2, Result.andThen_ok, hsz, Sem.run_pure, Bool.false_eq_true, if_false, Builtin.lenOf, if_pos hroom, Bool.not_false, if_true, hfc2, add_lit, r1]
      simp only [Go.builtin, List.map_toArray, List.map_cons, List.map_nil, hx, hy, Sem.run_bind, h1, Result.andThen_ok]
      rw [Nat.add_zero] at r2
      have hget : ∀ j, (putL arr (off + xs.length * dd.sz) l2)[j]? = if off + xs.length * dd.sz ≤ j ∧ j < off + xs.length * dd.sz + l2.length then l2[j - (off + xs.length * dd.sz)]? else arr[j]? := fun j => putL_get _ _ _ _ (by simpa using hfit)
      have hps : pre.size = off + xs.length * dd.sz ∨ l2 = [] := by
        rcases e5 with q | q
        · exact .inl (by omega)
        · refine .inr (List.eq_nil_of_length_eq_zero ?_)
          rw [hl2, show ys.length = 0 by omega, Nat.zero_mul]
      have hP : Pref (pre ++ l2.toArray) (putL arr (off + xs.length * dd.sz) l2) := by
        intro j q hj
        rw [hget]
        by_cases hlt : j < pre.size
        · rw [Array.getElem?_append_left hlt] at hj
          rcases hps with k | k
          · rw [if_neg (by omega)]; exact hpa j q hj
          · rw [if_neg (by rw [k]; simp)]; exact hpa j q hj
        · rw [Array.getElem?_append_right (by omega)] at hj
          have hj' : l2[j - pre.size]? = some q := by simpa using hj
          have hjl := (List.getElem?_eq_some_iff.1 hj').1
          rcases hps with k | k
          · rw [if_pos (by omega), ← k]; exact hj'
          · rw [k] at hj'; cases hj'
      obtain ⟨q1, q2⟩ := hs.writeSh (a' := pre ++ l2.toArray) r4 r5 r6 r2 r3 (by rw [putL_size]; exact hsize) (by rw [putL_size]; exact hfr) hP (fun j q hj => by
        have hlt := (Array.getElem?_eq_some_iff.1 hj).1
        rw [Array.getElem?_append_left hlt]; exact hj)
      have hsz2 : (pre ++ l2.toArray).size = pre.size + ys.length * dd.sz := by simp [hl2]
      refine ⟨_, _, q2, q1, _, rfl, _, _, cap, rfl, by simp, hroom, .inr ⟨b, off, size, _, T, rfl, rfl, e3, ?_, ?_, ?_⟩⟩
      · rw [hsz2, Nat.add_mul]; omega
      · rw [hsz2, Nat.add_mul]
        rcases e5 with q | q
        · exact .inl (by omega)
        · exact .inr (by omega)
      · refine RowsOf.append (g := fun j => l2[j]?) ?_ (hrow2.mono q2 fun _ _ h => h) ?_
        · refine e6.mono q2 fun j u hj => ?_
          have hlt := (Array.getElem?_eq_some_iff.1 hj).1
          show (pre ++ l2.toArray)[off + j]? = _
          rw [Array.getElem?_append_left hlt]; exact hj
        · intro j u hj hu'
          show (pre ++ l2.toArray)[off + (xs.length * dd.sz + j)]? = _
          rcases hps with k | k
          · rw [Array.getElem?_append_right (by omega), show off + (xs.length * dd.sz + j) - pre.size = j by omega]
            simpa using hu'
          · rw [k] at hu'; cases hu'
  · -- it grows
    have hold : ∃ l1 : List Value, l1.length = xs.length * dd.sz ∧ (∀ j u, l1[j]? = some u → ∃ ad, a = some ad ∧ w.cell? (ad.add j) = some u) ∧ RowsOf dd M (fun j => l1[j]?) xs := by
      obtain ⟨a', n', cap', k1, k2, k3, k4⟩ := hRS
      cases k1
      obtain ⟨l1, p1, p2, p3, p4⟩ := k4.cells
      refine ⟨l1, p1, fun j u hj => ?_, p4⟩
      have := p2 j u hj
      cases a with
      | none => cases this
      | some ad => exact ⟨ad, rfl, hs.cellM this⟩
    obtain ⟨l1, hl1, hg1, hrow1⟩ := hold
    let q := Question.appendCap (xs.length + ys.length) cap e
    let nc := q.cut (w.tape w.drawn q)
    have hnc : xs.length + ys.length ≤ nc := by show _ ≤ (xs.length + ys.length) + _; omega
    let w1 : World := { w with drawn := w.drawn + 1 }
    have hs1 : Sat w1 M (c :: H) := hs.drawn _
    have hfc1 : (Builtin.firstCells dd.sz xs.length (.slice a xs.length cap)).run P w1 = .ok l1.toArray w1 := run_firstCells (P := P) (dd := dd) (cap := cap) hl1 hg1
    have hfc2' : (Builtin.firstCells dd.sz ys.length (.slice a2 ys.length cap2)).run P w1 = .ok l2.toArray w1 := run_firstCells (P := P) (dd := dd) (cap := cap2) hl2 hsrc
    have hzero1 : (zeroValue e).run P w1 = .ok z w1 := by simp [zeroValue, run_typeInfo w1 hi, hz3]
    have hch : (choose (.appendCap (xs.length + ys.length) cap e)).run P w = .ok nc w1 := by simp [choose, Sem.run, Question.forced, nc, q, w1]
    have hask : (askRoom (nc * i.bytes)).run P w1 = .ok () w1 := by
      unfold askRoom
      split <;> simp [mark, Sem.run]
    have hbig : ¬ (Builtin.nextslicecap (xs.length + ys.length) cap * i.bytes > 2 ^ 48) := by
      have h1 := nextslicecap_le (xs.length + ys.length) cap (by omega)
      have h2 := Nat.mul_le_mul_right i.bytes h1
      rw [hz2] at h2 ⊢
      have : 2 ^ 48 = 281474976710656 := by decide
      omega
    have hmax : ¬ ((((xs.length + ys.length : Nat) : Int) > IntKind.i64.max) ∧ (False ∨ i.bytes = 0)) := by rintro ⟨_, h | h⟩; (exact h); omega
    let obj : Obj := .cells (l1.toArray ++ l2.toArray ++ Builtin.zeroCells z.cells (nc - (xs.length + ys.length))) e
    have h1 : (Builtin.append_ #[t, t2] ty #[.slice a xs.length cap, .slice a2 ys.length cap2]).run P w = .ok (.slice (some ⟨w.heap.size, 0, none⟩) (xs.length + ys.length) nc) (w1.alloc obj) := by
      simp only [Builtin.append_, List.getElem?_toArray, List.getElem?_cons_zero, List.getElem?_cons_succ, Sem.run_bind, run_underlying hu, run_underlying hu2, Result.andThen_ok, hsz, Sem.run_pure, Bool.false_eq_true, if_false, Builtin.lenOf, if_neg hroom, run_typeInfo w hi, Bool.not_false, if_true]
      rw [if_neg hmax]
      simp only [Sem.run_bind, Sem.run_pure, Result.andThen_ok, run_typeInfo w hi, if_neg hbig, hch, run_typeInfo w1 hi, hask, hfc1, hfc2', hzero1, newRow, newObj]
      rfl
    simp only [Go.builtin, List.map_toArray, List.map_cons, List.map_nil, hx, hy, Sem.run_bind, h1, Result.andThen_ok]
    have hzc : (Builtin.zeroCells z.cells (nc - (xs.length + ys.length))).size = (nc - (xs.length + ys.length)) * dd.sz := by simp [Builtin.zeroCells, hzs]
    have hs2 : Sat (w1.alloc obj) M ([(w.heap.size, obj)] :: H) := hs1.drop.alloc obj
    have hO' : OwnS dd M (.slice (some ⟨w.heap.size, 0, none⟩) (xs.length + ys.length) nc) (xs ++ ys) [(w.heap.size, obj)] := by
      refine ⟨_, _, _, rfl, by simp, hnc, .inr ⟨w.heap.size, 0, _, e, (0, 0), rfl, rfl, ?_, .inl rfl, ?_⟩⟩
      · simp only [Array.size_append, List.size_toArray, hl1, hl2, hzc, Nat.zero_add]
        rw [← Nat.add_mul, ← Nat.add_mul, show xs.length + ys.length + (nc - (xs.length + ys.length)) = nc by omega]
        exact Nat.le_refl _
      · have hget : ∀ j u, (l1 ++ l2)[j]? = some u → (l1.toArray ++ l2.toArray ++ Builtin.zeroCells z.cells (nc - (xs.length + ys.length)))[0 + j]? = some u := fun j u hj => by
          have hlt := (List.getElem?_eq_some_iff.1 hj).1
          rw [Nat.zero_add, Array.getElem?_append_left (by simpa using hlt)]
          simpa using hj
        refine (RowsOf.append (f := fun j => (l1 ++ l2)[j]?) (g := fun j => l2[j]?) ?_ hrow2 ?_).mono (.refl M) hget
        · refine hrow1.mono (.refl M) fun j u hj => ?_
          rw [List.getElem?_append_left (List.getElem?_eq_some_iff.1 hj).1]; exact hj
        · intro j u hj hu'
          rw [List.getElem?_append_right (by omega), show xs.length * dd.sz + j - l1.length = j by omega]; exact hu'
    obtain ⟨M', c', k1, k2, k3⟩ := hO'.toSh hs2
    exact ⟨M', _, k1, k2, c', rfl, k3⟩
end
section
variable {P : Program} {n : Nat} {Q : Exit → Act → World → Prop} {ρ : Nat → Value} {M : IM} {H : HL} {x : Code} {l : Nat}
theorem WC.label (h : WQ n Q .normal ρ M H) : WC P n Q (.label l) ρ M H := fun a w ha hs => wp_label (h a w ha hs)
theorem WC.scope (h : WC P n (Exit.noGoto Q) x ρ M H) : WC P n Q (.scope x) ρ M H := fun a w ha hs => wp_scope_straight (h a w ha hs)
theorem WQ.scopeN (h : WQ n Q .normal ρ M H) : WQ n (Exit.noGoto Q) .normal ρ M H := h
theorem WQ.scopeR (h : WQ n Q .ret ρ M H) : WQ n (Exit.noGoto Q) .ret ρ M H := h
theorem WQ.scopeE {i : Nat} (h : WQ n Q (.exit i) ρ M H) : WQ n (Exit.noGoto Q) (.exit i) ρ M H := h
theorem WQ.toSh {α : Type} {d : Kd α} {v : Value} {xs : List α} {c : Chunk} {e : Exit} (h : OwnS d M v xs c) (k : ∀ M' c', M.le M' → OwnSh d M' v xs c' → WQ n Q e ρ M' (c' :: H)) : WQ n Q e ρ M (c :: H) := fun a w ha hs => by
  obtain ⟨M', c', h1, h2, h3⟩ := h.toSh hs
  exact k M' c' h1 h3 a w ha h2
theorem WC.toSh {α : Type} {d : Kd α} {v : Value} {xs : List α} {c : Chunk} (h : OwnS d M v xs c) (k : ∀ M' c', M.le M' → OwnSh d M' v xs c' → WC P n Q x ρ M' (c' :: H)) : WC P n Q x ρ M (c :: H) := fun a w ha hs => by
  obtain ⟨M', c', h1, h2, h3⟩ := h.toSh hs
  exact k M' c' h1 h3 a w ha h2
theorem WL.toSh {α : Type} {d : Kd α} {v : Value} {xs : List α} {c : Chunk} {ops : Array Oper} {l : List Oper} (h : OwnS d M v xs c) (k : ∀ M' c', M.le M' → OwnSh d M' v xs c' → WL P ops n Q l ρ M' (c' :: H)) : WL P ops n Q l ρ M (c :: H) := fun a w ha hs => by
  obtain ⟨M', c', h1, h2, h3⟩ := h.toSh hs
  exact k M' c' h1 h3 a w ha h2
end
end Go.KK
