
import Derived.Test.YtfkmkgpoddbbfaaGreatDoorKMem3
import Derived.Laws.AppendOwn
import Derived.Lib.ConvBytes
set_option linter.unusedSimpArgs false
set_option linter.unusedVariables false
namespace Go.KK
open Go
def Src {α:Type}(d:Kd α) (M:IM) (H:HL) (u:Value) (ys:List α):Prop:=
 ∃ a n cap f,u= .slice a n cap∧n=ys.length∧RowsOf d M f ys∧∀ j v,f j=some v→∃ ad,a=some ad∧∀ w,Sat w M H→w.cell? (ad.add j)=some v
theorem RS.src {α:Type}{d:Kd α}{M:IM}{v:Value}{xs:List α}(h:RS d M v xs) (H:HL):Src d M H v xs:=by
 obtain ⟨a,n,cap,rfl,rfl,_,hr⟩:=h
 refine⟨a,_,cap,_,rfl,rfl,hr,fun j v hj=> ?_⟩
 cases a with
 |none=>cases hj
 |some ad=>exact⟨ad,rfl,fun w hs=>hs.cellM hj⟩
theorem OwnS.src {α:Type}{d:Kd α}{M:IM}{v:Value}{xs:List α}{c:QaV}(h:OwnS d M v xs c){H:HL}(k:Nat) (hk:H[k]?=some c):Src d M H v xs:=by
 obtain ⟨a,n,cap,rfl,rfl,hc,hr⟩:=h
 rcases hr with⟨rfl,rfl,rfl⟩ |⟨g,off,arr,T,fr,rfl,rfl,e3,e4,e5⟩
 ·have:xs=[]:=List.eq_nil_of_length_eq_zero (by omega)
  subst this
  exact⟨none,_,0,fun _=>none,rfl,rfl, .nil _ _ _,fun j v hj=>by cases hj⟩
 ·refine⟨_,_,cap,_,rfl,rfl,e5,fun j v hj=>⟨_,rfl,fun w hs=> ?_⟩⟩
  rw [QjF]
  exact hs.cellC k hk (QdW.trans hj)
theorem RowsOf.cells {α:Type}{d:Kd α}{M:IM}{f:Nat→Option Value}{xs:List α}(h:RowsOf d M f xs):
  ∃ l:List Value,l.length=xs.length*d.sz∧(∀ j u,l[j]?=some u→f j=some u)∧(∀ u∈l,u.oneCell'=true)∧RowsOf d M (fun j=>l[j]?) xs:=by
 let l:=(List.range (xs.length*d.sz)).map fun j=>(f j).getD undef
 have hl:l.length=xs.length*d.sz:=by simp [l]
 have hg:∀ j u,l[j]?=some u→f j=some u:=fun j u hj=>by
  have hlt:j<xs.length*d.sz:=by rw [←hl];exact(List.getElem?_eq_some_iff.1 hj).1
  obtain ⟨v,hv,_⟩:=h.held hlt
  simp only [l,List.getElem?_map,List.getElem?_range hlt,Option.map_some,hv,Option.getD_some] at hj
  rw [hv];exact hj
 refine⟨l,hl,hg,fun u hu=> ?_,fun i hi=> ?_⟩
 ·obtain ⟨j,hj,rfl⟩:=List.getElem_of_mem hu
  obtain ⟨v,hv,h1⟩:=h.held (j:=j) (by rw [←hl];exact hj)
  have:=hg j _ (List.getElem?_eq_getElem hj)
  rw [hv] at this;cases this;exact h1
 ·obtain ⟨cs,r,m⟩:=h i hi
  refine⟨cs,r,fun j u hj=> ?_⟩
  have hf:=m j u hj
  have hjl:j<d.sz:=by rw [←d.len r];exact(List.getElem?_eq_some_iff.1 hj).1
  have hlt:i*d.sz+j<xs.length*d.sz:=by
   calc i*d.sz+j<i*d.sz+d.sz:=by omega
    _=(i+1)*d.sz:=by rw [Nat.add_mul,Nat.one_mul]
    _≤_:=Nat.mul_le_mul_right _ hi
  simp only [l,List.getElem?_map,List.getElem?_range hlt,Option.map_some,hf,Option.getD_some]
section
variable {P : Program} {ρ : Nat → Value} {M : IM} {H : HL} {d : Option Nat} {ty : TypeId} {pos : String} {af : Array Edge} {g : Option (Nat × Bool)}
theorem QjN {α:Type}{dd:Kd α}{a:Option Addr}{n cap:Nat}{l:List Value}{w:World}(hl:l.length=n*dd.sz) (h:∀ j u,l[j]?=some u→∃ ad,a=some ad∧w.cell? (ad.add j)=some u):
  (Builtin.firstCells dd.sz n (.slice a n cap)).run P w= .ok l.toArray w:=by
 cases a with
 |none=>
  have:l=[]:=by
   cases l with
   |nil=>rfl
   |cons v r=>obtain ⟨ad,e,_⟩:=h 0 v rfl;cases e
  subst this
  simp [Builtin.firstCells]
 |some ad=>
  simp only [Builtin.firstCells,←hl]
  exact run_loadCells_list w ad l fun j v hj=>by obtain ⟨ad',e,hc⟩:=h j v hj;cases e;exact hc
theorem QuH (need sCap:Nat) (h:sCap<need):Builtin.nextslicecap need sCap≤2*need:=by
 have gb:∀ (rounds c:Nat),c<need+need→c+(c+768)/4≤2*need∨True:=fun _ _ _=> .inr trivial
 unfold Builtin.nextslicecap
 split
 ·omega
 ·split
  ·omega
  ·rename_i h1 h2
   have key:∀ (r c:Nat),256≤c→c≤2*need→Builtin.growBy need r c≤2*need:=by
    intro r
    induction r with
    |zero=>intro c _ hc;exact hc
    |succ r ih=>
     intro c h0 hc
     unfold Builtin.growBy
     split
     ·exact hc
     ·rename_i hlt
      exact ih _ (by omega) (by omega)
   exact key 4 sCap (by omega) (by omega)
theorem EO.append {α : Type} {dd : Kd α} {x y : Operand} {t t2 e e2 : TypeId} {bytes : Nat} {z : Value} {v u : Value} {xs ys : List α} {c : QaV}
    (hu : P.underlying t = some (.slice e)) (hu2 : P.underlying t2 = some (.slice e2)) (hi : (P.info? e).map (fun i => (i.size, i.bytes, i.zero)) = some (dd.sz, bytes, some z)) (hzs : z.cells.size = dd.sz)
    (hb : 2 * (xs.length + ys.length) * bytes ≤ 281474976710656) (hb0 : 0 < bytes)
    (hx : ev ρ x = v) (hy : ev ρ y = u) (hO : OwnS dd M v xs c) (hS : Src dd M (c :: H) u ys) :
    EO P ⟨d, .call { callee := .builtin .append, args := #[x, y], argTypes := #[t, t2] }, ty, pos, af, g⟩ ρ M (c :: H) fun v' M' H' => M = M' ∧ ∃ c', H' = c' :: H ∧ OwnS dd M v' (xs ++ ys) c' := by
  intro w hs
  obtain ⟨i, hi, hz⟩ := Option.map_eq_some_iff.1 hi
  simp only [Prod.mk.injEq] at hz
  obtain ⟨hz1, hz2, hz3⟩ := hz
  obtain ⟨a2, n2, cap2, f2, rfl, rfl, hr2, hc2⟩ := hS
  obtain ⟨l2, hl2, hg2, ho2, hrow2⟩ := hr2.cells
  have hsrc : ∀ j u, l2[j]? = some u → ∃ ad, a2 = some ad ∧ w.cell? (ad.add j) = some u := fun j u hj => by
    obtain ⟨ad, e, k⟩ := hc2 j u (hg2 j u hj); exact ⟨ad, e, k w hs⟩
  have hfc2 := QjN (P := P) (dd := dd) (cap := cap2) hl2 hsrc
  have hlen : xs.length + ys.length ≤ 140737488355328 := by
    have : (xs.length + ys.length) * 1 ≤ (xs.length + ys.length) * bytes := Nat.mul_le_mul_left _ hb0
    rw [Nat.mul_assoc] at hb; omega
  have hzero : (zeroValue e).run P w = .ok z w := by simp [zeroValue, run_typeInfo w hi, hz3]
  have hsz : (sizeOf e).run P w = .ok dd.sz w := by simp [sizeOf, run_typeInfo w hi, hz1]
  obtain ⟨a, n, cap, rfl, rfl, hcap, hO⟩ := hO
  rw [QjG]
  by_cases hroom : xs.length + ys.length ≤ cap
  · -- there is room
    rcases hO with ⟨rfl, rfl, rfl⟩ | ⟨b, off, arr, T, fr, rfl, rfl, e3, e4, e5⟩
    · -- nil and nothing behind
      have hx0 : xs = [] := List.eq_nil_of_length_eq_zero (by omega)
      have hy0 : ys = [] := List.eq_nil_of_length_eq_zero (by omega)
      subst hx0 hy0
      have h1 : (Builtin.append_ #[t, t2] ty #[.slice none 0 0, .slice a2 0 cap2]).run P w = .ok (.slice none 0 0) w := by
        simp only [List.length_nil] at hfc2
        simp only [Builtin.append_, List.getElem?_toArray, List.getElem?_cons_zero, List.getElem?_cons_succ, Sem.run_bind, run_underlying hu, run_underlying hu2, Result.andThen_ok, hsz, Sem.run_pure, Bool.false_eq_true, if_false, Builtin.lenOf, Nat.add_zero, Nat.le_refl, if_true, Bool.not_false, hfc2, List.length_nil]
      simp only [Go.builtin, List.map_toArray, List.map_cons, List.map_nil, hx, hy, Sem.run_bind, List.length_nil, h1, Result.andThen_ok]
      exact ⟨M, _, .refl M, hs, rfl, [], rfl, .nil _ _⟩
    · have hb' := hs.own (b, .cells arr T fr) (by simp) rfl
      have hfit : off + (xs.length * dd.sz) + l2.length ≤ arr.size := by
        rw [hl2, Nat.add_assoc, ← Nat.add_mul]
        exact Nat.le_trans (Nat.add_le_add_left (Nat.mul_le_mul_right _ hroom) _) e3
      obtain ⟨w', r1, r2, r3, r4, r5, r6⟩ := Qe2 (P := P) b (off + xs.length * dd.sz) T fr l2 0 arr w hb' (by simpa using hfit) e4 ho2
      have h1 : (Builtin.append_ #[t, t2] ty #[.slice (some ⟨b, off, none⟩) xs.length cap, .slice a2 ys.length cap2]).run P w = .ok (.slice (some ⟨b, off, none⟩) (xs.length + ys.length) cap) w' := by
        simp only [Builtin.append_, List.getElem?_toArray, List.getElem?_cons_zero, List.getElem?_cons_succ, Sem.run_bind, run_underlying hu, run_underlying hu2, Result.andThen_ok, hsz, Sem.run_pure, Bool.false_eq_true, if_false, Builtin.lenOf, if_pos hroom, Bool.not_false, if_true, hfc2, QjF, r1]
      simp only [Go.builtin, List.map_toArray, List.map_cons, List.map_nil, hx, hy, Sem.run_bind, h1, Result.andThen_ok]
      refine ⟨M, _, .refl M, hs.write r4 r5 r6 r2 r3, rfl, _, rfl, _, _, _, rfl, by simp, hroom, .inr ⟨b, off, _, T, fr, rfl, rfl, by rw [QnG]; exact e3, by rw [QnG]; exact e4, ?_⟩⟩
      have hget : ∀ j, (putL arr (off + xs.length * dd.sz + 0) l2)[off + j]? = if xs.length * dd.sz ≤ j ∧ j < xs.length * dd.sz + l2.length then l2[j - xs.length * dd.sz]? else arr[off + j]? := fun j => by
        rw [QwP _ _ _ _ (by simpa using hfit)]
        by_cases hj : xs.length * dd.sz ≤ j ∧ j < xs.length * dd.sz + l2.length
        · rw [if_pos hj, if_pos (by omega)]; congr 1; omega
        · rw [if_neg hj, if_neg (by omega)]
      refine RowsOf.append (g := fun j => l2[j]?) ?_ hrow2 ?_
      · intro k hk
        obtain ⟨cs, r, m⟩ := e5 k hk
        refine ⟨cs, r, fun j u hj => ?_⟩
        have hjl : j < dd.sz := by rw [← dd.len r]; exact (List.getElem?_eq_some_iff.1 hj).1
        have : k * dd.sz + j < xs.length * dd.sz := by
          calc k * dd.sz + j < k * dd.sz + dd.sz := by omega
            _ = (k + 1) * dd.sz := by rw [Nat.add_mul, Nat.one_mul]
            _ ≤ _ := Nat.mul_le_mul_right _ hk
        show (putL arr _ l2)[off + (k * dd.sz + j)]? = _
        rw [hget, if_neg (by omega)]; exact m j u hj
      · intro j u hj hu'
        show (putL arr _ l2)[off + (xs.length * dd.sz + j)]? = _
        rw [hget, if_pos (by rw [hl2]; omega)]
        rw [show xs.length * dd.sz + j - xs.length * dd.sz = j by omega]; exact hu'
  · -- it grows
    have hold : ∃ l1 : List Value, l1.length = xs.length * dd.sz ∧ (∀ j u, l1[j]? = some u → ∃ ad, a = some ad ∧ w.cell? (ad.add j) = some u) ∧ RowsOf dd M (fun j => l1[j]?) xs := by
      rcases hO with ⟨rfl, rfl, rfl⟩ | ⟨b, off, arr, T, fr, rfl, rfl, e3, e4, e5⟩
      · have hx0 : xs = [] := List.eq_nil_of_length_eq_zero (by omega)
        subst hx0
        exact ⟨[], by simp, fun j u hj => by simp at hj, .nil _ _ _⟩
      · obtain ⟨l1, p1, p2, p3, p4⟩ := e5.cells
        refine ⟨l1, p1, fun j u hj => ⟨_, rfl, ?_⟩, p4⟩
        rw [QjF]
        exact hs.cellC 0 rfl (QdW.trans (p2 j u hj))
    obtain ⟨l1, hl1, hg1, hrow1⟩ := hold
    let q := Question.appendCap (xs.length + ys.length) cap e
    let nc := q.cut (w.tape w.drawn q)
    have hnc : xs.length + ys.length ≤ nc := by show _ ≤ (xs.length + ys.length) + _; omega
    let w1 : World := { w with drawn := w.drawn + 1 }
    have hs1 : Sat w1 M (c :: H) := hs.drawn _
    have hfc1 : (Builtin.firstCells dd.sz xs.length (.slice a xs.length cap)).run P w1 = .ok l1.toArray w1 := QjN (P := P) (dd := dd) (cap := cap) hl1 hg1
    have hfc2' : (Builtin.firstCells dd.sz ys.length (.slice a2 ys.length cap2)).run P w1 = .ok l2.toArray w1 := QjN (P := P) (dd := dd) (cap := cap2) hl2 hsrc
    have hzero1 : (zeroValue e).run P w1 = .ok z w1 := by simp [zeroValue, run_typeInfo w1 hi, hz3]
    have hch : (choose (.appendCap (xs.length + ys.length) cap e)).run P w = .ok nc w1 := by simp [choose, Sem.run, Question.forced, nc, q, w1]
    have hask : (askRoom (nc * i.bytes)).run P w1 = .ok () w1 := by
      unfold askRoom
      split <;> simp [mark, Sem.run]
    have hbig : ¬ (Builtin.nextslicecap (xs.length + ys.length) cap * i.bytes > 2 ^ 48) := by
      have h1 := QuH (xs.length + ys.length) cap (by omega)
      have h2 := Nat.mul_le_mul_right i.bytes h1
      rw [hz2] at h2 ⊢
      have : 2 ^ 48 = 281474976710656 := by decide
      omega
    have hmax : ¬ ((((xs.length + ys.length : Nat) : Int) > IntKind.i64.max) ∧ (False ∨ i.bytes = 0)) := by rintro ⟨_, h | h⟩; (exact h); omega
    let obj : Obj := .cells (l1.toArray ++ l2.toArray ++ Builtin.zeroCells z.cells (nc - (xs.length + ys.length))) e
    have h1 : (Builtin.append_ #[t, t2] ty #[.slice a xs.length cap, .slice a2 ys.length cap2]).run P w = .ok (.slice (some ⟨w.heap.size, 0, none⟩) (xs.length + ys.length) nc) (w1.alloc obj) := by
      simp only [Builtin.append_, List.getElem?_toArray, List.getElem?_cons_zero, List.getElem?_cons_succ, Sem.run_bind, run_underlying hu, run_underlying hu2, Result.andThen_ok, hsz, Sem.run_pure, Bool.false_eq_true, if_false, Builtin.lenOf, if_neg hroom, run_typeInfo w hi, Bool.not_false, if_true]
      rw [if_neg hmax]
      simp only [Sem.run_bind, Sem.run_pure, Result.andThen_ok, run_typeInfo w hi, if_neg hbig, hch, run_typeInfo w1 hi, hask, hfc1, hfc2', hzero1, newRow, newObj]
      rfl
    simp only [Go.builtin, List.map_toArray, List.map_cons, List.map_nil, hx, hy, Sem.run_bind, h1, Result.andThen_ok]
    have hzc : (Builtin.zeroCells z.cells (nc - (xs.length + ys.length))).size = (nc - (xs.length + ys.length)) * dd.sz := by simp [Builtin.zeroCells, hzs]
    refine ⟨M, _, .refl M, hs1.drop.alloc obj, rfl, _, rfl, _, _, _, rfl, by simp, hnc, .inr ⟨w.heap.size, 0, _, e, (0, 0), rfl, rfl, ?_, .inl rfl, ?_⟩⟩
    · simp only [Array.size_append, List.size_toArray, hl1, hl2, hzc, Nat.zero_add]
      rw [← Nat.add_mul, ← Nat.add_mul, show xs.length + ys.length + (nc - (xs.length + ys.length)) = nc by omega]
      exact Nat.le_refl _
    · have hget : ∀ j u, (l1 ++ l2)[j]? = some u → (l1.toArray ++ l2.toArray ++ Builtin.zeroCells z.cells (nc - (xs.length + ys.length)))[0 + j]? = some u := fun j u hj => by
        have hlt := (List.getElem?_eq_some_iff.1 hj).1
        rw [Nat.zero_add, Array.getElem?_append_left (by simpa using hlt)]
        simpa using hj
      refine (RowsOf.append (f := fun j => (l1 ++ l2)[j]?) (g := fun j => l2[j]?) ?_ hrow2 ?_).mono (.refl M) hget
      · refine hrow1.mono (.refl M) fun j u hj => ?_
        rw [List.getElem?_append_left (List.getElem?_eq_some_iff.1 hj).1]; exact hj
      · intro j u hj hu'
        rw [List.getElem?_append_right (by omega), show xs.length * dd.sz + j - l1.length = j by omega]; exact hu'
end
end Go.KK
