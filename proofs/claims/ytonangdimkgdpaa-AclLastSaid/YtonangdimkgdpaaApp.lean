/- append in terms of lists: the law for a plain region and for one that draws its order. -/
import Derived.Test.YtonangdimkgdpaaBase
import Derived.Maps.AppendAt
namespace Go.Proofs.Ytonangdimkgdpaa
open Go.RowKit

/-- Element type e of slice type t: k cells, some bytes. -/
structure El (P : Program) (t e : TypeId) (k bytes : Nat) : Prop where
  sl : P.underlying t = some (.slice e)
  info : ∃ i z, P.info? e = some i ∧ i.zero = some z ∧ i.size = k ∧ i.bytes = bytes ∧ z.cells.size = k
theorem El.mk' {P : Program} {t e : TypeId} {k bytes : Nat} {z : Value} (h : P.underlying t = some (.slice e)) (hi : (P.info? e).map (fun i => (i.zero, i.size, i.bytes)) = some (some z, k, bytes)) (hz : z.cells.size = k) : El P t e k bytes := by
  obtain ⟨i, h1, h2, h3, h4⟩ := info_parts hi
  exact ⟨h, i, z, h1, h2, h3, h4, hz⟩
/-- Each element lies in k cells. -/
structure Fit {α : Type} (vals : α → List Value) (k : Nat) : Prop where
  len : ∀ x, (vals x).length = k
  one : ∀ x, ∀ u ∈ vals x, u.oneCell' = true
  pos : 0 < k
theorem fit_rect : Fit Rect.vals 4 := ⟨fun _ => rfl, fun _ => by simp [Rect.vals, Value.oneCell'], by decide⟩
theorem fit_ref : Fit Ref.vals 2 := ⟨fun _ => rfl, fun _ => by simp [Ref.vals, Value.oneCell'], by decide⟩
theorem fit_rule : Fit Rule.vals 7 := ⟨fun _ => rfl, fun _ => by simp [Rule.vals, Value.oneCell'], by decide⟩
theorem fit_int : Fit ival 1 := ⟨fun _ => rfl, fun _ => by simp [ival, Value.oneCell'], by decide⟩

/-- The slice value v is the call's own (in blocks from base on) and reads as l. -/
def OwnV {α : Type} (vals : α → List Value) (k : Nat) (e : TypeId) (base : Nat) (w : World) (v : Value) (l : List α) : Prop := w.ownsRow base e k v l.length (l.flatMap vals)
section
variable {α : Type} {vals : α → List Value} {k : Nat} {e : TypeId} {base : Nat} {w w' : World} {v : Value} {l : List α}
theorem OwnV.nil : OwnV vals k e base w (.slice none 0 0) ([] : List α) := World.ownsRow_nil _ _ _ _
theorem OwnV.form (h : OwnV vals k e base w v l) : ∃ A c, v = .slice A l.length c := by
  rcases h.2 with ⟨rfl, h0⟩ | ⟨g, cap, cur, rfl, _⟩
  · exact ⟨none, 0, by rw [h0]⟩
  · exact ⟨_, _, rfl⟩
theorem OwnV.sl (f : Fit vals k) {A : Option Addr} {n c : Nat} (h : OwnV vals k e base w (.slice A n c) l) : SlAt vals k w A l ∧ n = l.length := by
  obtain ⟨A', c', he⟩ := h.form
  injection he with h1 h2 h3
  subst h1 h2 h3
  exact ⟨SlAt.of_own f.len h rfl, rfl⟩
theorem OwnV.blocks (h : OwnV vals k e base w v l) : ∀ g, v.ownBlock = some g → base ≤ g ∧ g < w.heap.size := World.ownsRow.lt h
theorem OwnV.keepB (h : OwnV vals k e base w v l) (hk : ∀ g, v.ownBlock = some g → w'.heap[g]? = w.heap[g]?) : OwnV vals k e base w' v l := by
  refine ⟨h.1, ?_⟩
  rcases h.2 with h2 | ⟨g, cap, cur, rfl, hb, hg, r⟩
  · exact .inl h2
  · exact .inr ⟨g, cap, cur, rfl, hb, (hk g rfl).trans hg, r⟩
theorem OwnV.keep (h : OwnV vals k e base w v l) (hk : Kp w w') : OwnV vals k e base w' v l := h.keepB fun g hg => Below.block hk g (h.blocks g hg).2
theorem OwnV.keepN {B : Nat} (h : OwnV vals k e base w v l) (hk : Below B w w') (hB : ∀ g, v.ownBlock = some g → g < B) : OwnV vals k e base w' v l := h.keepB fun g hg => hk.block g (hB g hg)
theorem OwnV.grown {row : Option Nat} (h : OwnV vals k e base w v l) (hg : w.grownBy w' row) (hne : v.ownBlock = none ∨ v.ownBlock ≠ row) : OwnV vals k e base w' v l := World.ownsRow.kept h hg hne
theorem OwnV.lower {b' : Nat} (h : OwnV vals k e base w v l) (hb : b' ≤ base) : OwnV vals k e b' w v l := by
  refine ⟨h.1, ?_⟩
  rcases h.2 with h2 | ⟨g, cap, cur, rfl, hb', r⟩
  · exact .inl h2
  · exact .inr ⟨g, cap, cur, rfl, by omega, r⟩
theorem OwnV.of_new (f : Fit vals k) {n : Nat} (hn : n = l.length) (hl : l.length ≤ maxLen) (hb : base ≤ w.heap.size) : OwnV vals k e base (w.alloc (.cells (l.flatMap vals).toArray e)) (.slice (some ⟨w.heap.size, 0, none⟩) n n) l := by
  subst hn
  refine ⟨flatMap_len f.len l, .inr ⟨w.heap.size, l.length, (l.flatMap vals).toArray, rfl, hb, heap_alloc_new w _, Nat.le_refl _, hl, ?_, ?_⟩⟩
  · rw [List.size_toArray, flatMap_len f.len l]
  · rw [← flatMap_len f.len l, List.take_length]
theorem SlAt.new (f : Fit vals k) {n : Nat} (hn : n = l.length) (hl : l.length ≤ maxLen) : SlAt vals k (w.alloc (.cells (l.flatMap vals).toArray e)) (some ⟨w.heap.size, 0, none⟩) l :=
  (OwnV.sl f (OwnV.of_new (e := e) (base := w.heap.size) f hn hl (Nat.le_refl _))).1
end

theorem SlAt.new1 {α : Type} {vals : α → List Value} {k : Nat} {e : TypeId} {w : World} {l : List α} (f : Fit vals k) (o : Obj) {n : Nat} (hn : n = l.length) (hl : l.length ≤ maxLen) : SlAt vals k ((w.alloc o).alloc (.cells (l.flatMap vals).toArray e)) (some ⟨w.heap.size + 1, 0, none⟩) l := by
  have := SlAt.new (w := w.alloc o) (e := e) f hn hl
  rwa [World.size_alloc] at this
section
variable {α : Type} {vals : α → List Value} {k : Nat} {P : Program} {t e : TypeId} {bytes : Nat}
theorem run_app (w : World) (hel : El P t e k bytes) (f : Fit vals k) (hby : 0 < bytes) (ty : TypeId) {base : Nat} {v : Value} {l : List α} (hown : OwnV vals k e base w v l)
    {A : Option Addr} {m c : Nat} {l2 : List α} (hm : m = l2.length) (hr : SlAt vals k w A l2) (hb : (l.length + l2.length) * bytes ≤ 140737488355328) (hbase : base ≤ w.heap.size) :
    ∃ v' w', (Builtin.append_ #[t, t] ty #[v, .slice A m c]).run P w = .ok v' w' ∧ OwnV vals k e base w' v' (l ++ l2) ∧ w.grownBy w' v.ownBlock ∧ (v'.ownBlock = v.ownBlock ∨ v'.ownBlock = some w.heap.size) := by
  subst hm
  obtain ⟨hsl, i, z, h1, h2, h3, h4, h5⟩ := hel
  have h63 : l.length + l2.length ≤ maxLen := by
    have : (l.length + l2.length) * 1 ≤ (l.length + l2.length) * bytes := Nat.mul_le_mul_left _ hby
    unfold maxLen
    omega
  rcases A with _ | ad
  · have h0 : l2 = [] := by
      cases hl2 : l2 with
      | nil => rfl
      | cons y ys =>
        obtain ⟨b, o, hA, _⟩ := hr (by rw [hl2]; simp)
        cases hA
    subst h0
    refine ⟨v, w, ?_, by simpa using hown, World.grownBy.refl w _, .inl rfl⟩
    rcases hown.2 with ⟨rfl, _⟩ | ⟨g, cap, cur, rfl, _, _, hnc, _⟩
    · simp [Builtin.append_, run_underlying hsl, sizeOf, typeInfo, h1, Builtin.lenOf, Builtin.firstCells]
    · simp [Builtin.append_, run_underlying hsl, sizeOf, typeInfo, h1, Builtin.lenOf, Builtin.firstCells, hnc, storeCells]
  · have hlen := flatMap_len f.len l2
    have hcells : ∀ j u, (l2.flatMap vals)[j]? = some u → w.cell? (ad.add j) = some u := by
      intro j u hu
      have hj : j < l2.length * k := by rw [← hlen]; exact (List.getElem?_eq_some_iff.1 hu).1
      have hne : l2 ≠ [] := by rintro rfl; simp at hj
      obtain ⟨b, o, hA, hbl, hc⟩ := hr hne
      injection hA with hA
      subst hA
      have hi : j / k < l2.length := by rw [Nat.div_lt_iff_lt_mul f.pos]; exact hj
      have hjk : j % k < (vals l2[j / k]).length := by rw [f.len]; exact Nat.mod_lt _ f.pos
      have e1 : j / k * k + j % k = j := by rw [Nat.mul_comm]; exact Nat.div_add_mod j k
      have h := flatMap_at f.len l2 (j / k) _ (j % k) _ (List.getElem?_eq_getElem hi) (List.getElem?_eq_getElem hjk)
      rw [e1, hu] at h
      injection h with h
      have hcc := hc (j / k) _ (j % k) _ (List.getElem?_eq_getElem hi) (List.getElem?_eq_getElem hjk)
      rw [← h, Nat.add_assoc, e1] at hcc
      have e2 : ((⟨b, o, none⟩ : Addr).add j) = ⟨b, o + j, none⟩ := by unfold Addr.add; split <;> simp_all
      rw [e2]; exact hcc
    have hone : ∀ u ∈ l2.flatMap vals, u.oneCell' = true := by
      intro u hu
      obtain ⟨x, _, hx⟩ := List.mem_flatMap.1 hu
      exact f.one x u hx
    obtain ⟨v', w', hr1, hr2, hr3, _, hr5⟩ := run_append_own_at (P := P) w base t ty e i z k bytes hsl h1 h2 h3 h4 h5 f.pos v l.length (l.flatMap vals) hown ad l2.length c (l2.flatMap vals) hlen hcells hone h63 hb hbase
    exact ⟨v', w', hr1, by rw [OwnV, List.length_append, List.flatMap_append]; exact hr2, hr3, hr5⟩

theorem wp_app {o : Oper} {a : Act} {w : World} {K : Act → World → Prop} {Q : Exit → Act → World → Prop} (s x : Operand) (ho : o.op = .call { callee := .builtin .append, args := #[s, x], argTypes := #[t, t] })
    (hel : El P t e k bytes) (f : Fit vals k) (hby : 0 < bytes) {base : Nat} {v : Value} {l : List α} (hown : OwnV vals k e base w v l) (hs : a.eval s = v)
    {A : Option Addr} {m c : Nat} {l2 : List α} (hr : SlAt vals k w A l2) (hx : a.eval x = .slice A m c) (hm : m = l2.length) (hb : (l.length + l2.length) * bytes ≤ 140737488355328) (hbase : base ≤ w.heap.size)
    (h : ∀ v' w', OwnV vals k e base w' v' (l ++ l2) → w.grownBy w' v.ownBlock → (v'.ownBlock = v.ownBlock ∨ v'.ownBlock = some w.heap.size) → K (a.put o.dst v') w') : o.wp P a w K Q := by
  obtain ⟨v', w', hrun, h2, h3, h4⟩ := run_app (P := P) w hel f hby o.type hown (c := c) hm hr hb hbase
  unfold Oper.wp execOp
  simp only [ho, resolve, invoke, builtin, Sem.run_bind, Sem.run_pure, Result.andThen_ok, List.map_toArray, List.map_cons, List.map_nil, hs, hx, hrun]
  exact h v' w' h2 h3 h4
theorem wpList_app {ops : Array Oper} {rest : List Oper} {o : Oper} {a : Act} {w : World} {Q : Exit → Act → World → Prop} (hgd : o.guard = none) (s x : Operand) (ho : o.op = .call { callee := .builtin .append, args := #[s, x], argTypes := #[t, t] })
    (hel : El P t e k bytes) (f : Fit vals k) (hby : 0 < bytes) {base : Nat} {v : Value} {l : List α} (hown : OwnV vals k e base w v l) (hs : a.eval s = v)
    {A : Option Addr} {m c : Nat} {l2 : List α} (hr : SlAt vals k w A l2) (hx : a.eval x = .slice A m c) (hm : m = l2.length) (hb : (l.length + l2.length) * bytes ≤ 140737488355328) (hbase : base ≤ w.heap.size)
    (h : ∀ v' w', OwnV vals k e base w' v' (l ++ l2) → w.grownBy w' v.ownBlock → (v'.ownBlock = v.ownBlock ∨ v'.ownBlock = some w.heap.size) → wpList P ops Q rest (a.put o.dst v') w') : wpList P ops Q (o :: rest) a w :=
  wpList_plain hgd fun _ hK => wp_app s x ho hel f hby hown hs hr hx hm hb hbase fun v' w' h2 h3 h4 => hK _ _ (h v' w' h2 h3 h4)
theorem step_app {ops : Array Oper} {o : Oper} {a : Act} {w : World} {K : Act → World → Prop} {Q : Exit → Act → World → Prop} {E : Prop} (hgd : o.guard = none) (s x : Operand) (ho : o.op = .call { callee := .builtin .append, args := #[s, x], argTypes := #[t, t] })
    (hel : El P t e k bytes) (f : Fit vals k) (hby : 0 < bytes) {base : Nat} {v : Value} {l : List α} (hown : OwnV vals k e base w v l) (hs : a.eval s = v)
    {A : Option Addr} {m c : Nat} {l2 : List α} (hr : SlAt vals k w A l2) (hx : a.eval x = .slice A m c) (hm : m = l2.length) (hb : (l.length + l2.length) * bytes ≤ 140737488355328) (hbase : base ≤ w.heap.size)
    (h : ∀ v' w', OwnV vals k e base w' v' (l ++ l2) → w.grownBy w' v.ownBlock → (v'.ownBlock = v.ownBlock ∨ v'.ownBlock = some w.heap.size) → K (a.put o.dst v') w') :
    if Region.wanted o (yielded ops a.tmps) = true then Oper.wp P o a w K Q else E := by
  have hw : Region.wanted o (yielded ops a.tmps) = true := by simp [Region.wanted, hgd]
  rw [if_pos hw]
  exact wp_app s x ho hel f hby hown hs hr hx hm hb hbase h
end

theorem held_grown {w w1 w2 : World} {row : Option Nat} (h : (∀ b o, b < w.heap.size → w1.cell? ⟨b, o, none⟩ = w.cell? ⟨b, o, none⟩) ∧ Kp w w1) (hg : w1.grownBy w2 row) (hr : ∀ g, row = some g → w.heap.size ≤ g) :
    (∀ b o, b < w.heap.size → w2.cell? ⟨b, o, none⟩ = w.cell? ⟨b, o, none⟩) ∧ Kp w w2 :=
  have hk := h.2.grown hg hr
  ⟨fun _ o hb => hk.cell hb o, hk⟩
theorem held_set {w w1 : World} {p : Addr} {u : Value} (h : (∀ b o, b < w.heap.size → w1.cell? ⟨b, o, none⟩ = w.cell? ⟨b, o, none⟩) ∧ Kp w w1) (hp : w.heap.size ≤ p.block) :
    (∀ b o, b < w.heap.size → (w1.setCell p u).cell? ⟨b, o, none⟩ = w.cell? ⟨b, o, none⟩) ∧ Kp w (w1.setCell p u) :=
  have hk := Kp.setCell (u := u) hp h.2
  ⟨fun _ o hb => hk.cell hb o, hk⟩
theorem held_alloc2 {w w1 : World} {o o' : Obj} (h : (∀ b p, b < w.heap.size → (w1.alloc o).cell? ⟨b, p, none⟩ = w.cell? ⟨b, p, none⟩) ∧ Kp w (w1.alloc o)) (hs : w.heap.size ≤ w1.heap.size) :
    (∀ b p, b < w.heap.size → (w1.alloc o').cell? ⟨b, p, none⟩ = w.cell? ⟨b, p, none⟩) ∧ Kp w (w1.alloc o') := by
  have hk : Kp w (w1.alloc o') := ⟨h.2.os, h.2.tape, h.2.output, by rw [World.size_alloc]; omega, fun k hk => by
    have h1 := h.2.block k hk
    rw [Below.heap_alloc w1 o k (by omega)] at h1
    rw [Below.heap_alloc w1 o' k (by omega)]
    exact h1⟩
  exact ⟨fun _ o hb => hk.cell hb o, hk⟩
theorem held_dalloc {w w1 : World} {o : Obj} (h : (∀ b p, b < w.heap.size → w1.drew.cell? ⟨b, p, none⟩ = w.cell? ⟨b, p, none⟩) ∧ Kp w w1.drew) :
    (∀ b p, b < w.heap.size → (w1.alloc o).drew.cell? ⟨b, p, none⟩ = w.cell? ⟨b, p, none⟩) ∧ Kp w (w1.alloc o).drew := held_alloc (o := o) h
theorem row_none {B : Nat} : ∀ g, (none : Option Nat) = some g → B ≤ g := fun _ h => by cases h
theorem row_some {B n : Nat} (h : B ≤ n) : ∀ g, some n = some g → B ≤ g := fun g hg => by injection hg with hg; omega

theorem le_alloc {w : World} {o : Obj} {n : Nat} (h : n ≤ w.heap.size) : n ≤ (w.alloc o).heap.size := by rw [World.size_alloc]; omega
theorem at_app {P : Program} {dst : Option Tmp} {type : TypeId} {pos : String} {after : Array Edge} {guard : Option (Nat × Bool)} {s x : Operand} {t1 t2 : TypeId} {E : Prop} {a : Act} {w : World} {K : Act → World → Prop} {Q : Exit → Act → World → Prop} {ops : Array Oper}
    (h : if Region.wanted ⟨dst, .call ⟨.builtin .append, #[s, x], #[t1, t2]⟩, type, pos, after, guard⟩ (yielded ops a.tmps) = true then Oper.wp P ⟨dst, .call ⟨.builtin .append, #[s, x], #[t1, t2]⟩, type, pos, after, guard⟩ a w K Q else E) :
    if Region.wanted ⟨dst, .call ⟨.builtin .append, #[s, x], #[t1, t2]⟩, type, pos, after, guard⟩ (yielded ops a.tmps) = true then Oper.wp P ⟨dst, .call ⟨.builtin .append, #[s, x], #[t1, t2]⟩, type, pos, after, guard⟩ a w K Q else E := h

/-- Block g, not below lo, holds just these cells. -/
structure Bx (lo : Nat) (w : World) (g : Nat) (cs : Array Value) (e : TypeId) : Prop where
  at_ : w.heap[g]? = some (.cells cs e (0, 0))
  ge : lo ≤ g
section
variable {lo g : Nat} {w w' : World} {cs : Array Value} {e : TypeId}
theorem Bx.here (h : lo ≤ w.heap.size) : Bx lo (w.alloc (.cells cs e)) w.heap.size cs e := ⟨heap_alloc_new w _, h⟩
theorem Bx.lt (h : Bx lo w g cs e) : g < w.heap.size := (Array.getElem?_eq_some_iff.1 h.at_).1
theorem Bx.past (h : Bx lo w g cs e) (o : Obj) : Bx lo (w.alloc o) g cs e := ⟨(Below.heap_alloc w o g h.lt).trans h.at_, h.ge⟩
theorem Bx.drew (h : Bx lo w g cs e) : Bx lo w.drew g cs e := ⟨h.at_, h.ge⟩
theorem Bx.keep (h : Bx lo w g cs e) (hk : Kp w w') : Bx lo w' g cs e := ⟨(Below.block hk g h.lt).trans h.at_, h.ge⟩
theorem Bx.grown {row : Option Nat} (h : Bx lo w g cs e) (hg : w.grownBy w' row) (hr : ∀ k, row = some k → k ≠ g) : Bx lo w' g cs e := ⟨(hg.block g h.lt (fun e => hr g e.symm rfl)).trans h.at_, h.ge⟩
theorem Bx.cell (h : Bx lo w g cs e) (i : Nat) : w.cell? ⟨g, i, none⟩ = cs[i]? := cell_of_row w g i cs e (0, 0) h.at_
theorem Bx.frozen (h : Bx lo w g cs e) : ∀ i, w.frozen? ⟨g, i, none⟩ = false := fun i => by simp [World.frozen?, h.at_]
end
/-- A slice result in new memory. -/
def OutV {α : Type} (vals : α → List Value) (k : Nat) (e : TypeId) (base : Nat) (l : List α) (v : Value) (w' : World) : Prop := OwnV vals k e base w' v l

theorem el_rule : El Try.prog 25 38 7 56 := El.mk' (z := .agg #[.int .i64 0, .int .i64 0, .int .i64 0, .int .i64 0, .int .u64 0, .int .u64 0, .int .u64 0]) Try.underlying25 (by kernel_rfl) rfl

end Go.Proofs.Ytonangdimkgdpaa
