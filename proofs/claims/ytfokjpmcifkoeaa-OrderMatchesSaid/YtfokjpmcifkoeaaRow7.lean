/- A slice of slices of numbers that came in, as the machine of values holds it. No condition. -/
import Derived.Test.YtfokjpmcifkoeaaRow2
import Derived.Test.YtfokjpmcifkoeaaRaw
namespace Go.Proofs.Ytfokjpmcifkoeaa
open Go.ChangeShapes Go.WideShapes Go.ChangeAt Go.RowKit Go.Deep
set_option maxRecDepth 100000 in
theorem conv_int : ∀ cs, AllOk [.int .i64] cs → ∃ y : Int, cs = ival y ∧ i64 y := by
  intro cs h
  rcases h with _ | ⟨⟨a, rfl, wa⟩, _ | _⟩
  exact ⟨a, rfl, wf_bd wa⟩
section
variable {H : Type} {enc : TypeId × Value → H} {P : Program} {w : World} {base : Nat} {spare : Nat → Bool} {held : Bool}
set_option maxRecDepth 100000 in
/-- A slice that came in, as a list. -/
theorem open_listG {α : Type} (vals : α → List Value) (k : Nat) (okA : α → Prop) {t e : TypeId} {fuel : Nat} {v : Value} {x : DataW H × List MemPlace} (hsl : P.underlying t = some (.slice e)) (hC : P.cellsOf e = k) 
    (conv : ∀ n cs x, DataW.trod enc P w base spare held n e cs = some x → ∃ y, cs = vals y ∧ okA y) (hsp : ∀ b, spare b = true) (hpos : 0 < k)
    (hv : ∃ a len cap, v = .slice a len cap) (h : DataW.trod enc P w base spare held fuel t v.cells.toList = some x) :
    ∃ A cap l, v = .slice A (List.length l) cap ∧ l.length ≤ cap ∧ cap ≤ maxLen ∧ SlAt vals k w A l ∧ (∀ y ∈ l, okA y) ∧ (x.1 = .nil ∧ cap = 0 ∨ ∃ el sp, x.1 = .slice el sp ∧ el.length + sp.length = cap) := by
  obtain ⟨a, len, cap, rfl⟩ := hv
  rcases open_slice hsl h with ⟨hcs, hx⟩ | ⟨ad, len', cap', m, n, D, Pl, hcs, hb, hl, hm, hmm, hx, hi⟩
  · simp only [Value.cells, List.cons.injEq, and_true] at hcs
    injection hcs with h1 h2 h3
    subst h1 h2 h3
    exact ⟨none, 0, [], rfl, Nat.le_refl _, by decide, SlAt.nil, fun y hy => by simp at hy, .inl ⟨by rw [hx], rfl⟩⟩
  · simp only [Value.cells, List.cons.injEq, and_true] at hcs
    injection hcs with h1 h2 h3
    subst h1 h2 h3
    rw [if_pos (hsp _)] at hmm
    subst hmm
    have hcell : ∀ i, i < len → ∃ y : α, okA y ∧ ∀ (j : Nat) (u : Value), (vals y)[j]? = some u → w.cell? (ad.add (i * k + j)) = some u := by
      intro i hilt
      obtain ⟨cs', hc, ht⟩ := hi i (by omega)
      obtain ⟨y, hy, hok⟩ := conv _ _ _ ht
      refine ⟨y, hok, fun j u hu => ?_⟩
      obtain ⟨_, hcl, hat⟩ := World.cells?_some hc
      have hj : j < cs'.length := by rw [hy]; exact (List.getElem?_eq_some_iff.1 hu).1
      have := hat j (by rw [← hcl]; exact hj)
      rw [← Go.Deep.add_add, ← hC]
      rw [this, hy]
      exact hu
    by_cases h0 : len = 0
    · subst h0
      exact ⟨some ad, m, [], rfl, Nat.zero_le _, hm, SlAt.nil, fun y hy => by simp at hy, .inr ⟨_, _, by rw [hx], by simp⟩⟩
    · have hinh : Nonempty α := ⟨(hcell 0 (by omega)).choose⟩
      have : Inhabited α := ⟨Classical.choice hinh⟩
      obtain ⟨F, hF⟩ := choose_lt hcell
      have hget : ∀ (i : Nat) (y : α), ((List.range len).map F)[i]? = some y → i < len ∧ y = F i := by
        intro i y hy
        have hi' : i < len := by
          have := (List.getElem?_eq_some_iff.1 hy).1
          simpa using this
        refine ⟨hi', ?_⟩
        simp [hi'] at hy
        exact hy.symm
      have h00 := hF 0 (by omega)
      refine ⟨some ad, m, (List.range len).map F, by simp, by simpa using hl, hm, ?_, ?_, .inr ⟨_, _, by rw [hx], by simp; omega⟩⟩
      · intro _
        obtain ⟨cs', hc, ht⟩ := hi 0 (by omega)
        obtain ⟨y, hy, hok⟩ := conv _ _ _ ht
        obtain ⟨_, hcl, hat⟩ := World.cells?_some hc
        have h1 := hat 0 (by rw [hC]; exact hpos)
        have hlt0 : 0 < cs'.length := by rw [hcl, hC]; exact hpos
        rw [List.getElem?_eq_getElem hlt0] at h1
        have hb1 := World.block_lt_of_cell? _ _ h1
        rw [Nat.zero_mul] at h1 hb1
        obtain ⟨b, o, spot⟩ := ad
        have hspot : spot = none := by simpa [Addr.add] using World.cell?_spot h1
        subst hspot
        refine ⟨b, o, rfl, by simpa [Addr.add] using hb1, fun i y j u hy hu => ?_⟩
        obtain ⟨hilt, rfl⟩ := hget i y hy
        have := (hF i hilt).2 j u hu
        have e2 : ((⟨b, o, none⟩ : Addr).add (i * k + j)) = ⟨b, o + i * k + j, none⟩ := by unfold Addr.add; split <;> simp_all [Nat.add_assoc]
        rw [← e2]; exact this
      · intro y hy
        obtain ⟨i, hi', rfl⟩ := List.mem_map.1 hy
        exact (hF i (by simpa using hi')).1

set_option maxRecDepth 100000 in
/-- A slice argument, as the machine of values holds it. -/
theorem open_argG {α : Type} (vals : α → List Value) (k : Nat) (okA : α → Prop) {r : Reach} {b0 : Nat} {t e : TypeId} {fuel : Nat} {v : Value} {x : DataW H × List MemPlace} (hvk : ∀ y, (vals y).length = k) (hsl : P.underlying t = some (.slice e)) (hC : P.cellsOf e = k)
    (conv : ∀ n cs x, DataW.trod enc P w base spare held n e cs = some x → ∃ y, cs = vals y ∧ okA y) (hsp : ∀ b, spare b = true) (hpos : 0 < k)
    (hv : Value.okWide P w r b0 t v) (h : DataW.trod enc P w base spare held fuel t v.cells.toList = some x) :
    ∃ (cap : Nat) (l : List α), l.length ≤ cap ∧ (∀ y ∈ l, okA y) ∧ Pv.RepS (fun _ => .ext) (fun _ => 0) w (.sl none .no k (l.map vals)) v ∧ (x.1 = .nil ∧ cap = 0 ∨ ∃ el sp, x.1 = .slice el sp ∧ el.length + sp.length = cap) := by
  obtain ⟨A, cap, l, rfl, h1, h2, h3, h4, h5⟩ := open_listG vals k okA hsl hC conv hsp hpos (okWide_slice hsl hv) h
  obtain ⟨o1, o2⟩ := okWide_sl hsl hv
  refine ⟨cap, l, h1, h4, ⟨A, l.length, cap, rfl, by simp, h1, h2, fun e he => ?_, o1, fun ad had => ?_, trivial, .inl rfl⟩, h5⟩
  · obtain ⟨y, _, rfl⟩ := List.mem_map.1 he
    exact hvk y
  · obtain ⟨p1, p2⟩ := o2 ad had
    refine ⟨p1, p2, rfl, .inl rfl, fun i j e u he hu => ?_⟩
    rw [List.getElem?_map] at he
    cases hy : l[i]? with
    | none => rw [hy] at he; cases he
    | some y =>
      rw [hy] at he
      injection he with he
      subst he
      obtain ⟨b, o, hA, _, hc⟩ := h3 (by rintro rfl; simp at hy)
      rw [had] at hA
      injection hA with hA
      subst hA
      exact hc i y j u hy hu

/-- A row: it reads, or it has no room. -/
def RowIn (w : World) (u : Value) : Prop := (∃ r : List Int, Pv.RepS (fun _ => .ext) (fun _ => 0) w (.sl none .no 1 (r.map ival)) u) ∨ ∃ ad, u = .slice (some ad) 0 0
set_option maxRecDepth 100000 in
theorem open_row {t e : TypeId} {fuel : Nat} {cs : List Value} {x : DataW H × List MemPlace} (hsl : P.underlying t = some (.slice e)) (hC : P.cellsOf e = 1) (hls : leaves P 5 e = some [.int .i64]) (hsp : ∀ b, spare b = true) (h : DataW.trod enc P w base spare held fuel t cs = some x) :
    ∃ u, cs = [u] ∧ RowIn w u := by
  rcases open_slice hsl h with ⟨hcs, hx⟩ | ⟨ad, len, cap, m, n, D, Pl, hcs, hb, hl, hm, hmm, hx, hi⟩
  · exact ⟨_, hcs, .inl ⟨[], none, 0, 0, rfl, Pv.SlOk.toNil _ _ _⟩⟩
  · refine ⟨_, hcs, ?_⟩
    rw [if_pos (hsp _)] at hmm
    subst hmm
    by_cases h0 : m = 0
    · subst h0
      obtain rfl : len = 0 := by omega
      exact .inr ⟨ad, rfl⟩
    · left
      have hh : DataW.trod enc P w base spare held fuel t (Value.slice (some ad) len m).cells.toList = some x := by rw [hcs] at h; exact h
      obtain ⟨A, cap, l, hv, h1, h2, h3, h4, h5⟩ := open_list ival 1 i64 hsl hC hls conv_int hsp (by decide) ⟨_, _, _, rfl⟩ hh
      injection hv with e1 e2 e3
      subst e1 e3
      have hplace : ad.spot = none ∧ ad.block < w.heap.size := by
        obtain ⟨cs', hc, ht⟩ := hi 0 (by omega)
        obtain ⟨_, hcl, hat⟩ := World.cells?_some hc
        have q1 := hat 0 (by rw [hC]; decide)
        have hlt0 : 0 < cs'.length := by rw [hcl, hC]; decide
        rw [List.getElem?_eq_getElem hlt0] at q1
        have hb1 := World.block_lt_of_cell? _ _ q1
        rw [Nat.zero_mul] at q1 hb1
        obtain ⟨b, o, spot⟩ := ad
        exact ⟨by simpa [Addr.add] using World.cell?_spot q1, by simpa [Addr.add] using hb1⟩
      refine ⟨l, some ad, len, m, rfl, by rw [List.length_map]; exact e2, by omega, h2, fun e he => ?_, (fun h => by cases h), fun ad' had => ?_, trivial, .inl rfl⟩
      · obtain ⟨y, _, rfl⟩ := List.mem_map.1 he
        rfl
      · injection had with had
        subst had
        refine ⟨hplace.1, hplace.2, rfl, .inl rfl, fun i j e u he hu => ?_⟩
        rw [List.getElem?_map] at he
        cases hy : l[i]? with
        | none => rw [hy] at he; cases he
        | some y =>
          rw [hy] at he
          injection he with he
          subst he
          obtain ⟨b, o, hA, _, hc⟩ := h3 (by rintro rfl; simp at hy)
          injection hA with hA
          subst hA
          exact hc i y j u hy hu
set_option maxRecDepth 100000 in
/-- A graph that came in. -/
theorem open_graph {r : Reach} {b0 : Nat} {t ti e : TypeId} {fuel : Nat} {v : Value} {x : DataW H × List MemPlace} (ht : P.underlying t = some (.slice ti)) (hti : P.underlying ti = some (.slice e)) (hC1 : P.cellsOf ti = 1) (hC : P.cellsOf e = 1) (hls : leaves P 5 e = some [.int .i64]) (hsp : ∀ b, spare b = true)
    (hv : Value.okWide P w r b0 t v) (h : DataW.trod enc P w base spare held fuel t v.cells.toList = some x) :
    ∃ (L : List Value) (m : List (Value × List (List Value))) (g : List (List Int)), RawG L m g ∧ Pv.RepS (fun _ => .ext) (fun _ => 0) w (.sl none .no 1 (hd1 L)) v ∧ ∀ p ∈ m, Pv.RepS (fun _ => .ext) (fun _ => 0) w (.sl none .no 1 p.2) p.1 := by
  obtain ⟨cap, L, h1, h2, h3, _⟩ := open_argG (fun u : Value => [u]) 1 (RowIn w) (fun _ => rfl) ht hC1 (fun n cs x hx => open_row hti hC hls hsp hx) hsp (by decide) hv h
  have key : ∀ L : List Value, (∀ y ∈ L, RowIn w y) → ∃ (m : List (Value × List (List Value))) (g : List (List Int)), RawG L m g ∧ ∀ p ∈ m, Pv.RepS (fun _ => .ext) (fun _ => 0) w (.sl none .no 1 p.2) p.1 := by
    intro L
    induction L with
    | nil => exact fun _ => ⟨[], [], ⟨rfl, fun i v r hv => by simp at hv⟩, fun p hp => by cases hp⟩
    | cons u L ih =>
      intro hL
      obtain ⟨m, g, hr, hm⟩ := ih fun y hy => hL y (List.mem_cons_of_mem _ hy)
      rcases hL u (List.mem_cons_self ..) with ⟨r0, hr0⟩ | ⟨ad, rfl⟩
      · refine ⟨(u, r0.map ival) :: m, r0 :: g, ⟨by simp [hr.len], fun i v r hv hg => ?_⟩, fun p hp => ?_⟩
        · cases i with
          | zero =>
            simp only [List.getElem?_cons_zero, Option.some.injEq] at hv hg
            subst hv hg
            exact .inl (List.mem_cons_self ..)
          | succ i =>
            rcases hr.at_ i v r (by simpa using hv) (by simpa using hg) with h | h
            · exact .inl (List.mem_cons_of_mem _ h)
            · exact .inr h
        · rcases List.mem_cons.1 hp with rfl | hp
          · exact hr0
          · exact hm p hp
      · refine ⟨m, [] :: g, ⟨by simp [hr.len], fun i v r hv hg => ?_⟩, hm⟩
        cases i with
        | zero =>
          simp only [List.getElem?_cons_zero, Option.some.injEq] at hv hg
          subst hv hg
          exact .inr ⟨rfl, ad, rfl⟩
        | succ i => exact hr.at_ i v r (by simpa using hv) (by simpa using hg)
  obtain ⟨m, g, hr, hm⟩ := key L h2
  exact ⟨L, m, g, hr, h3, hm⟩
end
end Go.Proofs.Ytfokjpmcifkoeaa
