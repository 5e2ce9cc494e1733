/- From a walk that returns true and keeps old memory to the row's post; what the arguments read as, in leaves. -/
import Derived.Test.YtonangdimkgdpaaD
import Derived.WalkKit
import Derived.Below
import Derived.Deep.DeepCutAuto
import Derived.ProofKit
import Derived.OpenShut
import Derived.ShutString
import Derived.ChangeOld
import Derived.Deep.Slices
namespace Go.Proofs.Ytonangdimkgdpaa
open Go.ChangeShapes Go.WideShapes Go.ChangeAt Go.RowKit Go.Deep

set_option maxRecDepth 100000 in
theorem own : ownKnob Try.prog.godebug = none := by kernel_rfl
set_option maxRecDepth 100000 in
theorem laidOut : laidOutB Try.prog = true := by kernel_rfl

/-- A slice that reads as the list l; each element lies in k cells, 'vals' of it. -/
def SlAt {α : Type} (vals : α → List Value) (k : Nat) (w : World) (A : Option Addr) (l : List α) : Prop :=
  l ≠ [] → ∃ b o, A = some ⟨b, o, none⟩ ∧ b < w.heap.size ∧ ∀ (i : Nat) (x : α) (j : Nat) (u : Value), l[i]? = some x → (vals x)[j]? = some u → w.cell? ⟨b, o + i * k + j, none⟩ = some u
set_option maxRecDepth 100000 in
theorem SlAt.nil {α : Type} {vals : α → List Value} {k : Nat} {w : World} {A : Option Addr} : SlAt vals k w A ([] : List α) := fun h => absurd rfl h
/-! ### leaves: the cells of a type that holds no pointer, slice or map -/
inductive Leaf where
  | int (k : IntKind)
  | bool
  | str
def Leaf.ok : Leaf → Value → Prop
  | .int k, v => ∃ n, v = .int k n ∧ (Lit.int k n).wf = true
  | .bool, v => ∃ b, v = .bool b
  | .str, v => ∃ s, v = .string s ∧ s.size ≤ maxLen
/-- The fields of a struct lie one behind the other, and fill it. -/
def dense (P : Program) : Nat → List Field → Option Nat
  | n, [] => some n
  | n, fld :: fs => if fld.offset = n then dense P (n + P.cellsOf fld.type) fs else none
def leavesAll (g : TypeId → Option (List Leaf)) : List Field → Option (List Leaf)
  | [] => some []
  | fld :: fs => match g fld.type, leavesAll g fs with | some a, some b => some (a ++ b) | _, _ => none
/-- The leaves of a type, in order; none: it holds something else. -/
def leaves (P : Program) : Nat → TypeId → Option (List Leaf)
  | 0, _ => none
  | f + 1, t =>
    match P.underlying t with
    | some .bool => some [.bool]
    | some (.int k) => some [.int k]
    | some .string => some [.str]
    | some (.struct fs) => if dense P 0 fs.toList = some (P.cellsOf t) then leavesAll (leaves P f) fs.toList else none
    | _ => none
inductive AllOk : List Leaf → List Value → Prop
  | nil : AllOk [] []
  | cons {l : Leaf} {v : Value} {ls : List Leaf} {vs : List Value} : l.ok v → AllOk ls vs → AllOk (l :: ls) (v :: vs)
set_option maxRecDepth 100000 in
theorem AllOk.append {a c : List Leaf} {b d : List Value} (h : AllOk a b) (k : AllOk c d) : AllOk (a ++ c) (b ++ d) := by
  induction h with
  | nil => exact k
  | cons h1 _ ih => exact .cons h1 ih

set_option maxRecDepth 100000 in
theorem AllOk.len {a : List Leaf} {b : List Value} (h : AllOk a b) : b.length = a.length := by
  induction h with
  | nil => rfl
  | cons _ _ ih => simp [ih]
section
variable {H : Type} {enc : TypeId × Value → H} {P : Program} {w : World} {base : Nat} {spare : Nat → Bool} {held : Bool}
set_option maxRecDepth 100000 in
theorem fields_ok {n : Nat} {g : TypeId → Option (List Leaf)} {cs : List Value} (ih : ∀ (t : TypeId) (ls : List Leaf) (cs : List Value) (x : DataW H × List MemPlace), g t = some ls → DataW.trod enc P w base spare held n t cs = some x → AllOk ls cs) :
    ∀ (L : List Field) (o : Nat) (ls : List Leaf), dense P o L = some cs.length → leavesAll g L = some ls → (∀ fld ∈ L, ∃ y, DataW.trod enc P w base spare held n fld.type ((cs.drop fld.offset).take (P.cellsOf fld.type)) = some y) → AllOk ls (cs.drop o) := by
  intro L
  induction L with
  | nil =>
    intro o ls hd hl _
    simp only [dense, Option.some.injEq] at hd
    simp only [leavesAll, Option.some.injEq] at hl
    subst hl
    rw [hd, List.drop_length]
    exact .nil
  | cons fld L ihL =>
    intro o ls hd hl hr
    rw [dense] at hd
    split at hd
    · rename_i ho
      rw [leavesAll] at hl
      split at hl
      · rename_i a b ha hb
        injection hl with hl
        subst hl
        obtain ⟨y, hy⟩ := hr fld (by simp)
        have h1 := ih _ _ _ _ ha hy
        have h2 := ihL _ _ hd hb (fun f hf => hr f (by simp [hf]))
        rw [ho] at h1
        have := h1.append h2
        rwa [← List.drop_drop, List.take_append_drop] at this
      · cases hl
    · cases hd
set_option maxRecDepth 100000 in
theorem leaves_ok : ∀ (f n : Nat) (t : TypeId) (ls : List Leaf) (cs : List Value) (x : DataW H × List MemPlace), leaves P f t = some ls → DataW.trod enc P w base spare held n t cs = some x → AllOk ls cs := by
  intro f
  induction f with
  | zero => intro n t ls cs x h; simp [leaves] at h
  | succ f ih =>
    intro n t ls cs x h hx
    rw [leaves] at h
    split at h
    · rename_i hu
      injection h with h
      subst h
      obtain ⟨b, rfl, _⟩ := DataW.trod_bool hu hx
      exact .cons ⟨b, rfl⟩ .nil
    · rename_i k hu
      injection h with h
      subst h
      obtain ⟨m, rfl, _, hw⟩ := DataW.trod_int hu hx
      exact .cons ⟨m, rfl, hw⟩ .nil
    · rename_i hu
      injection h with h
      subst h
      obtain ⟨s, rfl, _, hw⟩ := DataW.trod_string hu hx
      exact .cons ⟨s, rfl, hw⟩ .nil
    · rename_i fs hu
      split at h
      · rename_i hd
        obtain ⟨xs, m, _, _, hlen, hxl, hg⟩ := DataW.trod_struct hu hx
        have := fields_ok (enc := enc) (w := w) (base := base) (spare := spare) (held := held) (n := m) (cs := cs) (fun t ls cs x => ih m t ls cs x) fs.toList 0 ls (by rw [hlen]; exact hd) h (fun fld hf => by
          obtain ⟨i, hi, he⟩ := List.mem_iff_getElem.1 hf
          have hi' : i < fs.size := by simpa using hi
          have h1 := hg i fld (by rw [← Array.getElem?_toList, List.getElem?_eq_getElem hi, he])
          rw [List.getElem?_eq_getElem (by omega)] at h1
          exact ⟨_, h1⟩)
        simpa using this
      · cases h
    · cases h

set_option maxRecDepth 100000 in
/-- A slice that came in, as a list. -/
theorem open_list {α : Type} (vals : α → List Value) (k : Nat) (okA : α → Prop) {t e : TypeId} {ls : List Leaf} {f fuel : Nat} {v : Value} {x : DataW H × List MemPlace} (hsl : P.underlying t = some (.slice e)) (hC : P.cellsOf e = k) (hls : leaves P f e = some ls)
    (conv : ∀ cs, AllOk ls cs → ∃ y, cs = vals y ∧ okA y) (hsp : ∀ b, spare b = true) (hpos : 0 < k)
    (hv : ∃ a len cap, v = .slice a len cap) (h : DataW.trod enc P w base spare held fuel t v.cells.toList = some x) :
    ∃ A cap l, v = .slice A (List.length l) cap ∧ l.length ≤ cap ∧ cap ≤ maxLen ∧ SlAt vals k w A l ∧ (∀ y ∈ l, okA y) ∧ (x.1 = .nil ∧ cap = 0 ∨ ∃ el sp, x.1 = .slice el sp ∧ el.length + sp.length = cap) := by
  obtain ⟨a, len, cap, rfl⟩ := hv
  rcases open_slice hsl h with ⟨hcs, hx⟩ | ⟨ad, len', cap', m, n, D, Pl, hcs, hb, hl, hm, hmm, hx, hi⟩
  · simp only [Value.cells, List.cons.injEq, and_true] at hcs
    injection hcs with h1 h2 h3
    subst h1 h2 h3
    exact ⟨none, 0, [], rfl, Nat.le_refl _, by decide, SlAt.nil, fun y hy => by simp at hy, .inl ⟨by rw [hx], rfl⟩⟩
  · simp only [Value.cells, List.cons.injEq, and_true] at hcs
    injection hcs with h1 h2 h3
    subst h1 h2 h3
    rw [if_pos (hsp _)] at hmm
    subst hmm
    have hcell : ∀ i, i < len → ∃ y : α, okA y ∧ ∀ (j : Nat) (u : Value), (vals y)[j]? = some u → w.cell? (ad.add (i * k + j)) = some u := by
      intro i hilt
      obtain ⟨cs', hc, ht⟩ := hi i (by omega)
      obtain ⟨y, hy, hok⟩ := conv _ (leaves_ok f _ _ _ _ _ hls ht)
      refine ⟨y, hok, fun j u hu => ?_⟩
      obtain ⟨_, hcl, hat⟩ := World.cells?_some hc
      have hj : j < cs'.length := by rw [hy]; exact (List.getElem?_eq_some_iff.1 hu).1
      have := hat j (by rw [← hcl]; exact hj)
      rw [← Go.Deep.add_add, ← hC]
      rw [this, hy]
      exact hu
    by_cases h0 : len = 0
    · subst h0
      exact ⟨some ad, m, [], rfl, Nat.zero_le _, hm, SlAt.nil, fun y hy => by simp at hy, .inr ⟨_, _, by rw [hx], by simp⟩⟩
    · have hinh : Nonempty α := ⟨(hcell 0 (by omega)).choose⟩
      have : Inhabited α := ⟨Classical.choice hinh⟩
      obtain ⟨F, hF⟩ := choose_lt hcell
      have hget : ∀ (i : Nat) (y : α), ((List.range len).map F)[i]? = some y → i < len ∧ y = F i := by
        intro i y hy
        have hi' : i < len := by
          have := (List.getElem?_eq_some_iff.1 hy).1
          simpa using this
        refine ⟨hi', ?_⟩
        simp [hi'] at hy
        exact hy.symm
      have h00 := hF 0 (by omega)
      refine ⟨some ad, m, (List.range len).map F, by simp, by simpa using hl, hm, ?_, ?_, .inr ⟨_, _, by rw [hx], by simp; omega⟩⟩
      · intro _
        obtain ⟨cs', hc, ht⟩ := hi 0 (by omega)
        obtain ⟨y, hy, hok⟩ := conv _ (leaves_ok f _ _ _ _ _ hls ht)
        obtain ⟨_, hcl, hat⟩ := World.cells?_some hc
        have h1 := hat 0 (by rw [hC]; exact hpos)
        have hlt0 : 0 < cs'.length := by rw [hcl, hC]; exact hpos
        rw [List.getElem?_eq_getElem hlt0] at h1
        have hb1 := World.block_lt_of_cell? _ _ h1
        rw [Nat.zero_mul] at h1 hb1
        obtain ⟨b, o, spot⟩ := ad
        have hspot : spot = none := by simpa [Addr.add] using World.cell?_spot h1
        subst hspot
        refine ⟨b, o, rfl, by simpa [Addr.add] using hb1, fun i y j u hy hu => ?_⟩
        obtain ⟨hilt, rfl⟩ := hget i y hy
        have := (hF i hilt).2 j u hu
        have e2 : ((⟨b, o, none⟩ : Addr).add (i * k + j)) = ⟨b, o + i * k + j, none⟩ := by unfold Addr.add; split <;> simp_all [Nat.add_assoc]
        rw [← e2]; exact this
      · intro y hy
        obtain ⟨i, hi', rfl⟩ := List.mem_map.1 hy
        exact (hF i (by simpa using hi')).1

set_option maxRecDepth 100000 in
/-- What the claim's typing says of a slice. -/
theorem okWide_sl {r : Reach} {b0 : Nat} {t e : TypeId} {A : Option Addr} {n c : Nat} (hsl : P.underlying t = some (.slice e)) (h : Value.okWide P w r b0 t (.slice A n c)) : (A = none → n = 0 ∧ c = 0) ∧ ∀ ad, A = some ad → ad.spot = none ∧ ad.block < w.heap.size := by
  simp only [Value.okWide, hsl, Cell.okWide] at h
  cases A with
  | none =>
    refine ⟨fun _ => ?_, fun ad h => by cases h⟩
    cases n <;> cases c <;> simp_all [Cell.ok]
  | some ad =>
    refine ⟨fun h => (by cases h), fun ad' h' => ?_⟩
    injection h' with h'
    subst h'
    simp only [Cell.ok, hsl] at h
    obtain ⟨_, _, _, h1, row, cells, h2, _⟩ := h
    refine ⟨h1, ?_⟩
    unfold World.shape? at h2
    apply Classical.byContradiction
    intro hn
    rw [Array.getElem?_eq_none (by omega)] at h2
    simp at h2
set_option maxRecDepth 100000 in
/-- A slice argument, as the machine of values holds it. -/
theorem open_arg {α : Type} (vals : α → List Value) (k : Nat) (okA : α → Prop) {r : Reach} {b0 : Nat} {t e : TypeId} {ls : List Leaf} {f fuel : Nat} {v : Value} {x : DataW H × List MemPlace} (hvk : ∀ y, (vals y).length = k) (hsl : P.underlying t = some (.slice e)) (hC : P.cellsOf e = k) (hls : leaves P f e = some ls)
    (conv : ∀ cs, AllOk ls cs → ∃ y, cs = vals y ∧ okA y) (hsp : ∀ b, spare b = true) (hpos : 0 < k)
    (hv : Value.okWide P w r b0 t v) (h : DataW.trod enc P w base spare held fuel t v.cells.toList = some x) :
    ∃ (cap : Nat) (l : List α), l.length ≤ cap ∧ (∀ y ∈ l, okA y) ∧ Pv.RepS (fun _ => .ext) (fun _ => 0) w (.sl none .no k (l.map vals)) v ∧ (x.1 = .nil ∧ cap = 0 ∨ ∃ el sp, x.1 = .slice el sp ∧ el.length + sp.length = cap) := by
  obtain ⟨A, cap, l, rfl, h1, h2, h3, h4, h5⟩ := open_list vals k okA hsl hC hls conv hsp hpos (okWide_slice hsl hv) h
  obtain ⟨o1, o2⟩ := okWide_sl hsl hv
  refine ⟨cap, l, h1, h4, ⟨A, l.length, cap, rfl, by simp, h1, h2, fun e he => ?_, o1, fun ad had => ?_, trivial, .inl rfl⟩, h5⟩
  · obtain ⟨y, _, rfl⟩ := List.mem_map.1 he
    exact hvk y
  · obtain ⟨p1, p2⟩ := o2 ad had
    refine ⟨p1, p2, rfl, .inl rfl, fun i j e u he hu => ?_⟩
    rw [List.getElem?_map] at he
    cases hy : l[i]? with
    | none => rw [hy] at he; cases he
    | some y =>
      rw [hy] at he
      injection he with he
      subst he
      obtain ⟨b, o, hA, _, hc⟩ := h3 (by rintro rfl; simp at hy)
      rw [had] at hA
      injection hA with hA
      subst hA
      exact hc i y j u hy hu

set_option maxRecDepth 100000 in
/-- A struct that came in by value. -/
theorem open_struct {α : Type} (vals : α → List Value) (okA : α → Prop) {r : Reach} {b0 : Nat} {t : TypeId} {fs : Array Field} {ls : List Leaf} {f fuel : Nat} {v : Value} {x : DataW H × List MemPlace} (hst : P.underlying t = some (.struct fs)) (hls : leaves P f t = some ls)
    (conv : ∀ cs, AllOk ls cs → ∃ y, cs = vals y ∧ okA y) (hv : Value.okWide P w r b0 t v) (h : DataW.trod enc P w base spare held fuel t v.cells.toList = some x) : ∃ y, v = .agg (vals y).toArray ∧ okA y := by
  obtain ⟨cs, rfl, _⟩ := okWide_struct hst hv
  obtain ⟨y, hy, hok⟩ := conv _ (leaves_ok f _ _ _ _ _ hls h)
  refine ⟨y, ?_, hok⟩
  have : cs.toList = vals y := hy
  rw [← this]
end

/-! ### from leaves to the data -/
set_option maxRecDepth 100000 in
theorem wf_bd {n : Int} (h : (Lit.int .i64 n).wf = true) : i64 n := by
  simp [Lit.wf, IntKind.min, IntKind.max, IntKind.signed, IntKind.bits] at h
  exact h
set_option maxRecDepth 100000 in
theorem wf_u64n {n : Int} (h : (Lit.int .u64 n).wf = true) : ∃ m : Nat, n = m ∧ m < 18446744073709551616 := by
  simp [Lit.wf, IntKind.min, IntKind.max, IntKind.signed, IntKind.bits] at h
  exact ⟨n.toNat, by omega, by omega⟩
set_option maxRecDepth 100000 in
theorem conv_ref : ∀ cs, AllOk [.int .i64, .int .i64] cs → ∃ y : Ref, cs = y.vals ∧ y.ok := by
  intro cs h
  rcases h with _ | ⟨⟨a, rfl, wa⟩, _ | ⟨⟨b, rfl, wb⟩, _ | _⟩⟩
  exact ⟨⟨a, b⟩, rfl, ⟨wf_bd wa, wf_bd wb⟩⟩
set_option maxRecDepth 100000 in
theorem conv_rights : ∀ cs, AllOk [.int .u64, .int .u64, .int .u64] cs → ∃ y : Rights, cs = y.vals ∧ y.ok := by
  intro cs h
  rcases h with _ | ⟨⟨a, rfl, wa⟩, _ | ⟨⟨b, rfl, wb⟩, _ | ⟨⟨c, rfl, wc⟩, _ | _⟩⟩⟩
  obtain ⟨a, rfl, ha⟩ := wf_u64n wa
  obtain ⟨b, rfl, hb⟩ := wf_u64n wb
  obtain ⟨c, rfl, hc⟩ := wf_u64n wc
  exact ⟨⟨a, b, c⟩, rfl, ⟨ha, hb, hc⟩⟩
set_option maxRecDepth 100000 in
theorem conv_rect : ∀ cs, AllOk [.int .i64, .int .i64, .int .i64, .int .i64] cs → ∃ y : Rect, cs = y.vals ∧ y.ok := by
  intro cs h
  rcases h with _ | ⟨⟨a, rfl, wa⟩, _ | ⟨⟨b, rfl, wb⟩, _ | ⟨⟨c, rfl, wc⟩, _ | ⟨⟨d, rfl, wd⟩, _ | _⟩⟩⟩⟩
  exact ⟨⟨a, b, c, d⟩, rfl, ⟨wf_bd wa, wf_bd wb, wf_bd wc, wf_bd wd⟩⟩
set_option maxRecDepth 100000 in
theorem conv_rule : ∀ cs, AllOk [.int .i64, .int .i64, .int .i64, .int .i64, .int .u64, .int .u64, .int .u64] cs → ∃ y : Rule, cs = y.vals ∧ y.ok := by
  intro cs h
  rcases h with _ | ⟨⟨a, rfl, wa⟩, _ | ⟨⟨b, rfl, wb⟩, _ | ⟨⟨c, rfl, wc⟩, _ | ⟨⟨d, rfl, wd⟩, _ | ⟨⟨e, rfl, we⟩, _ | ⟨⟨f, rfl, wf⟩, _ | ⟨⟨g, rfl, wg⟩, _ | _⟩⟩⟩⟩⟩⟩⟩
  obtain ⟨e, rfl, he⟩ := wf_u64n we
  obtain ⟨f, rfl, hf⟩ := wf_u64n wf
  obtain ⟨g, rfl, hg⟩ := wf_u64n wg
  exact ⟨⟨⟨a, b, c, d⟩, ⟨e, f, g⟩⟩, rfl, ⟨⟨wf_bd wa, wf_bd wb, wf_bd wc, wf_bd wd⟩, ⟨he, hf, hg⟩⟩⟩

end Go.Proofs.Ytonangdimkgdpaa
