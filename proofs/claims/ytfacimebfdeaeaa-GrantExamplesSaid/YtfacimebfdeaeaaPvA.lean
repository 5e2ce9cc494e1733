/- A machine of values: what the walks of this seat are laid on. A slice is the list of its elements' cells, a struct variable is a box of cells; no address is seen. No condition. -/
import Derived.WalkKit
import Derived.WalkSpells
import Derived.WalkLawsBesides
import Derived.Below
import Derived.Still
import Derived.Deep.LoopGhost
import Derived.Deep.MidRow
import Derived.KernelRfl
import Derived.TacticsIn
namespace Go.Proofs.Ytfacimebfdeaeaa.Pv
open Go Go.RowKit
/-- What a block is for. -/
inductive BTag where
  | ext
  | box (id : Nat)
  | row (τ : Nat)
  | obj (g : Nat)
  | free
/-- May a slice be appended to? full: its length is its capacity; front: it ends where its row's known part ends. -/
inductive App where
  | no
  | full
  | front (e : TypeId)
/-- A cell of an element: a value, or a slice whose header is not known. -/
inductive EV where
  | v (x : Value)
  | sl (k : Nat) (els : List (List Value))
/-- Plain values: a Go value without memory; a slice that reads as these elements; the nil slice; a slice whose elements hold slices (of the tags rts; uq: no two of them share a block); a struct that holds slices. -/
inductive SV where
  | v (x : Value)
  | nil
  | sl (tag : Option Nat) (app : App) (k : Nat) (els : List (List Value))
  | nsl (tag : Option Nat) (rts : List (Option Nat)) (uq : Bool) (k : Nat) (els : List (List EV))
  | ag (rts : List (Option Nat)) (e : List EV)
/-- A slice whose place is known: block and offset, room, elements. -/
structure NRow where
  A : Option (Nat × Nat)
  cap : Nat
  els : List (List Value)
def NRow.hdr (r : NRow) : Value := .slice (r.A.map fun p => ⟨p.1, p.2, none⟩) r.els.length r.cap
def NRow.blk (r : NRow) : Option Nat := r.A.map (·.1)
/-- What a slot holds. -/
inductive PV where
  | any
  | s (x : SV)
  | tup (xs : List SV)
  | box (id off : Nat)
  | elp (tag : Option Nat) (k : Nat) (els : List (List Value)) (i j : Nat)
  | bsl (id off k n : Nat)
  | hd (v : Value) (x : SV)
  | hs (v : Value) (id off k n : Nat)
  | hb (v : Value) (id off : Nat)
  | kept (b : Nat) (o : Obj)
  | clo (f : FuncId) (caps : List (Nat × Nat))
  | old (W : World) (B : List Nat)
  | hds (tag : Option Nat) (k : Nat) (l : List (Value × List (List Value)))
  | nest (g k : Nat) (rows : List NRow)
  | nep (tag : Option Nat) (rts : List (Option Nat)) (k : Nat) (els : List (List EV)) (i j : Nat)
/-- Does it point into this box? -/
def PV.isBox (id : Nat) : PV → Bool
  | .box id' _ => Nat.beq id' id
  | .bsl id' _ _ _ => Nat.beq id' id
  | .hs _ id' _ _ _ => Nat.beq id' id
  | .hb _ id' _ => Nat.beq id' id
  | .clo _ caps => caps.any fun c => Nat.beq c.1 id
  | _ => false
/-- What is known of a value, not of a slot: slots from 1000000 on may hold it. -/
def PV.fact : PV → PV
  | .hd v x => .hd v x
  | .hs v id off k n => .hs v id off k n
  | .hb v id off => .hb v id off
  | .kept b o => .kept b o
  | .old W B => .old W B
  | .hds tag k l => .hds tag k l
  | .nest g k rows => .nest g k rows
  | _ => .any
def isV : Operand → Bool
  | .tmp t => Nat.ble 1000000 t
  | _ => false
theorem isBox_box {p : PV} {id off : Nat} (h : p = .box id off) : p.isBox id = true := by subst h; exact Nat.beq_refl _
def ofTag : Option Nat → BTag
  | none => .ext
  | some τ => .row τ

/-- Block b from offset o on reads as these elements of k cells each. -/
def RowAt (w : World) (b o k : Nat) (els : List (List Value)) : Prop :=
  ∀ (i j : Nat) (e : List Value) (u : Value), els[i]? = some e → e[j]? = some u → w.cell? ⟨b, o + i * k + j, none⟩ = some u

/-- The block of a slice of the call's own has room for it. -/
def ShapeOk (w : World) (A : Option Addr) (c k : Nat) : Prop := A = none ∨ ∃ b o cur e, A = some ⟨b, o, none⟩ ∧ w.heap[b]? = some (.cells cur e (0, 0)) ∧ o + c * k ≤ cur.size
def AppOk (w : World) (F : Nat → Nat) (tag : Option Nat) (A : Option Addr) (n c k : Nat) : App → Prop
  | .no => True
  | .full => n = c ∧ (tag ≠ none ∨ A = none)
  | .front _ => (tag ≠ none ∨ A = none) ∧ (n = c ∨ ∃ b o cur e, A = some ⟨b, o, none⟩ ∧ o + n * k = F b ∧ w.heap[b]? = some (.cells cur e (0, 0)) ∧ o + c * k ≤ cur.size)

def SlOk (T : Nat → BTag) (F : Nat → Nat) (w : World) (tag : Option Nat) (app : App) (k : Nat) (els : List (List Value)) (A : Option Addr) (n c : Nat) : Prop :=
  n = els.length ∧ n ≤ c ∧ c ≤ maxLen ∧ (∀ e ∈ els, e.length = k) ∧
  (A = none → n = 0 ∧ c = 0) ∧
  (∀ ad, A = some ad → ad.spot = none ∧ ad.block < w.heap.size ∧ T ad.block = ofTag tag ∧ (tag = none ∨ ad.off + n * k ≤ F ad.block) ∧ RowAt w ad.block ad.off k els) ∧
  AppOk w F tag A n c k app ∧ (tag = none ∨ ShapeOk w A c k)

def EVRep (T : Nat → BTag) (F : Nat → Nat) (w : World) (rts : List (Option Nat)) : EV → Value → Prop
  | .v x, u => u = x
  | .sl k els, u => ∃ tag ∈ rts, ∃ A n c, u = .slice A n c ∧ SlOk T F w tag .no k els A n c
def EVsOk (T : Nat → BTag) (F : Nat → Nat) (w : World) (rts : List (Option Nat)) (els : List (List EV)) (hs : List (List Value)) : Prop :=
  hs.length = els.length ∧ ∀ (i : Nat) (e : List EV) (h : List Value), els[i]? = some e → hs[i]? = some h → e.length = h.length ∧ ∀ (j : Nat) (x : EV) (y : Value), e[j]? = some x → h[j]? = some y → EVRep T F w rts x y
def blkV : Value → Option Nat
  | .slice (some a) _ _ => some a.block
  | _ => none
def RepS (T : Nat → BTag) (F : Nat → Nat) (w : World) : SV → Value → Prop
  | .v x, u => u = x
  | .nil, u => u = .slice none 0 0
  | .sl tag app k els, u => ∃ A n c, u = .slice A n c ∧ SlOk T F w tag app k els A n c
  | .nsl tag rts uq k els, u => ∃ hs A n c, u = .slice A n c ∧ SlOk T F w tag .no k hs A n c ∧ EVsOk T F w rts els hs ∧ (uq = true → ((A.map (·.block)).toList ++ hs.flatten.filterMap blkV).Nodup)
  | .ag rts e, u => ∃ h : List Value, u = .agg h.toArray ∧ EVsOk T F w rts [e] [h]

/-- The elements, when the tags of the slices in them are other ones. -/
theorem EVsOk.map {T T' : Nat → BTag} {F F' : Nat → Nat} {w w' : World} {rts rts' : List (Option Nat)} (f : Option Nat → Option Nat) (hm : ∀ t ∈ rts, f t ∈ rts') (h : ∀ (tag : Option Nat) (k : Nat) (els : List (List Value)) (A : Option Addr) (n c : Nat), tag ∈ rts → SlOk T F w tag .no k els A n c → SlOk T' F' w' (f tag) .no k els A n c) {els : List (List EV)} {hs : List (List Value)} (ho : EVsOk T F w rts els hs) : EVsOk T' F' w' rts' els hs :=
  ⟨ho.1, fun i e y he hy => ⟨(ho.2 i e y he hy).1, fun j a b ha hb => by
    have := (ho.2 i e y he hy).2 j a b ha hb
    cases a with
    | v x => exact this
    | sl k els =>
      obtain ⟨tag, hm', A, n, c, hu, hs⟩ := this
      exact ⟨f tag, hm tag hm', A, n, c, hu, h tag k els A n c hm' hs⟩⟩⟩
/-- A slice of n elements of k cells over the box id from its cell off on. -/
def BslOk (T : Nat → BTag) (ρ : Nat → Nat × Nat) (w : World) (id off k n : Nat) (u : Value) : Prop :=
  (u = .slice none 0 0 ∧ n = 0) ∨ ∃ c cur e, n ≤ c ∧ c ≤ maxLen ∧ u = .slice (some ⟨(ρ id).1, (ρ id).2 + off, none⟩) n c ∧ (ρ id).1 < w.heap.size ∧ T (ρ id).1 = .box id ∧ w.heap[(ρ id).1]? = some (.cells cur e (0, 0)) ∧ (ρ id).2 + off + c * k ≤ cur.size ∧ (n = c ∨ (ρ id).2 + off + c * k ≤ cur.size)
/-- The slice of a nest lies in a block of its group. -/
def NRowOk (T : Nat → BTag) (w : World) (g k : Nat) (r : NRow) : Prop :=
  (∀ x ∈ r.els, x.length = k) ∧ r.els.length ≤ r.cap ∧ r.cap ≤ maxLen ∧ ((r.A = none ∧ r.cap = 0) ∨ ∃ b o cur e, r.A = some (b, o) ∧ T b = .obj (g + 1) ∧ w.heap[b]? = some (.cells cur e (0, 0)) ∧ o + r.cap * k ≤ cur.size ∧ RowAt w b o k r.els)
def NestOk (T : Nat → BTag) (w : World) (g k : Nat) (rows : List NRow) : Prop := (rows.filterMap NRow.blk).Nodup ∧ ∀ r ∈ rows, NRowOk T w g k r
def RepP (T : Nat → BTag) (F : Nat → Nat) (ρ : Nat → Nat × Nat) (w : World) : PV → Value → Prop
  | .any, _ => True
  | .s x, u => RepS T F w x u
  | .tup xs, u => ∃ vs : Array Value, u = .tuple vs ∧ vs.size = xs.length ∧ ∀ (i : Nat) (x : SV) (y : Value), xs[i]? = some x → vs[i]? = some y → RepS T F w x y
  | .box id off, u => u = .pointer (some ⟨(ρ id).1, (ρ id).2 + off, none⟩)
  | .bsl id off k n, u => BslOk T ρ w id off k n u
  | .elp tag k els i j, u => ∃ b o, u = .pointer (some ⟨b, o + i * k + j, none⟩) ∧ b < w.heap.size ∧ T b = ofTag tag ∧ (tag = none ∨ o + els.length * k ≤ F b) ∧ (∀ e ∈ els, e.length = k) ∧ RowAt w b o k els
  | .hd v x, _ => RepS T F w x v
  | .hs v id off k n, _ => BslOk T ρ w id off k n v
  | .hb v id off, _ => v = .pointer (some ⟨(ρ id).1, (ρ id).2 + off, none⟩)
  | .kept b o, _ => T b = .obj 0 ∧ b < w.heap.size ∧ w.heap[b]? = some o
  | .old W B, _ => (∀ c, c < W.heap.size → c ∉ B → T c = .ext ∧ c < w.heap.size ∧ w.heap[c]? = W.heap[c]?) ∧ W.heap.size ≤ w.heap.size
  | .hds tag k l, _ => ∀ p ∈ l, RepS T F w (.sl tag .no k p.2) p.1
  | .nest g k rows, _ => NestOk T w g k rows
  | .nep tag rts k els i j, u => ∃ hs, (∃ b o, u = .pointer (some ⟨b, o + i * k + j, none⟩) ∧ b < w.heap.size ∧ T b = ofTag tag ∧ (tag = none ∨ o + hs.length * k ≤ F b) ∧ (∀ e ∈ hs, e.length = k) ∧ RowAt w b o k hs) ∧ EVsOk T F w rts els hs
  | .clo f caps, u => u = .func (.func f) #[] (caps.map fun c => Value.pointer (some ⟨(ρ c.1).1, (ρ c.1).2 + c.2, none⟩)).toArray
theorem RepP.fact {T : Nat → BTag} {F : Nat → Nat} {ρ : Nat → Nat × Nat} {w : World} {p : PV} {u v : Value} (h : RepP T F ρ w p u) : RepP T F ρ w p.fact v := by
  cases p <;> first | exact h | trivial

/-- A box holds these cells: they lie in its block from its own offset on. -/
def BoxOk (base : Nat) (T : Nat → BTag) (ρ : Nat → Nat × Nat) (w : World) (id : Nat) (cs : List Value) : Prop :=
  cs ≠ [] → base ≤ (ρ id).1 ∧ (ρ id).1 < w.heap.size ∧ T (ρ id).1 = .box id ∧ ∃ pre post e, pre.length = (ρ id).2 ∧ w.heap[(ρ id).1]? = some (.cells (pre ++ cs ++ post).toArray e (0, 0))

structure St where
  env : List (Nat × PV)
  boxes : List (Nat × List Value)

def look : List (Nat × PV) → Nat → PV
  | [], _ => .any
  | (t, p) :: l, u => bif Nat.beq t u then p else look l u
def boxOf : List (Nat × List Value) → Nat → Option (List Value)
  | [], _ => none
  | (t, p) :: l, u => bif Nat.beq t u then some p else boxOf l u

def St.look (s : St) (t : Nat) : PV := Go.Proofs.Ytfacimebfdeaeaa.Pv.look s.env t
def St.box (s : St) (t : Nat) : Option (List Value) := boxOf s.boxes t
def St.put (s : St) (d : Nat) (p : PV) : St := ⟨(d, p) :: s.env, s.boxes⟩
def St.putO (s : St) (d : Option Nat) (p : PV) : St := match d with | some d => s.put d p | none => s

def evC : Value → PV
  | .slice none 0 0 => .s .nil
  | x => .s (.v x)
def St.ev (s : St) : Operand → PV
  | .tmp t => bif Nat.blt t 1000000 then s.look t else (s.look t).fact
  | .const x => evC x
  | .global g => .s (.v (.pointer (some ⟨g, 0, none⟩)))
  | .func f => .s (.v (.func (.func f) #[] #[]))

/-- The value of a slot: of the frame, or, from 1000000 on, of another frame that waits. -/
def vl (a : Act) (fr : Nat → Value) (t : Nat) : Value := bif Nat.blt t 1000000 then a.tmps.getD t undef else fr t
/-- Where a call began: the world, and the frame that waits. -/
structure Base where
  w : World
  fr : Nat → Value
  marks : List Deferred
  fin : Act → World → Prop
/-- The state of the machine tells the truth of the frame and the world. w0: the world when the call began; n: how many slots the frame has. -/
structure RSx (w0 : Base) (n : Nat) (T : Nat → BTag) (F : Nat → Nat) (ρ : Nat → Nat × Nat) (s : St) (a : Act) (w : World) : Prop where
  defers : a.defers = w0.marks
  size : a.tmps.size = n
  small : n ≤ 1000000
  below : Below w0.w.heap.size w0.w w
  ext : ∀ b, b < w0.w.heap.size → T b = .ext
  env : ∀ t, RepP T F ρ w (s.look t) (vl a w0.fr t)
  boxes : ∀ id cs, s.box id = some cs → BoxOk w0.w.heap.size T ρ w id cs
def RS (w0 : Base) (n : Nat) (s : St) (a : Act) (w : World) : Prop := ∃ T F ρ, RSx w0 n T F ρ s a w

/-! ### a world that went on -/
/-- Rows and all that may not be written stay; F may grow where no slice's end is claimed. -/
structure Goes (T : Nat → BTag) (F : Nat → Nat) (w : World) (T' : Nat → BTag) (F' : Nat → Nat) (w' : World) : Prop where
  size : w.heap.size ≤ w'.heap.size
  tag : ∀ b, b < w.heap.size → T' b = T b
  grow : ∀ b, b < w.heap.size → F b ≤ F' b
  shape : ∀ b cur e, b < w.heap.size → T b ≠ .free → w.heap[b]? = some (.cells cur e (0, 0)) → ∃ cur', w'.heap[b]? = some (.cells cur' e (0, 0)) ∧ cur'.size = cur.size
  cell : ∀ b o, b < w.heap.size → (T b = .ext ∨ ∃ τ, T b = .row τ ∧ o < F b) → w'.cell? ⟨b, o, none⟩ = w.cell? ⟨b, o, none⟩
  obj : ∀ b g, b < w.heap.size → T b = .obj g → w'.heap[b]? = w.heap[b]?
  keep : ∀ b, b < w.heap.size → T b = .ext → w'.heap[b]? = w.heap[b]?
/-- And the claims on ends stay for every row but those of tag τ. -/
def Ends (T : Nat → BTag) (F : Nat → Nat) (w : World) (F' : Nat → Nat) (w' : World) (σ : Option Nat) : Prop :=
  ∀ b τ, b < w.heap.size → T b = .row τ → some τ ≠ σ → F' b = F b ∧ w'.heap[b]? = w.heap[b]?

def App.un (app : App) : App := match app with | .front _ => .no | a => a
def SV.un (σ : Option Nat) (x : SV) : SV :=
  match x with
  | .sl (some τ) app k els => match σ with
    | some σ => bif Nat.beq σ τ then .sl (some τ) app.un k els else .sl (some τ) app k els
    | none => .sl (some τ) app k els
  | x => x
def PV.un (σ : Option Nat) : PV → PV
  | .s x => .s (x.un σ)
  | .tup xs => .tup (xs.map (·.un σ))
  | .hd v x => .hd v (x.un σ)
  | p => p

theorem row_idx {i n j k : Nat} (hi : i < n) (hj : j < k) : i * k + j < n * k := by
  have : (i + 1) * k ≤ n * k := Nat.mul_le_mul_right _ hi
  rw [Nat.succ_mul] at this
  omega

section
variable {T T' : Nat → BTag} {F F' : Nat → Nat} {ρ : Nat → Nat × Nat} {w w' : World}

theorem Goes.refl (T : Nat → BTag) (F : Nat → Nat) (w : World) : Goes T F w T F w := ⟨Nat.le_refl _, fun _ _ => rfl, fun _ _ => Nat.le_refl _, fun _ cur _ _ _ h => ⟨cur, h, rfl⟩, fun _ _ _ _ => rfl, fun _ _ _ _ => rfl, fun _ _ _ => rfl⟩

theorem ShapeOk.goes (h : Goes T F w T' F' w') {A : Option Addr} {c k : Nat} (h5 : ∀ ad, A = some ad → ad.block < w.heap.size ∧ T ad.block ≠ .free) (hs : ShapeOk w A c k) : ShapeOk w' A c k := by
  rcases hs with hs | ⟨b, o, cur, e, hA, hh, hc⟩
  · exact .inl hs
  · obtain ⟨cur', h1, h2⟩ := h.shape b cur e (h5 _ hA).1 (h5 _ hA).2 hh
    exact .inr ⟨b, o, cur', e, hA, h1, by omega⟩

theorem Goes.row (h : Goes T F w T' F' w') {b o k : Nat} {els : List (List Value)} {tag : Option Nat} (hb : b < w.heap.size) (ht : T b = ofTag tag) (hF : tag = none ∨ o + els.length * k ≤ F b)
    (hk : ∀ e ∈ els, e.length = k) (hr : RowAt w b o k els) : RowAt w' b o k els := by
  intro i j e u he hu
  rw [h.cell b _ hb ?_]
  · exact hr i j e u he hu
  · rcases tag with _ | τ
    · exact .inl ht
    · refine .inr ⟨τ, ht, ?_⟩
      rcases hF with hF | hF
      · cases hF
      · have hi : i < els.length := (List.getElem?_eq_some_iff.1 he).1
        have hj : j < k := by rw [← hk e (List.mem_of_getElem? he)]; exact (List.getElem?_eq_some_iff.1 hu).1
        have := row_idx hi hj
        omega

theorem SlOk.goes {σ : Option Nat} (h : Goes T F w T' F' w') (hE : Ends T F w F' w' σ) {tag : Option Nat} {app : App} {k : Nat} {els : List (List Value)} {A : Option Addr} {n c : Nat}
    (hs : SlOk T F w tag app k els A n c) (hσ : tag = none ∨ tag ≠ σ ∨ app.un = app) : SlOk T' F' w' tag app k els A n c := by
  obtain ⟨h1, h2, h2', h3, h4, h5, h6, h7⟩ := hs
  refine ⟨h1, h2, h2', h3, h4, fun ad hA => ?_, ?_, h7.imp id fun h7 => h7.goes h fun ad hA => ⟨(h5 ad hA).2.1, by rw [(h5 ad hA).2.2.1]; cases tag <;> intro h <;> cases h⟩⟩
  · obtain ⟨q1, q2, q3, q4, q5⟩ := h5 ad hA
    refine ⟨q1, Nat.lt_of_lt_of_le q2 h.size, (h.tag _ q2).trans q3, ?_, ?_⟩
    · rcases q4 with q4 | q4
      · exact .inl q4
      · exact .inr (Nat.le_trans q4 (h.grow _ q2))
    · exact h.row q2 q3 (by rw [h1] at q4; exact q4) h3 q5
  · cases app with
    | no => exact trivial
    | full => exact h6
    | front e =>
      obtain ⟨q1, q2⟩ := h6
      refine ⟨q1, ?_⟩
      rcases q2 with q2 | ⟨b, o, cur, e', hA, hF, hh, hc⟩
      · exact .inl q2
      · obtain ⟨p1, p2, p3, p4, p5⟩ := h5 _ hA
        rcases tag with _ | τ
        · rcases q1 with q1 | q1
          · exact absurd rfl q1
          · rw [q1] at hA; cases hA
        · have hne : some τ ≠ σ := by
            rcases hσ with hσ | hσ | hσ
            · cases hσ
            · exact hσ
            · simp [App.un] at hσ
          obtain ⟨e1, e2⟩ := hE b τ p2 p3 hne
          exact .inr ⟨b, o, cur, e', hA, by rw [e1]; exact hF, by rw [e2]; exact hh, hc⟩

theorem SlOk.toNo {tag : Option Nat} {app : App} {k : Nat} {els : List (List Value)} {A : Option Addr} {n c : Nat} (hs : SlOk T F w tag app k els A n c) : SlOk T F w tag .no k els A n c := by
  obtain ⟨h1, h2, h2', h3, h4, h5, h6, h7⟩ := hs
  exact ⟨h1, h2, h2', h3, h4, h5, trivial, h7⟩

theorem SlOk.toUn {tag : Option Nat} {app : App} {k : Nat} {els : List (List Value)} {A : Option Addr} {n c : Nat} (hs : SlOk T F w tag app k els A n c) : SlOk T F w tag app.un k els A n c := by
  cases app with
  | no => exact hs
  | full => exact hs
  | front e => exact hs.toNo

theorem App.un_un (a : App) : a.un.un = a.un := by cases a <;> rfl

theorem SlOk.goesN {σ : Option Nat} (h : Goes T F w T' F' w') (hE : Ends T F w F' w' σ) {tag : Option Nat} {k : Nat} {els : List (List Value)} {A : Option Addr} {n c : Nat} (hs : SlOk T F w tag .no k els A n c) : SlOk T' F' w' tag .no k els A n c := hs.goes h hE (.inr (.inr rfl))
theorem EVRep.goes {σ : Option Nat} (h : Goes T F w T' F' w') (hE : Ends T F w F' w' σ) {rts : List (Option Nat)} {x : EV} {u : Value} (hs : EVRep T F w rts x u) : EVRep T' F' w' rts x u := by
  cases x with
  | v x => exact hs
  | sl k els =>
    obtain ⟨tag, hm, A, n, c, hu, hs⟩ := hs
    exact ⟨tag, hm, A, n, c, hu, hs.goesN h hE⟩
theorem EVsOk.goes {σ : Option Nat} (h : Goes T F w T' F' w') (hE : Ends T F w F' w' σ) {rts : List (Option Nat)} {els : List (List EV)} {hs : List (List Value)} (ho : EVsOk T F w rts els hs) : EVsOk T' F' w' rts els hs :=
  ⟨ho.1, fun i e y he hy => ⟨(ho.2 i e y he hy).1, fun j a b ha hb => EVRep.goes h hE ((ho.2 i e y he hy).2 j a b ha hb)⟩⟩
theorem RepS.goes {σ : Option Nat} (h : Goes T F w T' F' w') (hE : Ends T F w F' w' σ) {x : SV} {u : Value} (hs : RepS T F w x u) : RepS T' F' w' (x.un σ) u := by
  cases x with
  | v x => exact hs
  | nil => exact hs
  | sl tag app k els =>
    obtain ⟨A, n, c, hu, hs⟩ := hs
    rcases tag with _ | τ
    · exact ⟨A, n, c, hu, hs.goes h hE (.inl rfl)⟩
    · rcases σ with _ | σ
      · exact ⟨A, n, c, hu, hs.goes h hE (.inr (.inl (by simp)))⟩
      · simp only [SV.un]
        by_cases hσ : σ = τ
        · subst hσ
          simp only [Nat.beq_refl, cond_true]
          exact ⟨A, n, c, hu, hs.toUn.goes h hE (.inr (.inr (App.un_un app)))⟩
        · rw [show Nat.beq σ τ = false from by rw [← Bool.not_eq_true, Nat.beq_eq]; exact hσ]
          exact ⟨A, n, c, hu, hs.goes h hE (.inr (.inl (by simpa using fun e => hσ e.symm)))⟩
  | nsl tag rts uq k els =>
    obtain ⟨hs', A, n, c, hu, h1, h2, h3⟩ := hs
    exact ⟨hs', A, n, c, hu, h1.goesN h hE, h2.goes h hE, h3⟩
  | ag rts e =>
    obtain ⟨hs', hu, h2⟩ := hs
    exact ⟨hs', hu, h2.goes h hE⟩

theorem SV.un_no (σ tag : Option Nat) (k : Nat) (els : List (List Value)) : (SV.sl tag .no k els).un σ = .sl tag .no k els := by
  cases tag with
  | none => rfl
  | some τ =>
    cases σ with
    | none => rfl
    | some σ =>
      simp only [SV.un]
      cases Nat.beq σ τ <;> rfl
theorem NRowOk.goes {g k : Nat} {r : NRow} (h : Goes T F w T' F' w') (hs : NRowOk T w g k r) : NRowOk T' w' g k r := by
  obtain ⟨h1, h2, h3, h4⟩ := hs
  refine ⟨h1, h2, h3, h4.imp id ?_⟩
  rintro ⟨b, o, cur, e, hA, hT, hh, hc, hr⟩
  have hb : b < w.heap.size := (Array.getElem?_eq_some_iff.1 hh).1
  have hb' := h.obj b _ hb hT
  refine ⟨b, o, cur, e, hA, (h.tag b hb).trans hT, hb'.trans hh, hc, fun i j x u hx hu => ?_⟩
  have := hr i j x u hx hu
  simp only [World.cell?] at this ⊢
  rw [hb']; exact this
theorem NestOk.goes {g k : Nat} {rows : List NRow} (h : Goes T F w T' F' w') (hs : NestOk T w g k rows) : NestOk T' w' g k rows := ⟨hs.1, fun r hr => (hs.2 r hr).goes h⟩
theorem SV.un_none (x : SV) : x.un none = x := by
  cases x with
  | sl tag app k els => cases tag <;> rfl
  | _ => rfl
theorem PV.un_none (p : PV) : p.un none = p := by
  cases p with
  | s x => simp [PV.un, SV.un_none]
  | tup xs => simp [PV.un, SV.un_none]
  | hd v x => simp [PV.un, SV.un_none]
  | _ => rfl

theorem BslOk.goes {ρ' : Nat → Nat × Nat} (h : Goes T F w T' F' w') {id off k n : Nat} (hρ : ρ' id = ρ id) {u : Value} (hs : BslOk T ρ w id off k n u) : BslOk T' ρ' w' id off k n u := by
  rcases hs with hs | ⟨c, cur, e, h1, h2, h3, h4, h5, h6, h7, h8⟩
  · exact .inl hs
  · obtain ⟨cur', e1, e2⟩ := h.shape _ cur e h4 (by rw [h5]; intro h; cases h) h6
    refine .inr ⟨c, cur', e, h1, h2, ?_⟩
    rw [hρ]
    exact ⟨h3, Nat.lt_of_lt_of_le h4 h.size, (h.tag _ h4).trans h5, e1, by omega, by omega⟩
theorem RepP.goes {ρ' : Nat → Nat × Nat} {σ : Option Nat} (h : Goes T F w T' F' w') (hE : Ends T F w F' w' σ) {p : PV} (hρ : ∀ id, p.isBox id = true → ρ' id = ρ id) {u : Value} (hs : RepP T F ρ w p u) : RepP T' F' ρ' w' (p.un σ) u := by
  cases p with
  | any => exact trivial
  | s x => exact RepS.goes h hE hs
  | tup xs =>
    obtain ⟨vs, hu, hl, hr⟩ := hs
    refine ⟨vs, hu, by simpa using hl, fun i x y hx hy => ?_⟩
    rw [List.getElem?_map] at hx
    cases hxi : xs[i]? with
    | none => rw [hxi] at hx; cases hx
    | some x0 =>
      rw [hxi] at hx
      injection hx with hx
      subst hx
      exact RepS.goes h hE (hr i x0 y hxi hy)
  | box id off => show u = _; rw [hρ id (Nat.beq_refl _)]; exact hs
  | bsl id off k n => exact BslOk.goes h (hρ id (Nat.beq_refl _)) hs
  | hd v x => exact RepS.goes h hE hs
  | hs v id off k n => exact BslOk.goes h (hρ id (Nat.beq_refl _)) hs
  | hb v id off => show v = _; rw [hρ id (Nat.beq_refl _)]; exact hs
  | kept b o => exact ⟨(h.tag _ hs.2.1).trans hs.1, Nat.lt_of_lt_of_le hs.2.1 h.size, (h.obj _ _ hs.2.1 hs.1).trans hs.2.2⟩
  | old W B => exact ⟨fun c hc hB => let ⟨h1, h2, h3⟩ := hs.1 c hc hB; ⟨(h.tag _ h2).trans h1, Nat.lt_of_lt_of_le h2 h.size, (h.keep _ h2 h1).trans h3⟩, Nat.le_trans hs.2 h.size⟩
  | hds tag k l =>
    intro p hp
    have := RepS.goes h hE (hs p hp)
    rwa [SV.un_no] at this
  | nest g k rows => exact NestOk.goes h hs
  | nep tag rts k els i j =>
    obtain ⟨hs', ⟨b, o, hu, q2, q3, q4, q5, q6⟩, hv⟩ := hs
    refine ⟨hs', ⟨b, o, hu, Nat.lt_of_lt_of_le q2 h.size, (h.tag _ q2).trans q3, ?_, q5, h.row q2 q3 q4 q5 q6⟩, hv.goes h hE⟩
    rcases q4 with q4 | q4
    · exact .inl q4
    · exact .inr (Nat.le_trans q4 (h.grow _ q2))
  | clo f caps =>
    have hs' : u = _ := hs
    show u = _
    rw [hs']
    congr 1
    congr 1
    refine List.map_congr_left fun c hc => ?_
    rw [hρ c.1 (List.any_eq_true.2 ⟨c, hc, Nat.beq_refl _⟩)]
  | elp tag k els i j =>
    obtain ⟨b, o, hu, q2, q3, q4, q5, q6⟩ := hs
    refine ⟨b, o, hu, Nat.lt_of_lt_of_le q2 h.size, (h.tag _ q2).trans q3, ?_, q5, h.row q2 q3 q4 q5 q6⟩
    rcases q4 with q4 | q4
    · exact .inl q4
    · exact .inr (Nat.le_trans q4 (h.grow _ q2))

theorem RepP.goes0 {ρ' : Nat → Nat × Nat} (h : Goes T F w T' F' w') (hE : Ends T F w F' w' none) {p : PV} (hρ : ∀ id, p.isBox id = true → ρ' id = ρ id) {u : Value} (hs : RepP T F ρ w p u) : RepP T' F' ρ' w' p u := by
  have := RepP.goes h hE hρ hs
  rwa [PV.un_none] at this

/-- All blocks that were there stay as they were. -/
theorem Goes.of_below (hb : Below w.heap.size w w') (hT : ∀ b, b < w.heap.size → T' b = T b ∧ F' b = F b) : Goes T F w T' F' w' ∧ Ends T F w F' w' none :=
  ⟨⟨hb.size, fun b hb' => (hT b hb').1, fun b hb' => by rw [(hT b hb').2]; exact Nat.le_refl _, fun b cur _ hlt _ h => ⟨cur, by rw [hb.block b hlt]; exact h, rfl⟩, fun b o hlt _ => hb.cell (p := ⟨b, o, none⟩) hlt, fun b _ hlt _ => hb.block b hlt, fun b hlt _ => hb.block b hlt⟩,
   fun b τ hlt _ _ => ⟨(hT b hlt).2, hb.block b hlt⟩⟩
end

theorem look_put (env : List (Nat × PV)) (d : Nat) (p : PV) (t : Nat) : look ((d, p) :: env) t = if d = t then p else look env t := by
  simp only [look]
  by_cases h : d = t
  · subst h; simp
  · rw [if_neg h, show Nat.beq d t = false from by rw [← Bool.not_eq_true, Nat.beq_eq]; exact h]; rfl
theorem boxOf_put (bs : List (Nat × List Value)) (d : Nat) (p : List Value) (t : Nat) : boxOf ((d, p) :: bs) t = if d = t then some p else boxOf bs t := by
  simp only [boxOf]
  by_cases h : d = t
  · subst h; simp
  · rw [if_neg h, show Nat.beq d t = false from by rw [← Bool.not_eq_true, Nat.beq_eq]; exact h]; rfl

def St.addBox (s : St) : Option (Nat × List Value) → St
  | none => s
  | some p => ⟨s.env, p :: s.boxes⟩
def noBox (id : Nat) : List (Nat × PV) → Bool
  | [] => true
  | (_, p) :: l => !p.isBox id && noBox id l
def freshB (s : St) : Option (Nat × List Value) → Bool
  | none => true
  | some p => (boxOf s.boxes p.1).isNone && noBox p.1 s.env

theorem noBox_look {id : Nat} : ∀ {env : List (Nat × PV)}, noBox id env = true → ∀ t, (look env t).isBox id = false
  | [], _, t => by simp [look, PV.isBox]
  | (d, p) :: env, h, t => by
    simp only [noBox, Bool.and_eq_true, Bool.not_eq_true'] at h
    rw [look_put]
    split
    · exact h.1
    · exact noBox_look h.2 t

/-- The new box is new. -/
def Fresh (s : St) (nb : Option (Nat × List Value)) : Prop := ∀ p, nb = some p → s.box p.1 = none ∧ ∀ t, (s.look t).isBox p.1 = false
theorem fresh_of {s : St} {nb : Option (Nat × List Value)} (hf : freshB s nb = true) : Fresh s nb := by
  rintro p rfl
  simp only [freshB, Bool.and_eq_true, Option.isNone_iff_eq_none] at hf
  exact ⟨hf.1, noBox_look hf.2⟩

/-- The operation yields pv (and makes the box nb), whatever the world: it looks at its operands and at boxes that they point to. -/
def Val (P : Program) (o : Oper) (ev : Operand → PV) (bx : Nat → Option (List Value)) (pv : PV) (nb : Option (Nat × List Value)) : Prop :=
  ∀ (B : Nat) (T : Nat → BTag) (F : Nat → Nat) (ρ : Nat → Nat × Nat) (a : Act) (w : World), B ≤ w.heap.size →
    (∀ x, (x ∈ o.op.operands ∨ isV x = true) → RepP T F ρ w (ev x) (a.eval x) ∧ ∀ id, (ev x).isBox id = true → ∀ cs, bx id = some cs → BoxOk B T ρ w id cs) →
    ∀ (next : Act → World → Prop) (Q : Exit → Act → World → Prop),
      (∀ v w' T' F' ρ', Below w.heap.size w w' → (∀ b, b < w.heap.size → T' b = T b ∧ F' b = F b) → (∀ id, (∀ p, nb = some p → p.1 ≠ id) → ρ' id = ρ id) →
        RepP T' F' ρ' w' pv v → (∀ p, nb = some p → BoxOk B T' ρ' w' p.1 p.2) → next (a.put o.dst v) w') → o.wp P a w next Q

/-- An operation that writes. -/
def Eff (P : Program) (o : Oper) (s : St) (S : St → Prop) : Prop :=
  ∀ (w0 : Base) (n : Nat) (a : Act) (w : World), RS w0 n s a w → (∀ d, o.dst = some d → d < n) →
    ∀ (next : Act → World → Prop) (Q : Exit → Act → World → Prop), (∀ s1, S s1 → ∀ a' w', RS w0 n s1 a' w' → next a' w') → o.wp P a w next Q

theorem getD_put {a : Act} {d : Option Nat} {v : Value} {t : Nat} (hd : ∀ e, d = some e → e < a.tmps.size) :
    (a.put d v).tmps.getD t undef = if d = some t then v else a.tmps.getD t undef := by
  cases d with
  | none => rfl
  | some e =>
    have he := hd e rfl
    simp only [Act.put, Array.getD_eq_getD_getElem?]
    by_cases h : e = t
    · subst h; simp [he]
    · rw [Array.getElem?_setIfInBounds_ne h, if_neg (by simpa using h)]
theorem size_put (a : Act) (d : Option Nat) (v : Value) : (a.put d v).tmps.size = a.tmps.size := by cases d <;> simp [Act.put]
theorem defers_put (a : Act) (d : Option Nat) (v : Value) : (a.put d v).defers = a.defers := by cases d <;> rfl
theorem look_putO (s : St) (d : Option Nat) (p : PV) (t : Nat) : (s.putO d p).look t = if d = some t then p else s.look t := by
  cases d with
  | none => rfl
  | some e =>
    show look ((e, p) :: s.env) t = _
    rw [look_put]
    simp [St.look]
theorem box_putO (s : St) (d : Option Nat) (p : PV) (t : Nat) : (s.putO d p).box t = s.box t := by cases d <;> rfl
theorem look_addBox (s : St) (nb : Option (Nat × List Value)) (t : Nat) : (s.addBox nb).look t = s.look t := by cases nb <;> rfl

theorem BoxOk.goes {B : Nat} {T T' : Nat → BTag} {ρ ρ' : Nat → Nat × Nat} {w w' : World} {id : Nat} {cs : List Value} (hs : w.heap.size ≤ w'.heap.size) (hT : (ρ id).1 < w.heap.size → T' (ρ id).1 = T (ρ id).1) (hρ : ρ' id = ρ id) (hb : (ρ id).1 < w.heap.size → w'.heap[(ρ id).1]? = w.heap[(ρ id).1]?) (h : BoxOk B T ρ w id cs) : BoxOk B T' ρ' w' id cs := by
  intro hne
  obtain ⟨h1, h2, h3, pre, post, e, h4, h5⟩ := h hne
  replace hT := hT h2
  replace hb := hb h2
  refine ⟨by rw [hρ]; exact h1, by rw [hρ]; omega, by rw [hρ, hT]; exact h3, pre, post, e, by rw [hρ]; exact h4, by rw [hρ, hb]; exact h5⟩

theorem BoxOk.cell {B : Nat} {T : Nat → BTag} {ρ : Nat → Nat × Nat} {w : World} {id : Nat} {cs : List Value} (h : BoxOk B T ρ w id cs) {j : Nat} {v : Value} (hv : cs[j]? = some v) : w.cell? ⟨(ρ id).1, (ρ id).2 + j, none⟩ = some v := by
  have hj : j < cs.length := (List.getElem?_eq_some_iff.1 hv).1
  obtain ⟨_, _, _, pre, post, e, h4, h5⟩ := h (fun h => by rw [h] at hj; cases hj)
  rw [cell_of_row w _ _ _ e (0, 0) h5, ← h4]
  rw [← Array.getElem?_toList]
  show (pre ++ cs ++ post)[pre.length + j]? = some v
  rw [List.append_assoc, List.getElem?_append_right (by omega), Nat.add_sub_cancel_left, List.getElem?_append_left hj, hv]
section
variable {P : Program} {w0 : Base} {n : Nat} {T : Nat → BTag} {F : Nat → Nat} {ρ : Nat → Nat × Nat} {s : St} {a : Act} {w : World}

theorem RSx.ev (h : RSx w0 n T F ρ s a w) (x : Operand) : RepP T F ρ w (s.ev x) (a.eval x) := by
  cases x with
  | tmp t =>
    have he := h.env t
    show RepP T F ρ w (bif Nat.blt t 1000000 then s.look t else (s.look t).fact) _
    unfold vl at he
    cases hb : Nat.blt t 1000000 with
    | true => rw [hb] at he; exact he
    | false => exact he.fact
  | const v =>
    show RepP T F ρ w (evC v) v
    unfold evC
    split <;> rfl
  | global g => rfl
  | func f => rfl

theorem vl_put {fr : Nat → Value} {a : Act} {n : Nat} {d : Option Nat} {v : Value} {t : Nat} (hs : a.tmps.size = n) (hn : n ≤ 1000000) (hd : ∀ e, d = some e → e < n) : vl (a.put d v) fr t = if d = some t then v else vl a fr t := by
  unfold vl
  cases hb : Nat.blt t 1000000 with
  | true => exact getD_put (fun e he => by rw [hs]; exact hd e he)
  | false =>
    rw [if_neg]
    · rfl
    · intro e
      have h1 := hd t e
      have : Nat.blt t 1000000 = true := by rw [Nat.blt_eq]; omega
      rw [this] at hb
      cases hb
theorem RSx.goes {w' : World} {T' : Nat → BTag} {F' : Nat → Nat} {ρ' : Nat → Nat × Nat} {s' : St} (h : RSx w0 n T F ρ s a w) {v : Value} {d : Option Nat} {pv : PV} {nb : Option (Nat × List Value)} (hd : ∀ e, d = some e → e < n)
    (hb : Below w.heap.size w w') (hT : ∀ b, b < w.heap.size → T' b = T b ∧ F' b = F b) (hρ : ∀ id, (∀ p, nb = some p → p.1 ≠ id) → ρ' id = ρ id) (hfresh : Fresh s nb)
    (hv : RepP T' F' ρ' w' pv v) (hnb : ∀ p, nb = some p → BoxOk w0.w.heap.size T' ρ' w' p.1 p.2) (hs : s' = (s.putO d pv).addBox nb) : RSx w0 n T' F' ρ' s' (a.put d v) w' := by
  subst hs
  obtain ⟨hg, hE⟩ := Goes.of_below hb hT
  have h0 := h.below.size
  refine ⟨by rw [defers_put]; exact h.defers, by rw [size_put]; exact h.size, h.small, h.below.trans (hb.mono h0), fun b hb' => by rw [(hT b (by omega)).1]; exact h.ext b hb', fun t => ?_, fun id cs hid => ?_⟩
  · rw [look_addBox, look_putO, vl_put h.size h.small hd]
    split
    · exact hv
    · refine (h.env t).goes0 hg hE (fun id he => hρ id fun p hp hpid => ?_)
      subst hpid
      rw [(hfresh p hp).2 t] at he
      cases he
  · have hold : s.box id = some cs → (∀ p, nb = some p → p.1 ≠ id) → BoxOk w0.w.heap.size T' ρ' w' id cs := fun h1 h2 => by
      have h3 := h.boxes id cs h1
      exact h3.goes hb.size (fun h4 => (hT _ h4).1) (hρ id h2) (fun h4 => hb.block _ h4)
    cases nb with
    | none => exact hold (by simpa [St.addBox, box_putO] using hid) (fun p hp => by cases hp)
    | some p =>
      by_cases hpid : p.1 = id
      · subst hpid
        have : boxOf (p :: (s.putO d pv).boxes) p.1 = some cs := hid
        obtain ⟨p1, p2⟩ := p
        rw [boxOf_put, if_pos rfl] at this
        injection this with this
        subst this
        exact hnb _ rfl
      · refine hold ?_ (fun q hq => by injection hq with hq; subst hq; exact hpid)
        have : boxOf (p :: (s.putO d pv).boxes) id = some cs := hid
        obtain ⟨p1, p2⟩ := p
        rw [boxOf_put, if_neg hpid] at this
        rwa [← St.box, box_putO] at this

theorem Val.eff {o : Oper} {pv : PV} {nb : Option (Nat × List Value)} (h : Val P o s.ev s.box pv nb) (hf : Fresh s nb) : Eff P o s (Eq ((s.putO o.dst pv).addBox nb)) := by
  rintro w0 n a w ⟨T, F, ρ, hr⟩ hd next Q hK
  refine h w0.w.heap.size T F ρ a w hr.below.size (fun x _ => ⟨hr.ev x, fun id _ cs hcs => hr.boxes id cs hcs⟩) next Q ?_
  intro v w' T' F' ρ' hb hT hρ hv hnb
  exact hK _ rfl _ _ ⟨T', F', ρ', hr.goes hd hb hT hρ hf hv hnb rfl⟩

/-- An operation that is skipped. -/
theorem RS.skip {d : Option Nat} (h : RS w0 n s a w) (hd : ∀ e, d = some e → e < n) : RS w0 n (s.putO d (.tup [])) (a.put d undef) w := by
  obtain ⟨T, F, ρ, hr⟩ := h
  exact ⟨T, F, ρ, hr.goes (pv := .tup []) (nb := none) hd (Below.refl _ _) (fun _ _ => ⟨rfl, rfl⟩) (fun _ _ => rfl) (fun _ hp => by cases hp) ⟨#[], rfl, rfl, fun i x y hx => by simp at hx⟩ (fun _ hp => by cases hp) rfl⟩
end

/-- Is the operation wanted, as far as the state tells? -/
def wantedS (ops : Array Oper) (s : St) (o : Oper) : Option Bool :=
  match o.guard with
  | none => some true
  | some (j, want) =>
    match (ops[j]?).bind (·.dst) with
    | none => none
    | some t => match s.ev (.tmp t) with
      | .s (.v (.bool b)) => some (b == want)
      | .tup [] => some false
      | _ => none

theorem wanted_of {ops : Array Oper} {s : St} {o : Oper} {b : Bool} {w0 : Base} {n : Nat} {a : Act} {w : World} (h : RS w0 n s a w) (hw : wantedS ops s o = some b) : Region.wanted o (yielded ops a.tmps) = b := by
  obtain ⟨T, F, ρ, hr⟩ := h
  unfold wantedS at hw
  unfold Region.wanted
  cases hg : o.guard with
  | none => rw [hg] at hw; simpa using hw
  | some g =>
    obtain ⟨j, want⟩ := g
    rw [hg] at hw
    simp only at hw ⊢
    cases ht : (ops[j]?).bind (·.dst) with
    | none => rw [ht] at hw; cases hw
    | some t =>
      rw [ht] at hw
      simp only at hw
      have he : RepP T F ρ w _ (a.tmps.getD t undef) := hr.ev (.tmp t)
      cases hl : s.ev (.tmp t) with
      | s x =>
        rw [hl] at hw he
        cases x with
        | v u =>
          cases u with
          | bool c =>
            simp only [Option.some.injEq] at hw
            have hv : a.tmps.getD t undef = .bool c := he
            have hv' : a.tmps[t]? = some (.bool c) := by
              rw [Array.getD_eq_getD_getElem?] at hv
              cases hq : a.tmps[t]? with
              | none => rw [hq] at hv; simp [undef] at hv
              | some y => rw [hq] at hv; simp at hv; rw [hv]
            unfold yielded
            rw [ht, Option.bind_some, hv']
            simp only
            rw [← hw]
            cases c <;> cases want <;> rfl
          | _ => cases hw
        | _ => cases hw
      | tup xs =>
        rw [hl] at hw he
        cases xs with
        | cons _ _ => cases hw
        | nil =>
          simp only [Option.some.injEq] at hw
          subst hw
          obtain ⟨us, h1, h2, _⟩ := he
          unfold yielded
          rw [ht, Option.bind_some]
          cases hq : a.tmps[t]? with
          | none => rfl
          | some y =>
            rw [Array.getD_eq_getD_getElem?, hq] at h1
            have : y = .tuple us := h1
            subst this; rfl
      | _ => rw [hl] at hw; cases hw

/-- What is known less. -/
inductive SVLe : SV → SV → Prop
  | refl (x : SV) : SVLe x x
  | nil (tag : Option Nat) (app : App) (k : Nat) : SVLe .nil (.sl tag app k [])
  | no (tag : Option Nat) (app : App) (k : Nat) (els : List (List Value)) : SVLe (.sl tag app k els) (.sl tag .no k els)
  | nov (v : Value) (h : v = .slice none 0 0) : SVLe (.v v) .nil
  | von : SVLe .nil (.v (.slice none 0 0))
  | nsn (tag : Option Nat) (rts : List (Option Nat)) (uq : Bool) (k : Nat) : SVLe .nil (.nsl tag rts uq k [])
  | nsl (tag : Option Nat) {rts rts' : List (Option Nat)} {uq uq' : Bool} (k : Nat) (els : List (List EV)) (h : ∀ t ∈ rts, t ∈ rts') (hq : uq' = true → uq = true) : SVLe (.nsl tag rts uq k els) (.nsl tag rts' uq' k els)
inductive PVLe : PV → PV → Prop
  | refl (p : PV) : PVLe p p
  | any (p : PV) : PVLe p .any
  | s {x y : SV} (h : SVLe x y) : PVLe (.s x) (.s y)
  | hd {x y : SV} (v : Value) (h : SVLe x y) : PVLe (.hd v x) (.hd v y)
  | tup {xs ys : List SV} (hl : xs.length = ys.length) (h : ∀ (i : Nat) (x y : SV), xs[i]? = some x → ys[i]? = some y → SVLe x y) : PVLe (.tup xs) (.tup ys)

theorem SlOk.toNil {T : Nat → BTag} {F : Nat → Nat} {w : World} (tag : Option Nat) (app : App) (k : Nat) : SlOk T F w tag app k [] none 0 0 := by
  refine ⟨rfl, Nat.le_refl _, by unfold maxLen; decide, (fun e he => by cases he), fun _ => ⟨rfl, rfl⟩, (fun ad h => by cases h), ?_, .inr (.inl rfl)⟩
  cases app with
  | no => trivial
  | full => exact ⟨rfl, .inr rfl⟩
  | front e => exact ⟨.inr rfl, .inl rfl⟩
theorem SVLe.rep {T : Nat → BTag} {F : Nat → Nat} {w : World} {x y : SV} (h : SVLe x y) {u : Value} (hx : RepS T F w x u) : RepS T F w y u := by
  cases h with
  | refl => exact hx
  | nil tag app k => exact ⟨none, 0, 0, hx, SlOk.toNil tag app k⟩
  | no tag app k els => obtain ⟨A, m, c, h1, h2⟩ := hx; exact ⟨A, m, c, h1, h2.toNo⟩
  | nov v h => exact Eq.trans hx h
  | von => exact hx
  | nsn tag rts uq k => exact ⟨[], none, 0, 0, hx, SlOk.toNil _ _ _, ⟨rfl, fun i e h he => by simp at he⟩, fun _ => List.Pairwise.nil⟩
  | nsl tag k els h hq =>
    obtain ⟨hs, A, n, c, hu, h1, h2, h3⟩ := hx
    exact ⟨hs, A, n, c, hu, h1, h2.map id h (fun _ _ _ _ _ _ _ h => h), fun e => h3 (hq e)⟩
theorem PVLe.rep {T : Nat → BTag} {F : Nat → Nat} {ρ : Nat → Nat × Nat} {w : World} {x y : PV} (h : PVLe x y) {u : Value} (hx : RepP T F ρ w x u) : RepP T F ρ w y u := by
  cases h with
  | refl => exact hx
  | any => trivial
  | s h => exact h.rep hx
  | hd v h => exact h.rep hx
  | @tup xs ys hl h =>
    obtain ⟨vs, h1, h2, h3⟩ := hx
    refine ⟨vs, h1, h2.trans hl, fun i y v hy hv => ?_⟩
    have hi : i < xs.length := by rw [hl]; exact (List.getElem?_eq_some_iff.1 hy).1
    exact (h i _ y (List.getElem?_eq_getElem hi) hy).rep (h3 i _ v (List.getElem?_eq_getElem hi) hv)
/-- The same, or nil is said to be an empty slice over a box. -/
inductive PVLt : PV → PV → Prop
  | le {p q : PV} (h : PVLe p q) : PVLt p q
  | nilB (id off k : Nat) : PVLt (.s .nil) (.bsl id off k 0)
theorem PVLt.rep {T : Nat → BTag} {F : Nat → Nat} {ρ : Nat → Nat × Nat} {w : World} {x y : PV} (h : PVLt x y) {u : Value} (hx : RepP T F ρ w x u) : RepP T F ρ w y u := by
  cases h with
  | le h => exact h.rep hx
  | nilB id off k => exact .inl ⟨hx, rfl⟩
/-- s1 tells less than s. -/
def Less (s s1 : St) : Prop := (∀ t, PVLt (s.look t) (s1.look t)) ∧ ∀ id cs, s1.box id = some cs → s.box id = some cs ∨ cs = []
theorem RS.less {w0 : Base} {n : Nat} {s s1 : St} {a : Act} {w : World} (h : RS w0 n s a w) (hl : Less s s1) : RS w0 n s1 a w := by
  obtain ⟨T, F, ρ, hr⟩ := h
  exact ⟨T, F, ρ, hr.defers, hr.size, hr.small, hr.below, hr.ext, fun t => (hl.1 t).rep (hr.env t), fun id cs hc => (hl.2 id cs hc).elim (hr.boxes id cs) fun h hne => absurd h hne⟩
/-- Both tell the same. -/
def Eqv (s s1 : St) : Prop := (∀ t, s.look t = s1.look t) ∧ ∀ id, s.box id = s1.box id
theorem Eqv.less {s s1 : St} (h : Eqv s s1) : Less s s1 := ⟨fun t => by rw [h.1 t]; exact .le (.refl _), fun id cs hc => .inl (by rw [h.2 id]; exact hc)⟩
theorem Eqv.symm {s s1 : St} (h : Eqv s s1) : Eqv s1 s := ⟨fun t => (h.1 t).symm, fun id => (h.2 id).symm⟩

/-- What the program says of a type: a row of m cells; one cell; a slice's elements. -/
class TyRow (P : Program) (t : TypeId) (m : outParam Nat) : Prop where
  und : ∃ d, P.underlying t = some d ∧ d.isRow = true
  size : (P.info? t).map (·.size) = some m
class TyOne (P : Program) (t : TypeId) : Prop where
  und : ∃ d, P.underlying t = some d ∧ d.isRow = false
  size : (P.info? t).map (·.size) = some 1
class TySl (P : Program) (t : TypeId) (e k bytes : outParam Nat) : Prop where
  und : P.underlying t = some (.slice e)
  info : ∃ i z, P.info? e = some i ∧ i.zero = some z ∧ i.size = k ∧ i.bytes = bytes ∧ z.cells.size = k
  pos : 0 < k
  by_ : 0 < bytes
class TyField (P : Program) (t : TypeId) (f : Nat) (off : outParam Nat) : Prop where
  fld : ∃ fs fd i, P.underlying t = some (.struct fs) ∧ fs[f]? = some fd ∧ fd.offset = off ∧ P.info? fd.type = some i ∧ i.size ≠ 0
class TyArr (P : Program) (t : TypeId) (len e k : outParam Nat) : Prop where
  und : P.underlying t = some (.array len e)
  size : (P.info? e).map (·.size) = some k

/-- Reading a variable of type t out of cells. -/
inductive LoadV (P : Program) (t : TypeId) (cs : List Value) (off : Nat) : Value → Prop
  | row {m : Nat} (h : TyRow P t m) (hl : off + m ≤ cs.length) : LoadV P t cs off (.agg ((cs.drop off).take m).toArray)
  | one {u : Value} (h : TyOne P t) (hu : cs[off]? = some u) : LoadV P t cs off u

theorem run_loadVar_one {P : Program} {t : TypeId} (h : TyOne P t) {w : World} {ad : Addr} {u : Value} (hc : w.cell? ad = some u) : (loadVar t ad).run P w = .ok u w := by
  obtain ⟨d, hd, hr⟩ := h.und
  have hagg : (isAgg t).run P w = .ok false w := by
    unfold isAgg
    rw [Sem.run_bind, run_underlying hd w]
    cases d <;> simp_all
  simp [loadVar, Sem.run_bind, hagg, hc]
theorem run_loadV {P : Program} {t : TypeId} {w : World} {b o : Nat} {cs : List Value} {off : Nat} {u : Value} (h : LoadV P t cs off u) (hc : ∀ j v, cs[j]? = some v → w.cell? ⟨b, o + j, none⟩ = some v) :
    (loadVar t ⟨b, o + off, none⟩).run P w = .ok u w := by
  cases h with
  | @row m h hl =>
    obtain ⟨d, hd, hr⟩ := h.und
    refine run_loadVar_mid w b (o + off) t _ d (fun j v hv => ?_) hd hr (by rw [h.size]; simp; omega)
    rw [List.getElem?_take] at hv
    split at hv
    · rw [List.getElem?_drop] at hv
      rw [Nat.add_assoc]
      exact hc _ _ hv
    · cases hv
  | one h hu => exact run_loadVar_one h (hc _ _ hu)

/-! ### the triple -/
def Post (w0 : Base) (n : Nat) (N R : St → Prop) (X : Nat → St → Prop) : Exit → Act → World → Prop
  | .normal, a', w' => ∃ s', N s' ∧ RS w0 n s' a' w'
  | .ret, a', w' => (∃ s', R s' ∧ RS w0 n s' a' w') ∨ w0.fin a' w'
  | .exit i, a', w' => ∃ s', X i s' ∧ RS w0 n s' a' w'
  | _, _, _ => False
def Wt (P : Program) (w0 : Base) (n : Nat) (c : Code) (s : St) (N R : St → Prop) (X : Nat → St → Prop) : Prop :=
  ∀ a w, RS w0 n s a w → c.wp P (Post w0 n N R X) a w

section
variable {P : Program} {w0 : Base} {n : Nat} {s : St} {N R : St → Prop} {X : Nat → St → Prop}

theorem Wt.skip (h : N s) : Wt P w0 n .skip s N R X := fun _ _ hr => wp_skip ⟨s, h, hr⟩
theorem Wt.label {l : Nat} (h : N s) : Wt P w0 n (.label l) s N R X := fun _ _ hr => wp_label ⟨s, h, hr⟩
theorem Wt.ret (h : R s) : Wt P w0 n .ret s N R X := fun _ _ hr => wp_ret (.inl ⟨s, h, hr⟩)
theorem Wt.exit {i : Nat} (h : X i s) : Wt P w0 n (.exit i) s N R X := fun _ _ hr => wp_exit ⟨s, h, hr⟩
theorem Wt.seq {x y : Code} (h : Wt P w0 n x s (fun s' => Wt P w0 n y s' N R X) R X) : Wt P w0 n (.seq x y) s N R X := fun a w hr => by
  refine wp_seq (wp_mono (h a w hr) fun e a' w' hq => ?_)
  cases e with
  | normal =>
    obtain ⟨s', h1, h2⟩ := hq
    exact h1 a' w' h2
  | exit i => exact hq
  | goto l => exact hq.elim
  | ret => exact hq
  | panic c => exact hq.elim
  | outgrown => exact hq.elim
theorem Wt.block {i : Nat} {c : Code} (h : Wt P w0 n c s N R (fun j s' => bif Nat.beq j i then N s' else X j s')) : Wt P w0 n (.block i c) s N R X := fun a w hr => by
  refine wp_block (wp_mono (h a w hr) fun e a' w' hq => ?_)
  cases e with
  | normal => exact hq
  | exit j =>
    obtain ⟨s', h1, h2⟩ := hq
    show (if j = i then _ else _)
    split
    · rename_i hj; rw [show Nat.beq j i = true by simpa using hj] at h1; exact ⟨s', h1, h2⟩
    · rename_i hj; rw [show Nat.beq j i = false by rw [← Bool.not_eq_true, Nat.beq_eq]; exact hj] at h1; exact ⟨s', h1, h2⟩
  | goto l => exact hq.elim
  | ret => exact hq
  | panic c => exact hq.elim
  | outgrown => exact hq.elim
theorem Wt.cond {c : Operand} {x y : Code} {b : Bool} (hc : s.ev c = .s (.v (.bool b))) (ht : b = true → Wt P w0 n x s N R X) (hf : b = false → Wt P w0 n y s N R X) : Wt P w0 n (.cond c x y) s N R X := fun a w hr => by
  obtain ⟨T, F, ρ, hx⟩ := hr
  have := hx.ev c
  rw [hc] at this
  refine wp_cond_split (t := b) this (fun h => ht h a w ⟨T, F, ρ, hx⟩) (fun h => hf h a w ⟨T, F, ρ, hx⟩)
theorem Wt.mono {c : Code} {N' R' : St → Prop} {X' : Nat → St → Prop} (h : Wt P w0 n c s N R X) (hN : ∀ s, N s → N' s) (hR : ∀ s, R s → R' s) (hX : ∀ i s, X i s → X' i s) : Wt P w0 n c s N' R' X' := fun a w hr =>
  wp_mono (h a w hr) fun e a' w' hq => by
    cases e with
    | normal => obtain ⟨s', h1, h2⟩ := hq; exact ⟨s', hN _ h1, h2⟩
    | exit j => obtain ⟨s', h1, h2⟩ := hq; exact ⟨s', hX _ _ h1, h2⟩
    | goto l => exact hq.elim
    | ret => exact hq.imp (fun ⟨s', h1, h2⟩ => ⟨s', hR _ h1, h2⟩) id
    | panic c => exact hq.elim
    | outgrown => exact hq.elim

/-- s tells all that the short list l says. -/
def LeEnv (s : St) : List (Nat × PV) → Prop
  | [] => True
  | (t, p) :: l => PVLt (s.look t) p ∧ LeEnv s l
def LeBox (s : St) : List (Nat × List Value) → Prop
  | [] => True
  | (t, p) :: l => (s.box t = some p ∨ p = []) ∧ LeBox s l
def Le (s s' : St) : Prop := LeEnv s s'.env ∧ LeBox s s'.boxes
theorem LeEnv.look {s : St} : ∀ {l : List (Nat × PV)}, LeEnv s l → ∀ t, PVLt (s.look t) (Go.Proofs.Ytfacimebfdeaeaa.Pv.look l t)
  | [], _, t => .le (.any _)
  | (d, p) :: l, h, t => by
    rw [look_put]
    split
    · rename_i hd; subst hd; exact h.1
    · exact LeEnv.look h.2 t
theorem LeBox.box {s : St} : ∀ {l : List (Nat × List Value)}, LeBox s l → ∀ t cs, boxOf l t = some cs → s.box t = some cs ∨ cs = []
  | [], _, t, cs, hc => by cases hc
  | (d, p) :: l, h, t, cs, hc => by
    rw [boxOf_put] at hc
    split at hc
    · rename_i hd; subst hd; injection hc with hc; subst hc; exact h.1
    · exact LeBox.box h.2 t cs hc
theorem RS.le {s' : St} {a : Act} {w : World} (h : RS w0 n s a w) (hl : Le s s') : RS w0 n s' a w := h.less ⟨fun t => hl.1.look t, fun id cs hc => hl.2.box id cs hc⟩
theorem Wt.le {c : Code} (s' : St) (hl : Le s s') (h : Wt P w0 n c s' N R X) : Wt P w0 n c s N R X := fun a w hr => h a w (hr.le hl)

/-- The loop: 'inv i' is the state at the head, as far as it matters. -/
theorem Wt.loop {ι : Type} {c : Code} (inv : ι → St) (good : ι → Prop) (μ : ι → Nat) (i0 : ι) (h0 : good i0) (hl : Le s (inv i0))
    (h : ∀ i, good i → Wt P w0 n c (inv i) (fun s' => ∃ j, good j ∧ μ j < μ i ∧ Le s' (inv j)) R X) : Wt P w0 n (.loop c) s N R X := fun a w hr => by
  refine wp_loop_ghost (fun m a w => ∃ i, good i ∧ μ i = m ∧ RS w0 n (inv i) a w) (μ i0) ⟨i0, h0, rfl, hr.le hl⟩ ?_
  rintro m a w ⟨i, hg, rfl, hr⟩
  refine wp_mono (h i hg a w hr) fun e a' w' hq => ?_
  cases e with
  | normal =>
    obtain ⟨s', ⟨j, g', lt', le'⟩, hs'⟩ := hq
    exact ⟨μ j, lt', j, g', rfl, hs'.le le'⟩
  | exit j => exact hq
  | goto l => exact hq.elim
  | ret => exact hq
  | panic c => exact hq.elim
  | outgrown => exact hq.elim
end

def Callable (P : Program) (f : FuncId) : Prop := ∃ fn, P.funcs[f]? = some fn ∧ fn.name ≠ "runtime.NumGoroutine" ∧ fn.body.isSome = true
def ArgsOk (w : World) : List SV → List Value → Prop
  | [], [] => True
  | x :: xs, u :: us => RepS (fun _ => .ext) (fun _ => 0) w x u ∧ ArgsOk w xs us
  | _, _ => False
/-- What f returns at these arguments; nothing that was there is turned. -/
def Pure (P : Program) (f : FuncId) (args : List SV) (res : PV) : Prop :=
  Callable P f ∧ ∀ (vs : List Value) (w : World), ArgsOk w args vs → Calls P f vs.toArray w (fun e w' => ∃ v T' F', e = .returned v ∧ Below w.heap.size w w' ∧ (∀ b, b < w.heap.size → T' b = .ext) ∧ RepP T' F' (fun _ => (0, 0)) w' res v)

def SV.retag (τ : Nat) : SV → SV
  | .sl (some _) app k els => .sl (some τ) app k els
  | .nsl tag rts uq k els => .nsl (tag.map fun _ => τ) (rts.map fun t => t.map fun _ => τ) uq k els
  | .ag rts e => .ag (rts.map fun t => t.map fun _ => τ) e
  | x => x
/-- Groups from 1000 on are a callee's own: they are moved on. -/
def gsn (τ g : Nat) : Nat := bif Nat.blt g 1000 then g else g + τ
def gsh (τ : Nat) : Nat → Nat
  | 0 => 0
  | g + 1 => gsn τ g + 1
def PV.retag (τ : Nat) : PV → PV
  | .s x => .s (x.retag τ)
  | .tup xs => .tup (xs.map (·.retag τ))
  | .hd v x => .hd v (x.retag τ)
  | .hds (some _) k l => .hds (some τ) k l
  | .nest g k rows => .nest (gsn τ g) k rows
  | .old _ _ => .any
  | .nep _ _ _ _ _ _ => .any
  | p => p
def BTag.retag (τ : Nat) : BTag → BTag
  | .row _ => .row τ
  | .obj g => .obj (gsh τ g)
  | x => x
theorem SlOk.retag {T : Nat → BTag} {F : Nat → Nat} {w : World} (τ : Nat) {tag : Option Nat} {app : App} {k : Nat} {els : List (List Value)} {A : Option Addr} {n c : Nat} (h : SlOk T F w tag app k els A n c) : SlOk (fun b => (T b).retag τ) F w (tag.map fun _ => τ) app k els A n c := by
  obtain ⟨h1, h2, h2', h3, h4, h5, h6, h7⟩ := h
  rcases tag with _ | σ
  · refine ⟨h1, h2, h2', h3, h4, fun ad hA => ?_, h6, .inl rfl⟩
    obtain ⟨q1, q2, q3, q4, q5⟩ := h5 ad hA
    exact ⟨q1, q2, by simp only [q3]; rfl, q4, q5⟩
  · refine ⟨h1, h2, h2', h3, h4, fun ad hA => ?_, ?_, h7.elim (fun h => by cases h) .inr⟩
    · obtain ⟨q1, q2, q3, q4, q5⟩ := h5 ad hA
      refine ⟨q1, q2, by simp only [q3]; rfl, ?_, q5⟩
      rcases q4 with q4 | q4
      · cases q4
      · exact .inr q4
    · cases app with
      | no => trivial
      | full => exact ⟨h6.1, .inl (by simp)⟩
      | front e => exact ⟨.inl (by simp), h6.2⟩
theorem RepS.retag {T : Nat → BTag} {F : Nat → Nat} {w : World} (τ : Nat) {x : SV} {u : Value} (h : RepS T F w x u) : RepS (fun b => (T b).retag τ) F w (x.retag τ) u := by
  cases x with
  | v x => exact h
  | nil => exact h
  | sl tag app k els =>
    obtain ⟨A, n, c, hu, h⟩ := h
    have h' := h.retag τ
    cases tag with
    | none => exact ⟨A, n, c, hu, h'⟩
    | some σ => exact ⟨A, n, c, hu, h'⟩
  | nsl tag rts uq k els =>
    obtain ⟨hs, A, n, c, hu, h1, h2, h3⟩ := h
    exact ⟨hs, A, n, c, hu, h1.retag τ, h2.map (fun t => t.map fun _ => τ) (fun t ht => List.mem_map_of_mem ht) (fun tag k els A n c _ h => h.retag τ), h3⟩
  | ag rts e =>
    obtain ⟨hs, hu, h2⟩ := h
    exact ⟨hs, hu, h2.map (fun t => t.map fun _ => τ) (fun t ht => List.mem_map_of_mem ht) (fun tag k els A n c _ h => h.retag τ)⟩
theorem BslOk.retag {T : Nat → BTag} {ρ : Nat → Nat × Nat} {w : World} (τ : Nat) {id off k n : Nat} {u : Value} (h : BslOk T ρ w id off k n u) : BslOk (fun b => (T b).retag τ) ρ w id off k n u := by
  rcases h with h | ⟨c, cur, e, h1, h2, h3, h4, h5, h6, h7⟩
  · exact .inl h
  · exact .inr ⟨c, cur, e, h1, h2, h3, h4, by simp only [h5]; rfl, h6, h7⟩
theorem NestOk.tags {T T' : Nat → BTag} {w : World} {g g' k : Nat} {rows : List NRow} (h : NestOk T w g k rows) (hT : ∀ b, T b = .obj (g + 1) → T' b = .obj (g' + 1)) : NestOk T' w g' k rows := by
  refine ⟨h.1, fun r hr => ?_⟩
  obtain ⟨h1, h2, h3, h4⟩ := h.2 r hr
  exact ⟨h1, h2, h3, h4.imp id fun ⟨b, o, cur, e, q1, q2, q3⟩ => ⟨b, o, cur, e, q1, hT b q2, q3⟩⟩
theorem NestOk.retag {T : Nat → BTag} {w : World} (τ : Nat) {g k : Nat} {rows : List NRow} (h : NestOk T w g k rows) : NestOk (fun b => (T b).retag τ) w (gsn τ g) k rows :=
  h.tags fun b hb => by show (T b).retag τ = _; rw [hb]; rfl
theorem RepP.retag {T : Nat → BTag} {F : Nat → Nat} {ρ : Nat → Nat × Nat} {w : World} (τ : Nat) {p : PV} (hp : ∀ tag k els i j, p ≠ .elp tag k els i j) {u : Value} (h : RepP T F ρ w p u) : RepP (fun b => (T b).retag τ) F ρ w (p.retag τ) u := by
  cases p with
  | any => trivial
  | s x => exact RepS.retag τ h
  | tup xs =>
    obtain ⟨vs, hu, hl, hr⟩ := h
    refine ⟨vs, hu, by simpa using hl, fun i x y hx hy => ?_⟩
    rw [List.getElem?_map] at hx
    cases hxi : xs[i]? with
    | none => rw [hxi] at hx; cases hx
    | some x0 =>
      rw [hxi] at hx
      injection hx with hx
      subst hx
      exact RepS.retag τ (hr i x0 y hxi hy)
  | box id off => exact h
  | elp tag k els i j => exact absurd rfl (hp tag k els i j)
  | bsl id off k n => exact BslOk.retag τ h
  | hd v x => exact RepS.retag τ h
  | hs v id off k n => exact BslOk.retag τ h
  | hb v id off => exact h
  | kept b o => exact ⟨by show (T b).retag τ = _; rw [h.1]; rfl, h.2⟩
  | old W B => trivial
  | nep tag rts k els i j => trivial
  | hds tag k l =>
    cases tag with
    | none => exact fun p hp => RepS.retag τ (h p hp)
    | some σ => exact fun p hp => RepS.retag τ (h p hp)
  | nest g k rows => exact NestOk.retag τ h
  | clo f caps => exact h

/-! ### a function's results -/
inductive ResVar (P : Program) (s : St) : ResultVar → SV → Prop
  | tmp {t : Nat} {x : SV} (h : s.ev (.tmp t) = .s x) : ResVar P s (.tmp t) x
  | cell {t ty id off : Nat} {cs : List Value} {u : Value} (h : s.ev (.tmp t) = .box id off) (hb : s.box id = some cs) (hl : LoadV P ty cs off u) : ResVar P s (.cell t ty) (.v u)
  | cellH {t ty id off h : Nat} {cs : List Value} {u : Value} {x : SV} (hx : s.ev (.tmp t) = .box id off) (hb : s.box id = some cs) (hl : LoadV P ty cs off u) (hf : s.ev (.tmp h) = .hd u x) : ResVar P s (.cell t ty) x
def rvRun (tmps : Array Value) : ResultVar → Sem Value
  | .tmp t => pure (tmps.getD t undef)
  | .cell b t => do loadVar t (← asAddr (tmps.getD b undef))
theorem results_eq (fn : Func) (tmps : Array Value) : results fn tmps = (do
    let vs ← fn.results.mapM (rvRun tmps)
    pure (if h : vs.size = 1 then vs[0] else .tuple vs)) := by
  unfold results
  congr 1
theorem run_resVar {P : Program} {s : St} {w0 : Base} {n : Nat} {T : Nat → BTag} {F : Nat → Nat} {ρ : Nat → Nat × Nat} {a : Act} {w : World} (hr : RSx w0 n T F ρ s a w) {r : ResultVar} {x : SV} (h : ResVar P s r x) :
    ∃ u, (rvRun a.tmps r).run P w = .ok u w ∧ RepS T F w x u := by
  cases h with
  | @tmp t x h =>
    have := hr.ev (.tmp t)
    rw [h] at this
    exact ⟨_, rfl, this⟩
  | @cell t ty id off cs u h hb hl =>
    have he := hr.ev (.tmp t)
    rw [h] at he
    have he' : a.tmps.getD t undef = .pointer (some ⟨(ρ id).1, (ρ id).2 + off, none⟩) := he
    have hbx := hr.boxes id cs hb
    refine ⟨u, ?_, rfl⟩
    simp only [rvRun, he', asAddr, Sem.run_bind, Sem.run_pure, Result.andThen_ok]
    exact run_loadV (w := w) (b := (ρ id).1) (o := (ρ id).2) hl (fun j v hv => hbx.cell hv)
  | @cellH t ty id off h cs u x hx hb hl hf =>
    have he := hr.ev (.tmp t)
    rw [hx] at he
    have he' : a.tmps.getD t undef = .pointer (some ⟨(ρ id).1, (ρ id).2 + off, none⟩) := he
    have hbx := hr.boxes id cs hb
    have h2 := hr.ev (.tmp h)
    rw [hf] at h2
    refine ⟨u, ?_, h2⟩
    simp only [rvRun, he', asAddr, Sem.run_bind, Sem.run_pure, Result.andThen_ok]
    exact run_loadV (w := w) (b := (ρ id).1) (o := (ρ id).2) hl (fun j v hv => hbx.cell hv)

/-- The state at the end gives this result. -/
inductive ResOk (P : Program) (s : St) : List ResultVar → PV → Prop
  | one {r : ResultVar} {x y : SV} (h : ResVar P s r x) (hy : SVLe (x.retag 0) y) : ResOk P s [r] (.s y)
  | two {r1 r2 : ResultVar} {x1 x2 y1 y2 : SV} (h1 : ResVar P s r1 x1) (hy1 : SVLe (x1.retag 0) y1) (h2 : ResVar P s r2 x2) (hy2 : SVLe (x2.retag 0) y2) : ResOk P s [r1, r2] (.tup [y1, y2])
  | three {r1 r2 r3 : ResultVar} {x1 x2 x3 y1 y2 y3 : SV} (h1 : ResVar P s r1 x1) (hy1 : SVLe (x1.retag 0) y1) (h2 : ResVar P s r2 x2) (hy2 : SVLe (x2.retag 0) y2) (h3 : ResVar P s r3 x3) (hy3 : SVLe (x3.retag 0) y3) : ResOk P s [r1, r2, r3] (.tup [y1, y2, y3])
  | zero : ResOk P s [] (.tup [])

theorem run_resOk {P : Program} {s : St} {w0 : Base} {n : Nat} {T : Nat → BTag} {F : Nat → Nat} {ρ : Nat → Nat × Nat} {a : Act} {w : World} (hr : RSx w0 n T F ρ s a w) {fn : Func} {l : List ResultVar} (hl : fn.results = l.toArray) {res : PV} (h : ResOk P s l res) :
    ∃ u, (results fn a.tmps).run P w = .ok u w ∧ RepP (fun b => (T b).retag 0) F (fun _ => (0, 0)) w res u := by
  cases h with
  | zero =>
    refine ⟨.tuple #[], ?_, #[], rfl, rfl, fun i x y hx hy => by simp at hx⟩
    simp [results_eq, hl]
  | @one r x y h hy =>
    obtain ⟨u, h1, h2⟩ := run_resVar hr h
    refine ⟨u, ?_, hy.rep (h2.retag 0)⟩
    simp [results_eq, hl, h1]
  | @two r1 r2 x1 x2 y1 y2 h1 hy1 h2 hy2 =>
    obtain ⟨u1, p1, q1⟩ := run_resVar hr h1
    obtain ⟨u2, p2, q2⟩ := run_resVar hr h2
    refine ⟨.tuple #[u1, u2], ?_, #[u1, u2], rfl, rfl, fun i x y hx hy => ?_⟩
    · simp [results_eq, hl, p1, p2]
    · match i, hx, hy with
      | 0, hx, hy => simp at hx hy; subst hx hy; exact hy1.rep (q1.retag 0)
      | 1, hx, hy => simp at hx hy; subst hx hy; exact hy2.rep (q2.retag 0)
      | (i + 2), hx, hy => simp at hx
  | @three r1 r2 r3 x1 x2 x3 y1 y2 y3 h1 hy1 h2 hy2 h3 hy3 =>
    obtain ⟨u1, p1, q1⟩ := run_resVar hr h1
    obtain ⟨u2, p2, q2⟩ := run_resVar hr h2
    obtain ⟨u3, p3, q3⟩ := run_resVar hr h3
    refine ⟨.tuple #[u1, u2, u3], ?_, #[u1, u2, u3], rfl, rfl, fun i x y hx hy => ?_⟩
    · simp [results_eq, hl, p1, p2, p3]
    · match i, hx, hy with
      | 0, hx, hy => simp at hx hy; subst hx hy; exact hy1.rep (q1.retag 0)
      | 1, hx, hy => simp at hx hy; subst hx hy; exact hy2.rep (q2.retag 0)
      | 2, hx, hy => simp at hx hy; subst hx hy; exact hy3.rep (q3.retag 0)
      | (i + 3), hx, hy => simp at hx

def entryEnv : Nat → List SV → List (Nat × PV)
  | _, [] => []
  | i, x :: xs => (i, .s x) :: entryEnv (i + 1) xs
theorem look_entry {w : World} : ∀ {xs : List SV} {vs : List Value} (i t : Nat), ArgsOk w xs vs → RepP (fun _ => .ext) (fun _ => 0) (fun _ => (0, 0)) w (look (entryEnv i xs) (i + t)) (vs.getD t undef)
  | [], vs, i, t, _ => by simp [entryEnv, look]; trivial
  | x :: xs, [], i, t, h => h.elim
  | x :: xs, u :: us, i, t, h => by
    rw [entryEnv, look_put]
    cases t with
    | zero => rw [if_pos (by omega)]; exact h.1
    | succ t =>
      rw [if_neg (by omega)]
      have := look_entry (xs := xs) (vs := us) (i + 1) t h.2
      rw [show i + 1 + t = i + (t + 1) by omega] at this
      simpa using this
theorem argsOk_len {w : World} : ∀ {xs : List SV} {vs : List Value}, ArgsOk w xs vs → vs.length = xs.length
  | [], [], _ => rfl
  | [], _ :: _, h => h.elim
  | _ :: _, [], h => h.elim
  | _ :: _, _ :: _, h => by simp [argsOk_len h.2]

theorem pure_of_wt {P : Program} {f : FuncId} {fn : Func} {c : Code} {l : List ResultVar} {args : List SV} {res : PV} (hf : P.funcs[f]? = some fn) (hb : fn.body = some c) (hname : (fn.name == "runtime.NumGoroutine") = false)
    (n : Nat) (hnt : fn.ntmps = n) (hn : (Nat.ble args.length n && Nat.ble n 1000000) = true) (hl : fn.results = l.toArray)
    (h : ∀ w0, Wt P w0 n c ⟨entryEnv 0 args, []⟩ (fun s => ResOk P s l res) (fun s => ResOk P s l res) (fun _ _ => False)) : Pure P f args res := by
  subst hnt
  refine ⟨⟨fn, hf, by simpa using hname, by rw [hb]; rfl⟩, fun vs w hvs => ?_⟩
  have hlen := argsOk_len hvs
  have hn0 := (Bool.and_eq_true _ _ ▸ hn : _ ∧ _)
  have hn' : args.length ≤ fn.ntmps := Nat.ble_eq ▸ hn0.1
  have hn2 : fn.ntmps ≤ 1000000 := Nat.ble_eq ▸ hn0.2
  refine calls_of_wp hf hb ?_
  have hr : RSx ⟨w, fun _ => undef, [], fun _ _ => False⟩ fn.ntmps (fun _ => .ext) (fun _ => 0) (fun _ => (0, 0)) ⟨entryEnv 0 args, []⟩ { tmps := vs.toArray ++ Array.replicate (fn.ntmps - vs.toArray.size) undef, defers := [] } w := by
    refine ⟨rfl, by simp; omega, hn2, Below.refl _ _, fun _ _ => rfl, fun t => ?_, fun id cs hc => by cases hc⟩
    have := look_entry (w := w) 0 t hvs
    rw [Nat.zero_add] at this
    have e : (vs.toArray ++ Array.replicate (fn.ntmps - vs.toArray.size) undef).getD t undef = vs.getD t undef := by
      rw [Array.getD_eq_getD_getElem?, List.getD_eq_getElem?_getD, Array.getElem?_append]
      split
      · simp
      · rename_i hlt
        rw [List.getElem?_eq_none (by simpa using hlt), Array.getElem?_replicate]
        split <;> rfl
    unfold vl
    cases hb : Nat.blt t 1000000 with
    | true => rw [cond_true, e]; exact this
    | false =>
      have hout : vs.getD t undef = undef := by
        rw [List.getD_eq_getElem?_getD, List.getElem?_eq_none]
        · rfl
        · have : ¬ t < 1000000 := fun h => by rw [← Nat.blt_eq, hb] at h; cases h
          omega
      rw [hout] at this
      exact this
  have fin : ∀ s a' w', ResOk P s l res → RS ⟨w, fun _ => undef, [], fun _ _ => False⟩ fn.ntmps s a' w' → a'.defers = [] ∧ ∃ v, (results fn a'.tmps).run P w' = .ok v w' ∧ ∃ v' T' F', Ending.returned v = .returned v' ∧ Below w.heap.size w w' ∧ (∀ b, b < w.heap.size → T' b = .ext) ∧ RepP T' F' (fun _ => (0, 0)) w' res v' := by
    rintro s a' w' ho ⟨T, F, ρ, hx⟩
    obtain ⟨u, h1, h2⟩ := run_resOk hx hl ho
    exact ⟨hx.defers, u, h1, u, _, F, rfl, hx.below, fun b hb' => by simp only [hx.ext b hb']; rfl, h2⟩
  refine wp_mono (h ⟨w, fun _ => undef, [], fun _ _ => False⟩ _ w ⟨_, _, _, hr⟩) fun e a' w' hq => ?_
  cases e with
  | normal => obtain ⟨s, h1, h2⟩ := hq; exact fin s a' w' h1 h2
  | ret =>
    rcases hq with ⟨s, h1, h2⟩ | hq
    · exact fin s a' w' h1 h2
    · exact hq.elim
  | exit j => obtain ⟨s, h1, h2⟩ := hq; exact h1.elim
  | goto l => exact hq.elim
  | panic c => exact hq.elim
  | outgrown => exact hq.elim

section
variable {P : Program} {ev : Operand → PV} {bx : Nat → Option (List Value)} {d : Option Nat} {ty : TypeId} {pos : String} {aft : Array Edge} {g : Option (Nat × Bool)}

/-- What is known of an operation's operands. -/
def Opnds (B : Nat) (T : Nat → BTag) (F : Nat → Nat) (ρ : Nat → Nat × Nat) (ev : Operand → PV) (bx : Nat → Option (List Value)) (op : Op) (a : Act) (w : World) : Prop :=
  ∀ x, (x ∈ op.operands ∨ isV x = true) → RepP T F ρ w (ev x) (a.eval x) ∧ ∀ id, (ev x).isBox id = true → ∀ cs, bx id = some cs → BoxOk B T ρ w id cs

theorem Val.same {op : Op} {pv : PV} (h : ∀ B T F ρ (a : Act) w, Opnds B T F ρ ev bx op a w → ∃ v, (execOp a.eval ⟨d, op, ty, pos, aft, g⟩).run P w = .ok (.value v) w ∧ RepP T F ρ w pv v) : Val P ⟨d, op, ty, pos, aft, g⟩ ev bx pv none := by
  intro B T F ρ a w _ hop next Q hK
  obtain ⟨v, h1, h2⟩ := h B T F ρ a w hop
  unfold Oper.wp
  rw [h1]
  exact hK v w T F ρ (Below.refl _ _) (fun _ _ => ⟨rfl, rfl⟩) (fun _ _ => rfl) h2 (fun p hp => by cases hp)

theorem Val.move {x : Operand} : Val P ⟨d, .move x, ty, pos, aft, g⟩ ev bx (ev x) none :=
  .same fun _ _ _ _ a w h => ⟨_, rfl, (h x (by simp [Op.operands])).1⟩
theorem Val.assign {x : Operand} : Val P ⟨d, .assign x, ty, pos, aft, g⟩ ev bx (ev x) none :=
  .same fun _ _ _ _ a w h => ⟨_, rfl, (h x (by simp [Op.operands])).1⟩

theorem rep_v {T : Nat → BTag} {F : Nat → Nat} {ρ : Nat → Nat × Nat} {w : World} {x : Operand} {a : Act} {u : Value} (h : RepP T F ρ w (ev x) (a.eval x)) (hx : ev x = .s (.v u)) : a.eval x = u := by
  rw [hx] at h; exact h

theorem Val.pick {c x y : Operand} {b : Bool} {u1 u2 : Value} (hc : ev c = .s (.v (.bool b))) (hx : ev x = .s (.v u1)) (hy : ev y = .s (.v u2)) : Val P ⟨d, .pick c x y, ty, pos, aft, g⟩ ev bx (.s (.v (bif b then u1 else u2))) none :=
  .same fun _ _ _ _ a w h => by
    have h1 := rep_v (h c (by simp [Op.operands])).1 hc
    have h2 := rep_v (h x (by simp [Op.operands])).1 hx
    have h3 := rep_v (h y (by simp [Op.operands])).1 hy
    refine ⟨bif b then u1 else u2, ?_, rfl⟩
    cases b <;> simp [execOp, h1, h2, h3, asBool]
theorem Val.pickT {c x y : Operand} (hc : ev c = .s (.v (.bool true))) : Val P ⟨d, .pick c x y, ty, pos, aft, g⟩ ev bx (ev x) none :=
  .same fun _ _ _ _ a w h => by
    have h1 := rep_v (h c (by simp [Op.operands])).1 hc
    exact ⟨a.eval x, by simp [execOp, h1, asBool], (h x (by simp [Op.operands])).1⟩
theorem Val.pickF {c x y : Operand} (hc : ev c = .s (.v (.bool false))) : Val P ⟨d, .pick c x y, ty, pos, aft, g⟩ ev bx (ev y) none :=
  .same fun _ _ _ _ a w h => by
    have h1 := rep_v (h c (by simp [Op.operands])).1 hc
    exact ⟨a.eval y, by simp [execOp, h1, asBool], (h y (by simp [Op.operands])).1⟩

/-- An operator on two plain values. -/
def BinRun (P : Program) (op : BinOp) (t : TypeId) (x y : Operand) (a b v : Value) : Prop := ∀ w, (do eqGuard op t x y a b; binOp op t a b : Sem Value).run P w = .ok v w
theorem Val.bin {op : BinOp} {t yt : TypeId} {x y : Operand} {u1 u2 v : Value} (hx : ev x = .s (.v u1)) (hy : ev y = .s (.v u2)) (hv : BinRun P op t x y u1 u2 v) : Val P ⟨d, .binOp op t x y yt, ty, pos, aft, g⟩ ev bx (.s (.v v)) none :=
  .same fun _ _ _ _ a w h => by
    have h1 := rep_v (h x (by simp [Op.operands])).1 hx
    have h2 := rep_v (h y (by simp [Op.operands])).1 hy
    refine ⟨v, ?_, rfl⟩
    simp only [execOp, h1, h2]
    rw [Sem.run_bind, hv w]
    rfl
theorem eqGuard_int {op : BinOp} {t : TypeId} {x y : Operand} {k k' : IntKind} {a b : Int} (w : World) : (eqGuard op t x y (.int k a) (.int k' b)).run P w = .ok () w := by
  unfold eqGuard; cases op <;> rfl
section
variable {t : TypeId} {x y : Operand} {k : IntKind} {a b : Int}
theorem BinRun.add : BinRun P .add t x y (.int k a) (.int k b) (.int k (k.wrap (a + b))) := fun w => by simp [eqGuard_int, binOp, Op.intArith]
theorem BinRun.sub : BinRun P .sub t x y (.int k a) (.int k b) (.int k (k.wrap (a - b))) := fun w => by simp [eqGuard_int, binOp, Op.intArith]
theorem BinRun.mul : BinRun P .mul t x y (.int k a) (.int k b) (.int k (k.wrap (a * b))) := fun w => by simp [eqGuard_int, binOp, Op.intArith]
theorem BinRun.eql : BinRun P .eql t x y (.int k a) (.int k b) (.bool (decide (a = b))) := fun w => by simp [eqGuard_int, binOp, Op.intCmp]; rfl
theorem BinRun.neq : BinRun P .neq t x y (.int k a) (.int k b) (.bool (!decide (a = b))) := fun w => by simp [eqGuard_int, binOp, Op.intCmp]; rfl
theorem BinRun.lss : BinRun P .lss t x y (.int k a) (.int k b) (.bool (decide (a < b))) := fun w => by simp [eqGuard_int, binOp, Op.intCmp]
theorem BinRun.leq : BinRun P .leq t x y (.int k a) (.int k b) (.bool (decide (a ≤ b))) := fun w => by simp [eqGuard_int, binOp, Op.intCmp]
theorem BinRun.gtr : BinRun P .gtr t x y (.int k a) (.int k b) (.bool (decide (b < a))) := fun w => by simp [eqGuard_int, binOp, Op.intCmp]
theorem BinRun.geq : BinRun P .geq t x y (.int k a) (.int k b) (.bool (decide (b ≤ a))) := fun w => by simp [eqGuard_int, binOp, Op.intCmp]
theorem wrap_i64 {n : Int} (h : -9223372036854775808 ≤ n ∧ n ≤ 9223372036854775807) : IntKind.i64.wrap n = n := Go.IntWalk.i64_in _ h
theorem BinRun.add' (h : -9223372036854775808 ≤ a + b ∧ a + b ≤ 9223372036854775807) : BinRun P .add t x y (.int .i64 a) (.int .i64 b) (.int .i64 (a + b)) := by
  have := BinRun.add (P := P) (t := t) (x := x) (y := y) (k := .i64) (a := a) (b := b); rwa [wrap_i64 h] at this
theorem BinRun.sub' (h : -9223372036854775808 ≤ a - b ∧ a - b ≤ 9223372036854775807) : BinRun P .sub t x y (.int .i64 a) (.int .i64 b) (.int .i64 (a - b)) := by
  have := BinRun.sub (P := P) (t := t) (x := x) (y := y) (k := .i64) (a := a) (b := b); rwa [wrap_i64 h] at this
theorem BinRun.mul' (h : -9223372036854775808 ≤ a * b ∧ a * b ≤ 9223372036854775807) : BinRun P .mul t x y (.int .i64 a) (.int .i64 b) (.int .i64 (a * b)) := by
  have := BinRun.mul (P := P) (t := t) (x := x) (y := y) (k := .i64) (a := a) (b := b); rwa [wrap_i64 h] at this
theorem BinRun.shl {k' : IntKind} (hb : 0 ≤ b) : BinRun P .shl t x y (.int k a) (.int k' b) (.int k (k.wrap (a * 2 ^ (min b.toNat k.bits)))) := fun w => by
  have hb' : ¬ b < 0 := by omega
  simp [eqGuard_int, binOp, Op.shift, hb']
theorem BinRun.shr {k' : IntKind} (hb : 0 ≤ b) : BinRun P .shr t x y (.int k a) (.int k' b) (.int k (a.fdiv (2 ^ (min b.toNat k.bits)))) := fun w => by
  have hb' : ¬ b < 0 := by omega
  simp [eqGuard_int, binOp, Op.shift, hb']
theorem BinRun.bits {op : BinOp} (h : op = .and ∨ op = .or ∨ op = .xor ∨ op = .andNot) : BinRun P op t x y (.int k a) (.int k b) (.int k (match op with
    | .and => k.wrap (BitVec.ofInt k.bits a &&& BitVec.ofInt k.bits b).toNat
    | .or => k.wrap (BitVec.ofInt k.bits a ||| BitVec.ofInt k.bits b).toNat
    | .xor => k.wrap (BitVec.ofInt k.bits a ^^^ BitVec.ofInt k.bits b).toNat
    | _ => k.wrap (BitVec.ofInt k.bits a &&& ~~~ BitVec.ofInt k.bits b).toNat)) := fun w => by
  rcases h with rfl | rfl | rfl | rfl <;> simp [eqGuard_int, binOp, Op.intBits]
end

theorem Val.not {t : TypeId} {x : Operand} {b : Bool} (hx : ev x = .s (.v (.bool b))) : Val P ⟨d, .unOp .not t x, ty, pos, aft, g⟩ ev bx (.s (.v (.bool (!b)))) none :=
  .same fun _ _ _ _ a w h => by
    have h1 := rep_v (h x (by simp [Op.operands])).1 hx
    exact ⟨.bool (!b), by simp [execOp, h1, Op.unary], rfl⟩

theorem RepP.elp_of {T : Nat → BTag} {F : Nat → Nat} {ρ : Nat → Nat × Nat} {w : World} {x : Operand} {a : Act} {tag : Option Nat} {k : Nat} {els : List (List Value)} {i j : Nat} (h : RepP T F ρ w (ev x) (a.eval x)) (hx : ev x = .elp tag k els i j) :
    ∃ b o, a.eval x = .pointer (some ⟨b, o + i * k + j, none⟩) ∧ b < w.heap.size ∧ T b = ofTag tag ∧ (tag = none ∨ o + els.length * k ≤ F b) ∧ (∀ e ∈ els, e.length = k) ∧ RowAt w b o k els := by
  rw [hx] at h; exact h
theorem RepP.box_of {T : Nat → BTag} {F : Nat → Nat} {ρ : Nat → Nat × Nat} {w : World} {x : Operand} {a : Act} {id off : Nat} (h : RepP T F ρ w (ev x) (a.eval x)) (hx : ev x = .box id off) :
    a.eval x = .pointer (some ⟨(ρ id).1, (ρ id).2 + off, none⟩) := by
  rw [hx] at h; exact h
theorem RepP.sl_of {T : Nat → BTag} {F : Nat → Nat} {ρ : Nat → Nat × Nat} {w : World} {x : Operand} {a : Act} {tag : Option Nat} {app : App} {k : Nat} {els : List (List Value)} (h : RepP T F ρ w (ev x) (a.eval x)) (hx : ev x = .s (.sl tag app k els)) :
    ∃ A n c, a.eval x = .slice A n c ∧ SlOk T F w tag app k els A n c := by
  rw [hx] at h; exact h

theorem Val.loadBox {t : TypeId} {x : Operand} {id off : Nat} {cs : List Value} {u : Value} (hx : ev x = .box id off) (hb : bx id = some cs) (hl : LoadV P t cs off u) : Val P ⟨d, .load t x, ty, pos, aft, g⟩ ev bx (.s (.v u)) none :=
  .same fun B T F ρ a w h => by
    obtain ⟨h1, h2⟩ := h x (by simp [Op.operands])
    have h3 := h1.box_of hx
    have h4 := h2 id (isBox_box hx) cs hb
    refine ⟨u, ?_, rfl⟩
    have := run_loadV (w := w) (b := (ρ id).1) (o := (ρ id).2) hl (fun j v hv => h4.cell hv)
    simp [execOp, h3, Instr.loadAt, Instr.sureAddr, this]
theorem Val.loadEl {t : TypeId} {x : Operand} {tag : Option Nat} {k : Nat} {els : List (List Value)} {i j : Nat} {e : List Value} {u : Value} (hx : ev x = .elp tag k els i j) (he : els[i]? = some e) (hl : LoadV P t e j u) : Val P ⟨d, .load t x, ty, pos, aft, g⟩ ev bx (.s (.v u)) none :=
  .same fun B T F ρ a w h => by
    obtain ⟨b, o, h3, _, _, _, _, hr⟩ := (h x (by simp [Op.operands])).1.elp_of hx
    refine ⟨u, ?_, rfl⟩
    have := run_loadV (w := w) (b := b) (o := o + i * k) hl (fun j v hv => hr i j e v he hv)
    simp [execOp, h3, Instr.loadAt, Instr.sureAddr, this]

theorem run_fieldAt {t f off : Nat} [h : TyField P t f off] (w : World) (b o : Nat) : (Instr.fieldAt t (.pointer (some ⟨b, o, none⟩)) f).run P w = .ok (.pointer (some ⟨b, o + off, none⟩)) w := by
  obtain ⟨fs, fd, i, h1, h2, h3, h4, h5⟩ := h.fld
  simp [Instr.fieldAt, run_underlying h1, h2, Instr.sureAddr, fieldPlace, Go.sizeOf, typeInfo, h4, h5, Addr.add_mid, h3]
theorem Val.fieldBox {t f off0 : Nat} [TyField P t f off0] {x : Operand} {id off : Nat} (hx : ev x = .box id off) : Val P ⟨d, .fieldAddr t x f, ty, pos, aft, g⟩ ev bx (.box id (off + off0)) none :=
  .same fun B T F ρ a w h => by
    have h3 := (h x (by simp [Op.operands])).1.box_of hx
    exact ⟨.pointer (some ⟨(ρ id).1, (ρ id).2 + (off + off0), none⟩), by simp [execOp, h3, run_fieldAt (P := P) (t := t) (f := f) (off := off0), Nat.add_assoc], rfl⟩
theorem Val.fieldEl {t f off0 : Nat} [TyField P t f off0] {x : Operand} {tag : Option Nat} {k : Nat} {els : List (List Value)} {i j : Nat} (hx : ev x = .elp tag k els i j) : Val P ⟨d, .fieldAddr t x f, ty, pos, aft, g⟩ ev bx (.elp tag k els i (j + off0)) none :=
  .same fun B T F ρ a w h => by
    obtain ⟨b, o, h3, q⟩ := (h x (by simp [Op.operands])).1.elp_of hx
    exact ⟨.pointer (some ⟨b, o + i * k + j + off0, none⟩), by simp [execOp, h3, run_fieldAt (P := P) (t := t) (f := f) (off := off0)], b, o, by simp [Nat.add_assoc], q⟩

theorem Val.index {t e0 k0 by0 : Nat} [hT : TySl P t e0 k0 by0] {x y : Operand} {tag : Option Nat} {app : App} {els : List (List Value)} {kd : IntKind} {i : Int} (j : Nat) (hx : ev x = .s (.sl tag app k0 els)) (hy : ev y = .s (.v (.int kd i))) (hij : i = (j : Int)) (hj : j < els.length) :
    Val P ⟨d, .indexAddr t x y, ty, pos, aft, g⟩ ev bx (.elp tag k0 els j 0) none :=
  .same fun B T F ρ a w h => by
    subst hij
    obtain ⟨A, n, c, h3, h4, h5, h5', h6, h7, h8, h9⟩ := (h x (by simp [Op.operands])).1.sl_of hx
    have h2 := rep_v (h y (by simp [Op.operands])).1 hy
    obtain ⟨inf, z, hi, _, hs, _⟩ := hT.info
    cases A with
    | none => have := (h7 rfl).1; omega
    | some ad =>
      obtain ⟨b, o, sp⟩ := ad
      obtain ⟨q1, q2, q3, q4, q5⟩ := h8 _ rfl
      simp only at q1 q2 q3 q4 q5
      subst q1
      refine ⟨.pointer (some ⟨b, o + j * k0 + 0, none⟩), ?_, b, o, rfl, q2, q3, by rw [h4] at q4; exact q4, h6, q5⟩
      have hin : (0 : Int) ≤ j ∧ (j : Int) < n := by omega
      simp [execOp, h3, h2, Instr.indexAt, asIntOf, run_underlying hT.und, Go.sizeOf, typeInfo, hi, hs, hin, Addr.add_mid]
      omega
/-- An element of an array in a box. -/
theorem Val.indexBox {t len e0 k0 : Nat} [hT : TyArr P t len e0 k0] {x y : Operand} {id off : Nat} {kd : IntKind} {i : Int} (j : Nat) (hx : ev x = .box id off) (hy : ev y = .s (.v (.int kd i))) (hij : i = (j : Int)) (hj : j < len) :
    Val P ⟨d, .indexAddr t x y, ty, pos, aft, g⟩ ev bx (.box id (off + j * k0)) none :=
  .same fun B T F ρ a w h => by
    subst hij
    have h3 := (h x (by simp [Op.operands])).1.box_of hx
    have h2 := rep_v (h y (by simp [Op.operands])).1 hy
    have hs := hT.size
    cases hi : P.info? e0 with
    | none => rw [hi] at hs; cases hs
    | some inf =>
      have hs' : inf.size = k0 := by rw [hi] at hs; simpa using hs
      refine ⟨.pointer (some ⟨(ρ id).1, (ρ id).2 + (off + j * k0), none⟩), ?_, rfl⟩
      simp [execOp, h3, h2, Instr.indexAt, asIntOf, run_underlying hT.und, Go.sizeOf, typeInfo, hi, hs', Instr.sureAddr, Addr.add_mid, Nat.add_assoc]
      intro hc
      omega
theorem RepP.bsl_of {T : Nat → BTag} {F : Nat → Nat} {ρ : Nat → Nat × Nat} {w : World} {x : Operand} {a : Act} {id off k n : Nat} (h : RepP T F ρ w (ev x) (a.eval x)) (hx : ev x = .bsl id off k n) :
    ∃ c, n ≤ c ∧ c ≤ maxLen ∧ (a.eval x = .slice (some ⟨(ρ id).1, (ρ id).2 + off, none⟩) n c ∨ a.eval x = .slice none 0 0 ∧ n = 0) := by
  rw [hx] at h
  rcases (h : BslOk ..) with ⟨h1, h2⟩ | ⟨c, cur, e, h1, h2, h3, _⟩
  · exact ⟨0, by omega, by unfold maxLen; decide, .inr ⟨h1, h2⟩⟩
  · exact ⟨c, h1, h2, .inl h3⟩
/-- An element of a slice over a box. -/
theorem Val.indexBsl {t e0 k0 by0 : Nat} [hT : TySl P t e0 k0 by0] {x y : Operand} {id off n : Nat} {kd : IntKind} {i : Int} (j : Nat) (hx : ev x = .bsl id off k0 n) (hy : ev y = .s (.v (.int kd i))) (hij : i = (j : Int)) (hj : j < n) :
    Val P ⟨d, .indexAddr t x y, ty, pos, aft, g⟩ ev bx (.box id (off + j * k0)) none :=
  .same fun B T F ρ a w h => by
    subst hij
    obtain ⟨c, _, _, h3⟩ := (h x (by simp [Op.operands])).1.bsl_of hx
    have h2 := rep_v (h y (by simp [Op.operands])).1 hy
    obtain ⟨inf, z, hi, _, hs, _⟩ := hT.info
    rcases h3 with h3 | ⟨_, h3⟩
    · refine ⟨.pointer (some ⟨(ρ id).1, (ρ id).2 + (off + j * k0), none⟩), ?_, rfl⟩
      have hin : (0 : Int) ≤ j ∧ (j : Int) < n := by omega
      simp [execOp, h3, h2, Instr.indexAt, asIntOf, run_underlying hT.und, Go.sizeOf, typeInfo, hi, hs, hin, Addr.add_mid, Nat.add_assoc]
      omega
    · omega
theorem Val.indexElArr {t len e0 k0 : Nat} [hT : TyArr P t len e0 k0] {x y : Operand} {tag : Option Nat} {k : Nat} {els : List (List Value)} {ii jj : Nat} {kd : IntKind} {i : Int} (j : Nat) (hx : ev x = .elp tag k els ii jj) (hy : ev y = .s (.v (.int kd i))) (hij : i = (j : Int)) (hj : j < len) :
    Val P ⟨d, .indexAddr t x y, ty, pos, aft, g⟩ ev bx (.elp tag k els ii (jj + j * k0)) none :=
  .same fun B T F ρ a w h => by
    subst hij
    obtain ⟨b, o, h3, q⟩ := (h x (by simp [Op.operands])).1.elp_of hx
    have h2 := rep_v (h y (by simp [Op.operands])).1 hy
    have hs := hT.size
    cases hi : P.info? e0 with
    | none => rw [hi] at hs; cases hs
    | some inf =>
      have hs' : inf.size = k0 := by rw [hi] at hs; simpa using hs
      refine ⟨.pointer (some ⟨b, o + ii * k + (jj + j * k0), none⟩), ?_, b, o, rfl, q⟩
      simp [execOp, h3, h2, Instr.indexAt, asIntOf, run_underlying hT.und, Go.sizeOf, typeInfo, hi, hs', Instr.sureAddr, Addr.add_mid, hj, Nat.add_assoc]

theorem Val.lenBsl {t e0 k0 by0 : Nat} [hT : TySl P t e0 k0 by0] {x : Operand} {ats : Array TypeId} {id off k n : Nat} (hx : ev x = .bsl id off k n) (ht : ats = #[t]) :
    Val P ⟨d, .call ⟨.builtin .len, #[x], ats⟩, ty, pos, aft, g⟩ ev bx (.s (.v (.int .i64 n))) none :=
  .same fun B T F ρ a w h => by
    subst ht
    obtain ⟨c, _, _, h3⟩ := (h x (by simp [Op.operands, Call.operands])).1.bsl_of hx
    refine ⟨.int .i64 n, ?_, rfl⟩
    rcases h3 with h3 | ⟨h3, h4⟩
    · simp [execOp, resolve, invoke, builtin, Builtin.len_, run_underlying hT.und, h3, goInt]
    · simp [execOp, resolve, invoke, builtin, Builtin.len_, run_underlying hT.und, h3, goInt, h4]
theorem Val.len {t e0 k0 by0 : Nat} [hT : TySl P t e0 k0 by0] {x : Operand} {ats : Array TypeId} {tag : Option Nat} {app : App} {k : Nat} {els : List (List Value)} (hx : ev x = .s (.sl tag app k els)) (ht : ats = #[t]) :
    Val P ⟨d, .call ⟨.builtin .len, #[x], ats⟩, ty, pos, aft, g⟩ ev bx (.s (.v (.int .i64 els.length))) none :=
  .same fun B T F ρ a w h => by
    subst ht
    obtain ⟨A, n, c, h3, h4, _⟩ := (h x (by simp [Op.operands, Call.operands])).1.sl_of hx
    refine ⟨.int .i64 n, ?_, by rw [h4]; rfl⟩
    simp [execOp, resolve, invoke, builtin, Builtin.len_, run_underlying hT.und, h3, goInt]
theorem Val.lenNil {t e0 k0 by0 : Nat} [hT : TySl P t e0 k0 by0] {x : Operand} {ats : Array TypeId} (hx : ev x = .s .nil) (ht : ats = #[t]) :
    Val P ⟨d, .call ⟨.builtin .len, #[x], ats⟩, ty, pos, aft, g⟩ ev bx (.s (.v (.int .i64 0))) none :=
  .same fun B T F ρ a w h => by
    subst ht
    have h3 := (h x (by simp [Op.operands, Call.operands])).1
    rw [hx] at h3
    have h3' : a.eval x = .slice none 0 0 := h3
    refine ⟨.int .i64 0, ?_, rfl⟩
    simp [execOp, resolve, invoke, builtin, Builtin.len_, run_underlying hT.und, h3', goInt]
theorem Val.max {x y : Operand} {ats : Array TypeId} {k : IntKind} {u v : Int} (hx : ev x = .s (.v (.int k u))) (hy : ev y = .s (.v (.int k v))) :
    Val P ⟨d, .call ⟨.builtin .max, #[x, y], ats⟩, ty, pos, aft, g⟩ ev bx (.s (.v (.int k (Max.max u v)))) none :=
  .same fun B T F ρ a w h => by
    have h1 := rep_v (h x (by simp [Op.operands, Call.operands])).1 hx
    have h2 := rep_v (h y (by simp [Op.operands, Call.operands])).1 hy
    refine ⟨.int k (Max.max u v), ?_, rfl⟩
    simp [execOp, resolve, invoke, builtin, Builtin.max_, Builtin.max2, h1, h2]
    omega
theorem Val.min {x y : Operand} {ats : Array TypeId} {k : IntKind} {u v : Int} (hx : ev x = .s (.v (.int k u))) (hy : ev y = .s (.v (.int k v))) :
    Val P ⟨d, .call ⟨.builtin .min, #[x, y], ats⟩, ty, pos, aft, g⟩ ev bx (.s (.v (.int k (Min.min u v)))) none :=
  .same fun B T F ρ a w h => by
    have h1 := rep_v (h x (by simp [Op.operands, Call.operands])).1 hx
    have h2 := rep_v (h y (by simp [Op.operands, Call.operands])).1 hy
    refine ⟨.int k (Min.min u v), ?_, rfl⟩
    simp [execOp, resolve, invoke, builtin, Builtin.min_, Builtin.min2, h1, h2]
    omega

theorem Val.extract {x : Operand} {i : Nat} {xs : List SV} {y : SV} (hx : ev x = .tup xs) (hi : xs[i]? = some y) : Val P ⟨d, .extract x i, ty, pos, aft, g⟩ ev bx (.s y) none :=
  .same fun B T F ρ a w h => by
    have h1 := (h x (by simp [Op.operands])).1
    rw [hx] at h1
    obtain ⟨vs, hu, hl, hr⟩ := h1
    have hlt : i < vs.size := by rw [hl]; exact (List.getElem?_eq_some_iff.1 hi).1
    have hv : vs[i]? = some vs[i] := Array.getElem?_eq_getElem hlt
    exact ⟨vs[i], by simp [execOp, hu, Instr.extract, hv], hr i y _ hi hv⟩
end

class TyZero (P : Program) (t : TypeId) (z : outParam Value) : Prop where
  zero : ∃ i, P.info? t = some i ∧ i.zero = some z
theorem run_zeroValue {P : Program} {t : TypeId} {z : Value} [h : TyZero P t z] (w : World) : (zeroValue t).run P w = .ok z w := by
  obtain ⟨i, h1, h2⟩ := h.zero
  simp [zeroValue, typeInfo, h1, h2]

section
variable {P : Program} {ev : Operand → PV} {bx : Nat → Option (List Value)} {d : Option Nat} {ty : TypeId} {pos : String} {aft : Array Edge} {g : Option (Nat × Bool)}

theorem Val.newBox {op : Op} {u : Value} {e : TypeId} (id : Nat) (h : ∀ B T F ρ (a : Act) w, Opnds B T F ρ ev bx op a w → (execOp a.eval ⟨d, op, ty, pos, aft, g⟩).run P w = .ok (.value (.pointer (some ⟨w.heap.size, 0, none⟩))) (w.alloc (.cells u.cells e))) :
    Val P ⟨d, op, ty, pos, aft, g⟩ ev bx (.box id 0) (some (id, u.cells.toList)) := by
  intro B T F ρ a w hB hop next Q hK
  unfold Oper.wp
  rw [h B T F ρ a w hop]
  refine hK _ (w.alloc (.cells u.cells e)) (fun b => if b = w.heap.size then .box id else T b) F (fun j => if j = id then (w.heap.size, 0) else ρ j) ((Below.refl _ _).alloc (Nat.le_refl _) _) (fun b hb => ⟨if_neg (by omega), rfl⟩) (fun j hj => if_neg fun e => hj _ rfl e.symm) ?_ ?_
  · simp [RepP]
  · rintro p hp
    injection hp with hp
    subst hp
    refine fun _ => ⟨by simp [hB], by simp, by simp, [], [], e, by simp, ?_⟩
    simpa using heap_alloc_new w (.cells u.cells e)
theorem Val.box {e : TypeId} {x : Operand} {u : Value} (id : Nat) (hx : ev x = .s (.v u)) : Val P ⟨d, .box e x, ty, pos, aft, g⟩ ev bx (.box id 0) (some (id, u.cells.toList)) :=
  .newBox (e := e) id fun B T F ρ a w h => by
    have h1 := rep_v (h x (by simp [Op.operands])).1 hx
    simp [execOp, h1, Instr.box, newVar, newRow]
theorem Val.alloc {e : TypeId} {z : Value} [hz : TyZero P e z] (id : Nat) : Val P ⟨d, .alloc e, ty, pos, aft, g⟩ ev bx (.box id 0) (some (id, z.cells.toList)) :=
  .newBox (e := e) id fun B T F ρ a w h => by
    simp [execOp, Instr.alloc, run_zeroValue (z := z), newVar, newRow]

/-! ### values put together -/
inductive PartsOk (ev : Operand → PV) : List (Nat × Operand) → List (Nat × Value) → Prop
  | nil : PartsOk ev [] []
  | cons {i : Nat} {x : Operand} {u : Value} {ps : List (Nat × Operand)} {qs : List (Nat × Value)} (h : ev x = .s (.v u)) (t : PartsOk ev ps qs) : PartsOk ev ((i, x) :: ps) ((i, u) :: qs)
  | consN {i : Nat} {x : Operand} {ps : List (Nat × Operand)} {qs : List (Nat × Value)} (h : ev x = .s .nil) (t : PartsOk ev ps qs) : PartsOk ev ((i, x) :: ps) ((i, .slice none 0 0) :: qs)
theorem PartsOk.eval {T : Nat → BTag} {F : Nat → Nat} {ρ : Nat → Nat × Nat} {w : World} {a : Act} : ∀ {ps : List (Nat × Operand)} {qs : List (Nat × Value)}, PartsOk ev ps qs → (∀ p ∈ ps, RepP T F ρ w (ev p.2) (a.eval p.2)) → ps.map (fun p => (p.1, a.eval p.2)) = qs
  | _, _, .nil, _ => rfl
  | _, _, .cons h t, hr => by
    have h1 := hr _ (List.mem_cons_self ..)
    simp only [h] at h1
    have h2 := t.eval (fun p hp => hr p (List.mem_cons_of_mem _ hp))
    rw [List.map_cons, h2]
    have h1' : a.eval _ = _ := h1
    rw [h1']
  | _, _, .consN h t, hr => by
    have h1 := hr _ (List.mem_cons_self ..)
    simp only [h] at h1
    have h2 := t.eval (fun p hp => hr p (List.mem_cons_of_mem _ hp))
    rw [List.map_cons, h2]
    have h1' : a.eval _ = _ := h1
    rw [h1']
/-- 'fill' over lists. -/
def fillL (place : Nat → Option (Nat × Nat)) (cells : List Value) : List (Nat × Value) → Option (List Value)
  | [] => some cells
  | (i, v) :: rest =>
    match place i with
    | none => none
    | some (off, size) =>
      if v.cells.toList.length ≠ size || off + v.cells.toList.length > cells.length then none
      else fillL place (cells.take off ++ v.cells.toList ++ cells.drop (off + v.cells.toList.length)) rest
theorem foldl_set (off : Nat) : ∀ (vs : List Value) (i : Nat) (cs : List Value), off + i + vs.length ≤ cs.length →
    ((vs.zipIdx i).foldl (fun (cs : Array Value) (p : Value × Nat) => cs.setIfInBounds (off + p.2) p.1) cs.toArray) = (cs.take (off + i) ++ vs ++ cs.drop (off + i + vs.length)).toArray
  | [], i, cs, _ => by simp
  | v :: vs, i, cs, h => by
    simp only [List.length_cons] at h
    rw [List.zipIdx_cons, List.foldl_cons]
    simp only [List.setIfInBounds_toArray]
    rw [foldl_set off vs (i + 1) (cs.set (off + i) v) (by simp; omega)]
    have e := list_seg_step cs (off + i) v vs (by omega)
    rw [← Nat.add_assoc, e]
    simp [Nat.add_assoc]
theorem fill_eq (place : Nat → Option (Nat × Nat)) : ∀ (parts : List (Nat × Value)) (cells : List Value), Instr.fill place cells.toArray parts = (fillL place cells parts).map List.toArray
  | [], cells => rfl
  | (i, v) :: rest, cells => by
    simp only [Instr.fill, fillL]
    cases place i with
    | none => rfl
    | some p =>
      obtain ⟨off, size⟩ := p
      simp only [List.size_toArray, Array.length_toList]
      split
      · rfl
      · rename_i hc
        have hle : off + 0 + v.cells.toList.length ≤ cells.length := by simp at hc ⊢; omega
        rw [← fill_eq]
        congr 1
        have := foldl_set off v.cells.toList 0 cells hle
        simp only [Nat.add_zero, Array.length_toList] at this
        rw [← this, ← Array.foldl_toList, Array.toList_zipIdx]

/-- A struct's fields: their offsets and sizes; its zero. -/
class TyStruct (P : Program) (t : TypeId) (zero : outParam (List Value)) (places : outParam (List (Nat × Nat))) : Prop where
  ok : ∃ fs i, P.underlying t = some (.struct fs) ∧ P.info? t = some i ∧ i.zero = some (.agg zero.toArray) ∧ fs.toList.map (fun f => (f.offset, (P.info? f.type).map (·.size))) = places.map (fun p => (p.1, some p.2))
class TyArray (P : Program) (t : TypeId) (zero : outParam (List Value)) (k : outParam Nat) : Prop where
  ok : ∃ len e i, P.underlying t = some (.array len e) ∧ P.info? t = some i ∧ i.zero = some (.agg zero.toArray) ∧ (P.info? e).map (·.size) = some k

theorem run_places {P : Program} (w : World) : ∀ (fs : List Field) (pl : List (Nat × Nat)), fs.map (fun f => (f.offset, (P.info? f.type).map (·.size))) = pl.map (fun p => (p.1, some p.2)) →
    (fs.mapM (fun f => do pure (f.offset, ← Go.sizeOf f.type)) : Sem (List (Nat × Nat))).run P w = .ok pl w
  | [], [], _ => by simp
  | f :: fs, p :: pl, h => by
    simp only [List.map_cons, List.cons.injEq, Prod.mk.injEq] at h
    have ih := run_places w fs pl h.2
    cases hi : P.info? f.type with
    | none => rw [hi] at h; simp at h
    | some i =>
      rw [hi] at h
      simp only [Option.map_some, Option.some.injEq] at h
      obtain ⟨⟨e1, e2⟩, e3⟩ := h
      obtain ⟨p1, p2⟩ := p
      simp only at e1 e2
      subst e1 e2
      simp [List.mapM_cons, Go.sizeOf, typeInfo, hi] at ih ⊢
      simp [ih]
  | [], _ :: _, h => by simp at h
  | _ :: _, [], h => by simp at h

theorem Val.build {t : TypeId} {zero : List Value} {places : List (Nat × Nat)} [hT : TyStruct P t zero places] {parts : List (Nat × Operand)} {vals : List (Nat × Value)} {cells : List Value} (hp : PartsOk ev parts vals)
    (hf : fillL (places[·]?) zero vals = some cells) : Val P ⟨d, .build t parts.toArray, ty, pos, aft, g⟩ ev bx (.s (.v (.agg cells.toArray))) none :=
  .same fun B T F ρ a w h => by
    obtain ⟨fs, i, h1, h2, h3, h4⟩ := hT.ok
    have hv := hp.eval (a := a) (T := T) (F := F) (ρ := ρ) (w := w) (fun p hp' => (h p.2 (by simp [Op.operands]; exact .inl ⟨p.1, hp'⟩)).1)
    have hm : (fs.mapM (fun f => do pure (f.offset, ← Go.sizeOf f.type)) : Sem (Array (Nat × Nat))).run P w = .ok places.toArray w := by
      have := run_places w fs.toList places h4
      have e : (fs.mapM (fun f => do pure (f.offset, ← Go.sizeOf f.type)) : Sem (Array (Nat × Nat))) = List.toArray <$> (fs.toList.mapM (fun f => do pure (f.offset, ← Go.sizeOf f.type)) : Sem (List (Nat × Nat))) := by
        rw [Array.mapM_eq_mapM_toList]
      rw [e, Sem.run_map, this]
      rfl
    refine ⟨.agg cells.toArray, ?_, rfl⟩
    have hmm : ((parts.toArray.map fun (p : Nat × Operand) => (p.1, a.eval p.2)) : Array (Nat × Value)) = vals.toArray := by
      rw [List.map_toArray, hv]
    have hfill := fill_eq (places[·]?) vals zero
    rw [hf] at hfill
    simp only [execOp, Instr.build]
    rw [hmm]
    simp only [Sem.run_bind, zeroValue, typeInfo, run_program, Result.andThen_ok, h2, h3, Sem.run_pure, run_underlying h1, hm, Value.cells]
    simp only [List.getElem?_toArray, hfill, Option.map_some, Sem.run_pure, Result.andThen_ok]

theorem Val.buildArr {t : TypeId} {zero : List Value} {k : Nat} [hT : TyArray P t zero k] {parts : List (Nat × Operand)} {vals : List (Nat × Value)} {cells : List Value} (hp : PartsOk ev parts vals)
    (hf : fillL (fun i => some (i * k, k)) zero vals = some cells) : Val P ⟨d, .build t parts.toArray, ty, pos, aft, g⟩ ev bx (.s (.v (.agg cells.toArray))) none :=
  .same fun B T F ρ a w h => by
    obtain ⟨len, e, i, h1, h2, h3, h4⟩ := hT.ok
    have hv := hp.eval (a := a) (T := T) (F := F) (ρ := ρ) (w := w) (fun p hp' => (h p.2 (by simp [Op.operands]; exact .inl ⟨p.1, hp'⟩)).1)
    refine ⟨.agg cells.toArray, ?_, rfl⟩
    have hmm : ((parts.toArray.map fun (p : Nat × Operand) => (p.1, a.eval p.2)) : Array (Nat × Value)) = vals.toArray := by
      rw [List.map_toArray, hv]
    have hfill := fill_eq (fun i => some (i * k, k)) vals zero
    rw [hf] at hfill
    cases hi : P.info? e with
    | none => rw [hi] at h4; cases h4
    | some inf =>
      have hs : inf.size = k := by rw [hi] at h4; simpa using h4
      simp only [execOp, Instr.build]
      rw [hmm]
      simp only [Sem.run_bind, zeroValue, typeInfo, run_program, Result.andThen_ok, h2, h3, Sem.run_pure, run_underlying h1, Go.sizeOf, hi, hs, Value.cells]
      simp only [hfill, Option.map_some, Sem.run_pure, Result.andThen_ok]
end

theorem flatten_len {k : Nat} : ∀ {els : List (List Value)}, (∀ e ∈ els, e.length = k) → els.flatten.length = els.length * k
  | [], _ => by simp
  | e :: els, h => by
    rw [List.flatten_cons, List.length_append, h e (List.mem_cons_self ..), flatten_len (fun x hx => h x (List.mem_cons_of_mem _ hx)), List.length_cons, Nat.succ_mul, Nat.add_comm]
theorem flatten_at {k : Nat} : ∀ {els : List (List Value)}, (∀ e ∈ els, e.length = k) → ∀ {i j : Nat} {e : List Value} {u : Value}, els[i]? = some e → e[j]? = some u → els.flatten[i * k + j]? = some u
  | [], _, i, j, e, u, he, _ => by simp at he
  | x :: els, h, 0, j, e, u, he, hu => by
    simp at he
    subst he
    rw [List.flatten_cons, Nat.zero_mul, Nat.zero_add, List.getElem?_append_left (List.getElem?_eq_some_iff.1 hu).1]
    exact hu
  | x :: els, h, i + 1, j, e, u, he, hu => by
    rw [List.getElem?_cons_succ] at he
    have hx := h x (List.mem_cons_self ..)
    rw [List.flatten_cons, List.getElem?_append_right (by rw [hx, Nat.succ_mul]; omega), hx, Nat.succ_mul]
    have := flatten_at (fun y hy => h y (List.mem_cons_of_mem _ hy)) he hu
    rw [show i * k + k + j - k = i * k + j by omega]
    exact this
/-- A list cut into n pieces of k. -/
def chop (k : Nat) : Nat → List Value → List (List Value)
  | 0, _ => []
  | n + 1, l => l.take k :: chop k n (l.drop k)
theorem chop_len (k : Nat) : ∀ (n : Nat) (l : List Value), (chop k n l).length = n
  | 0, _ => rfl
  | n + 1, l => by simp [chop, chop_len k n]
theorem chop_get {k : Nat} : ∀ {n : Nat} {l : List Value} {i : Nat} {e : List Value}, (chop k n l)[i]? = some e → e = (l.drop (i * k)).take k
  | 0, _, i, e, h => by simp [chop] at h
  | n + 1, l, 0, e, h => by simp [chop] at h; simp [h]
  | n + 1, l, i + 1, e, h => by
    simp only [chop, List.getElem?_cons_succ] at h
    rw [chop_get h, List.drop_drop, Nat.succ_mul, Nat.add_comm]
theorem chop_mem {k n : Nat} {l : List Value} (hl : l.length = n * k) : ∀ e ∈ chop k n l, e.length = k := by
  intro e he
  obtain ⟨i, hi⟩ := List.mem_iff_getElem?.1 he
  have hlt : i < n := by rw [← chop_len k n l]; exact (List.getElem?_eq_some_iff.1 hi).1
  rw [chop_get hi, List.length_take, List.length_drop, hl]
  have := row_idx (n := n) (k := k) hlt (j := 0)
  have h2 : (i + 1) * k ≤ n * k := Nat.mul_le_mul_right _ hlt
  rw [Nat.succ_mul] at h2
  omega
theorem RowAt.chop {w : World} {b o k n : Nat} {cells : List Value} (hc : ∀ j v, cells[j]? = some v → w.cell? ⟨b, o + j, none⟩ = some v) : RowAt w b o k (chop k n cells) := by
  intro i j e u he hu
  rw [chop_get he, List.getElem?_take] at hu
  split at hu
  · rw [List.getElem?_drop] at hu
    rw [Nat.add_assoc]
    exact hc _ _ hu
  · cases hu

/-- A row that was just made. -/
theorem slOk_new {T : Nat → BTag} {F : Nat → Nat} {w : World} {τ e k n c : Nat} {els : List (List Value)} {cs : Array Value} {b : Nat} (hb : w.heap[b]? = some (.cells cs e (0, 0))) (hT : T b = .row τ) (hF : F b = n * k)
    (hn : n = els.length) (hnc : n ≤ c) (hcm : c ≤ maxLen) (hk : ∀ x ∈ els, x.length = k) (hcs : cs.size = c * k) (hr : RowAt w b 0 k els) : SlOk T F w (some τ) (.front e) k els (some ⟨b, 0, none⟩) n c := by
  refine ⟨hn, hnc, hcm, hk, (fun h => by cases h), fun ad had => ?_, ?_, .inr (.inr ⟨b, 0, cs, e, rfl, hb, by simp [hcs]⟩)⟩
  · injection had with had
    subst had
    exact ⟨rfl, (Array.getElem?_eq_some_iff.1 hb).1, hT, .inr (by simp [hF]), hr⟩
  · exact ⟨.inl (by simp), .inr ⟨b, 0, cs, e, rfl, by simp [hF], hb, by simp [hcs]⟩⟩

section
variable {P : Program} {ev : Operand → PV} {bx : Nat → Option (List Value)} {d : Option Nat} {ty : TypeId} {pos : String} {aft : Array Edge} {g : Option (Nat × Bool)}

theorem Val.buildSlice {t e k bytes : Nat} {z : Value} [hT : TySl P t e k bytes] [hz : TyZero P e z] (τ : Nat) {n : Nat} {parts : List (Nat × Operand)} {vals : List (Nat × Value)} {cells : List Value} (hp : PartsOk ev parts vals)
    (hn : Nat.ble (n * k) 16777216 = true) (hf : fillL (fun i => some (i * k, k)) ((Array.range (n * k)).map (z.cells[· % z.cells.size]!)).toList vals = some cells) (hl : cells.length = n * k) :
    Val P ⟨d, .buildSlice t n parts.toArray, ty, pos, aft, g⟩ ev bx (.s (.sl (some τ) (.front e) k (chop k n cells))) none := by
  intro B T F ρ a w hB hop next Q hK
  have hv := hp.eval (a := a) (T := T) (F := F) (ρ := ρ) (w := w) (fun p hp' => (hop p.2 (by simp [Op.operands]; exact .inl ⟨p.1, hp'⟩)).1)
  have hmm : ((parts.toArray.map fun (p : Nat × Operand) => (p.1, a.eval p.2)) : Array (Nat × Value)) = vals.toArray := by
    rw [List.map_toArray, hv]
  have hfill := fill_eq (fun i => some (i * k, k)) vals ((Array.range (n * k)).map (z.cells[· % z.cells.size]!)).toList
  rw [hf, Array.toArray_toList] at hfill
  obtain ⟨i, z', h1, h2, h3, h4, h5⟩ := hT.info
  have hn' : n * k ≤ 16777216 := Nat.ble_eq ▸ hn
  have hzz : z' = z := by
    obtain ⟨i', q1, q2⟩ := hz.zero
    rw [h1] at q1; injection q1 with q1; subst q1; rw [h2] at q2; injection q2
  subst hzz
  have hrun : (execOp a.eval ⟨d, .buildSlice t n parts.toArray, ty, pos, aft, g⟩).run P w = .ok (.value (.slice (some ⟨w.heap.size, 0, none⟩) n n)) (w.alloc (.cells cells.toArray e)) := by
    simp only [execOp, Instr.buildSlice]
    rw [hmm]
    have hlim : ¬ (n * k > 2 ^ 24) := by simp; omega
    by_cases h0 : n * k = 0
    · have hr0 : Array.range 0 = #[] := rfl
      simp [h0, hr0] at hfill
      simp [run_underlying hT.und, Go.sizeOf, typeInfo, h1, h3, h0, hr0, hfill, newRow]
    · simp only [Sem.run_bind, run_underlying hT.und, Go.sizeOf, typeInfo, run_program, h1, Sem.run_pure, Result.andThen_ok, h3, hlim, if_false, h0, zeroValue, h2]
      simp only [hfill, Option.map_some, Sem.run_bind, newRow, run_newObj, Result.andThen_ok, Sem.run_pure]
      rfl
  unfold Oper.wp
  rw [hrun]
  refine hK _ (w.alloc (.cells cells.toArray e)) (fun b => if b = w.heap.size then .row τ else T b) (fun b => if b = w.heap.size then n * k else F b) ρ ((Below.refl _ _).alloc (Nat.le_refl _) _) (fun b hb => ⟨if_neg (by omega), if_neg (by omega)⟩) (fun _ _ => rfl) ?_ (fun p hp => by cases hp)
  refine ⟨_, _, _, rfl, slOk_new (heap_alloc_new w _) (if_pos rfl) (if_pos rfl) (chop_len k n cells).symm (Nat.le_refl _) ?_ (chop_mem hl) (by simp [hl]) (RowAt.chop fun j v hj => ?_)⟩
  · have hk := hT.pos
    have h6 : n * 1 ≤ n * k := Nat.mul_le_mul_left _ hk
    unfold maxLen
    omega
  · rw [Nat.zero_add, World.cell?_alloc_new]
    simpa using hj

/-! ### a call -/
inductive ArgLe (bx : Nat → Option (List Value)) : PV → SV → Prop
  | v (x : Value) : ArgLe bx (.s (.v x)) (.v x)
  | sl (tag : Option Nat) (app : App) (k : Nat) (els : List (List Value)) : ArgLe bx (.s (.sl tag app k els)) (.sl none .no k els)
  | nil (k : Nat) : ArgLe bx (.s .nil) (.sl none .no k [])
  | nil' : ArgLe bx (.s .nil) .nil
  | nsl (tag : Option Nat) (rts : List (Option Nat)) (uq : Bool) (k : Nat) (els : List (List EV)) : ArgLe bx (.s (.nsl tag rts uq k els)) (.nsl none [none] false k els)
  | nsn (k : Nat) : ArgLe bx (.s .nil) (.nsl none [none] false k [])
  | bsl {id k n : Nat} {els : List (List Value)} (hb : bx id = some els.flatten) (hn : n = els.length) (hk : ∀ e ∈ els, e.length = k) : ArgLe bx (.bsl id 0 k n) (.sl none .no k els)
/-- A slice, seen by a function that is called. -/
theorem SlOk.ext {T : Nat → BTag} {F : Nat → Nat} {w : World} {tag : Option Nat} {app : App} {k : Nat} {els : List (List Value)} {A : Option Addr} {n c : Nat} (h : SlOk T F w tag app k els A n c) : SlOk (fun _ => .ext) (fun _ => 0) w none .no k els A n c := by
  obtain ⟨h1, h2, h2', h3, h4, h5, h6, h7⟩ := h
  refine ⟨h1, h2, h2', h3, h4, fun ad hA => ?_, trivial, .inl rfl⟩
  obtain ⟨q1, q2, q3, q4, q5⟩ := h5 ad hA
  exact ⟨q1, q2, rfl, .inl rfl, q5⟩
theorem ArgLe.rep {B : Nat} {T : Nat → BTag} {F : Nat → Nat} {ρ : Nat → Nat × Nat} {w : World} {p : PV} {x : SV} (h : ArgLe bx p x) (hbx : ∀ id, p.isBox id = true → ∀ cs, bx id = some cs → BoxOk B T ρ w id cs) {u : Value} (hr : RepP T F ρ w p u) : RepS (fun _ => .ext) (fun _ => 0) w x u := by
  cases h with
  | v x => exact hr
  | sl tag app k els =>
    obtain ⟨A, n, c, hu, h1⟩ := hr
    exact ⟨A, n, c, hu, h1.ext⟩
  | nil k => exact ⟨none, 0, 0, hr, SlOk.toNil _ _ _⟩
  | nil' => exact hr
  | nsl tag rts uq k els =>
    obtain ⟨hs, A, n, c, hu, h1, h2, h3⟩ := hr
    exact ⟨hs, A, n, c, hu, h1.ext, h2.map (fun _ => none) (fun _ _ => List.mem_singleton_self _) (fun tag k els A n c _ h => h.ext), fun h => by cases h⟩
  | nsn k => exact ⟨[], none, 0, 0, hr, SlOk.toNil _ _ _, ⟨rfl, fun i e h he => by simp at he⟩, fun h => by cases h⟩
  | @bsl id k n els hb hn hk =>
    rcases hr with ⟨hu, h0⟩ | ⟨c, cur, e, h1, h2, h3, h4, _⟩
    · have : els = [] := List.eq_nil_of_length_eq_zero (by omega)
      subst this
      exact ⟨none, 0, 0, hu, SlOk.toNil _ _ _⟩
    · refine ⟨_, n, c, h3, hn, h1, h2, hk, (fun h => by cases h), fun ad hA => ?_, trivial, .inl rfl⟩
      injection hA with hA
      subst hA
      refine ⟨rfl, h4, rfl, .inl rfl, fun i j e' u he hu' => ?_⟩
      have := (hbx id (Nat.beq_refl _) _ hb).cell (flatten_at hk he hu')
      simp only [Nat.add_zero, Nat.add_assoc]
      exact this
def nestNe (gs : List Nat) : PV → Bool
  | .nest g _ _ => !gs.any (Nat.beq g)
  | _ => true
theorem nestNe_of {gs : List Nat} {g k : Nat} {rows : List NRow} (h : nestNe gs (.nest g k rows) = true) : g ∉ gs := fun hm => by
  simp only [nestNe, Bool.not_eq_true'] at h
  have := List.any_eq_false.1 h g hm
  exact this (Nat.beq_refl g)
/-- The header of the slice from its l-th element on. -/
def NRow.from (r : NRow) (k l : Nat) : Value := .slice (if r.cap = l then r.A.map fun p => ⟨p.1, p.2, none⟩ else r.A.map fun p => ⟨p.1, p.2 + l * k, none⟩) (r.els.length - l) (r.cap - l)
theorem NRowOk.rep {T T' : Nat → BTag} {w : World} {g k : Nat} {r : NRow} (h : NRowOk T w g k r) (hT : ∀ b, T b = .obj (g + 1) → T' b = .ext) : RepS T' (fun _ => 0) w (.sl none .no k r.els) r.hdr := by
  obtain ⟨h1, h2, h3, h4⟩ := h
  refine ⟨r.A.map fun p => ⟨p.1, p.2, none⟩, r.els.length, r.cap, rfl, rfl, h2, h3, h1, fun hA => ?_, fun ad hA => ?_, trivial, .inl rfl⟩
  · rcases h4 with ⟨h4, h5⟩ | ⟨b, o, cur, e, q1, _⟩
    · exact ⟨by omega, h5⟩
    · rw [q1] at hA; cases hA
  · rcases h4 with ⟨h4, h5⟩ | ⟨b, o, cur, e, q1, q2, q3, q4, q5⟩
    · rw [h4] at hA; cases hA
    · rw [q1] at hA
      injection hA with hA
      subst hA
      exact ⟨rfl, (Array.getElem?_eq_some_iff.1 q3).1, hT b q2, .inl rfl, q5⟩
theorem NRowOk.repF {T T' : Nat → BTag} {w : World} {g k l : Nat} {r : NRow} (h : NRowOk T w g k r) (hl : l ≤ r.els.length) (hT : ∀ b, T b = .obj (g + 1) → T' b = .ext) : RepS T' (fun _ => 0) w (.sl none .no k (r.els.drop l)) (r.from k l) := by
  obtain ⟨h1, h2, h3, h4⟩ := h
  refine ⟨_, r.els.length - l, r.cap - l, rfl, (List.length_drop ..).symm, by omega, by omega, fun x hx => h1 x (List.mem_of_mem_drop hx), fun hA => ?_, fun ad hA => ?_, trivial, .inl rfl⟩
  · rcases h4 with ⟨h4, h5⟩ | ⟨b, o, cur, e, q1, _⟩
    · exact ⟨by omega, by omega⟩
    · rw [q1] at hA
      split at hA <;> cases hA
  · rcases h4 with ⟨h4, h5⟩ | ⟨b, o, cur, e, q1, q2, q3, q4, q5⟩
    · rw [h4] at hA
      split at hA <;> cases hA
    · rw [q1] at hA
      have hb := (Array.getElem?_eq_some_iff.1 q3).1
      split at hA
      · rename_i hc
        injection hA with hA
        subst hA
        refine ⟨rfl, hb, hT b q2, .inl rfl, fun i j e u he hu => ?_⟩
        rw [List.getElem?_drop, List.getElem?_eq_none (by omega)] at he
        cases he
      · injection hA with hA
        subst hA
        refine ⟨rfl, hb, hT b q2, .inl rfl, fun i j e u he hu => ?_⟩
        rw [List.getElem?_drop] at he
        have := q5 (l + i) j e u he hu
        rw [show o + l * k + i * k + j = o + (l + i) * k + j by rw [Nat.add_mul]; omega]
        exact this
inductive ArgsLe (ev : Operand → PV) (bx : Nat → Option (List Value)) (gs : List Nat) : List Operand → List SV → Prop
  | nil : ArgsLe ev bx gs [] []
  | cons {x : Operand} {y : SV} {xs : List Operand} {ys : List SV} (h : ArgLe bx (ev x) y) (t : ArgsLe ev bx gs xs ys) : ArgsLe ev bx gs (x :: xs) (y :: ys)
  | hd {x : Operand} {v : Value} {tag : Option Nat} {app : App} {k : Nat} {els : List (List Value)} {xs : List Operand} {ys : List SV} (t : Nat) (hx : ev x = .s (.v v)) (ht : Nat.ble 1000000 t = true) (hf : ev (.tmp t) = .hd v (.sl tag app k els)) (r : ArgsLe ev bx gs xs ys) : ArgsLe ev bx gs (x :: xs) (.sl none .no k els :: ys)
  | hdn {x : Operand} {v : Value} {tag : Option Nat} {rts : List (Option Nat)} {uq : Bool} {k : Nat} {els : List (List EV)} {xs : List Operand} {ys : List SV} (t : Nat) (hx : ev x = .s (.v v)) (ht : Nat.ble 1000000 t = true) (hf : ev (.tmp t) = .hd v (.nsl tag rts uq k els)) (r : ArgsLe ev bx gs xs ys) : ArgsLe ev bx gs (x :: xs) (.nsl none [none] false k els :: ys)
  | hs {x : Operand} {v : Value} {id k n : Nat} {els : List (List Value)} {xs : List Operand} {ys : List SV} (t : Nat) (hx : ev x = .s (.v v)) (ht : Nat.ble 1000000 t = true) (hf : ev (.tmp t) = .hs v id 0 k n) (hb : bx id = some els.flatten) (hn : n = els.length) (hk : ∀ e ∈ els, e.length = k) (r : ArgsLe ev bx gs xs ys) : ArgsLe ev bx gs (x :: xs) (.sl none .no k els :: ys)
  | nst {x : Operand} {g k : Nat} {rows : List NRow} {r : NRow} {xs : List Operand} {ys : List SV} (t : Nat) (hx : ev x = .s (.v r.hdr)) (ht : Nat.ble 1000000 t = true) (hf : ev (.tmp t) = .nest g k rows) (hg : nestNe gs (.nest g k []) = true) (hr : r ∈ rows) (q : ArgsLe ev bx gs xs ys) : ArgsLe ev bx gs (x :: xs) (.sl none .no k r.els :: ys)
  | nsf {x : Operand} {g k l : Nat} {rows : List NRow} {r : NRow} {xs : List Operand} {ys : List SV} (t : Nat) (hx : ev x = .s (.v (r.from k l))) (ht : Nat.ble 1000000 t = true) (hf : ev (.tmp t) = .nest g k rows) (hg : nestNe gs (.nest g k []) = true) (hr : r ∈ rows) (hl : l ≤ r.els.length) (q : ArgsLe ev bx gs xs ys) : ArgsLe ev bx gs (x :: xs) (.sl none .no k (r.els.drop l) :: ys)
theorem ArgsLe.ok {B : Nat} {T : Nat → BTag} {F : Nat → Nat} {ρ : Nat → Nat × Nat} {w : World} {a : Act} {gs : List Nat} : ∀ {xs : List Operand} {ys : List SV}, ArgsLe ev bx gs xs ys → (∀ x, (x ∈ xs ∨ isV x = true) → RepP T F ρ w (ev x) (a.eval x) ∧ ∀ id, (ev x).isBox id = true → ∀ cs, bx id = some cs → BoxOk B T ρ w id cs) → ArgsOk w ys (xs.map a.eval)
  | _, _, .nil, _ => trivial
  | _, _, .cons h t, hr => ⟨h.rep (hr _ (.inl (List.mem_cons_self ..))).2 (hr _ (.inl (List.mem_cons_self ..))).1, t.ok fun x hx => hr x (hx.imp (List.mem_cons_of_mem _) id)⟩
  | _, _, .hd (x := x) (tag := tag) (app := app) (k := k) (els := els) t hx ht hf r, hr => by
    refine ⟨?_, r.ok fun x hx => hr x (hx.imp (List.mem_cons_of_mem _) id)⟩
    have h1 := (hr _ (.inl (List.mem_cons_self ..))).1
    rw [hx] at h1
    have h2 := (hr (.tmp t) (.inr ht)).1
    rw [hf] at h2
    rw [show a.eval x = _ from h1]
    exact (ArgLe.sl (bx := bx) tag app k els).rep (T := T) (F := F) (ρ := ρ) (B := B) (fun _ h => by cases h) h2
  | _, _, .hdn (x := x) (tag := tag) (rts := rts) (uq := uq) (k := k) (els := els) t hx ht hf r, hr => by
    refine ⟨?_, r.ok fun x hx => hr x (hx.imp (List.mem_cons_of_mem _) (fun h => h))⟩
    have h1 := (hr x (.inl (List.mem_cons_self ..))).1
    rw [hx] at h1
    have h2 := (hr (.tmp t) (.inr ht)).1
    rw [hf] at h2
    rw [show a.eval x = _ from h1]
    exact (ArgLe.nsl (bx := bx) tag rts uq k els).rep (T := T) (F := F) (ρ := ρ) (B := B) (fun _ h => by cases h) h2
  | _, _, .hs (x := x) (id := id) (k := k) (n := n) (els := els) t hx ht hf hb hn hk r, hr => by
    refine ⟨?_, r.ok fun x hx => hr x (hx.imp (List.mem_cons_of_mem _) (fun h => h))⟩
    have h1 := (hr _ (.inl (List.mem_cons_self ..))).1
    rw [hx] at h1
    have h2 := hr (.tmp t) (.inr ht)
    rw [hf] at h2
    rw [show a.eval x = _ from h1]
    exact (ArgLe.bsl hb hn hk).rep (T := T) (F := F) (ρ := ρ) (B := B) (fun id' h => h2.2 id' h) h2.1
  | _, _, .nst (x := x) (rows := rows) (r := r) t hx ht hf _ hm q, hr => by
    refine ⟨?_, q.ok fun x hx => hr x (hx.imp (List.mem_cons_of_mem _) (fun h => h))⟩
    have h1 := (hr x (.inl (List.mem_cons_self ..))).1
    rw [hx] at h1
    have h2 := (hr (.tmp t) (.inr ht)).1
    rw [hf] at h2
    rw [show a.eval x = _ from h1]
    exact (h2.2 r hm).rep (fun _ _ => rfl)
  | _, _, .nsf (x := x) (rows := rows) (r := r) t hx ht hf _ hm hl q, hr => by
    refine ⟨?_, q.ok fun x hx => hr x (hx.imp (List.mem_cons_of_mem _) (fun h => h))⟩
    have h1 := (hr x (.inl (List.mem_cons_self ..))).1
    rw [hx] at h1
    have h2 := (hr (.tmp t) (.inr ht)).1
    rw [hf] at h2
    rw [show a.eval x = _ from h1]
    exact (h2.2 r hm).repF hl (fun _ _ => rfl)

/-- All slices of a result are new memory. -/
def SV.isNew : SV → Bool
  | .sl none _ _ _ => false
  | .nsl tag rts _ _ _ => tag.isSome && rts.all (·.isSome)
  | .ag rts _ => rts.all (·.isSome)
  | _ => true
def PV.isNew : PV → Bool
  | .s x => x.isNew
  | .tup xs => xs.all (·.isNew)
  | _ => false

theorem SlOk.call {Tc T' : Nat → BTag} {Fc F' : Nat → Nat} {w w' : World} {τ : Nat} (hx : ∀ b, b < w.heap.size → Tc b = .ext) (hT : ∀ b, w.heap.size ≤ b → T' b = (Tc b).retag τ ∧ F' b = Fc b) {tag : Option Nat} (hn : tag.isSome = true) {app : App} {k : Nat} {els : List (List Value)} {A : Option Addr} {n c : Nat} (h : SlOk Tc Fc w' tag app k els A n c) : SlOk T' F' w' (tag.map fun _ => τ) app k els A n c := by
  obtain ⟨h1, h2, h2', h3, h4, h5, h6, h7⟩ := h
  rcases tag with _ | σ
  · cases hn
  · have old : ∀ ad, A = some ad → w.heap.size ≤ ad.block := fun ad hA => by
      obtain ⟨q1, q2, q3, q4, q5⟩ := h5 ad hA
      rcases Nat.lt_or_ge ad.block w.heap.size with hlt | hge
      · rw [hx _ hlt] at q3; cases q3
      · exact hge
    refine ⟨h1, h2, h2', h3, h4, fun ad hA => ?_, ?_, h7.elim (fun h => by cases h) .inr⟩
    · obtain ⟨q1, q2, q3, q4, q5⟩ := h5 ad hA
      obtain ⟨e1, e2⟩ := hT _ (old ad hA)
      refine ⟨q1, q2, by rw [e1, q3]; rfl, ?_, q5⟩
      rcases q4 with q4 | q4
      · cases q4
      · exact .inr (by rw [e2]; exact q4)
    · cases app with
      | no => trivial
      | full => exact ⟨h6.1, .inl (by simp)⟩
      | front e =>
        refine ⟨.inl (by simp), ?_⟩
        rcases h6.2 with h8 | ⟨b, o, cur, e', hA, hF, r⟩
        · exact .inl h8
        · exact .inr ⟨b, o, cur, e', hA, by rw [(hT _ (old _ hA)).2]; exact hF, r⟩
theorem RepS.call {Tc T' : Nat → BTag} {Fc F' : Nat → Nat} {w w' : World} {τ : Nat} (hx : ∀ b, b < w.heap.size → Tc b = .ext) (hT : ∀ b, w.heap.size ≤ b → T' b = (Tc b).retag τ ∧ F' b = Fc b) {x : SV} (hn : x.isNew = true) {u : Value} (h : RepS Tc Fc w' x u) : RepS T' F' w' (x.retag τ) u := by
  cases x with
  | v x => exact h
  | nil => exact h
  | sl tag app k els =>
    obtain ⟨A, n, c, hu, h1⟩ := h
    rcases tag with _ | σ
    · simp [SV.isNew] at hn
    · exact ⟨A, n, c, hu, h1.call hx hT rfl⟩
  | nsl tag rts uq k els =>
    obtain ⟨hs, A, n, c, hu, h1, h2, h3⟩ := h
    have hn' : (tag.isSome && rts.all (·.isSome)) = true := hn
    rw [Bool.and_eq_true] at hn'
    exact ⟨hs, A, n, c, hu, h1.call hx hT hn'.1, h2.map (fun t => t.map fun _ => τ) (fun t ht => List.mem_map_of_mem ht) (fun tag k els A n c ht h => h.call hx hT (List.all_eq_true.1 hn'.2 tag ht)), h3⟩
  | ag rts e =>
    obtain ⟨hs, hu, h2⟩ := h
    exact ⟨hs, hu, h2.map (fun t => t.map fun _ => τ) (fun t ht => List.mem_map_of_mem ht) (fun tag k els A n c ht h => h.call hx hT (List.all_eq_true.1 hn tag ht))⟩

theorem Val.callG {f : FuncId} {x : Operand} {xs : List Operand} {ats : Array TypeId} {as : List SV} {res : PV} (hcl : ∀ T F ρ w (a : Act), RepP T F ρ w (ev x) (a.eval x) → a.eval x = .func (.func f) #[] #[]) (τ : Nat) (hp : Pure P f as res) (ha : ArgsLe ev bx [] xs as) (hn : res.isNew = true) :
    Val P ⟨d, .call ⟨.value x, xs.toArray, ats⟩, ty, pos, aft, g⟩ ev bx (res.retag τ) none := by
  intro B T F ρ a w hB hop next Q hK
  obtain ⟨⟨fn, q1, q2, q3⟩, hc⟩ := hp
  have hargs := ha.ok (B := B) (a := a) (T := T) (F := F) (ρ := ρ) (w := w) (fun x hx => hop x (hx.imp (fun hx => by simp [Op.operands, Call.operands, hx]) (fun h => h)))
  have hx := hcl T F ρ w a (hop x (by simp [Op.operands, Call.operands])).1
  have hrun : (execOp a.eval ⟨d, .call ⟨.value x, xs.toArray, ats⟩, ty, pos, aft, g⟩).run P w = .ok (.enter f (xs.map a.eval).toArray) w := by
    have q3' : fn.body ≠ none := by cases hb : fn.body <;> simp_all
    simp [execOp, resolve, hx, Deferred.ofValue, invoke, callFunc, q1, q2, q3']
  unfold Oper.wp
  rw [hrun]
  refine (hc _ w hargs).mono fun e w' ⟨v, Tc, Fc, he, hb, hx, hr⟩ => ?_
  subst he
  refine hK v w' (fun b => if b < w.heap.size then T b else (Tc b).retag τ) (fun b => if b < w.heap.size then F b else Fc b) ρ hb (fun b hb' => ⟨if_pos hb', if_pos hb'⟩) (fun _ _ => rfl) ?_ (fun p hp => by cases hp)
  have hT : ∀ b, w.heap.size ≤ b → (if b < w.heap.size then T b else (Tc b).retag τ) = (Tc b).retag τ ∧ (if b < w.heap.size then F b else Fc b) = Fc b := fun b hb' => ⟨if_neg (by omega), if_neg (by omega)⟩
  cases res with
  | any => cases hn
  | s x => exact RepS.call hx hT hn hr
  | tup ys =>
    obtain ⟨vs, hu, hl, hr⟩ := hr
    refine ⟨vs, hu, by simpa using hl, fun i x y hx' hy => ?_⟩
    rw [List.getElem?_map] at hx'
    cases hxi : ys[i]? with
    | none => rw [hxi] at hx'; cases hx'
    | some x0 =>
      rw [hxi] at hx'
      injection hx' with hx'
      subst hx'
      exact RepS.call hx hT (List.all_eq_true.1 hn _ (List.mem_of_getElem? hxi)) (hr i x0 y hxi hy)
  | box id off => cases hn
  | elp tag k els i j => cases hn
  | bsl id off k n => cases hn
  | hd v x => cases hn
  | hs v id off k n => cases hn
  | hb v id off => cases hn
  | kept b o => cases hn
  | old W B => cases hn
  | hds tag k l => cases hn
  | nest g k rows => cases hn
  | nep tag rts k els i j => cases hn
  | clo f caps => cases hn
theorem Val.call {f : FuncId} {xs : List Operand} {ats : Array TypeId} {as : List SV} {res : PV} (τ : Nat) (hp : Pure P f as res) (ha : ArgsLe ev bx [] xs as) (hn : res.isNew = true) :
    Val P ⟨d, .call ⟨.value (.func f), xs.toArray, ats⟩, ty, pos, aft, g⟩ ev bx (res.retag τ) none := Val.callG (fun _ _ _ _ _ _ => rfl) τ hp ha hn
end

class TySize (P : Program) (t : TypeId) (m : outParam Nat) : Prop where
  size : (P.info? t).map (·.size) = some m

inductive OptN (ev : Operand → PV) (dflt : Nat) : Option Operand → Nat → Prop
  | absent : OptN ev dflt none dflt
  | given {y : Operand} {kd : IntKind} {i : Int} {n : Nat} (h : ev y = .s (.v (.int kd i))) (hi : i = (n : Int)) : OptN ev dflt (some y) n

section
variable {P : Program} {ev : Operand → PV} {bx : Nat → Option (List Value)} {d : Option Nat} {ty : TypeId} {pos : String} {aft : Array Edge} {g : Option (Nat × Bool)}

theorem OptN.bound {dflt n : Nat} {lo : Option Operand} (h : OptN ev dflt lo n) {T : Nat → BTag} {F : Nat → Nat} {ρ : Nat → Nat × Nat} {w : World} {a : Act} (hr : ∀ x ∈ lo.toArray, RepP T F ρ w (ev x) (a.eval x)) (y : Nat) (hy : n ≤ y) (code : BoundsCode) :
    (match lo.map a.eval with | some v => Instr.sliceBound v y code | none => pure dflt : Sem Nat).run P w = .ok n w := by
  cases h with
  | absent => rfl
  | given h hi =>
    subst hi
    have h1 := rep_v (hr _ (by simp)) h
    simp only [Option.map_some, h1, Instr.sliceBound, asIntOf]
    have : (0 : Int) ≤ n ∧ (n : Int) ≤ y := by omega
    simp [this]

theorem RowAt.drop {w : World} {b o k l : Nat} {els : List (List Value)} (h : RowAt w b o k els) : RowAt w b (o + l * k) k (els.drop l) := fun i j e u he hu => by
  rw [List.getElem?_drop] at he
  have := h (l + i) j e u he hu
  rw [Nat.add_mul, ← Nat.add_assoc] at this
  exact this
theorem RowAt.take {w : World} {b o k l : Nat} {els : List (List Value)} (h : RowAt w b o k els) : RowAt w b o k (els.take l) := fun i j e u he hu => by
  rw [List.getElem?_take] at he
  split at he
  · exact h i j e u he hu
  · cases he

theorem ShapeOk.from_ {w : World} {A : Option Addr} {c k l : Nat} (h : ShapeOk w A c k) (hl : l ≤ c) : ShapeOk w (if c = l then A else A.map (·.add (l * k))) (c - l) k := by
  rcases h with h | ⟨b, o, cur, e, hA, hh, hs⟩
  · exact .inl (by subst h; split <;> rfl)
  · have h1 : l * k + (c - l) * k = c * k := by rw [← Nat.add_mul]; congr 1; omega
    by_cases hcl : c = l
    · exact .inr ⟨b, o, cur, e, by rw [if_pos hcl]; exact hA, hh, by omega⟩
    · exact .inr ⟨b, o + l * k, cur, e, by rw [if_neg hcl, hA]; simp [Addr.add_mid], hh, by omega⟩
theorem ShapeOk.less {w : World} {A : Option Addr} {c c' k : Nat} (h : ShapeOk w A c k) (hc : c' ≤ c) : ShapeOk w A c' k := by
  rcases h with h | ⟨b, o, cur, e, hA, hh, hs⟩
  · exact .inl h
  · exact .inr ⟨b, o, cur, e, hA, hh, Nat.le_trans (Nat.add_le_add_left (Nat.mul_le_mul_right _ hc) _) hs⟩
/-- x[l:] -/
theorem SlOk.from_ {T : Nat → BTag} {F : Nat → Nat} {w : World} {tag : Option Nat} {app : App} {k : Nat} {els : List (List Value)} {A : Option Addr} {n c l : Nat} (h : SlOk T F w tag app k els A n c) (hl : l ≤ n) :
    SlOk T F w tag app k (els.drop l) (if c = l then A else A.map (·.add (l * k))) (n - l) (c - l) := by
  obtain ⟨h1, h2, h2', h3, h4, h5, h6, h8⟩ := h
  refine ⟨by simp [h1], by omega, by omega, fun e he => h3 e (List.mem_of_mem_drop he), fun hA => ?_, fun ad hA => ?_, ?_, h8.imp id fun h => h.from_ (by omega)⟩
  · split at hA
    · have := h4 hA; omega
    · cases A with
      | none => have := h4 rfl; omega
      | some ad => simp at hA
  · split at hA
    · rename_i hc
      obtain ⟨q1, q2, q3, q4, q5⟩ := h5 ad hA
      have e0 : n - l = 0 := by omega
      refine ⟨q1, q2, q3, ?_, ?_⟩
      · rcases q4 with q4 | q4
        · exact .inl q4
        · exact .inr (by rw [e0]; omega)
      · have : els.drop l = [] := List.drop_eq_nil_of_le (by omega)
        rw [this]
        intro i j e u he; simp at he
    · cases A with
      | none => simp at hA
      | some ad0 =>
        obtain ⟨b, o, sp⟩ := ad0
        obtain ⟨q1, q2, q3, q4, q5⟩ := h5 _ rfl
        simp only at q1 q2 q3 q4 q5
        subst q1
        simp only [Option.map_some, Addr.add_mid, Option.some.injEq] at hA
        subst hA
        refine ⟨rfl, q2, q3, ?_, q5.drop⟩
        rcases q4 with q4 | q4
        · exact .inl q4
        · refine .inr ?_
          simp only
          have : l * k + (n - l) * k = n * k := by rw [← Nat.add_mul]; congr 1; omega
          omega
  · have htag : (tag ≠ none ∨ A = none) → (tag ≠ none ∨ (if c = l then A else A.map (·.add (l * k))) = none) := fun h => by
      rcases h with h | h
      · exact .inl h
      · subst h; right; split <;> rfl
    cases app with
    | no => trivial
    | full => exact ⟨by have := h6.1; omega, htag h6.2⟩
    | front e =>
      refine ⟨htag h6.1, ?_⟩
      rcases h6.2 with h7 | ⟨b, o, cur, e', hA, hF, hh, hc⟩
      · exact .inl (by omega)
      · by_cases hcl : c = l
        · exact .inl (by omega)
        · refine .inr ⟨b, o + l * k, cur, e', ?_, ?_, hh, ?_⟩
          · rw [if_neg hcl, hA]; simp [Addr.add_mid]
          · have : l * k + (n - l) * k = n * k := by rw [← Nat.add_mul]; congr 1; omega
            omega
          · have : l * k + (c - l) * k = c * k := by rw [← Nat.add_mul]; congr 1; omega
            omega
/-- x[:h] -/
theorem SlOk.to_ {T : Nat → BTag} {F : Nat → Nat} {w : World} {tag : Option Nat} {app : App} {k : Nat} {els : List (List Value)} {A : Option Addr} {n c h c' : Nat} (hs : SlOk T F w tag app k els A n c) (hl : h ≤ n) (hc1 : h ≤ c') (hc2 : c' ≤ c) :
    SlOk T F w tag .no k (els.take h) A h c' := by
  obtain ⟨h1, h2, h2', h3, h4, h5, h6, h8⟩ := hs
  refine ⟨by simp; omega, hc1, by omega, fun e he => h3 e (List.mem_of_mem_take he), fun hA => by have := h4 hA; omega, fun ad hA => ?_, trivial, h8.imp id fun h => h.less hc2⟩
  obtain ⟨q1, q2, q3, q4, q5⟩ := h5 ad hA
  refine ⟨q1, q2, q3, ?_, q5.take⟩
  rcases q4 with q4 | q4
  · exact .inl q4
  · exact .inr (Nat.le_trans (Nat.add_le_add_left (Nat.mul_le_mul_right _ hl) _) q4)

theorem Val.sliceFrom {t e0 k0 by0 : Nat} [hT : TySl P t e0 k0 by0] {x y : Operand} {tag : Option Nat} {app : App} {els : List (List Value)} {kd : IntKind} {i : Int} (l : Nat) (hx : ev x = .s (.sl tag app k0 els)) (hy : ev y = .s (.v (.int kd i))) (hil : i = (l : Int)) (hl : l ≤ els.length) :
    Val P ⟨d, .slice t x (some y) none none, ty, pos, aft, g⟩ ev bx (.s (.sl tag app k0 (els.drop l))) none :=
  .same fun B T F ρ a w h => by
    obtain ⟨A, n, c, h3, hs⟩ := (h x (by simp [Op.operands])).1.sl_of hx
    have hn : n = els.length := hs.1
    obtain ⟨inf, z, hi, _, hsz, _⟩ := hT.info
    have hb := (OptN.given (ev := ev) (dflt := 0) hy hil).bound (P := P) (w := w) (a := a) (fun x hx => (h x (by simp [Op.operands] at hx ⊢; simp [hx])).1) n (by omega) .sliceB
    refine ⟨_, ?_, _, _, _, rfl, hs.from_ (by omega)⟩
    simp only [Option.map_some] at hb
    simp only [execOp, Instr.sliceAt, Sem.run_bind, run_underlying hT.und, Result.andThen_ok, Instr.slice, h3, Instr.sliceBounds, Option.map_some, Option.map_none, Sem.run_pure, Option.isSome_none, Bool.false_eq_true, if_false, hb, Go.sizeOf, typeInfo, run_program, hi, hsz]
theorem Val.sliceTo {t e0 k0 by0 : Nat} [hT : TySl P t e0 k0 by0] {x y : Operand} {tag : Option Nat} {app : App} {els : List (List Value)} {kd : IntKind} {i : Int} (l : Nat) (hx : ev x = .s (.sl tag app k0 els)) (hy : ev y = .s (.v (.int kd i))) (hil : i = (l : Int)) (hl : l ≤ els.length) :
    Val P ⟨d, .slice t x none (some y) none, ty, pos, aft, g⟩ ev bx (.s (.sl tag .no k0 (els.take l))) none :=
  .same fun B T F ρ a w h => by
    obtain ⟨A, n, c, h3, hs⟩ := (h x (by simp [Op.operands])).1.sl_of hx
    have hn : n = els.length := hs.1
    have hnc := hs.2.1
    obtain ⟨inf, z, hi, _, hsz, _⟩ := hT.info
    have hb := (OptN.given (ev := ev) (dflt := 0) hy hil).bound (P := P) (w := w) (a := a) (fun x hx => (h x (by simp [Op.operands] at hx ⊢; simp [hx])).1) c (by omega) .sliceAcap
    have he : (if c = 0 then A else A.map (·.add (0 * k0))) = A := by
      split
      · rfl
      · cases A with
        | none => rfl
        | some ad => simp [Addr.add]
    refine ⟨.slice A l c, ?_, _, _, _, rfl, hs.to_ (by omega) (by omega) (Nat.le_refl _)⟩
    simp only [Option.map_some] at hb
    simp only [execOp, Instr.sliceAt, Sem.run_bind, run_underlying hT.und, Result.andThen_ok, Instr.slice, h3, Instr.sliceBounds, Option.map_some, Option.map_none, Sem.run_pure, Option.isSome_none, if_true, hb, Go.sizeOf, typeInfo, run_program, hi, hsz]
    simp only [he, Nat.sub_zero]
/-- x[:l:l] -/
theorem Val.sliceFull {t e0 k0 by0 : Nat} [hT : TySl P t e0 k0 by0] {x y y2 : Operand} {τ : Nat} {app : App} {els : List (List Value)} {kd kd2 : IntKind} {i i2 : Int} (l : Nat) (hx : ev x = .s (.sl (some τ) app k0 els)) (hy : ev y = .s (.v (.int kd i))) (hil : i = (l : Int)) (hy2 : ev y2 = .s (.v (.int kd2 i2))) (hil2 : i2 = (l : Int)) (hl : l ≤ els.length) :
    Val P ⟨d, .slice t x none (some y) (some y2), ty, pos, aft, g⟩ ev bx (.s (.sl (some τ) .full k0 (els.take l))) none :=
  .same fun B T F ρ a w h => by
    obtain ⟨A, n, c, h3, hs⟩ := (h x (by simp [Op.operands])).1.sl_of hx
    have hn : n = els.length := hs.1
    have hnc := hs.2.1
    obtain ⟨inf, z, hi, _, hsz, _⟩ := hT.info
    have hb2 := (OptN.given (ev := ev) (dflt := 0) hy2 hil2).bound (P := P) (w := w) (a := a) (fun x hx => (h x (by simp [Op.operands] at hx ⊢; simp [hx])).1) c (by omega) .slice3Acap
    have hb := (OptN.given (ev := ev) (dflt := 0) hy hil).bound (P := P) (w := w) (a := a) (fun x hx => (h x (by simp [Op.operands] at hx ⊢; simp [hx])).1) l (by omega) .slice3B
    have he : (if l = 0 then A else A.map (·.add (0 * k0))) = A := by
      split
      · rfl
      · cases A with
        | none => rfl
        | some ad => simp [Addr.add]
    have hto := hs.to_ (h := l) (c' := l) (by omega) (Nat.le_refl _) (by omega)
    refine ⟨.slice A l l, ?_, A, l, l, rfl, hto.1, hto.2.1, hto.2.2.1, hto.2.2.2.1, hto.2.2.2.2.1, hto.2.2.2.2.2.1, ⟨rfl, .inl (by simp)⟩, hto.2.2.2.2.2.2.2⟩
    simp only [Option.map_some] at hb hb2
    simp only [execOp, Instr.sliceAt, Sem.run_bind, run_underlying hT.und, Result.andThen_ok, Instr.slice, h3, Instr.sliceBounds, Option.map_some, Option.map_none, Sem.run_pure, Option.isSome_some, if_true, hb, hb2, Go.sizeOf, typeInfo, run_program, hi, hsz]
    simp only [he, Nat.sub_zero]

/-! ### a store into a box -/
theorem splice {pre cs post us : List Value} {off m : Nat} (h : off + m ≤ cs.length) : (pre ++ cs ++ post).take (pre.length + off) ++ us ++ (pre ++ cs ++ post).drop (pre.length + off + m) = pre ++ (cs.take off ++ us ++ cs.drop (off + m)) ++ post := by
  rw [List.append_assoc pre cs post, List.take_length_add_append, Nat.add_assoc, List.drop_length_add_append, List.take_append_of_le_length (by omega), List.drop_append_of_le_length (by omega)]
  simp
theorem Eff.store {s : St} {t m : Nat} [hT : TySize P t m] {x y : Operand} {id off : Nat} {cs : List Value} {u : Value} (hx : s.ev x = .box id off) (hb : s.box id = some cs) (hy : s.ev y = .s (.v u))
    (hm : u.cells.toList.length = m) (hone : u.cells.toList.all (·.oneCell') = true) (hle : off + m ≤ cs.length) : Eff P ⟨none, .store t x y, ty, pos, aft, g⟩ s (Eq ⟨s.env, (id, cs.take off ++ u.cells.toList ++ cs.drop (off + m)) :: s.boxes⟩) := by
  rintro w0 n a w ⟨T, F, ρ, hr⟩ hd next Q hK
  have h1 := (hr.ev x).box_of hx
  have h2 := rep_v (hr.ev y) hy
  rcases Nat.eq_zero_or_pos m with hm0 | hm0
  · subst hm0
    have hu0 : u.cells.toList = [] := List.eq_nil_of_length_eq_zero hm
    have hs := hT.size
    have hrun : (execOp a.eval ⟨none, .store t x y, ty, pos, aft, g⟩).run P w = .ok .skip w := by
      cases hi : P.info? t with
      | none => rw [hi] at hs; cases hs
      | some inf =>
        have hsz : inf.size = 0 := by rw [hi] at hs; simpa using hs
        have hm' : u.cells.size = 0 := by simpa using hm
        have hu1 : u.cells = #[] := Array.eq_empty_of_size_eq_zero hm'
        simp [execOp, h1, h2, Instr.storeAt, Instr.sureAddr, storeVar, Go.sizeOf, typeInfo, hi, hsz, hu1, storeCells]
    unfold Oper.wp
    rw [hrun]
    refine hK _ rfl _ _ ⟨T, F, ρ, hr.defers, hr.size, hr.small, hr.below, hr.ext, hr.env, fun id' cs' hid => ?_⟩
    have hid' : boxOf ((id, cs.take off ++ u.cells.toList ++ cs.drop (off + 0)) :: s.boxes) id' = some cs' := hid
    rw [boxOf_put, hu0, List.append_nil, Nat.add_zero, List.take_append_drop] at hid'
    split at hid'
    · rename_i he
      subst he
      injection hid' with hid'
      subst hid'
      exact hr.boxes _ _ hb
    · exact hr.boxes _ _ hid'
  obtain ⟨b1, b2, b3, pre, post, e, bl, b4⟩ := hr.boxes id cs hb (fun h => by rw [h] at hle; simp at hle; omega)
  rw [← bl] at h1
  have hone' : ∀ v ∈ u.cells.toList, v.oneCell' = true := fun v hv => List.all_eq_true.1 hone v hv
  have hst := run_storeCells_at P (ρ id).1 (pre.length + off) e u.cells.toList 0 (pre ++ cs ++ post).toArray w b4 (by simp only [Nat.add_zero, List.size_toArray, List.length_append]; omega) hone'
  simp only [Nat.add_zero, hm, splice hle] at hst
  have hs := hT.size
  have hrun : (execOp a.eval ⟨none, .store t x y, ty, pos, aft, g⟩).run P w = .ok .skip (w.setRow (ρ id).1 (pre ++ (cs.take off ++ u.cells.toList ++ cs.drop (off + m)) ++ post).toArray) := by
    cases hi : P.info? t with
    | none => rw [hi] at hs; cases hs
    | some inf =>
      have hsz : inf.size = m := by rw [hi] at hs; simpa using hs
      have hm' : u.cells.size = m := by simpa using hm
      simp [execOp, h1, h2, Instr.storeAt, Instr.sureAddr, storeVar, Go.sizeOf, typeInfo, hi, hsz, hm', hst]
  unfold Oper.wp
  rw [hrun]
  refine hK _ rfl _ _ ⟨T, F, ρ, ?_⟩
  have hsize : (w.setRow (ρ id).1 (pre ++ (cs.take off ++ u.cells.toList ++ cs.drop (off + m)) ++ post).toArray).heap.size = w.heap.size := by simp
  have hother : ∀ k, k ≠ (ρ id).1 → (w.setRow (ρ id).1 (pre ++ (cs.take off ++ u.cells.toList ++ cs.drop (off + m)) ++ post).toArray).heap[k]? = w.heap[k]? := fun k hk => setRow_other w _ k _ hk
  have hg : Goes T F w T F (w.setRow (ρ id).1 (pre ++ (cs.take off ++ u.cells.toList ++ cs.drop (off + m)) ++ post).toArray) := by
    refine ⟨by omega, fun _ _ => rfl, fun _ _ => Nat.le_refl _, fun b cur e' hb' _ hh => ?_, fun b o hb' ht => World.cell?_of_block (w := w) (a := ⟨b, o, none⟩) (hother b fun hbe => ?_), fun b _ hb' ht => hother b fun hbe => (by rw [hbe, b3] at ht; cases ht), fun b hb' ht => hother b fun hbe => by rw [hbe, b3] at ht; cases ht⟩
    · by_cases hbe : b = (ρ id).1
      · subst hbe
        rw [b4] at hh
        injection hh with hh
        injection hh with e1 e2
        subst e1 e2
        have hul : u.cells.toList.length = m := hm
        refine ⟨_, setRow_heap w _ _ _ e _ b4, ?_⟩
        simp only [List.size_toArray, List.length_append, List.length_take, List.length_drop, hul]
        omega
      · exact ⟨cur, by rw [hother b hbe]; exact hh, rfl⟩
    · subst hbe
      rw [b3] at ht
      rcases ht with ht | ⟨τ, ht, _⟩ <;> cases ht
  have hE : Ends T F w F (w.setRow (ρ id).1 (pre ++ (cs.take off ++ u.cells.toList ++ cs.drop (off + m)) ++ post).toArray) none := fun b τ hb' ht _ => ⟨rfl, hother b fun hbe => by subst hbe; rw [b3] at ht; cases ht⟩
  refine ⟨hr.defers, hr.size, hr.small, hr.below.trans ⟨rfl, rfl, rfl, by omega, fun k hk => hother k (by omega)⟩, hr.ext, fun t => (hr.env t).goes0 hg hE (fun _ _ => rfl), fun id' cs' hid => ?_⟩
  have hid' : boxOf ((id, cs.take off ++ u.cells.toList ++ cs.drop (off + m)) :: s.boxes) id' = some cs' := hid
  rw [boxOf_put] at hid'
  split at hid'
  · rename_i he
    subst he
    injection hid' with hid'
    subst hid'
    exact fun _ => ⟨b1, by omega, b3, pre, post, e, bl, setRow_heap w _ _ _ e _ b4⟩
  · rename_i he
    intro hne
    have hbo := hr.boxes id' cs' hid'
    refine hbo.goes (by omega) (fun _ => rfl) rfl (fun _ => hother _ fun hbe => he ?_) hne
    have := (hbo hne).2.2.1
    rw [hbe, b3] at this
    injection this
end

theorem flatten_get {k : Nat} (hk : 0 < k) : ∀ {els : List (List Value)}, (∀ e ∈ els, e.length = k) → ∀ {j : Nat} {u : Value}, els.flatten[j]? = some u → ∃ e, els[j / k]? = some e ∧ e[j % k]? = some u
  | [], _, j, u, h => by simp at h
  | x :: els, hl, j, u, h => by
    have hx := hl x (List.mem_cons_self ..)
    rw [List.flatten_cons] at h
    rcases Nat.lt_or_ge j k with hj | hj
    · rw [List.getElem?_append_left (by omega)] at h
      rw [Nat.div_eq_of_lt hj, Nat.mod_eq_of_lt hj]
      exact ⟨x, rfl, h⟩
    · rw [List.getElem?_append_right (by omega), hx] at h
      obtain ⟨e, h1, h2⟩ := flatten_get hk (fun y hy => hl y (List.mem_cons_of_mem _ hy)) h
      refine ⟨e, ?_, ?_⟩
      · rw [show j / k = (j - k) / k + 1 from Nat.div_eq_sub_div hk hj]
        exact h1
      · rw [Nat.mod_eq_sub_mod hj]; exact h2
theorem RowAt.flat {w : World} {b o k : Nat} {els : List (List Value)} (hk : 0 < k) (hl : ∀ e ∈ els, e.length = k) (h : RowAt w b o k els) : ∀ j u, els.flatten[j]? = some u → w.cell? ⟨b, o + j, none⟩ = some u := fun j u hu => by
  obtain ⟨e, h1, h2⟩ := flatten_get hk hl hu
  have := h _ _ _ _ h1 h2
  rwa [Nat.add_assoc, Nat.mul_comm, Nat.div_add_mod] at this
theorem RowAt.of_flat {w : World} {b o k : Nat} {els : List (List Value)} (hl : ∀ e ∈ els, e.length = k) (h : ∀ j u, els.flatten[j]? = some u → w.cell? ⟨b, o + j, none⟩ = some u) : RowAt w b o k els := fun i j e u he hu => by
  rw [Nat.add_assoc]
  exact h _ _ (flatten_at hl he hu)

inductive SrcLe : PV → Nat → App → Nat → List (List Value) → Prop
  | sl (τ : Nat) (app : App) (k : Nat) (els : List (List Value)) : SrcLe (.s (.sl (some τ) app k els)) τ app k els
  | nil (τ k : Nat) : SrcLe (.s .nil) τ .full k []
inductive ReadLe : PV → Nat → List (List Value) → Prop
  | sl (tag : Option Nat) (app : App) (k : Nat) (els : List (List Value)) : ReadLe (.s (.sl tag app k els)) k els
  | nil (k : Nat) : ReadLe (.s .nil) k []
theorem SrcLe.ok {T : Nat → BTag} {F : Nat → Nat} {ρ : Nat → Nat × Nat} {w : World} {p : PV} {τ k : Nat} {app : App} {els : List (List Value)} (h : SrcLe p τ app k els) {u : Value} (hr : RepP T F ρ w p u) : ∃ A n c, u = .slice A n c ∧ SlOk T F w (some τ) app k els A n c := by
  cases h with
  | sl => exact hr
  | nil => exact ⟨none, 0, 0, hr, SlOk.toNil _ _ _⟩
theorem ReadLe.ok {T : Nat → BTag} {F : Nat → Nat} {ρ : Nat → Nat × Nat} {w : World} {p : PV} {k : Nat} {els : List (List Value)} (h : ReadLe p k els) {u : Value} (hr : RepP T F ρ w p u) : ∃ tag A n c, u = .slice A n c ∧ SlOk T F w tag .no k els A n c := by
  cases h with
  | sl tag app => obtain ⟨A, n, c, h1, h2⟩ := hr; exact ⟨tag, A, n, c, h1, h2.toNo⟩
  | nil => exact ⟨none, none, 0, 0, hr, SlOk.toNil _ _ _⟩

def St.un (τ : Nat) (s : St) : St := ⟨s.env.map fun p => (p.1, p.2.un (some τ)), s.boxes⟩
theorem look_map (f : PV → PV) (hf : f .any = .any) : ∀ (l : List (Nat × PV)) (t : Nat), look (l.map fun p => (p.1, f p.2)) t = f (look l t)
  | [], t => hf.symm
  | (d, p) :: l, t => by
    rw [List.map_cons, look_put, look_put]
    split
    · rfl
    · exact look_map f hf l t
theorem look_un (τ : Nat) (s : St) (t : Nat) : (s.un τ).look t = (s.look t).un (some τ) := look_map _ rfl _ _

section
variable {P : Program} {s : St} {d : Option Nat} {ty : TypeId} {pos : String} {aft : Array Edge} {g : Option (Nat × Bool)}

theorem Eff.append {t e k bytes : Nat} [hT : TySl P t e k bytes] {x y : Operand} {τ : Nat} {app : App} {els els2 : List (List Value)} (hx : SrcLe (s.ev x) τ app k els) (happ : app = .full ∨ app = .front e) (hy : ReadLe (s.ev y) k els2)
    (hone : ∀ l ∈ els2, ∀ u ∈ l, u.oneCell' = true) (hb : (els.length + els2.length) * bytes ≤ 140737488355328) :
    Eff P ⟨d, .call ⟨.builtin .append, #[x, y], #[t, t]⟩, ty, pos, aft, g⟩ s (Eq ((s.un τ).putO d (.s (.sl (some τ) (.front e) k (els ++ els2))))) := by
  rintro w0 n0 a w ⟨T, F, ρ, hr⟩ hd next Q hK
  obtain ⟨A, n, c, hu, hs⟩ := hx.ok (hr.ev x)
  obtain ⟨tag2, A2, m, c2, hu2, hs2⟩ := hy.ok (hr.ev y)
  obtain ⟨i, z, hi, hz, hsz, hby, hzs⟩ := hT.info
  have hk := hT.pos
  have hby0 := hT.by_
  obtain ⟨h1, h2, h2', h3, h4, h5, h6, hsh⟩ := hs
  obtain ⟨p1, p2, p2', p3, p4, p5, _⟩ := hs2
  have hmx : (n + m) * bytes ≤ 140737488355328 := by rw [h1, p1]; exact hb
  have hnm : n + m ≤ 140737488355328 := Nat.le_trans (Nat.le_mul_of_pos_right _ hby0) hmx
  have hall : ∀ l ∈ els ++ els2, l.length = k := fun l hl => by
    rcases List.mem_append.1 hl with hl | hl
    · exact h3 l hl
    · exact p3 l hl
  have hlen1 : els.flatten.length = n * k := by rw [flatten_len h3, h1]
  have hlen2 : els2.flatten.length = m * k := by rw [flatten_len p3, p1]
  have hone' : ∀ u ∈ els2.flatten, u.oneCell' = true := fun u hu => by
    obtain ⟨l, hl, hul⟩ := List.mem_flatten.1 hu
    exact hone l hl u hul
  -- how the state is carried on
  have carry : ∀ (w' : World) (T' : Nat → BTag) (F' : Nat → Nat) (v : Value), Below w0.w.heap.size w0.w w' → (∀ b, b < w0.w.heap.size → T' b = .ext) → Goes T F w T' F' w' → Ends T F w F' w' (some τ) →
      (∀ id cs, s.box id = some cs → cs ≠ [] → w'.heap[(ρ id).1]? = w.heap[(ρ id).1]?) → RepS T' F' w' (.sl (some τ) (.front e) k (els ++ els2)) v → next (a.put d v) w' := by
    intro w' T' F' v c1 c2 c3 c4 c5 c6
    refine hK _ rfl _ _ ⟨T', F', ρ, by rw [defers_put]; exact hr.defers, by rw [size_put]; exact hr.size, hr.small, c1, c2, fun t => ?_, fun id cs hid => ?_⟩
    · rw [look_putO, vl_put hr.size hr.small hd]
      split
      · exact c6
      · rw [look_un]
        exact (hr.env t).goes c3 c4 (fun _ _ => rfl)
    · rw [box_putO] at hid
      have hid' : s.box id = some cs := hid
      intro hne
      have hbo := hr.boxes id cs hid'
      exact hbo.goes c3.size (c3.tag _) rfl (fun _ => c5 id cs hid' hne) hne
  have hex : (execOp a.eval ⟨d, .call ⟨.builtin .append, #[x, y], #[t, t]⟩, ty, pos, aft, g⟩).run P w = ((Builtin.append_ #[t, t] ty #[.slice A n c, .slice A2 m c2]).run P w).andThen fun v w' => .ok (.value v) w' := by
    simp [execOp, resolve, invoke, builtin, hu, hu2]
  unfold Oper.wp
  rw [hex]
  have htagA : (some τ : Option Nat) ≠ none := by simp
  by_cases hm : m = 0
  · -- nothing is appended
    have he2 : els2 = [] := List.eq_nil_of_length_eq_zero (by omega)
    have hrun : (Builtin.append_ #[t, t] ty #[.slice A n c, .slice A2 m c2]).run P w = .ok (.slice A n c) w := by
      subst hm
      have hf : (Builtin.firstCells k 0 (.slice A2 0 c2)).run P w = .ok #[] w := by
        cases A2 <;> simp [Builtin.firstCells, loadCells, loadCellsFrom]
      cases A <;> simp [Builtin.append_, run_underlying hT.und, Go.sizeOf, typeInfo, hi, hsz, Builtin.lenOf, h2, hf, storeCells]
    rw [hrun]
    refine carry w T F _ hr.below hr.ext (Goes.refl _ _ _) (fun _ _ _ _ _ => ⟨rfl, rfl⟩) (fun _ _ _ _ => rfl) ⟨A, n, c, rfl, ?_⟩
    rw [he2, List.append_nil]
    refine ⟨h1, h2, h2', h3, h4, h5, ?_, hsh⟩
    rcases happ with rfl | rfl
    · exact ⟨h6.2, .inl h6.1⟩
    · exact h6
  obtain ⟨ad2, hA2⟩ : ∃ ad, A2 = some ad := by
    cases A2 with
    | none => exact absurd (p4 rfl).1 hm
    | some ad => exact ⟨ad, rfl⟩
  subst hA2
  obtain ⟨b2, o2, sp2⟩ := ad2
  obtain ⟨q1, q2, q3, q4, q5⟩ := p5 _ rfl
  simp only at q1 q2 q3 q4 q5
  subst q1
  have hnews : ∀ j v, els2.flatten[j]? = some v → w.cell? ((⟨b2, o2, none⟩ : Addr).add j) = some v := fun j v hv => by
    rw [Addr.add_mid]; exact q5.flat hk p3 j v hv
  by_cases hroom : n + m ≤ c
  · -- in place
    have hfr : app = .front e := by
      rcases happ with rfl | rfl
      · have := h6.1; omega
      · rfl
    subst hfr
    obtain ⟨_, h7⟩ := h6
    rcases h7 with h7 | ⟨b, o, cur, e', hA, hF, hh, hcs⟩
    · omega
    subst hA
    obtain ⟨r1, r2, r3, r4, r5⟩ := h5 _ rfl
    simp only at r2 r3 r4 r5
    have hmul : n * k + m * k ≤ c * k := by rw [← Nat.add_mul]; exact Nat.mul_le_mul_right _ hroom
    have hfit : o + n * k + 0 + els2.flatten.length ≤ cur.size := by rw [hlen2]; omega
    have hst := run_storeCells_at P b (o + n * k) e' els2.flatten 0 cur w hh hfit hone'
    simp only [Nat.add_zero] at hst hfit
    have hf := run_firstCells_some (P := P) w k m ⟨b2, o2, none⟩ m c2 els2.flatten hlen2 hnews
    obtain ⟨w', hw'⟩ : ∃ w', w' = w.setRow b (cur.toList.take (o + n * k) ++ els2.flatten ++ cur.toList.drop (o + n * k + els2.flatten.length)).toArray := ⟨_, rfl⟩
    have hrun : (Builtin.append_ #[t, t] ty #[.slice (some ⟨b, o, none⟩) n c, .slice (some ⟨b2, o2, none⟩) m c2]).run P w = .ok (.slice (some ⟨b, o, none⟩) (n + m) c) w' := by
      rw [hw']
      simp [Builtin.append_, run_underlying hT.und, Go.sizeOf, typeInfo, hi, hsz, Builtin.lenOf, hroom, hf, Addr.add_mid, hst]
    rw [hrun]
    have hsize : w'.heap.size = w.heap.size := by rw [hw']; simp
    have hother : ∀ k, k ≠ b → w'.heap[k]? = w.heap[k]? := fun k hk => by rw [hw']; exact setRow_other w _ k _ hk
    have hheap : w'.heap[b]? = some (.cells (cur.toList.take (o + n * k) ++ els2.flatten ++ cur.toList.drop (o + n * k + els2.flatten.length)).toArray e' (0, 0)) := by rw [hw']; exact setRow_heap w _ _ _ e' _ hh
    have hcl : (cur.toList.take (o + n * k)).length = o + n * k := by rw [List.length_take, Array.length_toList]; omega
    have hcell : ∀ p, p < o + n * k → w'.cell? ⟨b, p, none⟩ = w.cell? ⟨b, p, none⟩ := fun p hp => by
      rw [cell_of_row w' b p _ e' (0, 0) hheap, cell_of_row w b p _ e' (0, 0) hh]
      simp only [List.getElem?_toArray]
      rw [List.append_assoc, List.getElem?_append_left (by omega), List.getElem?_take, if_pos hp]
      simp
    have hcell2 : ∀ p u, els2.flatten[p]? = some u → w'.cell? ⟨b, o + n * k + p, none⟩ = some u := fun p u hp => by
      rw [cell_of_row w' b _ _ e' (0, 0) hheap]
      simp only [List.getElem?_toArray]
      have := (List.getElem?_eq_some_iff.1 hp).1
      rw [List.append_assoc, List.getElem?_append_right (by omega), hcl, List.getElem?_append_left (by omega), show o + n * k + p - (o + n * k) = p by omega]
      exact hp
    have hbase : w0.w.heap.size ≤ b := by
      rcases Nat.lt_or_ge b w0.w.heap.size with hlt | hge
      · have := hr.ext b hlt; rw [r3] at this; cases this
      · exact hge
    refine carry w' T (fun b' => if b' = b then o + (n + m) * k else F b') _ (hr.below.trans ⟨by rw [hw']; rfl, by rw [hw']; rfl, by rw [hw']; rfl, by omega, fun q hq => hother q (by omega)⟩) hr.ext
      ⟨by omega, fun _ _ => rfl, fun b' _ => ?_, fun b' cur' e2 hb' _ hh' => ?_, fun b' p hb' ht => ?_, fun b' _ _ ht => hother b' fun hbb => (by rw [hbb, r3] at ht; cases ht), fun b' _ ht => hother b' fun hbb => by rw [hbb, r3] at ht; cases ht⟩ (fun b' τ' hb' ht hne => ?_) (fun id cs hid hcne => hother _ fun hbe => ?_) ⟨some ⟨b, o, none⟩, n + m, c, rfl, ?_⟩
    · show F b' ≤ if b' = b then _ else _
      split
      · rename_i hbb; subst hbb; rw [← hF, Nat.add_mul]; omega
      · exact Nat.le_refl _
    · by_cases hbb : b' = b
      · subst hbb
        rw [hh] at hh'
        injection hh' with hh'
        injection hh' with e1 e2
        subst e1 e2
        exact ⟨_, hheap, by simp only [List.size_toArray, List.length_append, List.length_take, List.length_drop, Array.length_toList]; omega⟩
      · exact ⟨cur', by rw [hother b' hbb]; exact hh', rfl⟩
    · by_cases hbb : b' = b
      · subst hbb
        refine hcell p ?_
        rcases ht with ht | ⟨τ', _, hp⟩
        · rw [r3] at ht; cases ht
        · rw [hF]; exact hp
      · exact World.cell?_of_block (w := w) (a := ⟨b', p, none⟩) (hother b' hbb)
    · have hbb : b' ≠ b := fun hbb => by
        subst hbb
        rw [r3] at ht
        injection ht with ht
        exact hne (by rw [ht])
      exact ⟨if_neg hbb, hother b' hbb⟩
    · have := (hr.boxes id cs hid hcne).2.2.1
      rw [hbe, r3] at this
      cases this
    · refine ⟨by simp [h1, p1], by omega, h2', hall, fun hA => (by cases hA), fun ad hA => ?_, ⟨.inl htagA, .inr ⟨b, o, _, e', rfl, (if_pos rfl).symm, hheap, ?_⟩⟩, .inr (.inr ⟨b, o, _, e', rfl, hheap, ?_⟩)⟩
      · injection hA with hA
        subst hA
        refine ⟨rfl, by simp only; omega, r3, .inr (by simp), RowAt.of_flat hall fun j u hj => ?_⟩
        show w'.cell? ⟨b, o + j, none⟩ = some u
        rw [List.flatten_append] at hj
        rcases Nat.lt_or_ge j (n * k) with hlt | hge
        · rw [List.getElem?_append_left (by omega)] at hj
          rw [hcell _ (by omega)]
          exact r5.flat hk h3 j u hj
        · rw [List.getElem?_append_right (by omega), hlen1] at hj
          have := hcell2 _ _ hj
          rwa [show o + n * k + (j - n * k) = o + j by omega] at this
      · simp only [List.size_toArray, List.length_append, List.length_drop, Array.length_toList, hcl]
        omega
      · simp only [List.size_toArray, List.length_append, List.length_drop, Array.length_toList, hcl]
        omega
  · -- a new row
    have hgr : ∃ cs : Array Value, (Builtin.append_ #[t, t] ty #[.slice A n c, .slice (some ⟨b2, o2, none⟩) m c2]).run P w = .ok (.slice (some ⟨w.heap.size, 0, none⟩) (n + m) (grownCap w (n + m) c e)) (w.drew.alloc (.cells cs e)) ∧
        cs.toList.take ((n + m) * k) = (els ++ els2).flatten ∧ cs.size = grownCap w (n + m) c e * k := by
      have hge := grownCap_ge w (n + m) c e
      have hcsz : ∀ X : List Value, X.length = (n + m) * k → (X.toArray ++ Builtin.zeroCells z.cells (grownCap w (n + m) c e - (n + m))).size = grownCap w (n + m) c e * k := fun X hX => by
        rw [Array.size_append, size_zeroCells, hzs, List.size_toArray, hX, ← Nat.add_mul]
        congr 1
        omega
      have hXl : ((els ++ els2).flatten).length = (n + m) * k := by rw [flatten_len hall]; simp [h1, p1]
      cases A with
      | none =>
        have h00 := h4 rfl
        have e1 : els = [] := List.eq_nil_of_length_eq_zero (by omega)
        obtain ⟨n00, c00⟩ := h00
        subst n00 c00
        subst e1
        have := run_append_nil (P := P) w t ty e i z hT.und hi hz ⟨b2, o2, none⟩ m c2 els2.flatten (by rw [hsz]; exact hlen2) hnews (by omega) (by omega) (by rw [hby]; simp only [Nat.zero_add] at hmx; omega)
        simp only [Nat.zero_add] at hcsz hXl hge ⊢
        refine ⟨_, this, ?_, hcsz _ (by simpa using hXl)⟩
        rw [List.nil_append, Array.toList_append, List.take_append_of_le_length (Nat.le_of_eq hlen2.symm)]
        rw [← hlen2]
        exact List.take_length
      | some ad =>
        obtain ⟨b, o, sp⟩ := ad
        obtain ⟨r1, r2, r3, r4, r5⟩ := h5 _ rfl
        simp only at r1 r2 r3 r4 r5
        subst r1
        have holds : ∀ j v, els.flatten[j]? = some v → w.cell? ((⟨b, o, none⟩ : Addr).add j) = some v := fun j v hv => by
          rw [Addr.add_mid]; exact r5.flat hk h3 j v hv
        have := run_append_grow (P := P) w t ty e i z hT.und hi hz ⟨b, o, none⟩ n c els.flatten (by rw [hsz]; exact hlen1) holds ⟨b2, o2, none⟩ m c2 els2.flatten (by rw [hsz]; exact hlen2) hnews (by omega) (by omega) (growslice_fits (by omega) (by rw [hby]; exact hmx))
        refine ⟨_, this, ?_, ?_⟩
        · rw [List.flatten_append]
          have hl : (els.flatten ++ els2.flatten).length = (n + m) * k := by rw [← List.flatten_append]; exact hXl
          rw [Array.toList_append, Array.toList_append, List.take_append_of_le_length (by rw [← Array.toList_append, Array.length_toList, Array.size_append, List.size_toArray, List.size_toArray, hlen1, hlen2, Nat.add_mul]; exact Nat.le_refl _)]
          simp only
          rw [← hl, List.take_length]
        · have := hcsz (els.flatten ++ els2.flatten) (by rw [← List.flatten_append]; exact hXl)
          simpa using this
    obtain ⟨cs, hrun, htake, hcs⟩ := hgr
    rw [hrun]
    have hge := grownCap_ge w (n + m) c e
    have hcm : grownCap w (n + m) c e ≤ maxLen := grownCap_le_maxLen w (n + m) c e (by unfold maxLen; omega)
    generalize grownCap w (n + m) c e = gc at *
    have hnew : (w.drew.alloc (.cells cs e)).heap[w.heap.size]? = some (.cells cs e (0, 0)) := heap_alloc_new w.drew _
    have hold : ∀ q, q < w.heap.size → (w.drew.alloc (.cells cs e)).heap[q]? = w.heap[q]? := fun q hq => Below.heap_alloc w.drew _ q hq
    refine carry _ (fun b' => if b' = w.heap.size then .row τ else T b') (fun b' => if b' = w.heap.size then (n + m) * k else F b') _ (hr.below.drew.alloc hr.below.size _) (fun b' hb' => ?_)
      ⟨by simp, fun b' hb' => if_neg (by omega), fun b' hb' => ?_, fun b' cur' _ hb' _ hh' => ⟨cur', by rw [hold b' hb']; exact hh', rfl⟩, fun b' p hb' _ => World.cell?_of_block (w := w) (a := ⟨b', p, none⟩) (hold b' hb'), fun b' _ hb' _ => hold b' hb', fun b' hb' _ => hold b' hb'⟩ (fun b' τ' hb' _ _ => ⟨if_neg (by omega), hold b' hb'⟩) (fun id cs' hid hcne => hold _ (hr.boxes id cs' hid hcne).2.1)
      ⟨_, _, _, rfl, slOk_new hnew (if_pos rfl) (if_pos rfl) (by simp [h1, p1]) hge hcm hall hcs (RowAt.of_flat hall fun j u hj => ?_)⟩
    · show (if b' = w.heap.size then _ else _) = _
      rw [if_neg (by have := hr.below.size; omega)]
      exact hr.ext b' hb'
    · show F b' ≤ if b' = w.heap.size then _ else _
      rw [if_neg (by omega)]
      exact Nat.le_refl _
    · rw [Nat.zero_add, cell_of_row _ w.heap.size j cs e (0, 0) hnew, ← Array.getElem?_toList]
      rw [← htake, List.getElem?_take] at hj
      split at hj
      · exact hj
      · cases hj
end

section
variable {P : Program}
theorem TySl.mk' {t e k by0 : Nat} {z : Value} (h : P.underlying t = some (.slice e)) (hi : (P.info? e).map (fun i => (i.zero, i.size, i.bytes)) = some (some z, k, by0)) (hz : z.cells.size = k) (hk : 0 < k) (hb : 0 < by0) : TySl P t e k by0 := by
  obtain ⟨i, h1, h2, h3, h4⟩ := info_parts hi
  exact ⟨h, ⟨i, z, h1, h2, h3, h4, hz⟩, hk, hb⟩
theorem TyZero.mk' {t : TypeId} {z : Value} (hi : (P.info? t).map (·.zero) = some (some z)) : TyZero P t z := by
  cases h : P.info? t with
  | none => rw [h] at hi; cases hi
  | some i => rw [h] at hi; exact ⟨⟨i, h, by simpa using hi⟩⟩
theorem TyField.mk' {t f off n : Nat} {fs : Array Field} {fd : Field} (hu : P.underlying t = some (.struct fs)) (hf : fs[f]? = some fd) (ho : fd.offset = off) (hs : (P.info? fd.type).map (·.size) = some n) (hn : n ≠ 0) : TyField P t f off := by
  cases h : P.info? fd.type with
  | none => rw [h] at hs; cases hs
  | some i => rw [h] at hs; exact ⟨⟨fs, fd, i, hu, hf, ho, h, by simp at hs; omega⟩⟩
theorem TyStruct.mk' {t : TypeId} {zero : List Value} {places : List (Nat × Nat)} {fs : Array Field} (hu : P.underlying t = some (.struct fs)) (hi : (P.info? t).map (·.zero) = some (some (.agg zero.toArray)))
    (hp : fs.toList.map (fun f => (f.offset, (P.info? f.type).map (·.size))) = places.map (fun p => (p.1, some p.2))) : TyStruct P t zero places := by
  cases h : P.info? t with
  | none => rw [h] at hi; cases hi
  | some i => rw [h] at hi; exact ⟨⟨fs, i, hu, h, by simpa using hi, hp⟩⟩
theorem TyArray.mk' {t : TypeId} {zero : List Value} {len e k : Nat} (hu : P.underlying t = some (.array len e)) (hi : (P.info? t).map (·.zero) = some (some (.agg zero.toArray))) (hp : (P.info? e).map (·.size) = some k) : TyArray P t zero k := by
  cases h : P.info? t with
  | none => rw [h] at hi; cases hi
  | some i => rw [h] at hi; exact ⟨⟨len, e, i, hu, h, by simpa using hi, hp⟩⟩
end

/-! ### what an append elsewhere leaves of a value -/
def unS (σs : List Nat) (x : SV) : SV := σs.foldl (fun x τ => x.un (some τ)) x
def unL (σs : List Nat) (p : PV) : PV := σs.foldl (fun p τ => p.un (some τ)) p
def unE (σs : List Nat) (ev : Operand → PV) : Operand → PV := fun x => unL σs (ev x)
def unT (tag : Option Nat) (τ : Nat) (a : App) : App := match tag with | some t => bif Nat.beq τ t then a.un else a | none => a
def unA (σs : List Nat) (tag : Option Nat) (app : App) : App := σs.foldl (fun a τ => unT tag τ a) app
theorem unL_s : ∀ (σs : List Nat) (x : SV), unL σs (.s x) = .s (unS σs x)
  | [], _ => rfl
  | τ :: σs, x => unL_s σs (x.un (some τ))
theorem unS_v : ∀ (σs : List Nat) (u : Value), unS σs (.v u) = .v u
  | [], _ => rfl
  | _ :: σs, u => unS_v σs u
theorem unS_nil : ∀ (σs : List Nat), unS σs .nil = .nil
  | [] => rfl
  | _ :: σs => unS_nil σs
theorem un_sl (τ : Nat) (tag : Option Nat) (app : App) (k : Nat) (els : List (List Value)) : (SV.sl tag app k els).un (some τ) = .sl tag (unT tag τ app) k els := by
  cases tag with
  | none => rfl
  | some t => simp only [SV.un, unT]; cases Nat.beq τ t <;> rfl
theorem unS_sl : ∀ (σs : List Nat) (tag : Option Nat) (app : App) (k : Nat) (els : List (List Value)), unS σs (.sl tag app k els) = .sl tag (unA σs tag app) k els
  | [], _, _, _, _ => rfl
  | τ :: σs, tag, app, k, els => by
    show unS σs ((SV.sl tag app k els).un (some τ)) = _
    rw [un_sl, unS_sl σs]
    rfl
theorem unL_v (σs : List Nat) (u : Value) : unL σs (.s (.v u)) = .s (.v u) := by rw [unL_s, unS_v]
theorem unL_nil (σs : List Nat) : unL σs (.s .nil) = .s .nil := by rw [unL_s, unS_nil]
theorem unL_sl (σs : List Nat) (tag : Option Nat) (app : App) (k : Nat) (els : List (List Value)) : unL σs (.s (.sl tag app k els)) = .s (.sl tag (unA σs tag app) k els) := by rw [unL_s, unS_sl]
theorem unL_tup : ∀ (σs : List Nat) (xs : List SV), unL σs (.tup xs) = .tup (xs.map (unS σs))
  | [], xs => congrArg PV.tup (List.map_id xs).symm
  | τ :: σs, xs => by
    show unL σs (.tup (xs.map (·.un (some τ)))) = _
    rw [unL_tup σs, List.map_map]
    rfl
theorem unL_box : ∀ (σs : List Nat) (id off : Nat), unL σs (.box id off) = .box id off
  | [], _, _ => rfl
  | _ :: σs, id, off => unL_box σs id off
theorem unL_elp : ∀ (σs : List Nat) (tag : Option Nat) (k : Nat) (els : List (List Value)) (i j : Nat), unL σs (.elp tag k els i j) = .elp tag k els i j
  | [], _, _, _, _, _ => rfl
  | _ :: σs, tag, k, els, i, j => unL_elp σs tag k els i j
theorem unL_any : ∀ (σs : List Nat), unL σs .any = .any
  | [] => rfl
  | _ :: σs => unL_any σs
theorem SV.le_un (σ : Nat) (x : SV) : SVLe x (x.un (some σ)) := by
  cases x with
  | v u => exact .refl _
  | nil => exact .refl _
  | nsl tag rts uq k els => exact .refl _
  | ag rts e => exact .refl _
  | sl tag app k els =>
    rw [un_sl]
    cases tag with
    | none => exact .refl _
    | some t =>
      simp only [unT]
      cases Nat.beq σ t
      · exact .refl _
      · cases app
        · exact .refl _
        · exact .refl _
        · exact .no _ _ _ _
theorem PV.le_un (σ : Nat) (p : PV) : PVLe p (p.un (some σ)) := by
  cases p with
  | s x => exact .s (x.le_un σ)
  | tup xs =>
    refine .tup (by simp) fun i x y hx hy => ?_
    rw [List.getElem?_map, hx] at hy
    injection hy with hy
    subst hy
    exact x.le_un σ
  | hd v x => exact .hd v (x.le_un σ)
  | _ => exact .refl _
theorem SVLe.un {x y : SV} (h : SVLe x y) (σ : Nat) : SVLe (x.un (some σ)) (y.un (some σ)) := by
  cases h with
  | refl => exact .refl _
  | nil tag app k => rw [un_sl]; exact .nil _ _ _
  | no tag app k els =>
    rw [un_sl, un_sl]
    have : unT tag σ App.no = App.no := by
      cases tag with
      | none => rfl
      | some t => simp only [unT]; cases Nat.beq σ t <;> rfl
    rw [this]
    exact .no _ _ _ _
  | nov v h => exact .nov v h
  | von => exact .von
  | nsn tag rts uq k => exact .nsn _ _ _ _
  | nsl tag k els h hq => exact .nsl _ _ _ h hq
theorem PVLe.un {p q : PV} (h : PVLe p q) (σ : Nat) : PVLe (p.un (some σ)) (q.un (some σ)) := by
  cases h with
  | refl => exact .refl _
  | any => exact .any _
  | s h => exact .s (h.un σ)
  | hd v h => exact .hd v (h.un σ)
  | @tup xs ys hl h =>
    refine .tup (by simpa using hl) fun i x y hx hy => ?_
    rw [List.getElem?_map] at hx hy
    cases hx0 : xs[i]? with
    | none => rw [hx0] at hx; cases hx
    | some x0 =>
      cases hy0 : ys[i]? with
      | none => rw [hy0] at hy; cases hy
      | some y0 =>
        rw [hx0] at hx; rw [hy0] at hy
        injection hx with hx; injection hy with hy
        subst hx hy
        exact (h i x0 y0 hx0 hy0).un σ
theorem PVLe.unL {p q : PV} (h : PVLe p q) : ∀ (σs : List Nat), PVLe (unL σs p) (unL σs q)
  | [] => h
  | σ :: σs => PVLe.unL (h.un σ) σs
theorem SV.un_comm (σ τ : Nat) (x : SV) : (x.un (some σ)).un (some τ) = (x.un (some τ)).un (some σ) := by
  cases x with
  | sl tag app k els =>
    rw [un_sl, un_sl, un_sl, un_sl]
    cases tag with
    | none => rfl
    | some t => simp only [unT]; cases Nat.beq σ t <;> cases Nat.beq τ t <;> rfl
  | _ => rfl
theorem PV.un_comm (σ τ : Nat) (p : PV) : (p.un (some σ)).un (some τ) = (p.un (some τ)).un (some σ) := by
  cases p with
  | s x => exact congrArg PV.s (x.un_comm σ τ)
  | hd v x => exact congrArg (PV.hd v) (x.un_comm σ τ)
  | tup xs =>
    refine congrArg PV.tup ?_
    rw [List.map_map, List.map_map]
    exact List.map_congr_left fun x _ => x.un_comm σ τ
  | _ => rfl
theorem SV.un_un (σ : Nat) (x : SV) : (x.un (some σ)).un (some σ) = x.un (some σ) := by
  cases x with
  | sl tag app k els =>
    rw [un_sl, un_sl]
    cases tag with
    | none => rfl
    | some t => simp only [unT]; cases Nat.beq σ t <;> cases app <;> rfl
  | _ => rfl
theorem PV.un_un (σ : Nat) (p : PV) : (p.un (some σ)).un (some σ) = p.un (some σ) := by
  cases p with
  | s x => exact congrArg PV.s (x.un_un σ)
  | hd v x => exact congrArg (PV.hd v) (x.un_un σ)
  | tup xs =>
    refine congrArg PV.tup ?_
    rw [List.map_map]
    exact List.map_congr_left fun x _ => x.un_un σ
  | _ => rfl
theorem un_isBox (σ : Option Nat) (p : PV) (id : Nat) : (p.un σ).isBox id = p.isBox id := by cases p <;> rfl
theorem unL_isBox : ∀ (σs : List Nat) (p : PV) (id : Nat), (unL σs p).isBox id = p.isBox id
  | [], _, _ => rfl
  | σ :: σs, p, id => (unL_isBox σs (p.un (some σ)) id).trans (un_isBox _ p id)
theorem fact_un (σ : Option Nat) (p : PV) : (p.un σ).fact = p.fact.un σ := by cases p <;> rfl
theorem ev_un (τ : Nat) (s : St) (x : Operand) : (s.un τ).ev x = (s.ev x).un (some τ) := by
  cases x with
  | tmp t =>
    simp only [St.ev, look_un]
    cases Nat.blt t 1000000
    · exact fact_un _ _
    · rfl
  | const v => simp only [St.ev, evC]; split <;> rfl
  | _ => rfl

/-- What an operation yields hangs on its operands alone, whatever is appended elsewhere; and its slices grow at no end that is another's. -/
def Hu (P : Program) (o : Oper) (ev : Operand → PV) (bx : Nat → Option (List Value)) (pv : PV) (nb : Option (Nat × List Value)) : Prop :=
  ∀ σs, Val P o (unE σs ev) bx (unL σs pv) nb ∧ ∀ σ, (∀ x, (x ∈ o.op.operands ∨ isV x = true) → (unE σs ev x).un (some σ) = unE σs ev x) → o.dst ≠ some σ → (unL σs pv).un (some σ) = unL σs pv

/-- A slice [:i:i]: its append is a writing of its own. -/
def isFull (ops : Array Oper) : Operand → Bool
  | .tmp t => ops.toList.any fun o => (match o.dst with | some d => Nat.beq d t | none => false) && (match o.op with | .slice _ _ _ _ (some _) => true | _ => false)
  | _ => false
/-- Functions that turn objects. -/
def effFuncs : List Nat := []
/-- Types of slices of slices. -/
def nestTys : List Nat := []
def defOp (ops : Array Oper) (t : Nat) : Option Op := (ops.toList.find? fun o => match o.dst with | some d => Nat.beq d t | none => false).map (·.op)
/-- Is the operand an append's result? -/
def fromApp (ops : Array Oper) : Operand → Bool
  | .tmp t => match defOp ops t with
    | some (.call ⟨.builtin .append, _, _⟩) => true
    | _ => false
  | _ => false
/-- Is the operand a slice that was read out of a slice of slices? -/
def fromNest (ops : Array Oper) : Operand → Bool
  | .tmp t => match defOp ops t with
    | some (.load _ (.tmp p)) => (match defOp ops p with
      | some (.indexAddr T _ _) => nestTys.any (Nat.beq T)
      | _ => false)
    | _ => false
  | _ => false
/-- Operations that must keep their place. -/
def isEff (ops : Array Oper) (o : Oper) : Bool := match o.op with
  | .store .. => true
  | .call ⟨.builtin .append, args, ats⟩ => isFull ops (args.getD 0 (.global 0)) || nestTys.any (Nat.beq (ats.getD 0 0)) || fromNest ops (args.getD 0 (.global 0))
  | .buildSlice t _ parts => nestTys.any (Nat.beq t) && parts.toList.any fun p => fromApp ops p.2
  | .mapUpdate .. => true
  | .call ⟨.builtin .delete, _, _⟩ => true
  | .call ⟨.value (.func f), _, _⟩ => effFuncs.any (Nat.beq f)
  | .call ⟨.value _, _, _⟩ => false
  | _ => false
/-- Every pointer points to a box that is known. -/
def Wf (s : St) : Prop := ∀ t id, (s.look t).isBox id = true → (s.box id).isSome = true
/-- A pointer to a box is one of the operands', or points to the new box. -/
def boxIn (o : Oper) (ev : Operand → PV) (nb : Option (Nat × List Value)) (id : Nat) : Bool := (match nb with | some p => Nat.beq p.1 id | none => false) || o.op.operands.toList.any fun x => (ev x).isBox id
def ptrOk (o : Oper) (ev : Operand → PV) (nb : Option (Nat × List Value)) : PV → Bool
  | .box id _ => boxIn o ev nb id
  | .bsl id _ _ _ => boxIn o ev nb id
  | .hs _ id _ _ _ => boxIn o ev nb id
  | .hb _ id _ => boxIn o ev nb id
  | .clo _ caps => caps.all fun c => boxIn o ev nb c.1
  | _ => true
theorem ptrOk_of {o : Oper} {ev : Operand → PV} {nb : Option (Nat × List Value)} {pv : PV} {id : Nat} (hp : ptrOk o ev nb pv = true) (h : pv.isBox id = true) : boxIn o ev nb id = true := by
  cases pv with
  | box id' off => rw [← Nat.eq_of_beq_eq_true h]; exact hp
  | bsl id' off k n => rw [← Nat.eq_of_beq_eq_true h]; exact hp
  | hs v id' off k n => rw [← Nat.eq_of_beq_eq_true h]; exact hp
  | hb v id' off => rw [← Nat.eq_of_beq_eq_true h]; exact hp
  | clo f caps =>
    obtain ⟨c, hc, hb⟩ := List.any_eq_true.1 h
    rw [← Nat.eq_of_beq_eq_true hb]
    exact List.all_eq_true.1 hp c hc
  | _ => cases h
/-- An append at a row's end, or to nil. -/
def AppStep (P : Program) (R : Nat → Prop) (o : Oper) (s s1 : St) : Prop :=
  ∃ (t e k bytes : Nat) (x y : Operand) (τ : Nat) (els els2 : List (List Value)), TySl P t e k bytes ∧ o.op = .call ⟨.builtin .append, #[x, y], #[t, t]⟩ ∧
    (s.ev x = .s (.sl (some τ) (.front e) k els) ∨ (s.ev x = .s .nil ∧ els = [] ∧ o.dst = some τ)) ∧ ReadLe (s.ev y) k els2 ∧ (∀ l ∈ els2, ∀ u ∈ l, u.oneCell' = true) ∧ (els.length + els2.length) * bytes ≤ 140737488355328 ∧ R τ ∧
    s1 = (s.un τ).putO o.dst (.s (.sl (some τ) (.front e) k (els ++ els2)))
theorem AppStep.eff {P : Program} {R : Nat → Prop} {o : Oper} {s s1 : St} (h : AppStep P R o s s1) : Eff P o s (Eq s1) := by
  obtain ⟨t, e, k, bytes, x, y, τ, els, els2, hT, ho, hx, hy, hone, hb, _, rfl⟩ := h
  obtain ⟨d, op, ty, pos, aft, g⟩ := o
  simp only at ho
  subst ho
  rcases hx with hx | ⟨hx, rfl, _⟩
  · exact Eff.append (by rw [hx]; exact .sl τ (.front e) k els) (.inr rfl) hy hone hb
  · exact Eff.append (τ := τ) (app := .full) (by rw [hx]; exact .nil τ k) (.inl rfl) hy hone hb

/-- None of these operations writes slot τ. -/
def notDst (τ : Nat) (l : List Oper) : Bool := l.all fun o => match o.dst with | some d => !Nat.beq d τ | none => true

/-- Fences that let all in; in a round of a loop over a function, or in none. -/
def wideR (ro : Option Nat) : Fence := { fn := fun _ => True, depth := none, alive := false, round := ro }
def isDefer (o : Oper) : Bool := match o.op with | .defer _ => true | _ => false
theorem toIn {P : Program} {o : Oper} {a : Act} {w : World} {next : Act → World → Prop} {Q : Exit → Act → World → Prop} (ro : Option Nat) (m : Nat) (hd : isDefer o = false) (h : o.wp P a w next Q) : o.wpIn (wideR ro) m P a w next Q := by
  refine ⟨fun _ _ => trivial, ?_⟩
  have hs : o.semAt (wideR ro).round a.eval = execOp a.eval o := Oper.semAt_eq _ _ _ fun c hc => by unfold isDefer at hd; rw [hc] at hd; cases hd
  rw [hs]
  have h' : o.upon P a next Q ((execOp a.eval o).run P w) := h
  revert h'
  generalize (execOp a.eval o).run P w = r
  intro h'
  cases r with
  | ok nx w' =>
    cases nx with
    | value v => exact h'
    | skip => exact h'
    | defer d => exact h'
    | enter f args => exact ⟨fun h => (by cases h), (callsIn_wide (n := m - 1)).2 h'⟩
    | row row args => exact ⟨fun h => (by cases h), fun c cs _ => let ⟨v, w', r, s⟩ := h' c cs; ⟨v, w', r, stepsIn_wide.2 s⟩⟩
    | _ => exact h'.elim
  | halt e w' => cases e <;> first | exact h' | exact h'.elim
/-- An operation under every fence that lets all in: a call of yield is one. -/
def EffI (P : Program) (o : Oper) (s : St) (S : St → Prop) : Prop :=
  ∀ (w0 : Base) (n : Nat) (a : Act) (w : World), RS w0 n s a w → (∀ d, o.dst = some d → d < n) → ∀ (next : Act → World → Prop) (Q : Exit → Act → World → Prop), (∀ s1, S s1 → ∀ a' w', RS w0 n s1 a' w' → next a' w') → ∀ ro m, o.wpIn (wideR ro) m P a w next Q
/-- The same frame and world, told in another way. -/
def Turns (s : St) (S : St → Prop) : Prop := ∀ (w0 : Base) (n : Nat) (a : Act) (w : World), RS w0 n s a w → ∃ s1, S s1 ∧ RS w0 n s1 a w
/-- What no effect touches. -/
def PV.calm (t : Nat) : PV → Bool
  | .s (.v _) => true
  | .kept _ _ => Nat.ble 3000000 t
  | .nest _ _ _ => Nat.ble 3000000 t
  | _ => false
/-- Plain slots other than its own stay, and so do the facts from slot 3000000 on. -/
def Tame (o : Oper) (s s1 : St) : Prop := ∀ t : Nat, (t < 1000000 ∨ 3000000 ≤ t) → o.dst ≠ some t → (s.look t).calm t = true → s1.look t = s.look t
/-- The operations one after the other; K holds of the state behind them. dr: does the order hang on a draw? -/
inductive Run (dr : Bool) (P : Program) (ops : Array Oper) (K : St → Prop) : List Oper → St → Prop
  | nil {s : St} (h : K s) : Run dr P ops K [] s
  | val {o : Oper} {rest : List Oper} {s : St} {pv : PV} {nb : Option (Nat × List Value)} (hw : wantedS ops s o = some true) (h : Hu P o s.ev s.box pv nb) (hf : freshB s nb = true)
      (hp : ptrOk o s.ev nb pv = true) (he : isEff ops o = false) (k : Run dr P ops K rest ((s.putO o.dst pv).addBox nb)) : Run dr P ops K (o :: rest) s
  | skip {o : Oper} {rest : List Oper} {s : St} (hw : wantedS ops s o = some false) (he : isEff ops o = false) (k : Run dr P ops K rest (s.putO o.dst (.tup []))) : Run dr P ops K (o :: rest) s
  | app {o : Oper} {rest : List Oper} {s s1 : St} (hw : wantedS ops s o = some true) (he : isEff ops o = false) (h : AppStep P (fun τ => notDst τ rest = true) o s s1) (k : Run dr P ops K rest s1) : Run dr P ops K (o :: rest) s
  | eff {o : Oper} {rest : List Oper} {s : St} {S : St → Prop} (hw : wantedS ops s o = some true) (h : Eff P o s S) (he : dr = true → isEff ops o = true ∧ ∀ s1, S s1 → (Wf s → Wf s1) ∧ Tame o s s1) (k : ∀ s1, S s1 → Run dr P ops K rest s1) : Run dr P ops K (o :: rest) s
  | effI {o : Oper} {rest : List Oper} {s : St} {S : St → Prop} (hd : dr = false) (hw : wantedS ops s o = some true) (h : EffI P o s S) (k : ∀ s1, S s1 → Run dr P ops K rest s1) : Run dr P ops K (o :: rest) s
  | eqv {l : List Oper} {s s1 : St} (h : Eqv s s1) (k : Run dr P ops K l s1) : Run dr P ops K l s
  | weak {l : List Oper} {s : St} {S : St → Prop} (hd : dr = false) (h : Turns s S) (k : ∀ s1, S s1 → Run dr P ops K l s1) : Run dr P ops K l s

def dstsOk (n : Nat) (l : List Oper) : Bool := l.all fun o => (match o.dst with | none => true | some d => Nat.blt d n) && !isDefer o
theorem Hu.val {P : Program} {o : Oper} {ev : Operand → PV} {bx : Nat → Option (List Value)} {pv : PV} {nb : Option (Nat × List Value)} (h : Hu P o ev bx pv nb) : Val P o ev bx pv nb := (h []).1

theorem wpListIn_of_run {dr : Bool} {P : Program} {ops : Array Oper} {Q : Exit → Act → World → Prop} {w0 : Base} {n : Nat} {K : St → Prop} (ro : Option Nat) (m : Nat) : ∀ {l : List Oper} {s : St}, Run dr P ops K l s → dstsOk n l = true → (∀ s', K s' → ∀ a w, RS w0 n s' a w → Q .normal a w) →
    ∀ a w, RS w0 n s a w → wpListIn (wideR ro) m P ops Q l a w := by
  intro l s h
  have dst : ∀ {o : Oper} {rest : List Oper}, dstsOk n (o :: rest) = true → (∀ d, o.dst = some d → d < n) ∧ dstsOk n rest = true ∧ isDefer o = false := fun {o rest} hd => by
    simp only [dstsOk, List.all_cons, Bool.and_eq_true, Bool.not_eq_true'] at hd
    exact ⟨fun e he => by have := hd.1.1; rw [he] at this; exact (Nat.blt_eq ▸ this), hd.2, hd.1.2⟩
  induction h with
  | @nil s hk => intro _ hQ a w hr; exact hQ s hk a w hr
  | @val o rest s pv nb hw h hf hp he k ih =>
    intro hd hQ a w hr
    refine wpListIn_step fun K hK => ?_
    rw [if_pos (wanted_of hr hw)]
    exact toIn ro m (dst hd).2.2 (h.val.eff (fresh_of hf) w0 n a w hr (dst hd).1 K Q fun s1 hs1 a' w' hr' => hK _ _ (ih (dst hd).2.1 hQ a' w' (hs1 ▸ hr')))
  | @skip o rest s hw he k ih =>
    intro hd hQ a w hr
    refine wpListIn_step fun K hK => ?_
    rw [if_neg (by rw [wanted_of hr hw]; simp)]
    exact ⟨fun _ _ => trivial, hK _ _ (ih (dst hd).2.1 hQ _ _ (hr.skip (dst hd).1))⟩
  | @app o rest s s1 hw he h k ih =>
    intro hd hQ a w hr
    refine wpListIn_step fun K hK => ?_
    rw [if_pos (wanted_of hr hw)]
    exact toIn ro m (dst hd).2.2 (h.eff w0 n a w hr (dst hd).1 K Q fun s1 hs1 a' w' hr' => hK _ _ (ih (dst hd).2.1 hQ a' w' (hs1 ▸ hr')))
  | @eff o rest s S hw h he k ih =>
    intro hd hQ a w hr
    refine wpListIn_step fun K hK => ?_
    rw [if_pos (wanted_of hr hw)]
    exact toIn ro m (dst hd).2.2 (h w0 n a w hr (dst hd).1 K Q fun s1 hs1 a' w' hr' => hK _ _ (ih s1 hs1 (dst hd).2.1 hQ a' w' hr'))
  | @effI o rest s S hdr hw h k ih =>
    intro hd hQ a w hr
    refine wpListIn_step fun K hK => ?_
    rw [if_pos (wanted_of hr hw)]
    exact h w0 n a w hr (dst hd).1 K Q (fun s1 hs1 a' w' hr' => hK _ _ (ih s1 hs1 (dst hd).2.1 hQ a' w' hr')) ro m
  | @eqv l s s1 h k ih => intro hd hQ a w hr; exact ih hd hQ a w (hr.less h.less)
  | @weak l s S _ h k ih =>
    intro hd hQ a w hr
    obtain ⟨s1, hs1, hr1⟩ := h w0 n a w hr
    exact ih s1 hs1 hd hQ a w hr1

theorem Wt.region {dr : Bool} {P : Program} {w0 : Base} {n : Nat} {s : St} {N R : St → Prop} {X : Nat → St → Prop} {i : Nat} {l : List Oper} (hd : dstsOk n l = true) (h : Run dr P l.toArray N l s) : Wt P w0 n (.region i l.toArray false) s N R X := fun a w hr =>
  (wpIn_wide (n := 0)).1 (wpIn_region_lit (wpListIn_of_run none 0 h hd (fun s' hN _ _ hr' => ⟨s', hN, hr'⟩) a w hr))

/-- The operations run, and K holds of the state behind them. -/
def RunK (dr : Bool) (P : Program) (ops : Array Oper) (l : List Oper) (s : St) (K : St → Prop) : Prop := Run dr P ops K l s

section
variable {ev : Operand → PV} (σs : List Nat) {x : Operand}
theorem unE_v {u : Value} (h : ev x = .s (.v u)) : unE σs ev x = .s (.v u) := by unfold unE; rw [h, unL_v]
theorem unE_n (h : ev x = .s .nil) : unE σs ev x = .s .nil := by unfold unE; rw [h, unL_nil]
theorem unE_s {tag : Option Nat} {app : App} {k : Nat} {els : List (List Value)} (h : ev x = .s (.sl tag app k els)) : unE σs ev x = .s (.sl tag (unA σs tag app) k els) := by unfold unE; rw [h, unL_sl]
theorem unE_b {id off : Nat} (h : ev x = .box id off) : unE σs ev x = .box id off := by unfold unE; rw [h, unL_box]
theorem unE_l {tag : Option Nat} {k : Nat} {els : List (List Value)} {i j : Nat} (h : ev x = .elp tag k els i j) : unE σs ev x = .elp tag k els i j := by unfold unE; rw [h, unL_elp]
theorem unE_t {xs : List SV} (h : ev x = .tup xs) : unE σs ev x = .tup (xs.map (unS σs)) := by unfold unE; rw [h, unL_tup]
theorem unL_hd : ∀ (σs : List Nat) (v : Value) (x : SV), unL σs (.hd v x) = .hd v (unS σs x)
  | [], _, _ => rfl
  | _ :: σs, v, _ => unL_hd σs v _
theorem unL_hs : ∀ (σs : List Nat) (v : Value) (id off k n : Nat), unL σs (.hs v id off k n) = .hs v id off k n
  | [], _, _, _, _, _ => rfl
  | _ :: σs, v, id, off, k, n => unL_hs σs v id off k n
theorem unL_clo : ∀ (σs : List Nat) (f : FuncId) (caps : List (Nat × Nat)), unL σs (.clo f caps) = .clo f caps
  | [], _, _ => rfl
  | _ :: σs, f, caps => unL_clo σs f caps
theorem unE_hd {v : Value} {tag : Option Nat} {app : App} {k : Nat} {els : List (List Value)} (h : ev x = .hd v (.sl tag app k els)) : unE σs ev x = .hd v (.sl tag (unA σs tag app) k els) := by unfold unE; rw [h, unL_hd, unS_sl]
theorem unE_hs {v : Value} {id off k n : Nat} (h : ev x = .hs v id off k n) : unE σs ev x = .hs v id off k n := by unfold unE; rw [h, unL_hs]
theorem PartsOk.un : ∀ {ps : List (Nat × Operand)} {qs : List (Nat × Value)}, PartsOk ev ps qs → PartsOk (unE σs ev) ps qs
  | _, _, .nil => .nil
  | _, _, .cons h t => .cons (unE_v σs h) (PartsOk.un t)
  | _, _, .consN h t => .consN (unE_n σs h) (PartsOk.un t)
theorem unL_bsl : ∀ (σs : List Nat) (id off k n : Nat), unL σs (.bsl id off k n) = .bsl id off k n
  | [], _, _, _, _ => rfl
  | _ :: σs, id, off, k, n => unL_bsl σs id off k n
theorem unL_nsl : ∀ (σs : List Nat) (tag : Option Nat) (rts : List (Option Nat)) (uq : Bool) (k : Nat) (els : List (List EV)), unL σs (.s (.nsl tag rts uq k els)) = .s (.nsl tag rts uq k els)
  | [], _, _, _, _, _ => rfl
  | _ :: σs, tag, rts, uq, k, els => unL_nsl σs tag rts uq k els
theorem unL_nep : ∀ (σs : List Nat) (tag : Option Nat) (rts : List (Option Nat)) (k : Nat) (els : List (List EV)) (i j : Nat), unL σs (.nep tag rts k els i j) = .nep tag rts k els i j
  | [], _, _, _, _, _, _ => rfl
  | _ :: σs, tag, rts, k, els, i, j => unL_nep σs tag rts k els i j
theorem unL_ag : ∀ (σs : List Nat) (rts : List (Option Nat)) (e : List EV), unL σs (.s (.ag rts e)) = .s (.ag rts e)
  | [], _, _ => rfl
  | _ :: σs, rts, e => unL_ag σs rts e
theorem unE_ag {rts : List (Option Nat)} {e : List EV} (h : ev x = .s (.ag rts e)) : unE σs ev x = .s (.ag rts e) := by unfold unE; rw [h, unL_ag]
theorem unE_nsl {tag : Option Nat} {rts : List (Option Nat)} {uq : Bool} {k : Nat} {els : List (List EV)} (h : ev x = .s (.nsl tag rts uq k els)) : unE σs ev x = .s (.nsl tag rts uq k els) := by unfold unE; rw [h, unL_nsl]
theorem unE_nep {tag : Option Nat} {rts : List (Option Nat)} {k : Nat} {els : List (List EV)} {i j : Nat} (h : ev x = .nep tag rts k els i j) : unE σs ev x = .nep tag rts k els i j := by unfold unE; rw [h, unL_nep]
theorem ArgLe.un {bx : Nat → Option (List Value)} {p : PV} {y : SV} (h : ArgLe bx p y) : ArgLe bx (unL σs p) y := by
  cases h with
  | v u => rw [unL_v]; exact .v u
  | sl tag app k els => rw [unL_sl]; exact .sl _ _ _ _
  | nil k => rw [unL_nil]; exact .nil k
  | nil' => rw [unL_nil]; exact .nil'
  | nsl tag rts uq k els => rw [unL_nsl]; exact .nsl _ _ _ _ _
  | nsn k => rw [unL_nil]; exact .nsn k
  | bsl hb hn hk => rw [unL_bsl]; exact .bsl hb hn hk
theorem unL_hds : ∀ (σs : List Nat) (tag : Option Nat) (k : Nat) (m : List (Value × List (List Value))), unL σs (.hds tag k m) = .hds tag k m
  | [], _, _, _ => rfl
  | _ :: σs, tag, k, m => unL_hds σs tag k m
theorem unL_nest : ∀ (σs : List Nat) (g k : Nat) (m : List NRow), unL σs (.nest g k m) = .nest g k m
  | [], _, _, _ => rfl
  | _ :: σs, g, k, m => unL_nest σs g k m
theorem unE_hdn {v : Value} {tag : Option Nat} {rts : List (Option Nat)} {uq : Bool} {k : Nat} {els : List (List EV)} (h : ev x = .hd v (.nsl tag rts uq k els)) : unE σs ev x = .hd v (.nsl tag rts uq k els) := by
  unfold unE
  rw [h, unL_hd]
  have := unL_nsl σs tag rts uq k els
  rw [unL_s] at this
  injection this with this
  rw [this]
theorem ArgsLe.un {bx : Nat → Option (List Value)} {gs : List Nat} : ∀ {xs : List Operand} {ys : List SV}, ArgsLe ev bx gs xs ys → ArgsLe (unE σs ev) bx gs xs ys
  | _, _, .nil => .nil
  | _, _, .cons h t => .cons (h.un σs) (ArgsLe.un t)
  | _, _, .hd t hx ht hf r => .hd t (unE_v σs hx) ht (unE_hd σs hf) (ArgsLe.un r)
  | _, _, .hdn t hx ht hf r => .hdn t (unE_v σs hx) ht (unE_hdn σs hf) (ArgsLe.un r)
  | _, _, .hs t hx ht hf hb hn hk r => .hs t (unE_v σs hx) ht (unE_hs σs hf) hb hn hk (ArgsLe.un r)
  | _, _, .nst t hx ht hf hg hr r => .nst t (unE_v σs hx) ht (by unfold unE; rw [hf, unL_nest]) hg hr (ArgsLe.un r)
  | _, _, .nsf t hx ht hf hg hr hl r => .nsf t (unE_v σs hx) ht (by unfold unE; rw [hf, unL_nest]) hg hr hl (ArgsLe.un r)
end
theorem unL_un : ∀ (σs : List Nat) (σ : Nat) (p : PV), (unL σs p).un (some σ) = unL σs (p.un (some σ))
  | [], _, _ => rfl
  | τ :: σs, σ, p => by
    show (unL σs (p.un (some τ))).un (some σ) = unL σs ((p.un (some σ)).un (some τ))
    rw [unL_un σs, PV.un_comm]
theorem unA_no : ∀ (σs : List Nat) (tag : Option Nat), unA σs tag .no = .no
  | [], _ => rfl
  | τ :: σs, tag => by
    show unA σs tag (unT tag τ .no) = _
    have : unT tag τ .no = .no := by
      cases tag with
      | none => rfl
      | some t => simp only [unT]; cases Nat.beq τ t <;> rfl
    rw [this, unA_no σs]
theorem unA_full : ∀ (σs : List Nat) (tag : Option Nat), unA σs tag .full = .full
  | [], _ => rfl
  | τ :: σs, tag => by
    show unA σs tag (unT tag τ .full) = _
    have : unT tag τ .full = .full := by
      cases tag with
      | none => rfl
      | some t => simp only [unT]; cases Nat.beq τ t <;> rfl
    rw [this, unA_full σs]
theorem beq_ne {σ d : Nat} (h : some d ≠ some σ) : Nat.beq σ d = false := by rw [← Bool.not_eq_true, Nat.beq_eq]; exact fun e => h (by rw [e])
theorem sv_un_retag {d σ : Nat} (h : some d ≠ some σ) (y : SV) : (y.retag d).un (some σ) = y.retag d := by
  cases y with
  | sl tag app k els =>
    cases tag with
    | none => rfl
    | some t => show (SV.sl (some d) app k els).un (some σ) = _; rw [un_sl]; simp only [unT, beq_ne h, cond_false]; rfl
  | _ => rfl
theorem un_retag {d σ : Nat} {y : SV} (h : some d ≠ some σ) : (PV.s (y.retag d)).un (some σ) = .s (y.retag d) := congrArg PV.s (sv_un_retag h y)
theorem un_retagT {d σ : Nat} {ys : List SV} (h : some d ≠ some σ) : (PV.tup (ys.map (·.retag d))).un (some σ) = .tup (ys.map (·.retag d)) := by
  refine congrArg PV.tup ?_
  rw [List.map_map]
  exact List.map_congr_left fun y _ => sv_un_retag h y
theorem un_front {d σ : Nat} {app : App} {k : Nat} {els : List (List Value)} (h : some d ≠ some σ) : (PV.s (.sl (some d) app k els)).un (some σ) = .s (.sl (some d) app k els) := by
  refine congrArg PV.s ?_
  rw [un_sl]
  simp only [unT, beq_ne h, cond_false]

section
variable {P : Program} {o : Oper} {ev : Operand → PV} {bx : Nat → Option (List Value)} {nb : Option (Nat × List Value)}
theorem Val.le {pv q : PV} (h : Val P o ev bx pv nb) (hq : PVLe pv q) : Val P o ev bx q nb := fun B T F ρ a w hB hop next Q hK =>
  h B T F ρ a w hB hop next Q fun v w' T' F' ρ' h1 h2 h3 h4 h5 => hK v w' T' F' ρ' h1 h2 h3 (hq.rep h4) h5
theorem RepP.unL {T : Nat → BTag} {F : Nat → Nat} {ρ : Nat → Nat × Nat} {w : World} : ∀ (σs : List Nat) {p : PV} {u : Value}, RepP T F ρ w p u → RepP T F ρ w (Pv.unL σs p) u
  | [], _, _, h => h
  | σ :: σs, p, _, h => RepP.unL σs ((p.le_un σ).rep h)
theorem Val.unL {pv : PV} (σs : List Nat) (h : Val P o ev bx pv nb) : Val P o ev bx (Pv.unL σs pv) nb := fun B T F ρ a w hB hop next Q hK =>
  h B T F ρ a w hB hop next Q fun v w' T' F' ρ' h1 h2 h3 h4 h5 => hK v w' T' F' ρ' h1 h2 h3 (h4.unL σs) h5
theorem Hu.ofV {u : Value} (h : ∀ σs, Val P o (unE σs ev) bx (.s (.v u)) nb) : Hu P o ev bx (.s (.v u)) nb := fun σs => ⟨by rw [unL_v]; exact h σs, fun σ _ _ => by rw [unL_v]; rfl⟩
theorem Hu.ofB {id off : Nat} (h : ∀ σs, Val P o (unE σs ev) bx (.box id off) nb) : Hu P o ev bx (.box id off) nb := fun σs => ⟨by rw [unL_box]; exact h σs, fun σ _ _ => by rw [unL_box]; rfl⟩
theorem Hu.ofL {tag : Option Nat} {k : Nat} {els : List (List Value)} {i j : Nat} (h : ∀ σs, Val P o (unE σs ev) bx (.elp tag k els i j) nb) : Hu P o ev bx (.elp tag k els i j) nb := fun σs => ⟨by rw [unL_elp]; exact h σs, fun σ _ _ => by rw [unL_elp]; rfl⟩
theorem Hu.ofNew {pv : PV} (h : ∀ σs, Val P o (unE σs ev) bx pv nb) (hd : ∀ σ, o.dst ≠ some σ → pv.un (some σ) = pv) : Hu P o ev bx pv nb := fun σs => ⟨(h σs).unL σs, fun σ _ hσ => by rw [unL_un, hd σ hσ]⟩
theorem Hu.ofCopy {x : Operand} {pv : PV} (hx : ev x = pv) (hm : x ∈ o.op.operands) (h : ∀ ev', Val P o ev' bx (ev' x) nb) : Hu P o ev bx pv nb := fun σs => by
  subst hx
  exact ⟨h (unE σs ev), fun σ hσ _ => hσ x (.inl hm)⟩
end
section
variable {P : Program} {ev : Operand → PV} {bx : Nat → Option (List Value)} {d : Option Nat} {ty : TypeId} {pos : String} {aft : Array Edge} {g : Option (Nat × Bool)}
theorem Hu.extract {x : Operand} {i : Nat} {xs : List SV} {y : SV} (hx : ev x = .tup xs) (hi : xs[i]? = some y) : Hu P ⟨d, .extract x i, ty, pos, aft, g⟩ ev bx (.s y) none := fun σs => by
  rw [unL_s]
  refine ⟨Val.extract (unE_t σs hx) (by rw [List.getElem?_map, hi]; rfl), fun σ h _ => ?_⟩
  have h1 := h x (by simp [Op.operands])
  rw [unE_t σs hx] at h1
  have h2 : (xs.map (unS σs)).map (·.un (some σ)) = xs.map (unS σs) := by injection h1
  have h3 := congrArg (fun l => l[i]?) h2
  simp only [List.getElem?_map, hi, Option.map_some, Option.some.injEq] at h3
  exact congrArg PV.s h3
theorem Hu.sliceFrom {t e0 k0 by0 : Nat} [hT : TySl P t e0 k0 by0] {x y : Operand} {tag : Option Nat} {app : App} {els : List (List Value)} {kd : IntKind} {i : Int} {l : Nat} (hx : ev x = .s (.sl tag app k0 els)) (hy : ev y = .s (.v (.int kd i))) (hil : i = (l : Int)) (hl : l ≤ els.length) :
    Hu P ⟨d, .slice t x (some y) none none, ty, pos, aft, g⟩ ev bx (.s (.sl tag app k0 (els.drop l))) none := fun σs => by
  rw [unL_sl]
  refine ⟨Val.sliceFrom l (unE_s σs hx) (unE_v σs hy) hil hl, fun σ h _ => ?_⟩
  have h1 := h x (by simp [Op.operands])
  rw [unE_s σs hx] at h1
  have h2 : (SV.sl tag (unA σs tag app) k0 els).un (some σ) = .sl tag (unA σs tag app) k0 els := by injection h1
  rw [un_sl] at h2
  refine congrArg PV.s ?_
  rw [un_sl]
  injection h2 with _ h3
  rw [h3]
theorem Hu.sliceTo {t e0 k0 by0 : Nat} [hT : TySl P t e0 k0 by0] {x y : Operand} {tag : Option Nat} {app : App} {els : List (List Value)} {kd : IntKind} {i : Int} {l : Nat} (hx : ev x = .s (.sl tag app k0 els)) (hy : ev y = .s (.v (.int kd i))) (hil : i = (l : Int)) (hl : l ≤ els.length) :
    Hu P ⟨d, .slice t x none (some y) none, ty, pos, aft, g⟩ ev bx (.s (.sl tag .no k0 (els.take l))) none := fun σs => by
  rw [unL_sl, unA_no]
  refine ⟨Val.sliceTo l (unE_s σs hx) (unE_v σs hy) hil hl, fun σ _ _ => congrArg PV.s ?_⟩
  rw [un_sl, show unT tag σ .no = .no from unA_no [σ] tag]
theorem Hu.sliceFull {t e0 k0 by0 : Nat} [hT : TySl P t e0 k0 by0] {x y y2 : Operand} {τ : Nat} {app : App} {els : List (List Value)} {kd kd2 : IntKind} {i i2 : Int} {l : Nat} (hx : ev x = .s (.sl (some τ) app k0 els)) (hy : ev y = .s (.v (.int kd i))) (hil : i = (l : Int)) (hy2 : ev y2 = .s (.v (.int kd2 i2))) (hil2 : i2 = (l : Int)) (hl : l ≤ els.length) :
    Hu P ⟨d, .slice t x none (some y) (some y2), ty, pos, aft, g⟩ ev bx (.s (.sl (some τ) .full k0 (els.take l))) none := fun σs => by
  rw [unL_sl, unA_full]
  refine ⟨Val.sliceFull l (unE_s σs hx) (unE_v σs hy) hil (unE_v σs hy2) hil2 hl, fun σ _ _ => congrArg PV.s ?_⟩
  rw [un_sl, show unT (some τ) σ .full = .full from unA_full [σ] (some τ)]
end

section
variable {dr : Bool} {P : Program} {ops : Array Oper} {rest : List Oper} {env : List (Nat × PV)} {bs : List (Nat × List Value)} {K : St → Prop} {d : Nat} {op : Op} {ty : TypeId} {pos : String} {aft : Array Edge} {g : Option (Nat × Bool)}

theorem RunK.nil {s : St} (h : K s) : RunK dr P ops [] s K := Run.nil h
theorem RunK.val {pv : PV} (he : isEff ops ⟨some d, op, ty, pos, aft, g⟩ = false) (hp : ptrOk ⟨some d, op, ty, pos, aft, g⟩ (St.mk env bs).ev none pv = true) (hw : wantedS ops ⟨env, bs⟩ ⟨some d, op, ty, pos, aft, g⟩ = some true) (h : Hu P ⟨some d, op, ty, pos, aft, g⟩ (St.mk env bs).ev (St.mk env bs).box pv none) (k : RunK dr P ops rest ⟨(d, pv) :: env, bs⟩ K) :
    RunK dr P ops (⟨some d, op, ty, pos, aft, g⟩ :: rest) ⟨env, bs⟩ K := Run.val hw h rfl hp he k
theorem RunK.new {pv : PV} {p : Nat × List Value} (he : isEff ops ⟨some d, op, ty, pos, aft, g⟩ = false) (hp : ptrOk ⟨some d, op, ty, pos, aft, g⟩ (St.mk env bs).ev (some p) pv = true) (hw : wantedS ops ⟨env, bs⟩ ⟨some d, op, ty, pos, aft, g⟩ = some true) (h : Hu P ⟨some d, op, ty, pos, aft, g⟩ (St.mk env bs).ev (St.mk env bs).box pv (some p)) (hf : freshB ⟨env, bs⟩ (some p) = true)
    (k : RunK dr P ops rest ⟨(d, pv) :: env, p :: bs⟩ K) : RunK dr P ops (⟨some d, op, ty, pos, aft, g⟩ :: rest) ⟨env, bs⟩ K := Run.val hw h hf hp he k
theorem RunK.skip (he : isEff ops ⟨some d, op, ty, pos, aft, g⟩ = false) (hw : wantedS ops ⟨env, bs⟩ ⟨some d, op, ty, pos, aft, g⟩ = some false) (k : RunK dr P ops rest ⟨(d, .tup []) :: env, bs⟩ K) : RunK dr P ops (⟨some d, op, ty, pos, aft, g⟩ :: rest) ⟨env, bs⟩ K := Run.skip hw he k
theorem RunK.skipN (he : isEff ops ⟨none, op, ty, pos, aft, g⟩ = false) (hw : wantedS ops ⟨env, bs⟩ ⟨none, op, ty, pos, aft, g⟩ = some false) (k : RunK dr P ops rest ⟨env, bs⟩ K) : RunK dr P ops (⟨none, op, ty, pos, aft, g⟩ :: rest) ⟨env, bs⟩ K := Run.skip hw he k
theorem RunK.app {s s1 : St} {o : Oper} (he : isEff ops o = false) (hw : wantedS ops s o = some true) (h : AppStep P (fun τ => notDst τ rest = true) o s s1) (k : RunK dr P ops rest s1 K) : RunK dr P ops (o :: rest) s K := Run.app hw he h k
theorem RunK.eff {s s1 : St} {o : Oper} (he : dr = true → isEff ops o = true) (hwf : Wf s → Wf s1) (htm : Tame o s s1) (hw : wantedS ops s o = some true) (h : Eff P o s (Eq s1)) (k : RunK dr P ops rest s1 K) : RunK dr P ops (o :: rest) s K := Run.eff hw h (fun hd => ⟨he hd, fun _ e => e ▸ ⟨hwf, htm⟩⟩) (fun _ e => e ▸ k)
theorem RunK.eqv {l : List Oper} {s s1 : St} (h : Eqv s s1) (k : RunK dr P ops l s1 K) : RunK dr P ops l s K := Run.eqv h k
theorem eqv_put {t : Nat} {p : PV} (hl : look env t = p) : Eqv ⟨env, bs⟩ ⟨(t, p) :: env, bs⟩ := by
  refine ⟨fun u => ?_, fun _ => rfl⟩
  show look env u = look ((t, p) :: env) u
  rw [look_put]
  split
  · rename_i h; subst h; exact hl
  · rfl
/-- What is asked for hangs on a guard that is not known: both ways. -/
theorem RunK.guard {o : Oper} {j t : Nat} {want b : Bool} (_hg : o.guard = some (j, want)) (_ht : (ops[j]?).bind (·.dst) = some t) (hl : look env t = .s (.v (.bool b)))
    (h1 : b = true → RunK dr P ops (o :: rest) ⟨(t, .s (.v (.bool true))) :: env, bs⟩ K) (h2 : b = false → RunK dr P ops (o :: rest) ⟨(t, .s (.v (.bool false))) :: env, bs⟩ K) : RunK dr P ops (o :: rest) ⟨env, bs⟩ K := by
  cases b with
  | true => exact .eqv (eqv_put hl) (h1 rfl)
  | false => exact .eqv (eqv_put hl) (h2 rfl)
theorem Val.pickTP {ev : Operand → PV} {bx : Nat → Option (List Value)} {dd : Option Nat} {c x y : Operand} {p : PV} (hc : ev c = .s (.v (.bool true))) (hx : ev x = p) : Val P ⟨dd, .pick c x y, ty, pos, aft, g⟩ ev bx p none := hx ▸ Val.pickT hc
theorem Val.pickFP {ev : Operand → PV} {bx : Nat → Option (List Value)} {dd : Option Nat} {c x y : Operand} {p : PV} (hc : ev c = .s (.v (.bool false))) (hx : ev y = p) : Val P ⟨dd, .pick c x y, ty, pos, aft, g⟩ ev bx p none := hx ▸ Val.pickF hc
theorem wf_store {p : Nat × List Value} (h : Wf ⟨env, bs⟩) : Wf ⟨env, p :: bs⟩ := fun t id ht => by
  have h1 : (boxOf bs id).isSome = true := h t id ht
  show (boxOf ((p.1, p.2) :: bs) id).isSome = true
  rw [boxOf_put]
  split
  · rfl
  · exact h1
theorem wf_append (τ : Nat) (x : SV) (h : Wf ⟨env, bs⟩) : Wf ⟨(d, .s x) :: env.map (fun p => (p.1, p.2.un (some τ))), bs⟩ := fun t id ht => by
  have ht' : (look ((d, .s x) :: env.map (fun p => (p.1, p.2.un (some τ)))) t).isBox id = true := ht
  rw [look_put] at ht'
  split at ht'
  · cases ht'
  · rw [look_map _ rfl] at ht'
    rw [un_isBox] at ht'; exact h t id ht'
theorem tame_append (τ : Nat) (p : PV) {o : Oper} {bs' : List (Nat × List Value)} (hd : o.dst = some d) : Tame o ⟨env, bs⟩ ⟨(d, p) :: env.map (fun p => (p.1, p.2.un (some τ))), bs'⟩ := fun t _ hne hc => by
  show look ((d, p) :: env.map (fun p => (p.1, p.2.un (some τ)))) t = look env t
  rw [look_put, if_neg (fun e => hne (by rw [hd, e])), look_map (fun p => p.un (some τ)) rfl]
  have hc : (look env t).calm t = true := hc
  generalize look env t = q at hc
  cases q with
  | s x => cases x <;> first | rfl | cases hc
  | kept b o => rfl
  | nest g k rows => rfl
  | _ => cases hc
theorem tame_fact {o : Oper} {bs' : List (Nat × List Value)} {yt h : Nat} {v : Value} {tag : Option Nat} {app : App} {k0 : Nat} {els : List (List Value)} (hy : look env yt = .s (.sl tag app k0 els)) (hh : (Nat.ble 2000000 h && Nat.blt h 3000000) = true) : Tame o ⟨env, bs⟩ ⟨(yt, .s (.v v)) :: (h, .hd v (.sl tag app k0 els)) :: env, bs'⟩ := fun t ht _ hc => by
  rw [Bool.and_eq_true, Nat.ble_eq, Nat.blt_eq] at hh
  show look ((yt, _) :: (h, _) :: env) t = look env t
  rw [look_put, look_put]
  split
  · rename_i e
    subst e
    rw [show (St.mk env bs).look yt = look env yt from rfl, hy] at hc
    cases hc
  · rw [if_neg (fun e => by subst e; rcases ht with ht | ht <;> omega)]
theorem RunK.box {e : TypeId} {x : Operand} {u : Value} {cs : List Value} (hw : wantedS ops ⟨env, bs⟩ ⟨some d, .box e x, ty, pos, aft, g⟩ = some true) (hx : (St.mk env bs).ev x = .s (.v u)) (hc : u.cells.toList = cs) (hf : freshB ⟨env, bs⟩ (some (d, cs)) = true)
    (k : RunK dr P ops rest ⟨(d, .box d 0) :: env, (d, cs) :: bs⟩ K) : RunK dr P ops (⟨some d, .box e x, ty, pos, aft, g⟩ :: rest) ⟨env, bs⟩ K := by subst hc; exact .new rfl (by simp [ptrOk, boxIn]) hw (.ofB fun σs => Val.box d (unE_v σs hx)) hf k
theorem RunK.alloc {e : TypeId} {z : Value} [hz : TyZero P e z] {cs : List Value} (hw : wantedS ops ⟨env, bs⟩ ⟨some d, .alloc e, ty, pos, aft, g⟩ = some true) (hc : z.cells.toList = cs) (hf : freshB ⟨env, bs⟩ (some (d, cs)) = true)
    (k : RunK dr P ops rest ⟨(d, .box d 0) :: env, (d, cs) :: bs⟩ K) : RunK dr P ops (⟨some d, .alloc e, ty, pos, aft, g⟩ :: rest) ⟨env, bs⟩ K := by subst hc; exact .new rfl (by simp [ptrOk, boxIn]) hw (.ofB fun _ => Val.alloc d) hf k
theorem RunK.store {t m : Nat} [hT : TySize P t m] {x y : Operand} {id off : Nat} {cs l : List Value} {u : Value} (hw : wantedS ops ⟨env, bs⟩ ⟨none, .store t x y, ty, pos, aft, g⟩ = some true) (hx : (St.mk env bs).ev x = .box id off) (hb : (St.mk env bs).box id = some cs) (hy : (St.mk env bs).ev y = .s (.v u))
    (hm : u.cells.toList.length = m) (hone : u.cells.toList.all (·.oneCell') = true) (hle : Nat.ble (off + m) cs.length = true) (hl : cs.take off ++ u.cells.toList ++ cs.drop (off + m) = l) (k : RunK dr P ops rest ⟨env, (id, l) :: bs⟩ K) : RunK dr P ops (⟨none, .store t x y, ty, pos, aft, g⟩ :: rest) ⟨env, bs⟩ K :=
  .eff (fun _ => rfl) wf_store (fun _ _ _ _ => rfl) hw (hl ▸ Eff.store hx hb hy hm hone (Nat.ble_eq ▸ hle)) k
theorem RunK.append {t e k0 bytes : Nat} [hT : TySl P t e k0 bytes] {x y : Operand} {τ : Nat} {els els2 : List (List Value)} (he : isEff ops ⟨some d, .call ⟨.builtin .append, #[x, y], #[t, t]⟩, ty, pos, aft, g⟩ = false) (hw : wantedS ops ⟨env, bs⟩ ⟨some d, .call ⟨.builtin .append, #[x, y], #[t, t]⟩, ty, pos, aft, g⟩ = some true) (hx : (St.mk env bs).ev x = .s (.sl (some τ) (.front e) k0 els)) (hy : ReadLe ((St.mk env bs).ev y) k0 els2) (hn : notDst τ rest = true)
    (hone : ∀ l ∈ els2, ∀ u ∈ l, u.oneCell' = true) (hb : (els.length + els2.length) * bytes ≤ 140737488355328) (k : RunK dr P ops rest ⟨(d, .s (.sl (some τ) (.front e) k0 (els ++ els2))) :: env.map (fun p => (p.1, p.2.un (some τ))), bs⟩ K) : RunK dr P ops (⟨some d, .call ⟨.builtin .append, #[x, y], #[t, t]⟩, ty, pos, aft, g⟩ :: rest) ⟨env, bs⟩ K :=
  .app he hw ⟨t, e, k0, bytes, x, y, τ, els, els2, hT, rfl, .inl hx, hy, hone, hb, hn, rfl⟩ k
theorem RunK.appendN {t e k0 bytes : Nat} [hT : TySl P t e k0 bytes] {x y : Operand} {els2 : List (List Value)} (he : isEff ops ⟨some d, .call ⟨.builtin .append, #[x, y], #[t, t]⟩, ty, pos, aft, g⟩ = false) (hw : wantedS ops ⟨env, bs⟩ ⟨some d, .call ⟨.builtin .append, #[x, y], #[t, t]⟩, ty, pos, aft, g⟩ = some true) (hx : (St.mk env bs).ev x = .s .nil) (hy : ReadLe ((St.mk env bs).ev y) k0 els2) (hn : notDst d rest = true)
    (hone : ∀ l ∈ els2, ∀ u ∈ l, u.oneCell' = true) (hb : els2.length * bytes ≤ 140737488355328) (k : RunK dr P ops rest ⟨(d, .s (.sl (some d) (.front e) k0 els2)) :: env.map (fun p => (p.1, p.2.un (some d))), bs⟩ K) : RunK dr P ops (⟨some d, .call ⟨.builtin .append, #[x, y], #[t, t]⟩, ty, pos, aft, g⟩ :: rest) ⟨env, bs⟩ K :=
  .app he hw ⟨t, e, k0, bytes, x, y, d, [], els2, hT, rfl, .inr ⟨hx, rfl, rfl⟩, hy, hone, by simpa using hb, hn, rfl⟩ k
theorem RunK.appendF {t e k0 bytes : Nat} [hT : TySl P t e k0 bytes] {x y : Operand} {τ : Nat} {els els2 : List (List Value)} (he : isEff ops ⟨some d, .call ⟨.builtin .append, #[x, y], #[t, t]⟩, ty, pos, aft, g⟩ = true) (hw : wantedS ops ⟨env, bs⟩ ⟨some d, .call ⟨.builtin .append, #[x, y], #[t, t]⟩, ty, pos, aft, g⟩ = some true) (hx : (St.mk env bs).ev x = .s (.sl (some τ) .full k0 els)) (hy : ReadLe ((St.mk env bs).ev y) k0 els2)
    (hone : ∀ l ∈ els2, ∀ u ∈ l, u.oneCell' = true) (hb : (els.length + els2.length) * bytes ≤ 140737488355328) (k : RunK dr P ops rest ⟨(d, .s (.sl (some τ) (.front e) k0 (els ++ els2))) :: env.map (fun p => (p.1, p.2.un (some τ))), bs⟩ K) : RunK dr P ops (⟨some d, .call ⟨.builtin .append, #[x, y], #[t, t]⟩, ty, pos, aft, g⟩ :: rest) ⟨env, bs⟩ K :=
  .eff (fun _ => he) (wf_append τ _) (tame_append τ _ rfl) hw (Eff.append (by rw [hx]; exact .sl τ .full k0 els) (.inl rfl) hy hone hb) k
theorem RunK.moveV {x : Operand} {u : Value} (hw : wantedS ops ⟨env, bs⟩ ⟨some d, .move x, ty, pos, aft, g⟩ = some true) (hx : (St.mk env bs).ev x = .s (.v u))  (k : RunK dr P ops rest ⟨(d, .s (.v u)) :: env, bs⟩ K) : RunK dr P ops (⟨some d, .move x, ty, pos, aft, g⟩ :: rest) ⟨env, bs⟩ K := .val rfl rfl hw (.ofCopy hx (by simp [Op.operands]) (fun _ => Val.move)) k
theorem RunK.moveS {x : Operand} {tag : Option Nat} {app : App} {k0 : Nat} {els : List (List Value)} (hw : wantedS ops ⟨env, bs⟩ ⟨some d, .move x, ty, pos, aft, g⟩ = some true) (hx : (St.mk env bs).ev x = .s (.sl tag app k0 els))  (k : RunK dr P ops rest ⟨(d, .s (.sl tag app k0 els)) :: env, bs⟩ K) : RunK dr P ops (⟨some d, .move x, ty, pos, aft, g⟩ :: rest) ⟨env, bs⟩ K := .val rfl rfl hw (.ofCopy hx (by simp [Op.operands]) (fun _ => Val.move)) k
theorem RunK.moveN {x : Operand}  (hw : wantedS ops ⟨env, bs⟩ ⟨some d, .move x, ty, pos, aft, g⟩ = some true) (hx : (St.mk env bs).ev x = .s .nil)  (k : RunK dr P ops rest ⟨(d, .s .nil) :: env, bs⟩ K) : RunK dr P ops (⟨some d, .move x, ty, pos, aft, g⟩ :: rest) ⟨env, bs⟩ K := .val rfl rfl hw (.ofCopy hx (by simp [Op.operands]) (fun _ => Val.move)) k
theorem RunK.moveT {x : Operand} {xs : List SV} (hw : wantedS ops ⟨env, bs⟩ ⟨some d, .move x, ty, pos, aft, g⟩ = some true) (hx : (St.mk env bs).ev x = .tup xs)  (k : RunK dr P ops rest ⟨(d, .tup xs) :: env, bs⟩ K) : RunK dr P ops (⟨some d, .move x, ty, pos, aft, g⟩ :: rest) ⟨env, bs⟩ K := .val rfl rfl hw (.ofCopy hx (by simp [Op.operands]) (fun _ => Val.move)) k
theorem RunK.moveB {x : Operand} {id off : Nat} (hw : wantedS ops ⟨env, bs⟩ ⟨some d, .move x, ty, pos, aft, g⟩ = some true) (hx : (St.mk env bs).ev x = .box id off)  (k : RunK dr P ops rest ⟨(d, .box id off) :: env, bs⟩ K) : RunK dr P ops (⟨some d, .move x, ty, pos, aft, g⟩ :: rest) ⟨env, bs⟩ K := .val rfl (by simp [ptrOk, boxIn, Op.operands, hx, PV.isBox]) hw (.ofCopy hx (by simp [Op.operands]) (fun _ => Val.move)) k
theorem RunK.assignV {x : Operand} {u : Value} (hw : wantedS ops ⟨env, bs⟩ ⟨some d, .assign x, ty, pos, aft, g⟩ = some true) (hx : (St.mk env bs).ev x = .s (.v u))  (k : RunK dr P ops rest ⟨(d, .s (.v u)) :: env, bs⟩ K) : RunK dr P ops (⟨some d, .assign x, ty, pos, aft, g⟩ :: rest) ⟨env, bs⟩ K := .val rfl rfl hw (.ofCopy hx (by simp [Op.operands]) (fun _ => Val.assign)) k
theorem RunK.assignS {x : Operand} {tag : Option Nat} {app : App} {k0 : Nat} {els : List (List Value)} (hw : wantedS ops ⟨env, bs⟩ ⟨some d, .assign x, ty, pos, aft, g⟩ = some true) (hx : (St.mk env bs).ev x = .s (.sl tag app k0 els))  (k : RunK dr P ops rest ⟨(d, .s (.sl tag app k0 els)) :: env, bs⟩ K) : RunK dr P ops (⟨some d, .assign x, ty, pos, aft, g⟩ :: rest) ⟨env, bs⟩ K := .val rfl rfl hw (.ofCopy hx (by simp [Op.operands]) (fun _ => Val.assign)) k
theorem RunK.assignN {x : Operand}  (hw : wantedS ops ⟨env, bs⟩ ⟨some d, .assign x, ty, pos, aft, g⟩ = some true) (hx : (St.mk env bs).ev x = .s .nil)  (k : RunK dr P ops rest ⟨(d, .s .nil) :: env, bs⟩ K) : RunK dr P ops (⟨some d, .assign x, ty, pos, aft, g⟩ :: rest) ⟨env, bs⟩ K := .val rfl rfl hw (.ofCopy hx (by simp [Op.operands]) (fun _ => Val.assign)) k
theorem RunK.pickT {c x y : Operand} {u : Value} (hw : wantedS ops ⟨env, bs⟩ ⟨some d, .pick c x y, ty, pos, aft, g⟩ = some true) (hc : (St.mk env bs).ev c = .s (.v (.bool true))) (hx : (St.mk env bs).ev x = .s (.v u))  (k : RunK dr P ops rest ⟨(d, .s (.v u)) :: env, bs⟩ K) : RunK dr P ops (⟨some d, .pick c x y, ty, pos, aft, g⟩ :: rest) ⟨env, bs⟩ K := .val rfl rfl hw (.ofV fun σs => Val.pickTP (unE_v σs hc) (unE_v σs hx)) k
theorem RunK.pickF {c x y : Operand} {u : Value} (hw : wantedS ops ⟨env, bs⟩ ⟨some d, .pick c x y, ty, pos, aft, g⟩ = some true) (hc : (St.mk env bs).ev c = .s (.v (.bool false))) (hy : (St.mk env bs).ev y = .s (.v u))  (k : RunK dr P ops rest ⟨(d, .s (.v u)) :: env, bs⟩ K) : RunK dr P ops (⟨some d, .pick c x y, ty, pos, aft, g⟩ :: rest) ⟨env, bs⟩ K := .val rfl rfl hw (.ofV fun σs => Val.pickFP (unE_v σs hc) (unE_v σs hy)) k
theorem RunK.pick {c x y : Operand} {b : Bool} {u1 u2 : Value} (hw : wantedS ops ⟨env, bs⟩ ⟨some d, .pick c x y, ty, pos, aft, g⟩ = some true) (hc : (St.mk env bs).ev c = .s (.v (.bool b))) (hx : (St.mk env bs).ev x = .s (.v u1)) (hy : (St.mk env bs).ev y = .s (.v u2))  (k : RunK dr P ops rest ⟨(d, .s (.v (bif b then u1 else u2))) :: env, bs⟩ K) : RunK dr P ops (⟨some d, .pick c x y, ty, pos, aft, g⟩ :: rest) ⟨env, bs⟩ K := .val rfl rfl hw (.ofV fun σs => Val.pick (unE_v σs hc) (unE_v σs hx) (unE_v σs hy)) k
theorem RunK.field {t f off0 : Nat} [TyField P t f off0] {x : Operand} {id off : Nat} (hw : wantedS ops ⟨env, bs⟩ ⟨some d, .fieldAddr t x f, ty, pos, aft, g⟩ = some true) (hx : (St.mk env bs).ev x = .box id off)  (k : RunK dr P ops rest ⟨(d, .box id (off + off0)) :: env, bs⟩ K) : RunK dr P ops (⟨some d, .fieldAddr t x f, ty, pos, aft, g⟩ :: rest) ⟨env, bs⟩ K := .val rfl (by simp [ptrOk, boxIn, Op.operands, hx, PV.isBox]) hw (.ofB fun σs => Val.fieldBox (unE_b σs hx)) k
theorem RunK.fieldE {t f off0 : Nat} [TyField P t f off0] {x : Operand} {tag : Option Nat} {k0 : Nat} {els : List (List Value)} {i j : Nat} (hw : wantedS ops ⟨env, bs⟩ ⟨some d, .fieldAddr t x f, ty, pos, aft, g⟩ = some true) (hx : (St.mk env bs).ev x = .elp tag k0 els i j)  (k : RunK dr P ops rest ⟨(d, .elp tag k0 els i (j + off0)) :: env, bs⟩ K) : RunK dr P ops (⟨some d, .fieldAddr t x f, ty, pos, aft, g⟩ :: rest) ⟨env, bs⟩ K := .val rfl rfl hw (.ofL fun σs => Val.fieldEl (unE_l σs hx)) k
theorem RunK.load1 {t : TypeId} [h1 : TyOne P t] {x : Operand} {id off : Nat} {cs : List Value} {u : Value} (hw : wantedS ops ⟨env, bs⟩ ⟨some d, .load t x, ty, pos, aft, g⟩ = some true) (hx : (St.mk env bs).ev x = .box id off) (hb : (St.mk env bs).box id = some cs) (hu : cs[off]? = some u) (k : RunK dr P ops rest ⟨(d, .s (.v u)) :: env, bs⟩ K) : RunK dr P ops (⟨some d, .load t x, ty, pos, aft, g⟩ :: rest) ⟨env, bs⟩ K := .val rfl rfl hw (.ofV fun σs => Val.loadBox (unE_b σs hx) hb (.one h1 hu)) k
theorem RunK.loadR {t m : Nat} [h1 : TyRow P t m] {x : Operand} {id off : Nat} {cs l : List Value} (hw : wantedS ops ⟨env, bs⟩ ⟨some d, .load t x, ty, pos, aft, g⟩ = some true) (hx : (St.mk env bs).ev x = .box id off) (hb : (St.mk env bs).box id = some cs) (hu : Nat.ble (off + m) cs.length = true) (hl : (cs.drop off).take m = l) (k : RunK dr P ops rest ⟨(d, .s (.v (.agg l.toArray))) :: env, bs⟩ K) : RunK dr P ops (⟨some d, .load t x, ty, pos, aft, g⟩ :: rest) ⟨env, bs⟩ K := .val rfl rfl hw (.ofV fun σs => hl ▸ Val.loadBox (unE_b σs hx) hb (.row h1 (Nat.ble_eq ▸ hu))) k
theorem RunK.loadE1 {t : TypeId} [h1 : TyOne P t] {x : Operand} {tag : Option Nat} {k0 : Nat} {els : List (List Value)} {i j : Nat} {e : List Value} {u : Value} (hw : wantedS ops ⟨env, bs⟩ ⟨some d, .load t x, ty, pos, aft, g⟩ = some true) (hx : (St.mk env bs).ev x = .elp tag k0 els i j) (he : els[i]? = some e) (hu : e[j]? = some u) (k : RunK dr P ops rest ⟨(d, .s (.v u)) :: env, bs⟩ K) : RunK dr P ops (⟨some d, .load t x, ty, pos, aft, g⟩ :: rest) ⟨env, bs⟩ K := .val rfl rfl hw (.ofV fun σs => Val.loadEl (unE_l σs hx) he (.one h1 hu)) k
theorem RunK.loadER {t m : Nat} [h1 : TyRow P t m] {x : Operand} {tag : Option Nat} {k0 : Nat} {els : List (List Value)} {i j : Nat} {e l : List Value} (hw : wantedS ops ⟨env, bs⟩ ⟨some d, .load t x, ty, pos, aft, g⟩ = some true) (hx : (St.mk env bs).ev x = .elp tag k0 els i j) (he : els[i]? = some e) (hu : Nat.ble (j + m) e.length = true) (hl : (e.drop j).take m = l) (k : RunK dr P ops rest ⟨(d, .s (.v (.agg l.toArray))) :: env, bs⟩ K) : RunK dr P ops (⟨some d, .load t x, ty, pos, aft, g⟩ :: rest) ⟨env, bs⟩ K := .val rfl rfl hw (.ofV fun σs => hl ▸ Val.loadEl (unE_l σs hx) he (.row h1 (Nat.ble_eq ▸ hu))) k
theorem RunK.geq {t yt : TypeId} {x y : Operand} {kd : IntKind} {a b : Int} (hw : wantedS ops ⟨env, bs⟩ ⟨some d, .binOp .geq t x y yt, ty, pos, aft, g⟩ = some true) (hx : (St.mk env bs).ev x = .s (.v (.int kd a))) (hy : (St.mk env bs).ev y = .s (.v (.int kd b)))  (k : RunK dr P ops rest ⟨(d, .s (.v (.bool (decide (b ≤ a))))) :: env, bs⟩ K) : RunK dr P ops (⟨some d, .binOp .geq t x y yt, ty, pos, aft, g⟩ :: rest) ⟨env, bs⟩ K := .val rfl rfl hw (.ofV fun σs => Val.bin (unE_v σs hx) (unE_v σs hy) BinRun.geq) k
theorem RunK.leq {t yt : TypeId} {x y : Operand} {kd : IntKind} {a b : Int} (hw : wantedS ops ⟨env, bs⟩ ⟨some d, .binOp .leq t x y yt, ty, pos, aft, g⟩ = some true) (hx : (St.mk env bs).ev x = .s (.v (.int kd a))) (hy : (St.mk env bs).ev y = .s (.v (.int kd b)))  (k : RunK dr P ops rest ⟨(d, .s (.v (.bool (decide (a ≤ b))))) :: env, bs⟩ K) : RunK dr P ops (⟨some d, .binOp .leq t x y yt, ty, pos, aft, g⟩ :: rest) ⟨env, bs⟩ K := .val rfl rfl hw (.ofV fun σs => Val.bin (unE_v σs hx) (unE_v σs hy) BinRun.leq) k
theorem RunK.lss {t yt : TypeId} {x y : Operand} {kd : IntKind} {a b : Int} (hw : wantedS ops ⟨env, bs⟩ ⟨some d, .binOp .lss t x y yt, ty, pos, aft, g⟩ = some true) (hx : (St.mk env bs).ev x = .s (.v (.int kd a))) (hy : (St.mk env bs).ev y = .s (.v (.int kd b)))  (k : RunK dr P ops rest ⟨(d, .s (.v (.bool (decide (a < b))))) :: env, bs⟩ K) : RunK dr P ops (⟨some d, .binOp .lss t x y yt, ty, pos, aft, g⟩ :: rest) ⟨env, bs⟩ K := .val rfl rfl hw (.ofV fun σs => Val.bin (unE_v σs hx) (unE_v σs hy) BinRun.lss) k
theorem RunK.gtr {t yt : TypeId} {x y : Operand} {kd : IntKind} {a b : Int} (hw : wantedS ops ⟨env, bs⟩ ⟨some d, .binOp .gtr t x y yt, ty, pos, aft, g⟩ = some true) (hx : (St.mk env bs).ev x = .s (.v (.int kd a))) (hy : (St.mk env bs).ev y = .s (.v (.int kd b)))  (k : RunK dr P ops rest ⟨(d, .s (.v (.bool (decide (b < a))))) :: env, bs⟩ K) : RunK dr P ops (⟨some d, .binOp .gtr t x y yt, ty, pos, aft, g⟩ :: rest) ⟨env, bs⟩ K := .val rfl rfl hw (.ofV fun σs => Val.bin (unE_v σs hx) (unE_v σs hy) BinRun.gtr) k
theorem RunK.eql {t yt : TypeId} {x y : Operand} {kd : IntKind} {a b : Int} (hw : wantedS ops ⟨env, bs⟩ ⟨some d, .binOp .eql t x y yt, ty, pos, aft, g⟩ = some true) (hx : (St.mk env bs).ev x = .s (.v (.int kd a))) (hy : (St.mk env bs).ev y = .s (.v (.int kd b)))  (k : RunK dr P ops rest ⟨(d, .s (.v (.bool (decide (a = b))))) :: env, bs⟩ K) : RunK dr P ops (⟨some d, .binOp .eql t x y yt, ty, pos, aft, g⟩ :: rest) ⟨env, bs⟩ K := .val rfl rfl hw (.ofV fun σs => Val.bin (unE_v σs hx) (unE_v σs hy) BinRun.eql) k
theorem RunK.neq {t yt : TypeId} {x y : Operand} {kd : IntKind} {a b : Int} (hw : wantedS ops ⟨env, bs⟩ ⟨some d, .binOp .neq t x y yt, ty, pos, aft, g⟩ = some true) (hx : (St.mk env bs).ev x = .s (.v (.int kd a))) (hy : (St.mk env bs).ev y = .s (.v (.int kd b)))  (k : RunK dr P ops rest ⟨(d, .s (.v (.bool (!decide (a = b))))) :: env, bs⟩ K) : RunK dr P ops (⟨some d, .binOp .neq t x y yt, ty, pos, aft, g⟩ :: rest) ⟨env, bs⟩ K := .val rfl rfl hw (.ofV fun σs => Val.bin (unE_v σs hx) (unE_v σs hy) BinRun.neq) k
theorem RunK.add {t yt : TypeId} {x y : Operand} {a b : Int} (hw : wantedS ops ⟨env, bs⟩ ⟨some d, .binOp .add t x y yt, ty, pos, aft, g⟩ = some true) (hx : (St.mk env bs).ev x = .s (.v (.int .i64 a))) (hy : (St.mk env bs).ev y = .s (.v (.int .i64 b))) (h : -9223372036854775808 ≤ a + b ∧ a + b ≤ 9223372036854775807) (k : RunK dr P ops rest ⟨(d, .s (.v (.int .i64 (a + b)))) :: env, bs⟩ K) : RunK dr P ops (⟨some d, .binOp .add t x y yt, ty, pos, aft, g⟩ :: rest) ⟨env, bs⟩ K := .val rfl rfl hw (.ofV fun σs => Val.bin (unE_v σs hx) (unE_v σs hy) (BinRun.add' h)) k
theorem RunK.sub {t yt : TypeId} {x y : Operand} {a b : Int} (hw : wantedS ops ⟨env, bs⟩ ⟨some d, .binOp .sub t x y yt, ty, pos, aft, g⟩ = some true) (hx : (St.mk env bs).ev x = .s (.v (.int .i64 a))) (hy : (St.mk env bs).ev y = .s (.v (.int .i64 b))) (h : -9223372036854775808 ≤ a - b ∧ a - b ≤ 9223372036854775807) (k : RunK dr P ops rest ⟨(d, .s (.v (.int .i64 (a - b)))) :: env, bs⟩ K) : RunK dr P ops (⟨some d, .binOp .sub t x y yt, ty, pos, aft, g⟩ :: rest) ⟨env, bs⟩ K := .val rfl rfl hw (.ofV fun σs => Val.bin (unE_v σs hx) (unE_v σs hy) (BinRun.sub' h)) k
theorem RunK.mul {t yt : TypeId} {x y : Operand} {a b : Int} (hw : wantedS ops ⟨env, bs⟩ ⟨some d, .binOp .mul t x y yt, ty, pos, aft, g⟩ = some true) (hx : (St.mk env bs).ev x = .s (.v (.int .i64 a))) (hy : (St.mk env bs).ev y = .s (.v (.int .i64 b))) (h : -9223372036854775808 ≤ a * b ∧ a * b ≤ 9223372036854775807) (k : RunK dr P ops rest ⟨(d, .s (.v (.int .i64 (a * b)))) :: env, bs⟩ K) : RunK dr P ops (⟨some d, .binOp .mul t x y yt, ty, pos, aft, g⟩ :: rest) ⟨env, bs⟩ K := .val rfl rfl hw (.ofV fun σs => Val.bin (unE_v σs hx) (unE_v σs hy) (BinRun.mul' h)) k
theorem RunK.bin {op : BinOp} {t yt : TypeId} {x y : Operand} {u1 u2 v : Value} (hw : wantedS ops ⟨env, bs⟩ ⟨some d, .binOp op t x y yt, ty, pos, aft, g⟩ = some true) (hx : (St.mk env bs).ev x = .s (.v u1)) (hy : (St.mk env bs).ev y = .s (.v u2)) (h : BinRun P op t x y u1 u2 v) (k : RunK dr P ops rest ⟨(d, .s (.v v)) :: env, bs⟩ K) : RunK dr P ops (⟨some d, .binOp op t x y yt, ty, pos, aft, g⟩ :: rest) ⟨env, bs⟩ K := .val rfl rfl hw (.ofV fun σs => Val.bin (unE_v σs hx) (unE_v σs hy) h) k
theorem RunK.not {t : TypeId} {x : Operand} {b : Bool} (hw : wantedS ops ⟨env, bs⟩ ⟨some d, .unOp .not t x, ty, pos, aft, g⟩ = some true) (hx : (St.mk env bs).ev x = .s (.v (.bool b)))  (k : RunK dr P ops rest ⟨(d, .s (.v (.bool (!b)))) :: env, bs⟩ K) : RunK dr P ops (⟨some d, .unOp .not t x, ty, pos, aft, g⟩ :: rest) ⟨env, bs⟩ K := .val rfl rfl hw (.ofV fun σs => Val.not (unE_v σs hx)) k
theorem RunK.index {t e0 k0 by0 : Nat} [hT : TySl P t e0 k0 by0] {x y : Operand} {tag : Option Nat} {app : App} {els : List (List Value)} {kd : IntKind} {i : Int} {j : Nat} (hw : wantedS ops ⟨env, bs⟩ ⟨some d, .indexAddr t x y, ty, pos, aft, g⟩ = some true) (hx : (St.mk env bs).ev x = .s (.sl tag app k0 els)) (hy : (St.mk env bs).ev y = .s (.v (.int kd i))) (hij : i = (j : Int)) (hj : j < els.length) (k : RunK dr P ops rest ⟨(d, .elp tag k0 els j 0) :: env, bs⟩ K) : RunK dr P ops (⟨some d, .indexAddr t x y, ty, pos, aft, g⟩ :: rest) ⟨env, bs⟩ K := .val rfl rfl hw (.ofL fun σs => Val.index j (unE_s σs hx) (unE_v σs hy) hij hj) k
theorem RunK.indexB {t len e0 k0 : Nat} [hT : TyArr P t len e0 k0] {x y : Operand} {id off : Nat} {kd : IntKind} {i : Int} {j : Nat} (hw : wantedS ops ⟨env, bs⟩ ⟨some d, .indexAddr t x y, ty, pos, aft, g⟩ = some true) (hx : (St.mk env bs).ev x = .box id off) (hy : (St.mk env bs).ev y = .s (.v (.int kd i))) (hij : i = (j : Int)) (hj : Nat.blt j len = true) (k : RunK dr P ops rest ⟨(d, .box id (off + j * k0)) :: env, bs⟩ K) : RunK dr P ops (⟨some d, .indexAddr t x y, ty, pos, aft, g⟩ :: rest) ⟨env, bs⟩ K := .val rfl (by simp [ptrOk, boxIn, Op.operands, hx, PV.isBox]) hw (.ofB fun σs => Val.indexBox j (unE_b σs hx) (unE_v σs hy) hij (Nat.blt_eq ▸ hj)) k
theorem RunK.indexA {t len e0 k0 : Nat} [hT : TyArr P t len e0 k0] {x y : Operand} {tag : Option Nat} {k1 : Nat} {els : List (List Value)} {ii jj : Nat} {kd : IntKind} {i : Int} {j : Nat} (hw : wantedS ops ⟨env, bs⟩ ⟨some d, .indexAddr t x y, ty, pos, aft, g⟩ = some true) (hx : (St.mk env bs).ev x = .elp tag k1 els ii jj) (hy : (St.mk env bs).ev y = .s (.v (.int kd i))) (hij : i = (j : Int)) (hj : Nat.blt j len = true) (k : RunK dr P ops rest ⟨(d, .elp tag k1 els ii (jj + j * k0)) :: env, bs⟩ K) : RunK dr P ops (⟨some d, .indexAddr t x y, ty, pos, aft, g⟩ :: rest) ⟨env, bs⟩ K := .val rfl rfl hw (.ofL fun σs => Val.indexElArr j (unE_l σs hx) (unE_v σs hy) hij (Nat.blt_eq ▸ hj)) k
theorem RunK.len {t e0 k0 by0 : Nat} [hT : TySl P t e0 k0 by0] {x : Operand} {tag : Option Nat} {app : App} {k1 : Nat} {els : List (List Value)} (hw : wantedS ops ⟨env, bs⟩ ⟨some d, .call ⟨.builtin .len, #[x], #[t]⟩, ty, pos, aft, g⟩ = some true) (hx : (St.mk env bs).ev x = .s (.sl tag app k1 els))  (k : RunK dr P ops rest ⟨(d, .s (.v (.int .i64 els.length))) :: env, bs⟩ K) : RunK dr P ops (⟨some d, .call ⟨.builtin .len, #[x], #[t]⟩, ty, pos, aft, g⟩ :: rest) ⟨env, bs⟩ K := .val rfl rfl hw (.ofV fun σs => Val.len (unE_s σs hx) rfl) k
theorem RunK.lenN {t e0 k0 by0 : Nat} [hT : TySl P t e0 k0 by0] {x : Operand} (hw : wantedS ops ⟨env, bs⟩ ⟨some d, .call ⟨.builtin .len, #[x], #[t]⟩, ty, pos, aft, g⟩ = some true) (hx : (St.mk env bs).ev x = .s .nil)  (k : RunK dr P ops rest ⟨(d, .s (.v (.int .i64 0))) :: env, bs⟩ K) : RunK dr P ops (⟨some d, .call ⟨.builtin .len, #[x], #[t]⟩, ty, pos, aft, g⟩ :: rest) ⟨env, bs⟩ K := .val rfl rfl hw (.ofV fun σs => Val.lenNil (unE_n σs hx) rfl) k
theorem RunK.max {x y : Operand} {ats : Array TypeId} {kd : IntKind} {a b : Int} (hw : wantedS ops ⟨env, bs⟩ ⟨some d, .call ⟨.builtin .max, #[x, y], ats⟩, ty, pos, aft, g⟩ = some true) (hx : (St.mk env bs).ev x = .s (.v (.int kd a))) (hy : (St.mk env bs).ev y = .s (.v (.int kd b)))  (k : RunK dr P ops rest ⟨(d, .s (.v (.int kd (Max.max a b)))) :: env, bs⟩ K) : RunK dr P ops (⟨some d, .call ⟨.builtin .max, #[x, y], ats⟩, ty, pos, aft, g⟩ :: rest) ⟨env, bs⟩ K := .val rfl rfl hw (.ofV fun σs => Val.max (unE_v σs hx) (unE_v σs hy)) k
theorem RunK.min {x y : Operand} {ats : Array TypeId} {kd : IntKind} {a b : Int} (hw : wantedS ops ⟨env, bs⟩ ⟨some d, .call ⟨.builtin .min, #[x, y], ats⟩, ty, pos, aft, g⟩ = some true) (hx : (St.mk env bs).ev x = .s (.v (.int kd a))) (hy : (St.mk env bs).ev y = .s (.v (.int kd b)))  (k : RunK dr P ops rest ⟨(d, .s (.v (.int kd (Min.min a b)))) :: env, bs⟩ K) : RunK dr P ops (⟨some d, .call ⟨.builtin .min, #[x, y], ats⟩, ty, pos, aft, g⟩ :: rest) ⟨env, bs⟩ K := .val rfl rfl hw (.ofV fun σs => Val.min (unE_v σs hx) (unE_v σs hy)) k
theorem RunK.extract {x : Operand} {i : Nat} {xs : List SV} {y : SV} (hw : wantedS ops ⟨env, bs⟩ ⟨some d, .extract x i, ty, pos, aft, g⟩ = some true) (hx : (St.mk env bs).ev x = .tup xs) (hi : xs[i]? = some y) (k : RunK dr P ops rest ⟨(d, .s y) :: env, bs⟩ K) : RunK dr P ops (⟨some d, .extract x i, ty, pos, aft, g⟩ :: rest) ⟨env, bs⟩ K := .val rfl rfl hw (Hu.extract hx hi) k
theorem RunK.build {t : TypeId} {zero : List Value} {places : List (Nat × Nat)} [hT : TyStruct P t zero places] {parts : List (Nat × Operand)} {vals : List (Nat × Value)} {cells : List Value} (hw : wantedS ops ⟨env, bs⟩ ⟨some d, .build t parts.toArray, ty, pos, aft, g⟩ = some true)  (hp : PartsOk (St.mk env bs).ev parts vals) (hf : fillL (places[·]?) zero vals = some cells) (k : RunK dr P ops rest ⟨(d, .s (.v (.agg cells.toArray))) :: env, bs⟩ K) : RunK dr P ops (⟨some d, .build t parts.toArray, ty, pos, aft, g⟩ :: rest) ⟨env, bs⟩ K := .val rfl rfl hw (.ofV fun σs => Val.build (hp.un σs) hf) k
theorem RunK.buildA {t : TypeId} {zero : List Value} {k0 : Nat} [hT : TyArray P t zero k0] {parts : List (Nat × Operand)} {vals : List (Nat × Value)} {cells : List Value} (hw : wantedS ops ⟨env, bs⟩ ⟨some d, .build t parts.toArray, ty, pos, aft, g⟩ = some true)  (hp : PartsOk (St.mk env bs).ev parts vals) (hf : fillL (fun i => some (i * k0, k0)) zero vals = some cells) (k : RunK dr P ops rest ⟨(d, .s (.v (.agg cells.toArray))) :: env, bs⟩ K) : RunK dr P ops (⟨some d, .build t parts.toArray, ty, pos, aft, g⟩ :: rest) ⟨env, bs⟩ K := .val rfl rfl hw (.ofV fun σs => Val.buildArr (hp.un σs) hf) k
theorem RunK.buildS {t e k0 bytes : Nat} {z : Value} [hT : TySl P t e k0 bytes] [hz : TyZero P e z] {n : Nat} {parts : List (Nat × Operand)} {vals : List (Nat × Value)} {cells : List Value} {els : List (List Value)} (hw : wantedS ops ⟨env, bs⟩ ⟨some d, .buildSlice t n parts.toArray, ty, pos, aft, g⟩ = some true) (hty : isEff ops ⟨some d, .buildSlice t n parts.toArray, ty, pos, aft, g⟩ = false) (hp : PartsOk (St.mk env bs).ev parts vals) (hn : Nat.ble (n * k0) 16777216 = true) (hf : fillL (fun i => some (i * k0, k0)) ((Array.range (n * k0)).map (z.cells[· % z.cells.size]!)).toList vals = some cells) (hl : cells.length = n * k0) (he : chop k0 n cells = els) (k : RunK dr P ops rest ⟨(d, .s (.sl (some d) (.front e) k0 els)) :: env, bs⟩ K) : RunK dr P ops (⟨some d, .buildSlice t n parts.toArray, ty, pos, aft, g⟩ :: rest) ⟨env, bs⟩ K := .val hty rfl hw (.ofNew (fun σs => he ▸ Val.buildSlice d (hp.un σs) hn hf hl) (by intro σ hσ; exact un_front hσ)) k
theorem RunK.callS {f : FuncId} {xs : List Operand} {ats : Array TypeId} {as : List SV} {y : SV} (hw : wantedS ops ⟨env, bs⟩ ⟨some d, .call ⟨.value (.func f), xs.toArray, ats⟩, ty, pos, aft, g⟩ = some true) (he : isEff ops ⟨some d, .call ⟨.value (.func f), xs.toArray, ats⟩, ty, pos, aft, g⟩ = false) (hc : Pure P f as (.s y)) (ha : ArgsLe (St.mk env bs).ev (St.mk env bs).box [] xs as) (hn : y.isNew = true) (k : RunK dr P ops rest ⟨(d, .s (y.retag d)) :: env, bs⟩ K) : RunK dr P ops (⟨some d, .call ⟨.value (.func f), xs.toArray, ats⟩, ty, pos, aft, g⟩ :: rest) ⟨env, bs⟩ K := .val he rfl hw (.ofNew (fun σs => Val.call (res := .s y) d hc (ha.un σs) hn) (by intro σ hσ; exact un_retag hσ)) k
theorem RunK.callT {f : FuncId} {xs : List Operand} {ats : Array TypeId} {as : List SV} {ys : List SV} (hw : wantedS ops ⟨env, bs⟩ ⟨some d, .call ⟨.value (.func f), xs.toArray, ats⟩, ty, pos, aft, g⟩ = some true) (he : isEff ops ⟨some d, .call ⟨.value (.func f), xs.toArray, ats⟩, ty, pos, aft, g⟩ = false) (hc : Pure P f as (.tup ys)) (ha : ArgsLe (St.mk env bs).ev (St.mk env bs).box [] xs as) (hn : ys.all (·.isNew) = true) (k : RunK dr P ops rest ⟨(d, .tup (ys.map (·.retag d))) :: env, bs⟩ K) : RunK dr P ops (⟨some d, .call ⟨.value (.func f), xs.toArray, ats⟩, ty, pos, aft, g⟩ :: rest) ⟨env, bs⟩ K := .val he rfl hw (.ofNew (fun σs => Val.call (res := .tup ys) d hc (ha.un σs) hn) (by intro σ hσ; exact un_retagT hσ)) k
theorem RunK.sliceFrom {t e0 k0 by0 : Nat} [hT : TySl P t e0 k0 by0] {x y : Operand} {tag : Option Nat} {app : App} {els : List (List Value)} {kd : IntKind} {i : Int} {l : Nat} (hw : wantedS ops ⟨env, bs⟩ ⟨some d, .slice t x (some y) none none, ty, pos, aft, g⟩ = some true) (hx : (St.mk env bs).ev x = .s (.sl tag app k0 els)) (hy : (St.mk env bs).ev y = .s (.v (.int kd i))) (hij : i = (l : Int)) (hj : l ≤ els.length) (k : RunK dr P ops rest ⟨(d, .s (.sl tag app k0 (els.drop l))) :: env, bs⟩ K) : RunK dr P ops (⟨some d, .slice t x (some y) none none, ty, pos, aft, g⟩ :: rest) ⟨env, bs⟩ K := .val rfl rfl hw (Hu.sliceFrom hx hy hij hj) k
theorem RunK.sliceTo {t e0 k0 by0 : Nat} [hT : TySl P t e0 k0 by0] {x y : Operand} {tag : Option Nat} {app : App} {els : List (List Value)} {kd : IntKind} {i : Int} {l : Nat} (hw : wantedS ops ⟨env, bs⟩ ⟨some d, .slice t x none (some y) none, ty, pos, aft, g⟩ = some true) (hx : (St.mk env bs).ev x = .s (.sl tag app k0 els)) (hy : (St.mk env bs).ev y = .s (.v (.int kd i))) (hij : i = (l : Int)) (hj : l ≤ els.length) (k : RunK dr P ops rest ⟨(d, .s (.sl tag .no k0 (els.take l))) :: env, bs⟩ K) : RunK dr P ops (⟨some d, .slice t x none (some y) none, ty, pos, aft, g⟩ :: rest) ⟨env, bs⟩ K := .val rfl rfl hw (Hu.sliceTo hx hy hij hj) k
theorem RunK.sliceFull {t e0 k0 by0 : Nat} [hT : TySl P t e0 k0 by0] {x y y2 : Operand} {τ : Nat} {app : App} {els : List (List Value)} {kd kd2 : IntKind} {i i2 : Int} {l : Nat} (hw : wantedS ops ⟨env, bs⟩ ⟨some d, .slice t x none (some y) (some y2), ty, pos, aft, g⟩ = some true) (hx : (St.mk env bs).ev x = .s (.sl (some τ) app k0 els)) (hy : (St.mk env bs).ev y = .s (.v (.int kd i))) (hy2 : (St.mk env bs).ev y2 = .s (.v (.int kd2 i2))) (hij : i = (l : Int)) (hij2 : i2 = (l : Int)) (hj : l ≤ els.length) (k : RunK dr P ops rest ⟨(d, .s (.sl (some τ) .full k0 (els.take l))) :: env, bs⟩ K) : RunK dr P ops (⟨some d, .slice t x none (some y) (some y2), ty, pos, aft, g⟩ :: rest) ⟨env, bs⟩ K := .val rfl rfl hw (Hu.sliceFull hx hy hij hy2 hij2 hj) k
theorem Wt.regionK {w0 : Base} {n : Nat} {s : St} {N R : St → Prop} {X : Nat → St → Prop} {i : Nat} {l : List Oper} (hd : dstsOk n l = true) (h : RunK false P l.toArray l s N) : Wt P w0 n (.region i l.toArray false) s N R X :=
  Wt.region hd h
end

section
variable {P : Program} {ops : Array Oper} {md : Region.Mode} {K : St → Prop}

/-- The operations behind number i do not write slot τ. -/
def After (ops : Array Oper) (i : Nat) (τ : Nat) : Prop := ∀ (j : Nat) (oj : Oper), i < j → ops[j]? = some oj → oj.dst ≠ some τ
/-- An effect, where all slots of the region are known to be there. -/
def EffR (P : Program) (ops : Array Oper) (o : Oper) (s : St) (S : St → Prop) : Prop :=
  ∀ (w0 : Base) (n : Nat) (a : Act) (w : World), RS w0 n s a w → (∀ d, o.dst = some d → d < n) → (∀ (j : Nat) (oj : Oper), ops[j]? = some oj → ∀ d, oj.dst = some d → d < n) →
    ∀ (next : Act → World → Prop) (Q : Exit → Act → World → Prop), (∀ s1, S s1 → ∀ a' w', RS w0 n s1 a' w' → next a' w') → o.wp P a w next Q
theorem Eff.toR {o : Oper} {s : St} {S : St → Prop} (h : Eff P o s S) : EffR P ops o s S := fun w0 n a w hr hd _ => h w0 n a w hr hd
/-- What one operation does. -/
def StepA (P : Program) (ops : Array Oper) (i : Nat) (o : Oper) (s : St) (Kn : St → Prop) : Prop :=
  (∃ pv nb, wantedS ops s o = some true ∧ isEff ops o = false ∧ Hu P o s.ev s.box pv nb ∧ (∀ p, nb = some p → s.box p.1 = none) ∧ ptrOk o s.ev nb pv = true ∧ Kn ((s.putO o.dst pv).addBox nb)) ∨
  (wantedS ops s o = some false ∧ isEff ops o = false ∧ Kn (s.putO o.dst (.tup []))) ∨
  (wantedS ops s o = some true ∧ isEff ops o = false ∧ ∃ s1, AppStep P (After ops i) o s s1 ∧ Kn s1) ∨
  (wantedS ops s o = some true ∧ isEff ops o = true ∧ ∃ S : St → Prop, (∀ s1, S s1 → (Wf s → Wf s1) ∧ Tame o s s1) ∧ EffR P ops o s S ∧ ∀ s1, S s1 → Kn s1)
def AnyA (P : Program) (md : Region.Mode) (ops : Array Oper) (K : St → Prop) : Nat → Array Bool → St → Prop
  | 0, listed, s => Region.ready md ops listed = [] ∧ K s
  | fuel + 1, listed, s => (Region.ready md ops listed = [] → K s) ∧
    ∀ i ∈ Region.ready md ops listed, match ops[i]? with
      | none => AnyA P md ops K fuel (listed.setIfInBounds i true) s
      | some o => StepA P ops i o s (AnyA P md ops K fuel (listed.setIfInBounds i true))

theorem Eqv.ev {s s' : St} (h : Eqv s s') : s.ev = s'.ev := by
  funext x
  cases x with
  | tmp t => simp only [St.ev, h.1 t]
  | _ => rfl
theorem Eqv.boxf {s s' : St} (h : Eqv s s') : s.box = s'.box := funext h.2
theorem Eqv.wanted {s s' : St} (h : Eqv s s') (o : Oper) : wantedS ops s o = wantedS ops s' o := by
  unfold wantedS
  cases o.guard with
  | none => rfl
  | some g =>
    simp only
    cases (ops[g.1]?).bind (·.dst) with
    | none => rfl
    | some t => simp only [h.ev]
theorem box_addBox (s : St) (nb : Option (Nat × List Value)) (id : Nat) : (s.addBox nb).box id = match nb with | none => s.box id | some p => if p.1 = id then some p.2 else s.box id := by
  cases nb with
  | none => rfl
  | some p => exact boxOf_put s.boxes p.1 p.2 id
theorem Eqv.putO {s s' : St} (h : Eqv s s') (d : Option Nat) (pv : PV) (nb : Option (Nat × List Value)) : Eqv ((s.putO d pv).addBox nb) ((s'.putO d pv).addBox nb) := by
  refine ⟨fun t => ?_, fun id => ?_⟩
  · rw [look_addBox, look_addBox, look_putO, look_putO, h.1 t]
  · rw [box_addBox, box_addBox, box_putO, box_putO, h.2 id]
theorem Eqv.wf {s s' : St} (h : Eqv s s') (hw : Wf s) : Wf s' := fun t id ht => by rw [← h.2]; exact hw t id (by rw [h.1]; exact ht)
theorem Eqv.rs {s s' : St} (h : Eqv s s') {w0 : Base} {n : Nat} {a : Act} {w : World} (hr : RS w0 n s a w) : RS w0 n s' a w := hr.less h.less

theorem AppStep.mono {R R' : Nat → Prop} (hR : ∀ τ, R τ → R' τ) {o : Oper} {s s1 : St} (h : AppStep P R o s s1) : AppStep P R' o s s1 := by
  obtain ⟨t, e, k, bytes, x, y, τ, els, els2, hT, ho, hx, hy, hone, hb, hr, h1⟩ := h
  exact ⟨t, e, k, bytes, x, y, τ, els, els2, hT, ho, hx, hy, hone, hb, hR _ hr, h1⟩
theorem Eqv.un {s s' : St} (h : Eqv s s') (τ : Nat) : Eqv (s.un τ) (s'.un τ) := ⟨fun t => by rw [look_un, look_un, h.1 t], fun id => h.2 id⟩
theorem Eqv.put1 {s s' : St} (h : Eqv s s') (d : Option Nat) (pv : PV) : Eqv (s.putO d pv) (s'.putO d pv) := h.putO d pv none
theorem AppStep.eqv {R : Nat → Prop} {o : Oper} {s s' s1 : St} (h : Eqv s s') (hs : AppStep P R o s s1) : ∃ s1', AppStep P R o s' s1' ∧ Eqv s1 s1' := by
  obtain ⟨t, e, k, bytes, x, y, τ, els, els2, hT, ho, hx, hy, hone, hb, hr, rfl⟩ := hs
  refine ⟨_, ⟨t, e, k, bytes, x, y, τ, els, els2, hT, ho, by rw [← h.ev]; exact hx, by rw [← h.ev]; exact hy, hone, hb, hr, rfl⟩, (h.un τ).put1 _ _⟩
theorem StepA.eqv {i : Nat} {o : Oper} {s s' : St} {Kn : St → Prop} (h : Eqv s s') (hK : ∀ s1 s1', Eqv s1 s1' → Kn s1 → Kn s1') (hs : StepA P ops i o s Kn) : StepA P ops i o s' Kn := by
  rcases hs with ⟨pv, nb, h1, h2, h3, h4, h5, h6⟩ | ⟨h1, h2, h3⟩ | ⟨h1, h2, s1, h3, h4⟩ | ⟨h1, h2, s1, h3, h4, h5⟩
  · exact .inl ⟨pv, nb, (h.wanted o) ▸ h1, h2, h.ev ▸ h.boxf ▸ h3, fun p hp => (h.2 p.1) ▸ h4 p hp, h.ev ▸ h5, hK _ _ (h.putO o.dst pv nb) h6⟩
  · exact .inr (.inl ⟨(h.wanted o) ▸ h1, h2, hK _ _ (h.putO o.dst (.tup []) none) h3⟩)
  · obtain ⟨s1', q1, q2⟩ := h3.eqv h
    exact .inr (.inr (.inl ⟨(h.wanted o) ▸ h1, h2, s1', q1, hK _ _ q2 h4⟩))
  · exact .inr (.inr (.inr ⟨(h.wanted o) ▸ h1, h2, s1, fun s2 hs => ⟨fun hw => (h3 s2 hs).1 (h.symm.wf hw), fun t ht hne hc => ((h3 s2 hs).2 t ht hne (by rw [h.1]; exact hc)).trans (h.1 t)⟩, fun w0 n a w hr => h4 w0 n a w (h.symm.rs hr), h5⟩))
theorem StepA.mono {i : Nat} {o : Oper} {s : St} {Kn Kn' : St → Prop} (hK : ∀ s, Kn s → Kn' s) (hs : StepA P ops i o s Kn) : StepA P ops i o s Kn' := by
  rcases hs with ⟨pv, nb, h1, h2, h3, h4, h5, h6⟩ | ⟨h1, h2, h3⟩ | ⟨h1, h2, s1, h3, h4⟩ | ⟨h1, h2, s1, h3, h4, h5⟩
  · exact .inl ⟨pv, nb, h1, h2, h3, h4, h5, hK _ h6⟩
  · exact .inr (.inl ⟨h1, h2, hK _ h3⟩)
  · exact .inr (.inr (.inl ⟨h1, h2, s1, h3, hK _ h4⟩))
  · exact .inr (.inr (.inr ⟨h1, h2, s1, h3, h4, fun s2 hs => hK _ (h5 s2 hs)⟩))
theorem StepA.ex {i : Nat} {o : Oper} {s : St} {Kn : St → Prop} (he : isEff ops o = false) (hs : StepA P ops i o s Kn) : ∃ s1, Kn s1 := by
  rcases hs with ⟨pv, nb, h1, h2, h3, h4, h5, h6⟩ | ⟨h1, h2, h3⟩ | ⟨h1, h2, s1, h3, h4⟩ | ⟨h1, h2, s1, h3, h4, h5⟩
  · exact ⟨_, h6⟩
  · exact ⟨_, h3⟩
  · exact ⟨_, h4⟩
  · rw [he] at h2; cases h2
theorem AnyA.eqv (hK : ∀ s s', Eqv s s' → K s → K s') : ∀ (fuel : Nat) (listed : Array Bool) (s s' : St), Eqv s s' → AnyA P md ops K fuel listed s → AnyA P md ops K fuel listed s'
  | 0, _, s, s', h, hs => ⟨hs.1, hK s s' h hs.2⟩
  | fuel + 1, listed, s, s', h, hs => ⟨fun h0 => hK s s' h (hs.1 h0), fun i hi => by
      have := hs.2 i hi
      cases ho : ops[i]? with
      | none => rw [ho] at this; exact AnyA.eqv hK fuel _ s s' h this
      | some o => rw [ho] at this; exact this.eqv h (AnyA.eqv hK fuel _)⟩

theorem Wf.ev {s : St} (hw : Wf s) {x : Operand} {id : Nat} (h : (s.ev x).isBox id = true) : (s.box id).isSome = true := by
  cases x with
  | tmp t =>
    simp only [St.ev] at h
    cases hb : Nat.blt t 1000000 with
    | true => rw [hb] at h; exact hw t id h
    | false =>
      rw [hb] at h
      refine hw t id ?_
      have h' : (s.look t).fact.isBox id = true := h
      generalize s.look t = p at h' ⊢
      cases p <;> first | exact h' | cases h'
  | const v => simp only [St.ev, evC] at h; split at h <;> cases h
  | global g => cases h
  | func f => cases h
theorem Wf.put {s : St} (hw : Wf s) {o : Oper} {d : Option Nat} {pv : PV} {nb : Option (Nat × List Value)} (hp : ptrOk o s.ev nb pv = true) : Wf ((s.putO d pv).addBox nb) := fun t id ht => by
  have mono : (s.box id).isSome = true → (((s.putO d pv).addBox nb).box id).isSome = true := fun this => by
    rw [box_addBox, box_putO]
    cases nb with
    | none => exact this
    | some p => simp only; split <;> first | rfl | exact this
  rw [look_addBox, look_putO] at ht
  split at ht
  · have hp := ptrOk_of hp ht
    simp only [boxIn, Bool.or_eq_true, List.any_eq_true] at hp
    rcases hp with hp | ⟨x, _, hx⟩
    · cases nb with
      | none => cases hp
      | some p =>
        rw [box_addBox]
        simp only at hp ⊢
        rw [if_pos (by simpa using hp)]
        rfl
    · exact mono (hw.ev hx)
  · exact mono (hw t id ht)
theorem Wf.fresh {s : St} (hw : Wf s) {nb : Option (Nat × List Value)} (h : ∀ p, nb = some p → s.box p.1 = none) : Fresh s nb := fun p hp => ⟨h p hp, fun t => by
  rw [← Bool.not_eq_true]
  intro ht
  have := hw t p.1 ht
  rw [h p hp] at this
  cases this⟩

theorem Wf.app {R : Nat → Prop} {s s1 : St} (hw : Wf s) {o : Oper} (h : AppStep P R o s s1) : Wf s1 := by
  obtain ⟨t, e, k, bytes, x, y, τ, els, els2, hT, ho, hx, hy, hone, hb, hr, rfl⟩ := h
  intro u id hu
  rw [look_putO] at hu
  split at hu
  · cases hu
  · rw [look_un] at hu
    rw [un_isBox] at hu
    have := hw u id hu
    rw [box_putO]
    exact this
theorem wpAny_of_A {w0 : Base} {n : Nat} {Q : Exit → Act → World → Prop} (hd : ∀ (i : Nat) (o : Oper), ops[i]? = some o → ∀ d, o.dst = some d → d < n) (hK : ∀ s, K s → ∀ a w, RS w0 n s a w → Q .normal a w) : ∀ (fuel : Nat) (listed : Array Bool) (s : St), Wf s → AnyA P md ops K fuel listed s →
    ∀ a w, RS w0 n s a w → wpAny P md ops Q fuel listed a w
  | 0, _, s, _, h, a, w, hr => ⟨h.1, hK s h.2 a w hr⟩
  | fuel + 1, listed, s, hwf, h, a, w, hr => ⟨fun h0 => hK s (h.1 h0) a w hr, fun i hi => by
      have h1 := h.2 i hi
      unfold wpOp
      cases ho : ops[i]? with
      | none => rw [ho] at h1; exact wpAny_of_A hd hK fuel _ s hwf h1 a w hr
      | some o =>
        rw [ho] at h1
        simp only at h1 ⊢
        rcases h1 with ⟨pv, nb, q1, q2, q3, q4, q5, q6⟩ | ⟨q1, q2, q3⟩ | ⟨q1, q2, s1, q3, q4⟩ | ⟨q1, q2, s1, q3, q4, q5⟩
        · rw [if_pos (wanted_of hr q1)]
          refine .inl (q3.val.eff (hwf.fresh q4) w0 n a w hr (hd i o ho) _ _ fun s1 hs1 a' w' hr' => ?_)
          exact wpAny_of_A hd hK fuel _ _ (hwf.put q5) q6 a' w' (hs1 ▸ hr')
        · rw [if_neg (by rw [wanted_of hr q1]; simp)]
          exact wpAny_of_A hd hK fuel _ _ (hwf.put (o := o) (nb := none) rfl) q3 _ _ (hr.skip (hd i o ho))
        · rw [if_pos (wanted_of hr q1)]
          refine .inl (q3.eff w0 n a w hr (hd i o ho) _ _ fun s2 hs2 a' w' hr' => ?_)
          exact wpAny_of_A hd hK fuel _ _ (hwf.app q3) q4 a' w' (hs2 ▸ hr')
        · rw [if_pos (wanted_of hr q1)]
          refine .inl (q4 w0 n a w hr (hd i o ho) hd _ _ fun s2 hs2 a' w' hr' => ?_)
          exact wpAny_of_A hd hK fuel _ _ ((q3 s2 hs2).1 hwf) (q5 s2 hs2) a' w' hr'⟩

theorem tmp_mem {o : Oper} {t : Nat} (h : Operand.tmp t ∈ o.op.operands) : t ∈ o.looksAt ops :=
  List.mem_append_left _ (List.mem_filterMap.2 ⟨.tmp t, by simpa using h, rfl⟩)
theorem Val.congr {o : Oper} {ev ev' : Operand → PV} {bx bx' : Nat → Option (List Value)} {pv : PV} {nb : Option (Nat × List Value)} (h : Val P o ev bx pv nb) (he : ∀ x, (x ∈ o.op.operands ∨ isV x = true) → ev' x = ev x) (hb : ∀ x, (x ∈ o.op.operands ∨ isV x = true) → ∀ id, (ev x).isBox id = true → bx id = bx' id) : Val P o ev' bx' pv nb := by
  intro B T F ρ a w hB hop next Q hK
  refine h B T F ρ a w hB (fun x hx => ?_) next Q hK
  obtain ⟨h1, h2⟩ := hop x hx
  rw [he x hx] at h1 h2
  exact ⟨h1, fun id hid cs hcs => h2 id hid cs (by rw [← hb x hx id hid]; exact hcs)⟩
theorem wanted_look {o : Oper} {s s' : St} (h : ∀ t, t ∈ o.looksAt ops → s'.look t = s.look t) : wantedS ops s' o = wantedS ops s o := by
  unfold wantedS
  cases hg : o.guard with
  | none => rfl
  | some g =>
    simp only
    cases ht : (ops[g.1]?).bind (·.dst) with
    | none => rfl
    | some t => simp only [St.ev, h t (by simp [Oper.looksAt, hg, ht])]
theorem boxIn_same {o : Oper} {ev ev' : Operand → PV} {nb : Option (Nat × List Value)} {id : Nat} (he : ∀ x, (x ∈ o.op.operands ∨ isV x = true) → ∀ id, (ev' x).isBox id = (ev x).isBox id) (h : boxIn o ev nb id = true) : boxIn o ev' nb id = true := by
  simp only [boxIn, Bool.or_eq_true, List.any_eq_true] at h ⊢
  rcases h with h | ⟨x, hx, h⟩
  · exact .inl h
  · exact .inr ⟨x, hx, by rw [he x (.inl (by simpa using hx))]; exact h⟩
theorem ptrOk_same {o : Oper} {ev ev' : Operand → PV} {nb : Option (Nat × List Value)} {pv : PV} (he : ∀ x, (x ∈ o.op.operands ∨ isV x = true) → ∀ id, (ev' x).isBox id = (ev x).isBox id) (h : ptrOk o ev nb pv = true) : ptrOk o ev' nb pv = true := by
  cases pv with
  | box id off => exact boxIn_same he h
  | bsl id off k n => exact boxIn_same he h
  | hs v id off k n => exact boxIn_same he h
  | hb v id off => exact boxIn_same he h
  | clo f caps => exact List.all_eq_true.2 fun c hc => boxIn_same he (List.all_eq_true.1 h c hc)
  | _ => rfl
theorem ptrOk_congr {o : Oper} {ev ev' : Operand → PV} {nb : Option (Nat × List Value)} {pv : PV} (he : ∀ x, (x ∈ o.op.operands ∨ isV x = true) → ev' x = ev x) (h : ptrOk o ev nb pv = true) : ptrOk o ev' nb pv = true :=
  ptrOk_same (fun x hx id => by rw [he x hx]) h
theorem ptrOk_un {o : Oper} {ev ev' : Operand → PV} {nb : Option (Nat × List Value)} {pv : PV} {τ : Nat} (he : ∀ x, (x ∈ o.op.operands ∨ isV x = true) → ∀ id, (ev' x).isBox id = (ev x).isBox id) (h : ptrOk o ev nb pv = true) : ptrOk o ev' nb (pv.un (some τ)) = true := by
  have := ptrOk_same he h
  cases pv <;> first | exact this | rfl
theorem Val.mono {o : Oper} {ev ev' : Operand → PV} {bx bx' : Nat → Option (List Value)} {pv : PV} {nb : Option (Nat × List Value)} (h : Val P o ev bx pv nb) (he : ∀ x, (x ∈ o.op.operands ∨ isV x = true) → PVLe (ev' x) (ev x)) (hb : ∀ x, (x ∈ o.op.operands ∨ isV x = true) → ∀ id, (ev x).isBox id = true → bx id = bx' id) : Val P o ev' bx' pv nb := by
  intro B T F ρ a w hB hop next Q hK
  refine h B T F ρ a w hB (fun x hx => ?_) next Q hK
  obtain ⟨h1, h2⟩ := hop x hx
  refine ⟨(he x hx).rep h1, fun id hid cs hcs => ?_⟩
  have hle := he x hx
  have hid' : (ev' x).isBox id = true := by
    generalize ev' x = p at hle
    generalize ev x = q at hle hid
    cases hle <;> first | exact hid | cases hid
  exact h2 id hid' cs (by rw [← hb x hx id hid]; exact hcs)
theorem Hu.congr {o : Oper} {ev ev' : Operand → PV} {bx bx' : Nat → Option (List Value)} {pv : PV} {nb : Option (Nat × List Value)} (h : Hu P o ev bx pv nb) (he : ∀ x, (x ∈ o.op.operands ∨ isV x = true) → ev' x = ev x) (hb : ∀ x, (x ∈ o.op.operands ∨ isV x = true) → ∀ id, (ev x).isBox id = true → bx id = bx' id) : Hu P o ev' bx' pv nb := fun σs => by
  have hu : ∀ x, (x ∈ o.op.operands ∨ isV x = true) → unE σs ev' x = unE σs ev x := fun x hx => by unfold unE; rw [he x hx]
  refine ⟨(h σs).1.congr hu (fun x hx id hid => hb x hx id (by rw [← unL_isBox σs]; exact hid)), fun σ hσ hd => (h σs).2 σ (fun x hx => ?_) hd⟩
  rw [← hu x hx]
  exact hσ x hx

/-- What an operation that does not write, or appends, leaves behind: its own part. -/
theorem wanted_un (τ : Nat) (s : St) (o : Oper) : wantedS ops (s.un τ) o = wantedS ops s o := by
  unfold wantedS
  cases o.guard with
  | none => rfl
  | some g =>
    simp only
    cases (ops[g.1]?).bind (·.dst) with
    | none => rfl
    | some t =>
      simp only [ev_un]
      cases s.ev (.tmp t) with
      | s x =>
        cases x with
        | sl tag app k els => simp only [PV.un]; rw [un_sl]
        | _ => rfl
      | tup xs => cases xs <;> rfl
      | _ => rfl
theorem ReadLe.of_un {p : PV} {σ k : Nat} {els : List (List Value)} (h : ReadLe (p.un (some σ)) k els) : ReadLe p k els := by
  cases p with
  | s x =>
    cases x with
    | sl tag app k' els' =>
      simp only [PV.un] at h
      rw [un_sl] at h
      cases h
      exact .sl _ _ _ _
    | nil => exact h
    | v u => exact h
    | nsl tag rts uq k' els' => cases h
    | ag rts e => cases h
  | _ => cases h
theorem ReadLe.un {p : PV} {σ k : Nat} {els : List (List Value)} (h : ReadLe p k els) : ReadLe (p.un (some σ)) k els := by
  cases h with
  | sl tag app k els => simp only [PV.un]; rw [un_sl]; exact .sl _ _ _ _
  | nil k => exact .nil k
/-- How the state looks behind an operation's own part. -/
structure Part where
  pv : PV
  nb : Option (Nat × List Value)
  τ : Option Nat
def Part.next (o : Oper) (s : St) (r : Part) : St := ((match r.τ with | some τ => s.un τ | none => s).putO o.dst r.pv).addBox r.nb
theorem Part.look (o : Oper) (s : St) (r : Part) (t : Nat) : (r.next o s).look t = if o.dst = some t then r.pv else (match r.τ with | some τ => (s.look t).un (some τ) | none => s.look t) := by
  unfold Part.next
  rw [look_addBox, look_putO]
  cases r.τ with
  | none => rfl
  | some τ => simp only [look_un]
theorem Part.box (o : Oper) (s : St) (r : Part) (id : Nat) : (r.next o s).box id = match r.nb with | none => s.box id | some p => if p.1 = id then some p.2 else s.box id := by
  unfold Part.next
  rw [box_addBox, box_putO]
  cases r.τ with
  | none => rfl
  | some τ => rfl
/-- The two parts one way round and the other. -/
theorem Part.comm {oi oj : Oper} {s : St} {r q r' q' : Part} (hd : ∀ d, oi.dst = some d → oj.dst ≠ some d) (hb : ∀ p p', q.nb = some p → r.nb = some p' → p.1 ≠ p'.1) (hrn : r'.nb = r.nb) (hqn : q'.nb = q.nb) (hrt : r'.τ = r.τ) (hqt : q'.τ = q.τ)
    (hr : r'.pv = match q.τ with | some τ => r.pv.un (some τ) | none => r.pv) (hq : q.pv = match r.τ with | some τ => q'.pv.un (some τ) | none => q'.pv) : Eqv (q.next oj (r.next oi s)) (r'.next oi (q'.next oj s)) := by
  refine ⟨fun t => ?_, fun id => ?_⟩
  · rw [Part.look, Part.look, Part.look, Part.look, hrt, hqt, hr, hq]
    by_cases h1 : oi.dst = some t
    · have h2 := hd t h1
      simp only [h1, if_true, if_neg h2]
    · by_cases h2 : oj.dst = some t
      · simp only [h2, if_true, if_neg h1]
      · simp only [if_neg h1, if_neg h2]
        cases r.τ with
        | none => rfl
        | some τ =>
          cases q.τ with
          | none => rfl
          | some σ => exact PV.un_comm τ σ _
  · rw [Part.box, Part.box, Part.box, Part.box, hrn, hqn]
    cases hq' : q.nb with
    | none => cases hr' : r.nb <;> rfl
    | some p =>
      cases hr' : r.nb with
      | none => rfl
      | some p' =>
        have := hb p p' hq' hr'
        simp only
        split
        · rename_i h1
          rw [if_neg (by omega)]
        · rfl

/-- What an operation can do that may change places: yield, be skipped, append. -/
def Does (P : Program) (ops : Array Oper) (i : Nat) (o : Oper) (s : St) (r : Part) : Prop :=
  (wantedS ops s o = some true ∧ r.τ = none ∧ Hu P o s.ev s.box r.pv r.nb ∧ (∀ p, r.nb = some p → s.box p.1 = none) ∧ ptrOk o s.ev r.nb r.pv = true) ∨
  (wantedS ops s o = some false ∧ r = ⟨.tup [], none, none⟩) ∨
  (wantedS ops s o = some true ∧ r.nb = none ∧ ∃ τ, r.τ = some τ ∧ After ops i τ ∧ ∃ (t e k bytes : Nat) (x y : Operand) (els els2 : List (List Value)), TySl P t e k bytes ∧ o.op = .call ⟨.builtin .append, #[x, y], #[t, t]⟩ ∧
    (s.ev x = .s (.sl (some τ) (.front e) k els) ∨ (s.ev x = .s .nil ∧ els = [] ∧ o.dst = some τ)) ∧ ReadLe (s.ev y) k els2 ∧ (∀ l ∈ els2, ∀ u ∈ l, u.oneCell' = true) ∧ (els.length + els2.length) * bytes ≤ 140737488355328 ∧ r.pv = .s (.sl (some τ) (.front e) k (els ++ els2)))
theorem StepA.does {i : Nat} {o : Oper} {s : St} {Kn : St → Prop} (he : isEff ops o = false) (h : StepA P ops i o s Kn) : ∃ r, Does P ops i o s r ∧ Kn (r.next o s) := by
  rcases h with ⟨pv, nb, h1, h2, h3, h4, h5, h6⟩ | ⟨h1, h2, h3⟩ | ⟨h1, h2, s1, h3, h4⟩ | ⟨h1, h2, _⟩
  · exact ⟨⟨pv, nb, none⟩, .inl ⟨h1, rfl, h3, h4, h5⟩, h6⟩
  · exact ⟨⟨.tup [], none, none⟩, .inr (.inl ⟨h1, rfl⟩), h3⟩
  · obtain ⟨t, e, k, bytes, x, y, τ, els, els2, hT, ho, hx, hy, hone, hb, hr, rfl⟩ := h3
    exact ⟨⟨_, none, some τ⟩, .inr (.inr ⟨h1, rfl, τ, rfl, hr, t, e, k, bytes, x, y, els, els2, hT, ho, hx, hy, hone, hb, rfl⟩), h4⟩
  · rw [he] at h2; cases h2
theorem Does.step {i : Nat} {o : Oper} {s : St} {r : Part} {Kn : St → Prop} (he : isEff ops o = false) (h : Does P ops i o s r) (hk : Kn (r.next o s)) : StepA P ops i o s Kn := by
  rcases h with ⟨h1, h2, h3, h4, h5⟩ | ⟨h1, rfl⟩ | ⟨h1, h2, τ, h3, h4, t, e, k, bytes, x, y, els, els2, hT, ho, hx, hy, hone, hb, hp⟩
  · refine .inl ⟨r.pv, r.nb, h1, he, h3, h4, h5, ?_⟩
    unfold Part.next at hk
    rw [h2] at hk
    exact hk
  · exact .inr (.inl ⟨h1, he, hk⟩)
  · refine .inr (.inr (.inl ⟨h1, he, _, ⟨t, e, k, bytes, x, y, τ, els, els2, hT, ho, hx, hy, hone, hb, h4, rfl⟩, ?_⟩))
    unfold Part.next at hk
    rw [h3, h2, hp] at hk
    exact hk
theorem Does.wf {i : Nat} {o : Oper} {s : St} {r : Part} (hw : Wf s) (h : Does P ops i o s r) : Wf (r.next o s) := by
  rcases h with ⟨h1, h2, h3, h4, h5⟩ | ⟨h1, rfl⟩ | ⟨h1, h2, τ, h3, h4, t, e, k, bytes, x, y, els, els2, hT, ho, hx, hy, hone, hb, hp⟩
  · have := hw.put (d := o.dst) h5
    unfold Part.next
    rw [h2]
    exact this
  · exact hw.put (o := o) (nb := none) rfl
  · have := hw.app (P := P) (R := After ops i) ⟨t, e, k, bytes, x, y, τ, els, els2, hT, ho, hx, hy, hone, hb, h4, rfl⟩
    unfold Part.next
    rw [h3, h2, hp]
    exact this
theorem Does.fresh {i : Nat} {o : Oper} {s : St} {r : Part} (h : Does P ops i o s r) : ∀ p, r.nb = some p → s.box p.1 = none := by
  rcases h with ⟨h1, h2, h3, h4, h5⟩ | ⟨h1, rfl⟩ | ⟨h1, h2, _⟩
  · exact h4
  · intro p hp; cases hp
  · intro p hp; rw [h2] at hp; cases hp

/-- How an operation's operands look behind another's part. -/
theorem ev_part {o o' : Oper} {s : St} {r : Part} (hV : ∀ d, o'.dst = some d → d < 1000000) (hl : ∀ d, o'.dst = some d → d ∉ o.looksAt ops) : ∀ x, (x ∈ o.op.operands ∨ isV x = true) → (r.next o' s).ev x = match r.τ with | some τ => (s.ev x).un (some τ) | none => s.ev x := fun x hx => by
  cases x with
  | tmp t =>
    have hl' : (r.next o' s).look t = match r.τ with | some τ => (s.look t).un (some τ) | none => s.look t := by
      rw [Part.look, if_neg fun e => ?_]
      rcases hx with hx | hx
      · exact hl t e (tmp_mem hx)
      · have h1 := hV t e
        have h2 : 1000000 ≤ t := Nat.ble_eq ▸ hx
        exact absurd h1 (Nat.not_lt.2 h2)
    simp only [St.ev, hl']
    cases r.τ with
    | none => rfl
    | some τ =>
      cases Nat.blt t 1000000
      · exact fact_un _ _
      · rfl
  | const v =>
    cases r.τ with
    | none => rfl
    | some τ => simp only [St.ev, evC]; split <;> rfl
  | global g => cases r.τ <;> rfl
  | func f => cases r.τ <;> rfl
theorem wanted_part {o o' : Oper} {s : St} {r : Part} (hl : ∀ d, o'.dst = some d → d ∉ o.looksAt ops) : wantedS ops (r.next o' s) o = wantedS ops s o := by
  cases hτ : r.τ with
  | none => exact wanted_look fun t ht => by rw [Part.look, if_neg fun e => hl t e ht, hτ]
  | some τ =>
    rw [← wanted_un τ s o]
    exact wanted_look fun t ht => by rw [Part.look, if_neg fun e => hl t e ht, hτ, look_un]
theorem box_part {o' : Oper} {s : St} {r : Part} (hwf : Wf s) (hf : ∀ p, r.nb = some p → s.box p.1 = none) {x : Operand} {id : Nat} (hx : (s.ev x).isBox id = true) : s.box id = (r.next o' s).box id := by
  rw [Part.box]
  cases hr : r.nb with
  | none => rfl
  | some p =>
    simp only
    rw [if_neg]
    intro e
    have h5 : (s.box id).isSome = true := hwf.ev hx
    rw [← e, hf p hr] at h5
    cases h5

/-- The operation later in the text, done first. -/
theorem Does.earlier {i j : Nat} {oi oj : Oper} {s : St} {r q : Part} (hV : ∀ d, oi.dst = some d → d < 1000000) (hij : i < j ∨ r.τ = none) (hj : ops[j]? = some oj) (hwf : Wf s) (hap : oi.apart ops oj = true) (hr : Does P ops i oi s r) (hq : Does P ops j oj (r.next oi s) q) :
    ∃ q' : Part, q'.nb = q.nb ∧ q'.τ = q.τ ∧ (q.pv = match r.τ with | some τ => q'.pv.un (some τ) | none => q'.pv) ∧ Does P ops j oj s q' := by
  obtain ⟨a1, a2, a3⟩ := Oper.apart_spec hap
  have hev := ev_part (s := s) (r := r) hV a1
  have hwant := wanted_part (s := s) (r := r) a1
  have hfr := hr.fresh
  have hbox : ∀ id, (r.next oi s).box id = none → s.box id = none := fun id h => by
    rw [Part.box] at h
    cases hn : r.nb with
    | none => rw [hn] at h; exact h
    | some p =>
      rw [hn] at h
      simp only at h
      split at h
      · cases h
      · exact h
  have htau : ∀ τ, r.τ = some τ → oj.dst ≠ some τ := fun τ hτ => by
    rcases hr with ⟨_, h2, _⟩ | ⟨_, rfl⟩ | ⟨_, _, τ', h3, h4, _⟩
    · rw [h2] at hτ; cases hτ
    · cases hτ
    · have hij := hij.resolve_right fun e => by rw [h3] at e; cases e
      rw [h3] at hτ; injection hτ with hτ; subst hτ; exact h4 j oj hij hj
  rcases hq with ⟨h1, h2, h3, h4, h5⟩ | ⟨h1, rfl⟩ | ⟨h1, h2, σ, h3, h4, t, e, k, bytes, x, y, els, els2, hT, ho, hx, hy, hone, hb, hp⟩
  · -- it yields
    cases hτ : r.τ with
    | none =>
      rw [hτ] at hev
      refine ⟨q, rfl, rfl, rfl, .inl ⟨hwant ▸ h1, h2, h3.congr (fun x hx => (hev x hx).symm) (fun x hx id hid => ?_), fun p hp => hbox _ (h4 p hp), ptrOk_congr (fun x hx => (hev x hx).symm) h5⟩⟩
      rw [hev x hx] at hid
      exact (box_part hwf hfr hid).symm
    | some τ =>
      rw [hτ] at hev
      have hun : q.pv.un (some τ) = q.pv := (h3 []).2 τ (fun x hx => by
        show ((r.next oi s).ev x).un (some τ) = (r.next oi s).ev x
        rw [hev x hx]; exact PV.un_un τ _) (htau τ hτ)
      refine ⟨q, rfl, rfl, hun.symm, .inl ⟨hwant ▸ h1, h2, fun σs => ⟨(h3 σs).1.mono (fun x hx => ?_) (fun x hx id hid => ?_), fun σ hσ hd => (h3 σs).2 σ (fun x hx => ?_) hd⟩, fun p hp => hbox _ (h4 p hp), ptrOk_same (fun x hx id => ?_) h5⟩⟩
      · unfold unE
        rw [hev x hx]
        exact (PV.le_un τ _).unL σs
      · unfold unE at hid
        rw [unL_isBox, hev x hx] at hid
        exact (box_part hwf hfr (by rw [← un_isBox (some τ)]; exact hid)).symm
      · have := hσ x hx
        unfold unE at this ⊢
        rw [hev x hx]
        show (unL σs ((s.ev x).un (some τ))).un (some σ) = unL σs ((s.ev x).un (some τ))
        rw [← unL_un σs τ, PV.un_comm, this]
      · rw [hev x hx, un_isBox]
  · -- it is skipped
    refine ⟨⟨.tup [], none, none⟩, rfl, rfl, ?_, .inr (.inl ⟨hwant ▸ h1, rfl⟩)⟩
    cases r.τ <;> rfl
  · -- it appends
    have hxm : x ∈ oj.op.operands ∨ isV x = true := .inl (by rw [ho]; simp [Op.operands, Call.operands])
    have hym : y ∈ oj.op.operands ∨ isV y = true := .inl (by rw [ho]; simp [Op.operands, Call.operands])
    rw [hev x hxm] at hx
    rw [hev y hym] at hy
    cases hτ : r.τ with
    | none =>
      rw [hτ] at hx hy
      exact ⟨q, rfl, rfl, rfl, .inr (.inr ⟨hwant ▸ h1, h2, σ, h3, h4, t, e, k, bytes, x, y, els, els2, hT, ho, hx, hy, hone, hb, hp⟩)⟩
    | some τ =>
      rw [hτ] at hx hy
      simp only at hx hy
      have hne : Nat.beq τ σ = false ∧ (s.ev x = .s (.sl (some σ) (.front e) k els) ∨ (s.ev x = .s .nil ∧ els = [] ∧ oj.dst = some σ)) := by
        rcases hx with hx | ⟨hx, h6, h7⟩
        · generalize s.ev x = p at hx ⊢
          cases p with
          | s z =>
            cases z with
            | sl tag app k' els' =>
              simp only [PV.un] at hx
              rw [un_sl] at hx
              injection hx with hx
              injection hx with e1 e2 e3 e4
              subst e1 e3 e4
              simp only [unT] at e2
              cases hbq : Nat.beq τ σ with
              | true => rw [hbq] at e2; cases app <;> cases e2
              | false =>
                rw [hbq] at e2
                simp only [cond_false] at e2
                subst e2
                exact ⟨rfl, .inl rfl⟩
            | v u => injection hx with hx; cases hx
            | nil => injection hx with hx; cases hx
            | nsl => injection hx with hx; cases hx
            | ag => injection hx with hx; cases hx
          | _ => cases hx
        · refine ⟨?_, .inr ⟨?_, h6, h7⟩⟩
          · have := htau τ hτ
            rw [h7] at this
            rw [← Bool.not_eq_true, Nat.beq_eq]
            exact fun e => this (by rw [e])
          · generalize s.ev x = p at hx ⊢
            cases p with
            | s z =>
              cases z with
              | sl tag app k' els' => simp only [PV.un] at hx; rw [un_sl] at hx; injection hx with hx; cases hx
              | v u => injection hx with hx; cases hx
              | nil => rfl
              | nsl => injection hx with hx; cases hx
              | ag => injection hx with hx; cases hx
            | _ => cases hx
      refine ⟨q, rfl, rfl, ?_, .inr (.inr ⟨hwant ▸ h1, h2, σ, h3, h4, t, e, k, bytes, x, y, els, els2, hT, ho, hne.2, hy.of_un, hone, hb, hp⟩)⟩
      show q.pv = q.pv.un (some τ)
      rw [hp]
      refine congrArg PV.s ?_
      rw [un_sl]
      simp only [unT, hne.1, cond_false]

/-- The operation earlier in the text, done behind it. -/
theorem Does.later {i j : Nat} {oi oj : Oper} {s : St} {r q' : Part} (hV : ∀ d, oj.dst = some d → d < 1000000) (hwf : Wf s) (hap : oi.apart ops oj = true) (hr : Does P ops i oi s r) (hq : Does P ops j oj s q') (hb : ∀ p p', q'.nb = some p → r.nb = some p' → p.1 ≠ p'.1)
    (hστ : ∀ σ τ, q'.τ = some σ → r.τ = some τ → σ ≠ τ) : ∃ r' : Part, r'.nb = r.nb ∧ r'.τ = r.τ ∧ (r'.pv = match q'.τ with | some τ => r.pv.un (some τ) | none => r.pv) ∧ Does P ops i oi (q'.next oj s) r' := by
  obtain ⟨a1, a2, a3⟩ := Oper.apart_spec hap
  have hev := ev_part (s := s) (r := q') hV a3
  have hwant := wanted_part (s := s) (r := q') a3
  have hfq := hq.fresh
  have hbox : ∀ p, r.nb = some p → s.box p.1 = none → (q'.next oj s).box p.1 = none := fun p hp h => by
    rw [Part.box]
    cases hn : q'.nb with
    | none => exact h
    | some p' =>
      simp only
      rw [if_neg (hb p' p hn hp)]
      exact h
  rcases hr with ⟨h1, h2, h3, h4, h5⟩ | ⟨h1, rfl⟩ | ⟨h1, h2, τ, h3, h4, t, e, k, bytes, x, y, els, els2, hT, ho, hx, hy, hone, hb', hp⟩
  · cases hσ : q'.τ with
    | none =>
      rw [hσ] at hev
      exact ⟨r, rfl, rfl, rfl, .inl ⟨hwant.trans h1, h2, h3.congr hev (fun x hx id hid => box_part hwf hfq hid), fun p hp => hbox p hp (h4 p hp), ptrOk_congr hev h5⟩⟩
    | some σ =>
      rw [hσ] at hev
      refine ⟨⟨r.pv.un (some σ), r.nb, r.τ⟩, rfl, rfl, rfl, .inl ⟨hwant.trans h1, h2, fun σs => ⟨?_, fun ρ hρ hd => ?_⟩, fun p hp => hbox p hp (h4 p hp), ptrOk_un (fun x hx id => by rw [hev x hx, un_isBox]) h5⟩⟩
      · refine (h3 (σ :: σs)).1.congr (fun x hx => ?_) (fun x hx id hid => box_part hwf hfq (by rw [← unL_isBox (σ :: σs)]; exact hid))
        unfold unE
        rw [hev x hx]
        rfl
      · refine (h3 (σ :: σs)).2 ρ (fun x hx => ?_) hd
        have := hρ x hx
        unfold unE at this
        rw [hev x hx] at this
        exact this
  · refine ⟨⟨.tup [], none, none⟩, rfl, rfl, ?_, .inr (.inl ⟨hwant.trans h1, rfl⟩)⟩
    cases q'.τ <;> rfl
  · have hxm : x ∈ oi.op.operands ∨ isV x = true := .inl (by rw [ho]; simp [Op.operands, Call.operands])
    have hym : y ∈ oi.op.operands ∨ isV y = true := .inl (by rw [ho]; simp [Op.operands, Call.operands])
    have hevx := hev x hxm
    have hevy := hev y hym
    cases hσ : q'.τ with
    | none =>
      rw [hσ] at hevx hevy
      exact ⟨r, rfl, rfl, rfl, .inr (.inr ⟨hwant.trans h1, h2, τ, h3, h4, t, e, k, bytes, x, y, els, els2, hT, ho, by rw [hevx]; exact hx, by rw [hevy]; exact hy, hone, hb', hp⟩)⟩
    | some σ =>
      rw [hσ] at hevx hevy
      have hne : Nat.beq σ τ = false := by
        rw [← Bool.not_eq_true, Nat.beq_eq]
        exact hστ σ τ hσ h3
      refine ⟨r, rfl, rfl, ?_, .inr (.inr ⟨hwant.trans h1, h2, τ, h3, h4, t, e, k, bytes, x, y, els, els2, hT, ho, ?_, by rw [hevy]; exact hy.un, hone, hb', hp⟩)⟩
      · show r.pv = r.pv.un (some σ)
        rw [hp]
        refine congrArg PV.s ?_
        rw [un_sl]
        simp only [unT, hne, cond_false]
      · rw [hevx]
        rcases hx with hx | ⟨hx, h6, h7⟩
        · refine .inl ?_
          rw [hx]
          refine congrArg PV.s ?_
          rw [un_sl]
          simp only [unT, hne, cond_false]
        · exact .inr ⟨by rw [hx]; rfl, h6, h7⟩

theorem StepA.swap {i j : Nat} {oi oj : Oper} {s : St} {Kn : St → Prop} (hVi : ∀ d, oi.dst = some d → d < 1000000) (hVj : ∀ d, oj.dst = some d → d < 1000000) (hij : i < j) (hj : ops[j]? = some oj) (hwf : Wf s) (hap : oi.apart ops oj = true) (hei : isEff ops oi = false) (hej : isEff ops oj = false) (hKn : ∀ s1 s1', Eqv s1 s1' → Kn s1 → Kn s1')
    (h : StepA P ops i oi s (fun s1 => StepA P ops j oj s1 Kn)) : StepA P ops j oj s (fun s2 => Wf s2 ∧ StepA P ops i oi s2 Kn) := by
  obtain ⟨a1, a2, a3⟩ := Oper.apart_spec hap
  obtain ⟨r, hr, h1⟩ := h.does hei
  obtain ⟨q, hq, hk⟩ := h1.does hej
  obtain ⟨q', e1, e2, e3, hq'⟩ := Does.earlier hVi (.inl hij) hj hwf hap hr hq
  have hb : ∀ p p', q.nb = some p → r.nb = some p' → p.1 ≠ p'.1 := fun p p' hp hp' e => by
    have := hq.fresh p hp
    rw [Part.box, hp'] at this
    simp [e] at this
  have hστ : ∀ σ τ, q'.τ = some σ → r.τ = some τ → σ ≠ τ := fun σ τ hσ hτ e => by
    subst e
    rw [e2] at hσ
    rcases hq with ⟨_, h2, _⟩ | ⟨_, rfl⟩ | ⟨_, h2, σ', h3, h4, t, e, k, bytes, x, y, els, els2, hT, ho, hx, hy, hone, hb, hp⟩
    · rw [h2] at hσ; cases hσ
    · cases hσ
    · rw [h3] at hσ
      injection hσ with hσ
      subst hσ
      have hxm : x ∈ oj.op.operands ∨ isV x = true := .inl (by rw [ho]; simp [Op.operands, Call.operands])
      rw [ev_part (s := s) (r := r) hVi a1 x hxm, hτ] at hx
      simp only at hx
      rcases hx with hx | ⟨hx, h6, h7⟩
      · generalize s.ev x = p at hx
        cases p with
        | s z =>
          cases z with
          | sl tag app k' els' =>
            simp only [PV.un] at hx
            rw [un_sl] at hx
            injection hx with hx
            injection hx with e1 e2 e3 e4
            subst e1
            simp only [unT, Nat.beq_refl, cond_true] at e2
            cases app <;> cases e2
          | v u => injection hx with hx; cases hx
          | nil => injection hx with hx; cases hx
          | nsl => injection hx with hx; cases hx
          | ag => injection hx with hx; cases hx
        | _ => cases hx
      · rcases hr with ⟨_, g2, _⟩ | ⟨_, rfl⟩ | ⟨_, _, τ', g3, g4, _⟩
        · rw [g2] at hτ; cases hτ
        · cases hτ
        · rw [g3] at hτ
          injection hτ with hτ
          subst hτ
          exact g4 j oj hij hj h7
  obtain ⟨r', f1, f2, f3, hr'⟩ := Does.later hVj hwf hap hr hq' (by rw [e1]; exact hb) hστ
  refine hq'.step hej ⟨hq'.wf hwf, hr'.step hei (hKn _ _ (Part.comm a2 hb f1 e1 f2 e2 ?_ e3) hk)⟩
  rw [f3, e2]

theorem AnyA.first {i : Nat} {oi : Oper} (hV : ∀ (i : Nat) (o : Oper), ops[i]? = some o → ∀ d, o.dst = some d → d < 1000000) (hi : ops[i]? = some oi) (hK : ∀ s s', Eqv s s' → K s → K s') (hei : isEff ops oi = false) :
    ∀ (D : Nat → Bool), (∀ j oj, ops[j]? = some oj → D j = true → ∃ e ∈ oj.after, Region.binds md e = true ∧ (e.on = i ∨ D e.on = true)) → ∀ (fuel : Nat) (listed : Array Bool) (s : St), Wf s → (∀ j, D j = true → listed.getD j true = false) → (∀ j, j < i → listed.getD j true = true) →
      (∀ j oj, ops[j]? = some oj → j ≠ i → listed.getD j true = false → D j = false → oi.apart ops oj = true ∧ isEff ops oj = false) →
      i ∈ Region.ready md ops listed → StepA P ops i oi s (AnyA P md ops K fuel (listed.setIfInBounds i true)) → AnyA P md ops K (fuel + 1) listed s := by
  intro D hD fuel
  induction fuel with
  | zero =>
    intro listed s _ _ _ _ hr H
    refine ⟨fun h => (by rw [h] at hr; cases hr), fun j hj => ?_⟩
    by_cases hji : j = i
    · subst hji; rw [hi]; exact H
    · have := ready_mono hj hji
      obtain ⟨s1, h1⟩ := H.ex hei
      rw [h1.1] at this
      cases this
  | succ fuel ih =>
    intro listed s hwf hun0 hbelow hfree hr H
    refine ⟨fun h => (by rw [h] at hr; cases hr), fun j hj => ?_⟩
    by_cases hji : j = i
    · subst hji; rw [hi]; exact H
    · obtain ⟨hjun, oj, hoj, hall⟩ := mem_ready.1 hj
      have hij : i < j := by
        rcases Nat.lt_or_ge j i with h' | h'
        · rw [hbelow j h'] at hjun; cases hjun
        · omega
      rw [hoj]
      simp only
      have hlisted : ∀ e ∈ oj.after, Region.binds md e = true → listed.getD e.on true = true := fun e he hb => by
        have h1 := hall e he hb
        rcases Nat.lt_or_ge e.on listed.size with h' | h'
        · simp [h'] at h1 ⊢; exact h1
        · simp [Array.getElem?_eq_none h'] at h1
      have hDj : D j = false := by
        cases hd : D j with
        | false => rfl
        | true =>
          obtain ⟨e, he, hb, h3⟩ := hD j oj hoj hd
          have h4 := hlisted e he hb
          rcases h3 with h3 | h3
          · rw [h3, (mem_ready.1 hr).1] at h4; cases h4
          · rw [hun0 _ h3] at h4; cases h4
      obtain ⟨hap, hej⟩ := hfree j oj hoj hji hjun hDj
      have H2 : StepA P ops i oi s (fun s1 => StepA P ops j oj s1 (AnyA P md ops K fuel ((listed.setIfInBounds i true).setIfInBounds j true))) := H.mono fun s1 h1 => by
        have h2 := h1.2 j (ready_mono hj hji)
        rw [hoj] at h2
        exact h2
      have hfree' : ∀ k ok, ops[k]? = some ok → k ≠ i → (listed.setIfInBounds j true).getD k true = false →
          D k = false → oi.apart ops ok = true ∧ isEff ops ok = false := fun k ok hk hki hun hno => by
        refine hfree k ok hk hki ?_ hno
        by_cases hjk : j = k
        · subst hjk; exact hjun
        · rw [getD_set_ne true hjk] at hun; exact hun
      refine (StepA.swap (hV i oi hi) (hV j oj hoj) hij hoj hwf hap hei hej (AnyA.eqv hK _ _) H2).mono fun s2 h3 => ih (listed.setIfInBounds j true) s2 h3.1 (fun k hk => ?_) (fun k hk => ?_) hfree' (ready_mono hr (Ne.symm hji)) ?_
      · have hkj : j ≠ k := fun e => by subst e; rw [hDj] at hk; cases hk
        rw [getD_set_ne true hkj]; exact hun0 k hk
      · rw [getD_set_ne true (by omega)]; exact hbelow k hk
      · rw [Array.setIfInBounds_comm _ _ hji]
        exact h3.2

/-- What waits for the i-th operation, directly or not. -/
def descGo (md : Region.Mode) (i : Nat) : List Oper → Nat → List Bool → List Bool
  | [], _, acc => acc
  | o :: l, k, acc => descGo md i l (k + 1) (acc ++ [Nat.blt i k && o.after.any (fun e => Region.binds md e && (Nat.beq e.on i || acc.getD e.on false))])
/-- Whatever has not come up yet waits for the i-th operation, or is apart from it and neither writes. -/
def freeJ (md : Region.Mode) (ops : Array Oper) (listed : Array Bool) (i : Nat) (oi : Oper) (D : List Bool) (j : Nat) : Bool :=
  match ops[j]? with
  | none => !D.getD j false
  | some oj => bif D.getD j false then !listed.getD j true && oj.after.any (fun e => Region.binds md e && (Nat.beq e.on i || D.getD e.on false))
      else Nat.beq j i || listed.getD j true || (!isEff ops oi && !isEff ops oj && oi.apart ops oj)
def freeA (md : Region.Mode) (ops : Array Oper) (listed : Array Bool) (i : Nat) : Bool :=
  match ops[i]? with
  | none => false
  | some oi => (List.range ops.size).all (freeJ md ops listed i oi (descGo md i ops.toList 0 [])) && Nat.beq (descGo md i ops.toList 0 []).length ops.size
theorem freeA_spec {listed : Array Bool} {i : Nat} {oi : Oper} (hi : ops[i]? = some oi) (h : freeA md ops listed i = true) : ∃ D : Nat → Bool,
    (∀ j oj, ops[j]? = some oj → D j = true → ∃ e ∈ oj.after, Region.binds md e = true ∧ (e.on = i ∨ D e.on = true)) ∧ (∀ j, D j = true → listed.getD j true = false) ∧
    (∀ j oj, ops[j]? = some oj → j ≠ i → listed.getD j true = false → D j = false → (isEff ops oi = false ∧ isEff ops oj = false) ∧ oi.apart ops oj = true) := by
  unfold freeA at h
  rw [hi] at h
  simp only [Bool.and_eq_true, List.all_eq_true] at h
  obtain ⟨h, hlen⟩ := h
  have hlen : (descGo md i ops.toList 0 []).length = ops.size := Nat.beq_eq ▸ hlen
  generalize descGo md i ops.toList 0 [] = D at *
  refine ⟨fun j => D.getD j false, fun j oj hj hd => ?_, fun j hd => ?_, fun j oj hj hji hun hd => ?_⟩
  · have h1 := h j (List.mem_range.2 (Array.getElem?_eq_some_iff.1 hj).1)
    unfold freeJ at h1
    simp only at hd
    rw [hj, hd] at h1
    simp only [cond_true, Bool.and_eq_true] at h1
    have h2 := h1.2
    rw [← Array.any_toList, List.any_eq_true] at h2
    obtain ⟨e, he, h3⟩ := h2
    simp only [Bool.and_eq_true, Bool.or_eq_true] at h3
    exact ⟨e, Array.mem_toList_iff.1 he, h3.1, h3.2.imp (fun h => Nat.beq_eq ▸ h) id⟩
  · simp only at hd
    have hjs : j < ops.size := by
      rcases Nat.lt_or_ge j ops.size with h' | h'
      · exact h'
      · rw [List.getD_eq_getElem?_getD, List.getElem?_eq_none (by omega)] at hd
        cases hd
    have h1 := h j (List.mem_range.2 hjs)
    unfold freeJ at h1
    rw [Array.getElem?_eq_getElem hjs, hd] at h1
    simp only [cond_true, Bool.and_eq_true, Bool.not_eq_true'] at h1
    exact h1.1
  · have h1 := h j (List.mem_range.2 (Array.getElem?_eq_some_iff.1 hj).1)
    unfold freeJ at h1
    simp only at hd
    rw [hj, hd, hun] at h1
    simp only [cond_false, Bool.or_eq_true, Bool.and_eq_true, Bool.not_eq_true'] at h1
    rcases h1 with (h1 | h1) | h1
    · exact absurd (Nat.beq_eq ▸ h1) hji
    · cases h1
    · exact h1
def lexA (md : Region.Mode) (ops : Array Oper) : Nat → Nat → Array Bool → Bool
  | 0, _, listed => (Region.ready md ops listed).isEmpty
  | fuel + 1, k, listed => (Region.ready md ops listed).contains k && freeA md ops listed k && lexA md ops fuel (k + 1) (listed.setIfInBounds k true)

theorem After.of {k : Nat} {rest : List Oper} {τ : Nat} (hl : ∀ j, rest[j]? = ops[k + 1 + j]?) (h : notDst τ rest = true) : After ops k τ := fun j oj hij hj hd => by
  have h1 : rest[j - (k + 1)]? = some oj := by rw [hl, show k + 1 + (j - (k + 1)) = j by omega]; exact hj
  have h2 := List.all_eq_true.1 h oj (List.mem_of_getElem? h1)
  rw [hd] at h2
  simp at h2
theorem AnyA.lex (hV : ∀ (i : Nat) (o : Oper), ops[i]? = some o → ∀ d, o.dst = some d → d < 1000000) (hK : ∀ s s', Eqv s s' → K s → K s') : ∀ {l : List Oper} {s : St}, Run true P ops K l s → ∀ (k : Nat) (listed : Array Bool), Wf s → (∀ j, j < k → listed.getD j true = true) → (∀ j, l[j]? = ops[k + j]?) → lexA md ops l.length k listed = true → AnyA P md ops K l.length listed s := by
  intro l s h
  -- one step of the text
  have step : ∀ {o : Oper} {rest : List Oper} {s : St} (k : Nat) (listed : Array Bool), isEff ops o = false → Wf s → (∀ j, j < k → listed.getD j true = true) → (∀ j, (o :: rest)[j]? = ops[k + j]?) → lexA md ops (o :: rest).length k listed = true →
      (lexA md ops rest.length (k + 1) (listed.setIfInBounds k true) = true → (∀ j, j < k + 1 → (listed.setIfInBounds k true).getD j true = true) → (∀ j, rest[j]? = ops[k + 1 + j]?) → StepA P ops k o s (AnyA P md ops K rest.length (listed.setIfInBounds k true))) → AnyA P md ops K (o :: rest).length listed s := by
    intro o rest s k listed he hwf hbl hl hB hst
    have h0 : ops[k]? = some o := by simpa using (hl 0).symm
    have hl' : ∀ j, rest[j]? = ops[k + 1 + j]? := fun j => by have := hl (j + 1); simpa [Nat.add_assoc, Nat.add_comm 1 j] using this
    simp only [List.length_cons, lexA, Bool.and_eq_true] at hB
    obtain ⟨⟨hr, hfr⟩, hB'⟩ := hB
    obtain ⟨D, d1, d2, d3⟩ := freeA_spec h0 hfr
    refine AnyA.first hV h0 hK he D d1 rest.length listed s hwf d2 hbl (fun j oj hj hji hun hno => ?_) (by simpa using hr) (hst hB' (fun j hj => ?_) hl')
    · have := d3 j oj hj hji hun hno
      exact ⟨this.2, this.1.2⟩
    · by_cases hjk : k = j
      · subst hjk
        rcases Nat.lt_or_ge k listed.size with h' | h'
        · simp [h']
        · simp
      · rw [getD_set_ne true hjk]; exact hbl j (by omega)
  induction h with
  | nil hk => intro k listed _ _ _ hB; exact ⟨by simpa [lexA] using hB, hk⟩
  | @val o rest s pv nb hw hv hf hp he _ ih =>
    intro k listed hwf hbl hl hB
    exact step k listed he hwf hbl hl hB fun hB' hbl' hl' => .inl ⟨pv, nb, hw, he, hv, fun p hp => (fresh_of hf p hp).1, hp, ih (k + 1) _ (hwf.put hp) hbl' hl' hB'⟩
  | @skip o rest s hw he _ ih =>
    intro k listed hwf hbl hl hB
    exact step k listed he hwf hbl hl hB fun hB' hbl' hl' => .inr (.inl ⟨hw, he, ih (k + 1) _ (hwf.put (o := o) (nb := none) rfl) hbl' hl' hB'⟩)
  | @app o rest s s1 hw he ha _ ih =>
    intro k listed hwf hbl hl hB
    exact step k listed he hwf hbl hl hB fun hB' hbl' hl' => .inr (.inr (.inl ⟨hw, he, s1, ha.mono (fun τ hτ => After.of hl' hτ), ih (k + 1) _ (hwf.app ha) hbl' hl' hB'⟩))
  | @weak l s S hd _ _ _ => cases hd
  | @effI o rest s S hd _ _ _ _ => cases hd
  | @eff o rest s S hw hv he0 _ ih =>
    intro k listed hwf hbl hl hB
    obtain ⟨he, hw1⟩ := he0 rfl
    have h0 : ops[k]? = some o := by simpa using (hl 0).symm
    simp only [List.length_cons, lexA, Bool.and_eq_true] at hB
    obtain ⟨⟨hr, hfr⟩, hB'⟩ := hB
    have hr' : k ∈ Region.ready md ops listed := by simpa using hr
    have IH := fun s1 hs1 => ih s1 hs1 (k + 1) (listed.setIfInBounds k true) ((hw1 s1 hs1).1 hwf) (fun j hj => by
      by_cases hjk : k = j
      · subst hjk
        rcases Nat.lt_or_ge k listed.size with h' | h'
        · simp [h']
        · simp
      · rw [getD_set_ne true hjk]; exact hbl j (by omega)) (fun j => by have := hl (j + 1); simpa [Nat.add_assoc, Nat.add_comm 1 j] using this) hB'
    refine ⟨fun h => (by rw [h] at hr'; cases hr'), fun j hj => ?_⟩
    by_cases hjk : j = k
    · subst hjk
      rw [h0]
      exact .inr (.inr (.inr ⟨hw, he, S, hw1, hv.toR, IH⟩))
    · exfalso
      obtain ⟨hjun, oj, hoj, hall⟩ := mem_ready.1 hj
      obtain ⟨D, d1, d2, d3⟩ := freeA_spec h0 hfr
      cases hd : D j with
      | false =>
        have := (d3 j oj hoj hjk hjun hd).1.1
        rw [he] at this
        cases this
      | true =>
        obtain ⟨e, he', hb, h3⟩ := d1 j oj hoj hd
        have h4 : listed.getD e.on true = true := by
          have h1 := hall e he' hb
          rcases Nat.lt_or_ge e.on listed.size with h' | h'
          · simp [h'] at h1 ⊢; exact h1
          · simp [Array.getElem?_eq_none h'] at h1
        rcases h3 with h3 | h3
        · rw [h3, (mem_ready.1 hr').1] at h4; cases h4
        · rw [d2 _ h3] at h4; cases h4
  | @eqv l s s1 h _ ih =>
    intro k listed hwf hbl hl hB
    exact AnyA.eqv hK _ _ _ _ h.symm (ih k listed (h.wf hwf) hbl hl hB)

/-- Every pointer of the state's list points to a box that is known. -/
def knownB (s : St) : PV → Bool
  | .box id _ => (s.box id).isSome
  | .bsl id _ _ _ => (s.box id).isSome
  | .hs _ id _ _ _ => (s.box id).isSome
  | .hb _ id _ => (s.box id).isSome
  | .clo _ caps => caps.all fun c => (s.box c.1).isSome
  | _ => true
def wfB (s : St) : Bool := s.env.all fun p => knownB s p.2
theorem wf_of {s : St} (h : wfB s = true) : Wf s := by
  have key : ∀ (l : List (Nat × PV)), (∀ p ∈ l, knownB s p.2 = true) → ∀ t id, (look l t).isBox id = true → (s.box id).isSome = true := by
    intro l
    induction l with
    | nil => intro _ t id ht; cases ht
    | cons p l ih =>
      intro hl t id ht
      obtain ⟨d, q⟩ := p
      rw [look_put] at ht
      split at ht
      · have h0 := hl _ (List.mem_cons_self ..)
        simp only at h0
        cases q with
        | box id' off => rw [← Nat.eq_of_beq_eq_true ht]; exact h0
        | bsl id' off k n => rw [← Nat.eq_of_beq_eq_true ht]; exact h0
        | hs v id' off k n => rw [← Nat.eq_of_beq_eq_true ht]; exact h0
        | hb v id' off => rw [← Nat.eq_of_beq_eq_true ht]; exact h0
        | clo f caps =>
          obtain ⟨c, hc, hb⟩ := List.any_eq_true.1 ht
          rw [← Nat.eq_of_beq_eq_true hb]
          exact List.all_eq_true.1 h0 c hc
        | _ => cases ht
      · exact ih (fun p hp => hl p (List.mem_cons_of_mem _ hp)) t id ht
  exact key s.env (List.all_eq_true.1 h)
theorem Run.mono {dr : Bool} {K' : St → Prop} (hK : ∀ s, K s → K' s) {l : List Oper} {s : St} (h : Run dr P ops K l s) : Run dr P ops K' l s := by
  induction h with
  | nil hk => exact .nil (hK _ hk)
  | val hw h hf hp he _ ih => exact .val hw h hf hp he ih
  | skip hw he _ ih => exact .skip hw he ih
  | app hw he h _ ih => exact .app hw he h ih
  | eff hw h he _ ih => exact .eff hw h he ih
  | effI hd hw h _ ih => exact .effI hd hw h ih
  | eqv h _ ih => exact .eqv h ih
  | weak hd h _ ih => exact .weak hd h ih

theorem Wt.regionD {w0 : Base} {n : Nat} {s : St} {N R : St → Prop} {X : Nat → St → Prop} {i : Nat} {l : List Oper} (hm : P.follows .mixedOrders = true) (hB : lexA .any l.toArray l.toArray.size 0 (Array.replicate l.toArray.size false) = true) (hd : dstsOk n l = true) (hw : wfB s = true)
    (h : RunK true P l.toArray l s N) : Wt P w0 n (.region i l.toArray true) s N R X := fun a w hr => by
  refine wp_region_any hm ?_
  have hr' : RS w0 n s a { w with drawn := w.drawn + 1 } := by
    obtain ⟨T, F, ρ, hx⟩ := hr
    obtain ⟨hg, hE⟩ := Goes.of_below (T := T) (F := F) (w := w) (w' := { w with drawn := w.drawn + 1 }) ⟨rfl, rfl, rfl, Nat.le_refl _, fun _ _ => rfl⟩ (fun _ _ => ⟨rfl, rfl⟩)
    exact ⟨T, F, ρ, hx.defers, hx.size, hx.small, hx.below.drew, hx.ext, fun t => (hx.env t).goes0 hg hE (fun _ _ => rfl), fun id cs hc => hx.boxes id cs hc⟩
  have hsm : n ≤ 1000000 := by obtain ⟨T, F, ρ, hx⟩ := hr; exact hx.small
  have hdn : ∀ (i : Nat) (o : Oper), l.toArray[i]? = some o → ∀ d, o.dst = some d → d < n := fun i o ho d hd' => by
    have hmem : o ∈ l := by
      have : l[i]? = some o := by simpa using ho
      exact List.mem_of_getElem? this
    have := List.all_eq_true.1 hd o hmem
    rw [hd', Bool.and_eq_true] at this
    exact (Nat.blt_eq ▸ this.1)
  have hA := AnyA.lex (P := P) (md := .any) (K := fun s => ∀ a w, RS w0 n s a w → ∃ s', N s' ∧ RS w0 n s' a w) (fun i o ho d hd' => Nat.lt_of_lt_of_le (hdn i o ho d hd') hsm) (fun s s' he hk a w hr => hk a w (he.symm.rs hr)) (Run.mono (fun s' h2 a w hr => ⟨s', h2, hr⟩) h) 0 (Array.replicate l.toArray.size false) (wf_of hw) (fun j hj => absurd hj (by omega)) (by simp) (by simpa using hB)
  have := wpAny_of_A (w0 := w0) (n := n) (Q := Post w0 n N R X) hdn (fun s hk a w hr => hk a w hr) l.length (Array.replicate l.toArray.size false) s (wf_of hw) hA a _ hr'
  simpa using this
end
end Go.Proofs.Ytfacimebfdeaeaa.Pv
