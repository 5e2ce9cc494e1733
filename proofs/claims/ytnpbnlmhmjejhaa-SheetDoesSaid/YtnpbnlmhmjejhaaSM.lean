/- A sheet as the list of its cells: what the methods say, in plain words. No program. -/
import Derived.Test.YtnpbnlmhmjejhaaSK
namespace Go.Proofs.Ytnpbnlmhmjejhaa
open Pv Go.RowKit Go.Shelf
def stepP (c : Cell) (s : List Cell × Bool) (x : Cell) : List Cell × Bool :=
  if x.at_ = c.at_ then (if s.2 = false ∧ lessR c.at_ x.at_ = true then (s.1 ++ [c], true) else s)
  else ((if s.2 = false ∧ lessR c.at_ x.at_ = true then (s.1 ++ [c], true) else s).1 ++ [x], (if s.2 = false ∧ lessR c.at_ x.at_ = true then (s.1 ++ [c], true) else s).2)
def putE (c : Cell) (s : List Cell × Bool) : List Cell := if s.2 = true then s.1 else s.1 ++ [c]
def putL (L : List Cell) (c : Cell) : List Cell := putE c (L.foldl (stepP c) ([], decide (c.v.kind = 0)))
def goP (c : Cell) : Bool → List Cell → List Cell
  | done, [] => if done = true then [] else [c]
  | done, x :: l => (if done = false ∧ lessR c.at_ x.at_ = true then [c] else []) ++ (if x.at_ = c.at_ then [] else [x]) ++ goP c (if done = false ∧ lessR c.at_ x.at_ = true then true else done) l
set_option maxRecDepth 100000 in
theorem fold_goP (c : Cell) : ∀ (l : List Cell) (s : List Cell × Bool), putE c (l.foldl (stepP c) s) = s.1 ++ goP c s.2 l
  | [], s => by
    rw [List.foldl_nil]; unfold putE goP
    cases s.2 <;> simp
  | x :: l, s => by
    rw [List.foldl_cons, fold_goP c l, goP]
    unfold stepP
    by_cases h1 : s.2 = false ∧ lessR c.at_ x.at_ = true
    · by_cases h2 : x.at_ = c.at_
      · simp [if_pos h1, if_pos h2]
      · simp [if_pos h1, if_neg h2]
    · by_cases h2 : x.at_ = c.at_
      · simp [if_neg h1, if_pos h2]
      · simp [if_neg h1, if_neg h2]
set_option maxRecDepth 100000 in
theorem putL_go (L : List Cell) (c : Cell) : putL L c = goP c (decide (c.v.kind = 0)) L := by
  unfold putL
  rw [fold_goP, List.nil_append]
set_option maxRecDepth 100000 in
theorem mem_goP (c y : Cell) : ∀ (done : Bool) (l : List Cell), y ∈ goP c done l ↔ (y ∈ l ∧ y.at_ ≠ c.at_) ∨ (done = false ∧ y = c)
  | done, [] => by cases done <;> simp [goP]
  | done, x :: l => by
    rw [goP, List.mem_append, List.mem_append, mem_goP c y _ l]
    generalize lessR c.at_ x.at_ = r
    by_cases hy : y = x
    · subst hy
      cases done <;> cases r <;> by_cases h2 : y.at_ = c.at_ <;> simp [h2]
    · by_cases hc : y = c
      · subst hc
        cases done <;> cases r <;> by_cases h2 : x.at_ = y.at_ <;> simp [h2, hy]
      · cases done <;> cases r <;> by_cases h2 : x.at_ = c.at_ <;> simp [h2, hy, hc]
set_option maxRecDepth 100000 in
theorem mem_putL {L : List Cell} {c y : Cell} : y ∈ putL L c ↔ (y ∈ L ∧ y.at_ ≠ c.at_) ∨ (c.v.kind ≠ 0 ∧ y = c) := by
  rw [putL_go, mem_goP, decide_eq_false_iff_not]
def Srt (L : List Cell) : Prop := L.Pairwise fun a b => lessR a.at_ b.at_ = true
set_option maxRecDepth 100000 in
theorem less_irr (a : Ref) : ¬lessR a a = true := by rw [lessR_iff]; omega
set_option maxRecDepth 100000 in
theorem less_trans {a b c : Ref} (h1 : lessR a b = true) (h2 : lessR b c = true) : lessR a c = true := by rw [lessR_iff] at *; omega
set_option maxRecDepth 100000 in
theorem less_tot {a b : Ref} (h : a ≠ b) (h1 : ¬lessR a b = true) : lessR b a = true := by
  rcases a with ⟨a1, a2⟩; rcases b with ⟨b1, b2⟩
  simp only [lessR_iff] at h1 ⊢
  have : ¬(a1 = b1 ∧ a2 = b2) := fun e => h (by rw [e.1, e.2])
  omega
set_option maxRecDepth 100000 in
theorem srt_goP (c : Cell) : ∀ (done : Bool) (l : List Cell), Srt l → Srt (goP c done l)
  | done, [], _ => by unfold goP; cases done <;> simp [Srt]
  | done, x :: l, h => by
    obtain ⟨h1, h2⟩ := List.pairwise_cons.1 h
    have ih := fun d => srt_goP c d l h2
    rw [goP]
    by_cases h3 : done = false ∧ lessR c.at_ x.at_ = true
    · have hne : x.at_ ≠ c.at_ := fun e => less_irr c.at_ (by have := h3.2; rwa [e] at this)
      rw [if_pos h3, if_neg hne, if_pos h3]
      refine List.pairwise_cons.2 ⟨fun y hy => ?_, List.pairwise_cons.2 ⟨fun y hy => ?_, ih true⟩⟩
      · rcases List.mem_cons.1 hy with rfl | hy
        · exact h3.2
        · rcases (mem_goP c y true l).1 hy with ⟨h4, _⟩ | ⟨h4, _⟩
          · exact less_trans h3.2 (h1 y h4)
          · cases h4
      · rcases (mem_goP c y true l).1 hy with ⟨h4, _⟩ | ⟨h4, _⟩
        · exact h1 y h4
        · cases h4
    · rw [if_neg h3, if_neg h3, List.nil_append]
      by_cases h4 : x.at_ = c.at_
      · rw [if_pos h4, List.nil_append]; exact ih done
      · rw [if_neg h4]
        refine List.pairwise_cons.2 ⟨fun y hy => ?_, ih done⟩
        rcases (mem_goP c y done l).1 hy with ⟨h5, _⟩ | ⟨h5, rfl⟩
        · exact h1 y h5
        · exact less_tot (Ne.symm h4) fun h6 => h3 ⟨h5, h6⟩
set_option maxRecDepth 100000 in
theorem srt_putL {L : List Cell} (h : Srt L) (c : Cell) : Srt (putL L c) := by rw [putL_go]; exact srt_goP c _ L h
set_option maxRecDepth 100000 in
theorem srt_ext : ∀ {A B : List Cell}, Srt A → Srt B → (∀ y, y ∈ A ↔ y ∈ B) → A = B
  | [], [], _, _, _ => rfl
  | [], b :: B, _, _, h => by have := (h b).2 (List.mem_cons_self ..); cases this
  | a :: A, [], _, _, h => by have := (h a).1 (List.mem_cons_self ..); cases this
  | a :: A, b :: B, hA, hB, h => by
    obtain ⟨a1, a2⟩ := List.pairwise_cons.1 hA
    obtain ⟨b1, b2⟩ := List.pairwise_cons.1 hB
    have hab : a = b := by
      rcases List.mem_cons.1 ((h a).1 (List.mem_cons_self ..)) with e | e
      · exact e
      · rcases List.mem_cons.1 ((h b).2 (List.mem_cons_self ..)) with e' | e'
        · exact e'.symm
        · exact absurd (less_trans (a1 b e') (b1 a e)) (less_irr _)
    subst hab
    congr 1
    refine srt_ext a2 b2 fun y => ⟨fun hy => ?_, fun hy => ?_⟩
    · rcases List.mem_cons.1 ((h y).1 (List.mem_cons_of_mem _ hy)) with e | e
      · subst e; exact absurd (a1 y hy) (less_irr _)
      · exact e
    · rcases List.mem_cons.1 ((h y).2 (List.mem_cons_of_mem _ hy)) with e | e
      · subst e; exact absurd (b1 y hy) (less_irr _)
      · exact e
set_option maxRecDepth 100000 in
theorem srt_at {L : List Cell} (h : Srt L) {a b : Cell} (ha : a ∈ L) (hb : b ∈ L) (e : a.at_ = b.at_) : a = b := by
  induction L with
  | nil => cases ha
  | cons x l ih =>
    obtain ⟨h1, h2⟩ := List.pairwise_cons.1 h
    rcases List.mem_cons.1 ha with ea | ha'
    · rcases List.mem_cons.1 hb with eb | hb'
      · rw [ea, eb]
      · have := h1 b hb'; rw [← ea, e] at this; exact absurd this (less_irr _)
    · rcases List.mem_cons.1 hb with eb | hb'
      · have := h1 a ha'; rw [← eb, ← e] at this; exact absurd this (less_irr _)
      · exact ih h2 ha' hb'
set_option maxRecDepth 100000 in
theorem srt_sub {A B : List Cell} (h : Srt B) (hs : A.Sublist B) : Srt A := h.sublist hs
def NB (L : List Cell) : Prop := ∀ c ∈ L, c.v.kind ≠ 0
set_option maxRecDepth 100000 in
theorem nb_putL {L : List Cell} (h : NB L) (c : Cell) : NB (putL L c) := fun y hy => by
  rcases mem_putL.1 hy with ⟨h1, _⟩ | ⟨h1, rfl⟩
  · exact h y h1
  · exact h1
def getL (L : List Cell) (x : Ref) : Val := match L.find? (fun c => decide (c.at_ = x)) with | some c => c.v | none => blankV
set_option maxRecDepth 100000 in
theorem getL_in {L : List Cell} (h : Srt L) {c : Cell} (hc : c ∈ L) : getL L c.at_ = c.v := by
  unfold getL
  cases hf : L.find? (fun d => decide (d.at_ = c.at_)) with
  | none =>
    have := List.find?_eq_none.1 hf c hc
    simp at this
  | some d =>
    have h1 := List.find?_some hf
    have h2 := List.mem_of_find?_eq_some hf
    have : d = c := srt_at h h2 hc (by simpa using h1)
    rw [this]
set_option maxRecDepth 100000 in
theorem getL_out {L : List Cell} {x : Ref} (h : ∀ c ∈ L, c.at_ ≠ x) : getL L x = blankV := by
  unfold getL
  rw [List.find?_eq_none.2 fun c hc => by simpa using h c hc]
set_option maxRecDepth 100000 in
theorem Ref.v_inj {a b : Ref} (h : a.v = b.v) : a = b := by rcases a with ⟨a1, a2⟩; rcases b with ⟨b1, b2⟩; simpa [Ref.vals] using h
set_option maxRecDepth 100000 in
theorem Val.w_inj {a b : Val} (h : a.w = b.w) : a = b := by
  rcases a with ⟨a1, a2, a3⟩; rcases b with ⟨b1, b2, b3⟩
  simp [Val.vals] at h
  obtain ⟨h1, h2, h3⟩ := h
  have h1' : a1 = b1 := by omega
  rw [h1', h2, h3]
/-- The map's object holds the cells of L. -/
structure ShOk (es : Array MapEntry) (cl : Nat) (L : List Cell) : Prop where
  at_ : MapAt Kref es cl
  has : ∀ k v, Has es k v ↔ ∃ c ∈ L, k = c.at_.v ∧ v = c.v.w
  srt : Srt L
  nb : NB L
set_option maxRecDepth 100000 in
theorem ShOk.empty : ShOk #[] 0 [] := ⟨.empty _, fun k v => ⟨fun ⟨e, he, _⟩ => (by cases he), fun ⟨c, hc, _⟩ => (by cases hc)⟩, .nil, fun _ h => (by cases h)⟩
set_option maxRecDepth 100000 in
theorem ShOk.put {es es' : Array MapEntry} {cl cl' : Nat} {L : List Cell} (h : ShOk es cl L) {x : Ref} {v : Val} (hv : v.kind ≠ 0) (hM : MapAt Kref es' cl') (hh : ∀ k' v', Has es' k' v' ↔ (k' = x.v ∧ v' = v.w) ∨ (k' ≠ x.v ∧ Has es k' v')) : ShOk es' cl' (putL L ⟨x, v⟩) := by
  refine ⟨hM, fun k' v' => ?_, srt_putL h.srt _, nb_putL h.nb _⟩
  rw [hh, h.has]
  constructor
  · rintro (⟨rfl, rfl⟩ | ⟨h1, c, hc, rfl, rfl⟩)
    · exact ⟨⟨x, v⟩, mem_putL.2 (.inr ⟨hv, rfl⟩), rfl, rfl⟩
    · exact ⟨c, mem_putL.2 (.inl ⟨hc, fun e => h1 (by rw [e])⟩), rfl, rfl⟩
  · rintro ⟨c, hc, rfl, rfl⟩
    rcases mem_putL.1 hc with ⟨h1, h2⟩ | ⟨_, rfl⟩
    · exact .inr ⟨fun e => h2 (Ref.v_inj e), c, h1, rfl, rfl⟩
    · exact .inl ⟨rfl, rfl⟩
set_option maxRecDepth 100000 in
theorem ShOk.del {es es' : Array MapEntry} {cl : Nat} {L : List Cell} (h : ShOk es cl L) {x : Ref} {v : Val} (hv : v.kind = 0) (hM : MapAt Kref es' cl) (hh : ∀ k' v', Has es' k' v' ↔ (k' ≠ x.v ∧ Has es k' v')) : ShOk es' cl (putL L ⟨x, v⟩) := by
  refine ⟨hM, fun k' v' => ?_, srt_putL h.srt _, nb_putL h.nb _⟩
  rw [hh, h.has]
  constructor
  · rintro ⟨h1, c, hc, rfl, rfl⟩
    exact ⟨c, mem_putL.2 (.inl ⟨hc, fun e => h1 (by rw [e])⟩), rfl, rfl⟩
  · rintro ⟨c, hc, rfl, rfl⟩
    rcases mem_putL.1 hc with ⟨h1, h2⟩ | ⟨h1, _⟩
    · exact ⟨fun e => h2 (Ref.v_inj e), c, h1, rfl, rfl⟩
    · exact absurd hv h1
set_option maxRecDepth 100000 in
theorem ShOk.get {es : Array MapEntry} {cl : Nat} {L : List Cell} (h : ShOk es cl L) (x : Ref) : (Has es x.v (getL L x).w) ∨ (getL L x = blankV ∧ ∀ v, ¬Has es x.v v) := by
  by_cases hx : ∃ c ∈ L, c.at_ = x
  · obtain ⟨c, hc, rfl⟩ := hx
    exact .inl ((h.has _ _).2 ⟨c, hc, rfl, by rw [getL_in h.srt hc]⟩)
  · have hx' : ∀ c ∈ L, c.at_ ≠ x := fun c hc e => hx ⟨c, hc, e⟩
    refine .inr ⟨getL_out hx', fun v hv => ?_⟩
    obtain ⟨c, hc, h1, _⟩ := (h.has _ _).1 hv
    exact hx' c hc (Ref.v_inj h1).symm
set_option maxRecDepth 100000 in
/-- The cell of an entry. -/
theorem nodup_perm {α : Type} : ∀ {A B : List α}, A.Nodup → B.Nodup → (∀ y, y ∈ A ↔ y ∈ B) → A.Perm B
  | [], B, _, _, h => by
    cases B with
    | nil => exact .refl _
    | cons b B => have := (h b).2 (List.mem_cons_self ..); cases this
  | a :: A, B, hA, hB, h => by
    obtain ⟨a1, a2⟩ := List.nodup_cons.1 hA
    obtain ⟨s, t, rfl⟩ := List.append_of_mem ((h a).1 (List.mem_cons_self ..))
    obtain ⟨n1, n2, n3⟩ := nodup_mid hB
    refine .trans (.cons a (nodup_perm a2 n1 fun y => ?_)) List.perm_middle.symm
    have hy := h y
    rw [List.mem_cons, List.mem_append, List.mem_cons] at hy
    rw [List.mem_append]
    constructor
    · intro hm
      rcases hy.1 (.inr hm) with h1 | rfl | h1
      · exact .inl h1
      · exact absurd hm a1
      · exact .inr h1
    · intro hm
      have : y = a ∨ y ∈ A := hy.2 (hm.imp id .inr)
      rcases this with rfl | h1
      · rcases hm with h1 | h1
        · exact absurd h1 n2
        · exact absurd h1 n3
      · exact h1
/-- What of the entries are their cells, in the entries' order. -/
def CellsOf (l : List MapEntry) (C : List Cell) : Prop := l.map (fun e => (e.key, e.val)) = C.map fun c => (c.at_.v, c.v.w)
set_option maxRecDepth 100000 in
theorem CellsOf.nil : CellsOf [] [] := rfl
set_option maxRecDepth 100000 in
theorem CellsOf.snoc {l : List MapEntry} {C : List Cell} (h : CellsOf l C) {e : MapEntry} {c : Cell} (h1 : e.key = c.at_.v) (h2 : e.val = c.v.w) : CellsOf (l ++ [e]) (C ++ [c]) := by
  unfold CellsOf at *
  rw [List.map_append, List.map_append, h, List.map_singleton, List.map_singleton, h1, h2]
set_option maxRecDepth 100000 in
theorem srt_nodup {L : List Cell} (h : Srt L) : L.Nodup := List.nodup_iff_pairwise_ne.2 ((show L.Pairwise (fun a b => lessR a.at_ b.at_ = true) from h).imp fun {a b} hab e => by subst e; exact less_irr _ hab)
set_option maxRecDepth 100000 in
theorem ShOk.size {es : Array MapEntry} {cl : Nat} {L : List Cell} (h : ShOk es cl L) : es.size = L.length := by
  have hp : (es.toList.map fun e => (e.key, e.val)).Perm (L.map fun c => (c.at_.v, c.v.w)) := by
    refine nodup_perm ?_ ?_ fun y => ?_
    · have := h.at_.apart
      rw [List.nodup_iff_pairwise_ne, List.pairwise_map] at *
      exact this.imp fun {a b} hab e => hab (congrArg Prod.fst e)
    · rw [List.nodup_iff_pairwise_ne, List.pairwise_map]
      exact (show L.Pairwise (fun a b => lessR a.at_ b.at_ = true) from h.srt).imp fun {a b} hab e => by rw [Ref.v_inj (congrArg Prod.fst e)] at hab; exact less_irr _ hab
    · obtain ⟨k, v⟩ := y
      have := h.has k v
      rw [List.mem_map, List.mem_map]
      constructor
      · rintro ⟨e, he, e1⟩
        injection e1 with e1 e2
        obtain ⟨c, hc, h1, h2⟩ := this.1 ⟨e, he, e1, e2⟩
        exact ⟨c, hc, by rw [h1, h2]⟩
      · rintro ⟨c, hc, e1⟩
        injection e1 with e1 e2
        obtain ⟨e, he, h1, h2⟩ := this.2 ⟨c, hc, e1.symm, e2.symm⟩
        exact ⟨e, he, by rw [h1, h2]⟩
  have := hp.length_eq
  simpa using this
/-! ### a walk over the map -/
set_option maxRecDepth 100000 in
theorem inj_nodup {α β : Type} {f : α → β} {l : List α} (h : (l.map f).Nodup) {a b : α} (ha : a ∈ l) (hb : b ∈ l) (e : f a = f b) : a = b := by
  induction l with
  | nil => cases ha
  | cons x l ih =>
    rw [List.map_cons, List.nodup_cons] at h
    rcases List.mem_cons.1 ha with ea | ha'
    · rcases List.mem_cons.1 hb with eb | hb'
      · rw [ea, eb]
      · exact absurd (List.mem_map.2 ⟨b, hb', by rw [← e, ea]⟩) h.1
    · rcases List.mem_cons.1 hb with eb | hb'
      · exact absurd (List.mem_map.2 ⟨a, ha', by rw [e, eb]⟩) h.1
      · exact ih h.2 ha' hb'
/-- These entries have been handed out: the cells C. -/
structure Run (es : Array MapEntry) (L : List Cell) (seen : Array Nat) (C : List Cell) : Prop where
  seen : ∀ e ∈ es.toList, seen.contains e.born = true ↔ ∃ c ∈ C, e.key = c.at_.v
  nodup : C.Nodup
  sub : ∀ c ∈ C, c ∈ L
set_option maxRecDepth 100000 in
theorem Run.start (es : Array MapEntry) (L : List Cell) : Run es L #[] [] := ⟨fun e _ => ⟨fun h => (by simp at h), fun ⟨c, hc, _⟩ => (by cases hc)⟩, .nil, fun _ h => (by cases h)⟩
set_option maxRecDepth 100000 in
theorem ShOk.entry {es : Array MapEntry} {cl : Nat} {L : List Cell} (h : ShOk es cl L) {e : MapEntry} (he : e ∈ es.toList) : ∃ c ∈ L, e.key = c.at_.v ∧ e.val = c.v.w := (h.has _ _).1 ⟨e, he, rfl, rfl⟩
set_option maxRecDepth 100000 in
theorem Run.step {es : Array MapEntry} {cl : Nat} {L C : List Cell} {seen : Array Nat} (h : ShOk es cl L) (r : Run es L seen C) {e : MapEntry} (he : e ∈ (leftOf es seen).toList) {c : Cell} (hc : c ∈ L) (hk : e.key = c.at_.v) : Run es L (seen.push e.born) (C ++ [c]) ∧ c ∉ C := by
  obtain ⟨h1, h2⟩ := mem_left he
  have hcC : c ∉ C := fun hm => by
    have := (r.seen e h1).2 ⟨c, hm, hk⟩
    rw [h2] at this; cases this
  refine ⟨⟨fun e' he' => ?_, ?_, fun d hd => ?_⟩, hcC⟩
  · rw [contains_push, Bool.or_eq_true, r.seen e' he', beq_iff_eq]
    constructor
    · rintro (⟨d, hd, h3⟩ | h3)
      · exact ⟨d, List.mem_append_left _ hd, h3⟩
      · exact ⟨c, List.mem_append_right _ (List.mem_singleton_self _), by rw [inj_nodup h.at_.born he' h1 h3]; exact hk⟩
    · rintro ⟨d, hd, h3⟩
      rcases List.mem_append.1 hd with hd | hd
      · exact .inl ⟨d, hd, h3⟩
      · rw [List.mem_singleton.1 hd] at h3
        exact .inr (congrArg MapEntry.born (inj_nodup h.at_.apart he' h1 (h3.trans hk.symm)))
  · rw [List.nodup_append]
    exact ⟨r.nodup, List.nodup_cons.2 ⟨List.not_mem_nil, .nil⟩, fun a ha b hb e => hcC (by rw [← List.mem_singleton.1 hb, ← e]; exact ha)⟩
  · rcases List.mem_append.1 hd with hd | hd
    · exact r.sub d hd
    · rw [List.mem_singleton.1 hd]; exact hc
set_option maxRecDepth 100000 in
theorem Run.stop {es : Array MapEntry} {cl : Nat} {L C : List Cell} {seen : Array Nat} (h : ShOk es cl L) (r : Run es L seen C) (h0 : (leftOf es seen).size = 0) : C.Perm L := by
  refine nodup_perm r.nodup (srt_nodup h.srt) fun c => ⟨r.sub c, fun hc => ?_⟩
  obtain ⟨e, he, h1, h2⟩ := (h.has c.at_.v c.v.w).2 ⟨c, hc, rfl, rfl⟩
  have hs : seen.contains e.born = true := by
    cases hb : seen.contains e.born with
    | true => rfl
    | false =>
      have : e ∈ leftOf es seen := Array.mem_filter.2 ⟨Array.mem_toList_iff.1 he, by rw [hb]; rfl⟩
      rw [Array.eq_empty_of_size_eq_zero h0] at this
      exact absurd this (by simp)
  obtain ⟨d, hd, h3⟩ := (r.seen e he).1 hs
  have : d = c := srt_at h.srt (r.sub d hd) hc (Ref.v_inj (h3.symm.trans h1))
  rw [← this]; exact hd
set_option maxRecDepth 100000 in
theorem Run.len {es : Array MapEntry} {L C : List Cell} {seen : Array Nat} (r : Run es L seen C) : C.length ≤ L.length := by
  have key : ∀ (A B : List Cell), A.Nodup → (∀ c ∈ A, c ∈ B) → A.length ≤ B.length := by
    intro A
    induction A with
    | nil => intro B _ _; exact Nat.zero_le _
    | cons a A ih =>
      intro B hA hs
      obtain ⟨a1, a2⟩ := List.nodup_cons.1 hA
      obtain ⟨s, t, rfl⟩ := List.append_of_mem (hs a (List.mem_cons_self ..))
      have := ih (s ++ t) a2 fun c hc => by
        have h1 := hs c (List.mem_cons_of_mem _ hc)
        rw [List.mem_append, List.mem_cons] at h1
        rw [List.mem_append]
        rcases h1 with h1 | h1 | h1
        · exact .inl h1
        · rw [h1] at hc; exact absurd hc a1
        · exact .inr h1
      rw [List.length_append] at this
      rw [List.length_cons, List.length_append, List.length_cons]
      omega
  exact key C L r.nodup r.sub
set_option maxRecDepth 100000 in
theorem sort_eq {A B : List Cell} (hp : A.Perm B) (hs : A.Pairwise fun a b => ltOf cmpC b a = false) (hB : Srt B) : A = B := by
  refine srt_ext ?_ hB fun y => hp.mem_iff
  have hn : A.Nodup := hp.nodup_iff.2 (srt_nodup hB)
  rw [List.nodup_iff_pairwise_ne] at hn
  have h3 : A.Pairwise fun a b => a ∈ A ∧ b ∈ A ∧ a ≠ b ∧ ltOf cmpC b a = false :=
    (List.pairwise_and_iff.2 ⟨hn, hs⟩).imp_of_mem fun ha hb h => ⟨ha, hb, h.1, h.2⟩
  refine h3.imp fun {a b} ⟨ha, hb, hne, hlt⟩ => ?_
  rw [Go.Proofs.Ytnpbnlmhmjejhaa.ltOf_cmp] at hlt
  have hat : a.at_ ≠ b.at_ := fun e => hne (srt_at hB (hp.mem_iff.1 ha) (hp.mem_iff.1 hb) e)
  exact less_tot (Ne.symm hat) (by unfold ltC at hlt; rw [hlt]; decide)
end Go.Proofs.Ytnpbnlmhmjejhaa
