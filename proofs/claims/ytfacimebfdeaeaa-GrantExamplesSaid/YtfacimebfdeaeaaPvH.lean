/- The machine of values: objects by number, functions that turn them. No condition. -/
import Derived.Test.YtfacimebfdeaeaaPvG
namespace Go.Proofs.Ytfacimebfdeaeaa.Pv
open Go Go.RowKit
/-! ### objects by number: raw pointers to them, functions that read and turn them -/
/-- What an operation sees of values and of objects. -/
structure Sees (s : St) (op : Op) (a : Act) (w : World) : Prop where
  v : ∀ x u, x ∈ op.operands → s.ev x = .s (.v u) → a.eval x = u
  k : ∀ t b o, 1000000 ≤ t → look s.env t = .kept b o → w.heap[b]? = some o
  n : ∀ t g k rows, 1000000 ≤ t → look s.env t = .nest g k rows → ∃ T, NestOk T w g k rows
theorem unL_kept : ∀ (σs : List Nat) (b : Nat) (o : Obj), unL σs (.kept b o) = .kept b o
  | [], _, _ => rfl
  | _ :: σs, b, o => unL_kept σs b o
section
variable {dr : Bool} {P : Program} {ops : Array Oper} {rest : List Oper} {env : List (Nat × PV)} {bs : List (Nat × List Value)} {K : St → Prop} {d : Nat} {op : Op} {ty : TypeId} {pos : String} {aft : Array Edge} {g : Option (Nat × Bool)}
end
/-! ### objects are turned -/
def keptNe (ws : List Nat) : PV → Prop
  | .kept b _ => b ∉ ws
  | _ => True
section
variable {P : Program} {w0 : Base} {n : Nat} {T : Nat → BTag} {F : Nat → Nat} {ρ : Nat → Nat × Nat} {s : St} {a : Act} {w : World}
end
/-! ### functions that read and turn objects -/
/-- The blocks that facts hold for themselves, with their groups. -/
def ownOf : List PV → List (Nat × Nat)
  | [] => []
  | .kept b _ :: l => (b, 0) :: ownOf l
  | .nest g _ rows :: l => (rows.filterMap NRow.blk).map (fun b => (b, g + 1)) ++ ownOf l
  | _ :: l => ownOf l
abbrev keptOf (fs : List PV) : List Nat := (ownOf fs).map (·.1)
def nestOf : List PV → List Nat
  | [] => []
  | .nest _ _ rows :: l => rows.filterMap NRow.blk ++ nestOf l
  | _ :: l => nestOf l
def tag0 (B : List (Nat × Nat)) (b : Nat) : BTag := match B.lookup b with
  | some g => .obj g
  | none => .ext
def ArgsAt (T : Nat → BTag) (w : World) : List SV → List Value → Prop
  | [], [] => True
  | x :: xs, u :: us => RepS T (fun _ => 0) w x u ∧ ArgsAt T w xs us
  | _, _ => False
theorem ArgsAt.append {T : Nat → BTag} {w : World} : ∀ {xs : List SV} {us : List Value}, ArgsAt T w xs us → ∀ {ys : List SV} {vs : List Value}, ArgsAt T w ys vs → ArgsAt T w (xs ++ ys) (us ++ vs)
  | [], [], _, _, _, h => h
  | _ :: _, _ :: _, ⟨h1, h2⟩, _, _, h => ⟨h1, h2.append h⟩
  | [], _ :: _, h, _, _, _ => h.elim
  | _ :: _, [], h, _, _, _ => h.elim
theorem ArgsAt.caps {T : Nat → BTag} {w : World} : ∀ (l : List Value), ArgsAt T w (l.map SV.v) l
  | [] => trivial
  | _ :: l => ⟨rfl, ArgsAt.caps l⟩
theorem ArgsAt.len {T : Nat → BTag} {w : World} : ∀ {xs : List SV} {us : List Value}, ArgsAt T w xs us → us.length = xs.length
  | [], [], _ => rfl
  | _ :: _, _ :: _, ⟨_, h⟩ => by simp [h.len]
  | [], _ :: _, h => h.elim
  | _ :: _, [], h => h.elim
theorem ArgsAt.get {T : Nat → BTag} {w : World} {ρ : Nat → Nat × Nat} : ∀ {xs : List SV} {us : List Value}, ArgsAt T w xs us → ∀ i, RepP T (fun _ => 0) ρ w ((xs.map PV.s).getD i .any) (us.getD i undef)
  | [], [], _, i => by simp; trivial
  | _ :: _, _ :: _, ⟨h, _⟩, 0 => h
  | _ :: _, _ :: _, ⟨_, h⟩, i + 1 => h.get i
  | [], _ :: _, h, _ => h.elim
  | _ :: _, [], h, _ => h.elim
def okFact : PV → Bool
  | .kept _ _ => true
  | .hd _ x => x.isNew
  | .hds tag _ _ => tag.isSome
  | .nest _ _ _ => true
  | _ => false
/-- f reads the objects of fs, turns no others than those of ws and the nests, and gives a result and facts that K tells of. -/
def Acts (P : Program) (f : FuncId) (as : List SV) (fs : List PV) (ws : List Nat) (K : PV → List PV → Prop) : Prop :=
  Callable P f ∧ (∀ b ∈ ws, (b, 0) ∈ ownOf fs) ∧ ∀ (vs : List Value) (w : World), ArgsAt (tag0 (ownOf fs)) w as vs → (∀ p ∈ fs, RepP (tag0 (ownOf fs)) (fun _ => 0) (fun _ => (0, 0)) w p undef) →
    Calls P f vs.toArray w fun e w' => ∃ v T' F' res fs', K res fs' ∧ e = .returned v ∧ Below 0 w w' ∧ (∀ b, b < w.heap.size → b ∉ ws → b ∉ nestOf fs → w'.heap[b]? = w.heap[b]?) ∧ (∀ b, b < w.heap.size → b ∉ nestOf fs → T' b = tag0 (ownOf fs) b) ∧
      RepP T' F' (fun _ => (0, 0)) w' res v ∧ res.isNew = true ∧ ∀ p ∈ fs', okFact p = true ∧ RepP T' F' (fun _ => (0, 0)) w' p undef
theorem Acts.mono {P : Program} {f : FuncId} {as : List SV} {fs : List PV} {ws : List Nat} {K K' : PV → List PV → Prop} (h : Acts P f as fs ws K) (hK : ∀ r l, K r l → K' r l) : Acts P f as fs ws K' :=
  ⟨h.1, h.2.1, fun vs w h1 h2 => (h.2.2 vs w h1 h2).mono fun _ _ ⟨v, T', F', res, fs', q, r⟩ => ⟨v, T', F', res, fs', hK _ _ q, r⟩⟩
/-- What is known of the objects that a function is handed; gs: the nests that it may turn. -/
inductive FactsOk (env : List (Nat × PV)) (gs : List Nat) : List PV → Prop
  | nil : FactsOk env gs []
  | kept {b : Nat} {o : Obj} {l : List PV} (t : Nat) (h : look env t = .kept b o) (ht : Nat.ble 1000000 t = true) (r : FactsOk env gs l) : FactsOk env gs (.kept b o :: l)
  | hd {v : Value} {tag : Option Nat} {app : App} {k : Nat} {els : List (List Value)} {l : List PV} (t : Nat) (h : look env t = .hd v (.sl tag app k els)) (ht : Nat.ble 1000000 t = true) (r : FactsOk env gs l) : FactsOk env gs (.hd v (.sl none .no k els) :: l)
  | hdn {v : Value} {tag : Option Nat} {rts : List (Option Nat)} {uq : Bool} {k : Nat} {els : List (List EV)} {l : List PV} (t : Nat) (h : look env t = .hd v (.nsl tag rts uq k els)) (ht : Nat.ble 1000000 t = true) (r : FactsOk env gs l) : FactsOk env gs (.hd v (.nsl none [none] false k els) :: l)
  | hds {tag : Option Nat} {k : Nat} {m : List (Value × List (List Value))} {l : List PV} (t : Nat) (h : look env t = .hds tag k m) (ht : Nat.ble 1000000 t = true) (r : FactsOk env gs l) : FactsOk env gs (.hds none k m :: l)
  | nst {g k : Nat} {rows : List NRow} {l : List PV} (t : Nat) (h : look env t = .nest g k rows) (ht : Nat.ble 1000000 t = true) (hg : nestNe gs (.nest g k []) = true) (r : FactsOk env gs l) : FactsOk env gs (.hds none k (rows.map fun r => (r.hdr, r.els)) :: l)
  | nest {g k : Nat} {rows : List NRow} {l : List PV} (t : Nat) (h : look env t = .nest g k rows) (ht : Nat.ble 1000000 t = true) (hg : Nat.blt g 1000 = true) (r : FactsOk env gs l) : FactsOk env gs (.nest g k rows :: l)
def place : List Nat → List PV → List (Nat × PV) → List (Nat × PV)
  | t :: ts, p :: ps, g => (t, p) :: place ts ps g
  | _, _, g => g
def rmS (hs : List Nat) : List (Nat × PV) → List (Nat × PV)
  | [] => []
  | (t, p) :: l => bif hs.any (Nat.beq t) then rmS hs l else (t, p) :: rmS hs l
def ApartE (ws : List Nat) : List (Nat × PV) → Prop
  | [] => True
  | (_, p) :: l => keptNe ws p ∧ ApartE ws l
theorem ApartE.look {ws : List Nat} : ∀ {l : List (Nat × PV)}, ApartE ws l → ∀ t, keptNe ws (look l t)
  | [], _, t => trivial
  | (u, p) :: l, h, t => by
    rw [look_put]
    split
    · exact h.1
    · exact ApartE.look h.2 t
/-- An argument, seen by a function that holds some objects for itself. -/
theorem SlOk.toAt {T T' : Nat → BTag} {F : Nat → Nat} {w : World} {tag : Option Nat} {app : App} {k : Nat} {els : List (List Value)} {A : Option Addr} {n c : Nat} (h : SlOk T F w tag app k els A n c) (hT : ∀ b, T b = ofTag tag → T' b = .ext) : SlOk T' (fun _ => 0) w none .no k els A n c := by
  obtain ⟨h1, h2, h2', h3, h4, h5, h6, h7⟩ := h
  refine ⟨h1, h2, h2', h3, h4, fun ad hA => ?_, trivial, .inl rfl⟩
  obtain ⟨q1, q2, q3, q4, q5⟩ := h5 ad hA
  exact ⟨q1, q2, hT _ q3, .inl rfl, q5⟩
theorem NRow.blk_some {r : NRow} {b o : Nat} (h : r.A = some (b, o)) : r.blk = some b := by unfold NRow.blk; rw [h]; rfl
theorem NestOk.obj {T : Nat → BTag} {w : World} {g k : Nat} {rows : List NRow} (h : NestOk T w g k rows) {b : Nat} (hb : b ∈ rows.filterMap NRow.blk) : T b = .obj (g + 1) ∧ b < w.heap.size := by
  obtain ⟨r, hr, hrb⟩ := List.mem_filterMap.1 hb
  obtain ⟨_, _, _, h4⟩ := h.2 r hr
  rcases h4 with ⟨h4, _⟩ | ⟨b', o, cur, e, hA, hT, hh, _⟩
  · unfold NRow.blk at hrb; rw [h4] at hrb; cases hrb
  · rw [NRow.blk_some hA] at hrb
    injection hrb with hrb
    subst hrb
    exact ⟨hT, (Array.getElem?_eq_some_iff.1 hh).1⟩
theorem NestOk.own {T T' : Nat → BTag} {w : World} {g g' k : Nat} {rows : List NRow} (h : NestOk T w g k rows) (hT : ∀ b ∈ rows.filterMap NRow.blk, T' b = .obj (g' + 1)) : NestOk T' w g' k rows := by
  refine ⟨h.1, fun r hr => ?_⟩
  obtain ⟨h1, h2, h3, h4⟩ := h.2 r hr
  exact ⟨h1, h2, h3, h4.imp id fun ⟨b, o, cur, e, q1, q2, q3⟩ => ⟨b, o, cur, e, q1, hT b (List.mem_filterMap.2 ⟨r, hr, NRow.blk_some q1⟩), q3⟩⟩
theorem NestOk.hds {T T' : Nat → BTag} {w : World} {g k : Nat} {rows : List NRow} (h : NestOk T w g k rows) (hT : ∀ b, T b = .obj (g + 1) → T' b = .ext) : ∀ p ∈ rows.map (fun r => (r.hdr, r.els)), RepS T' (fun _ => 0) w (.sl none .no k p.2) p.1 := by
  intro p hp
  obtain ⟨r, hr, rfl⟩ := List.mem_map.1 hp
  exact (h.2 r hr).rep hT
theorem FactsOk.obj {w0 : Base} {n : Nat} {T : Nat → BTag} {F : Nat → Nat} {ρ : Nat → Nat × Nat} {env : List (Nat × PV)} {bs : List (Nat × List Value)} {a : Act} {w : World} (hr : RSx w0 n T F ρ ⟨env, bs⟩ a w) {gs : List Nat} {fs : List PV} (h : FactsOk env gs fs) : ∀ b g, (b, g) ∈ ownOf fs → T b = .obj g ∧ g < 1001 := by
  induction h with
  | nil => intro b g hb; cases hb
  | kept t h _ _ ih =>
    intro b' g hb
    rcases List.mem_cons.1 hb with hb | hb
    · have h1 := hr.env t
      rw [show (St.mk env bs).look t = look env t from rfl, h] at h1
      injection hb with e1 e2
      subst e1 e2
      exact ⟨h1.1, by omega⟩
    · exact ih b' g hb
  | hd t h _ _ ih => exact ih
  | hdn t h _ _ ih => exact ih
  | hds t h _ _ ih => exact ih
  | nst t h _ _ _ ih => exact ih
  | @nest g' k rows l t h _ hg _ ih =>
    intro b g hb
    rcases List.mem_append.1 hb with hb | hb
    · obtain ⟨c, hc, e⟩ := List.mem_map.1 hb
      injection e with e1 e2
      subst e1 e2
      have h1 := hr.env t
      rw [show (St.mk env bs).look t = look env t from rfl, h] at h1
      exact ⟨(NestOk.obj h1 hc).1, by have := Nat.blt_eq ▸ hg; omega⟩
    · exact ih b g hb
theorem FactsOk.rep {w0 : Base} {n : Nat} {T T' : Nat → BTag} {F : Nat → Nat} {ρ ρ' : Nat → Nat × Nat} {env : List (Nat × PV)} {bs : List (Nat × List Value)} {a : Act} {w : World} (hr : RSx w0 n T F ρ ⟨env, bs⟩ a w) {gs : List Nat} (hT : ∀ b, (∀ g, T b ≠ .obj g) → T' b = .ext) (hT2 : ∀ b g, g ∉ gs → T b = .obj (g + 1) → T' b = .ext) {fs : List PV} (h : FactsOk env gs fs) : (∀ b g, (b, g) ∈ ownOf fs → T' b = .obj g) → ∀ p ∈ fs, RepP T' (fun _ => 0) ρ' w p undef := by
  induction h with
  | nil => intro _ p hp; cases hp
  | kept t h _ _ ih =>
    intro hk p hp
    rcases List.mem_cons.1 hp with rfl | hp
    · have h1 := hr.env t
      rw [show (St.mk env bs).look t = look env t from rfl, h] at h1
      exact ⟨hk _ _ (List.mem_cons_self ..), h1.2⟩
    · exact ih (fun b g hb => hk b g (List.mem_cons_of_mem _ hb)) p hp
  | @hd v tag app k els l t h _ _ ih =>
    intro hk p hp
    rcases List.mem_cons.1 hp with rfl | hp
    · have h1 := hr.env t
      rw [show (St.mk env bs).look t = look env t from rfl, h] at h1
      obtain ⟨A, n, c, hu, h1⟩ := h1
      exact ⟨A, n, c, hu, h1.toAt fun b hb => hT b (fun g => by rw [hb]; cases tag <;> intro h <;> cases h)⟩
    · exact ih hk p hp
  | @hdn v tag rts uq k els l t h _ _ ih =>
    intro hk p hp
    rcases List.mem_cons.1 hp with rfl | hp
    · have h1 := hr.env t
      rw [show (St.mk env bs).look t = look env t from rfl, h] at h1
      obtain ⟨hs, A, n, c, hu, h1, h2, h3⟩ := h1
      exact ⟨hs, A, n, c, hu, h1.toAt fun b hb => hT b (fun g => by rw [hb]; cases tag <;> intro h <;> cases h), h2.map (fun _ => none) (fun _ _ => List.mem_singleton_self _) (fun tg k els A n c _ h => h.toAt fun b hb => hT b (fun g => by rw [hb]; cases tg <;> intro h <;> cases h)), fun h => by cases h⟩
    · exact ih hk p hp
  | @hds tag k m l t h _ _ ih =>
    intro hk p hp
    rcases List.mem_cons.1 hp with rfl | hp
    · have h1 := hr.env t
      rw [show (St.mk env bs).look t = look env t from rfl, h] at h1
      intro q hq
      obtain ⟨A, n, c, hu, h1⟩ := h1 q hq
      exact ⟨A, n, c, hu, h1.toAt fun b hb => hT b (fun g => by rw [hb]; cases tag <;> intro h <;> cases h)⟩
    · exact ih hk p hp
  | @nst g k rows l t h _ hg _ ih =>
    intro hk p hp
    rcases List.mem_cons.1 hp with rfl | hp
    · have h1 := hr.env t
      rw [show (St.mk env bs).look t = look env t from rfl, h] at h1
      exact NestOk.hds h1 fun b hb => hT2 b g (nestNe_of hg) hb
    · exact ih hk p hp
  | @nest g k rows l t h _ hg _ ih =>
    intro hk p hp
    rcases List.mem_cons.1 hp with rfl | hp
    · have h1 := hr.env t
      rw [show (St.mk env bs).look t = look env t from rfl, h] at h1
      exact NestOk.own h1 fun b hb => hk b _ (List.mem_append_left _ (List.mem_map.2 ⟨b, hb, rfl⟩))
    · exact ih (fun b g hb => hk b g (List.mem_append_right _ hb)) p hp
section
variable {P : Program} {ops : Array Oper} {rest : List Oper} {env : List (Nat × PV)} {bs : List (Nat × List Value)} {K : St → Prop} {d : Nat} {op : Op} {ty : TypeId} {pos : String} {aft : Array Edge} {g : Option (Nat × Bool)}
theorem look_rmS_ne {hs : List Nat} {t : Nat} (h : t ∉ hs) : ∀ (env : List (Nat × PV)), look (rmS hs env) t = look env t
  | [] => rfl
  | (u, p) :: l => by
    rw [rmS]
    cases hb : hs.any (Nat.beq u) with
    | true =>
      rw [cond_true, look_put, if_neg, look_rmS_ne h l]
      intro e
      obtain ⟨v, hv, hv2⟩ := List.any_eq_true.1 hb
      rw [Nat.beq_eq] at hv2
      exact h (by rw [← e, hv2]; exact hv)
    | false => rw [cond_false, look_put, look_put, look_rmS_ne h l]
theorem ApartE.nil : ∀ l : List (Nat × PV), ApartE [] l
  | [] => trivial
  | (_, p) :: l => ⟨by cases p <;> first | trivial | exact List.not_mem_nil, ApartE.nil l⟩
inductive FactsEv (ev : Operand → PV) : List PV → Prop
  | nil : FactsEv ev []
  | kept {b : Nat} {o : Obj} {l : List PV} (t : Nat) (h : ev (.tmp t) = .kept b o) (ht : Nat.ble 1000000 t = true) (r : FactsEv ev l) : FactsEv ev (.kept b o :: l)
  | hd {v : Value} {tag : Option Nat} {app : App} {k : Nat} {els : List (List Value)} {l : List PV} (t : Nat) (h : ev (.tmp t) = .hd v (.sl tag app k els)) (ht : Nat.ble 1000000 t = true) (r : FactsEv ev l) : FactsEv ev (.hd v (.sl none .no k els) :: l)
  | hdn {v : Value} {tag : Option Nat} {rts : List (Option Nat)} {uq : Bool} {k : Nat} {els : List (List EV)} {l : List PV} (t : Nat) (h : ev (.tmp t) = .hd v (.nsl tag rts uq k els)) (ht : Nat.ble 1000000 t = true) (r : FactsEv ev l) : FactsEv ev (.hd v (.nsl none [none] false k els) :: l)
  | hds {tag : Option Nat} {k : Nat} {m : List (Value × List (List Value))} {l : List PV} (t : Nat) (h : ev (.tmp t) = .hds tag k m) (ht : Nat.ble 1000000 t = true) (r : FactsEv ev l) : FactsEv ev (.hds none k m :: l)
  | nst {g k : Nat} {rows : List NRow} {l : List PV} (t : Nat) (h : ev (.tmp t) = .nest g k rows) (ht : Nat.ble 1000000 t = true) (r : FactsEv ev l) : FactsEv ev (.hds none k (rows.map fun r => (r.hdr, r.els)) :: l)
theorem FactsEv.un {ev : Operand → PV} {fs : List PV} (σs : List Nat) (h : FactsEv ev fs) : FactsEv (unE σs ev) fs := by
  induction h with
  | nil => exact .nil
  | kept t h ht _ ih => exact .kept t (by unfold unE; rw [h, unL_kept]) ht ih
  | hd t h ht _ ih => exact .hd t (unE_hd σs h) ht ih
  | hdn t h ht _ ih => exact .hdn t (unE_hdn σs h) ht ih
  | hds t h ht _ ih => exact .hds t (by unfold unE; rw [h, unL_hds]) ht ih
  | nst t h ht _ ih => exact .nst t (by unfold unE; rw [h, unL_nest]) ht ih
theorem FactsEv.obj {ev : Operand → PV} {T : Nat → BTag} {F : Nat → Nat} {ρ : Nat → Nat × Nat} {a : Act} {w : World} (hr : ∀ x, isV x = true → RepP T F ρ w (ev x) (a.eval x)) {fs : List PV} (h : FactsEv ev fs) : ∀ b g, (b, g) ∈ ownOf fs → T b = .obj 0 ∧ g = 0 := by
  induction h with
  | nil => intro b g hb; cases hb
  | kept t h ht _ ih =>
    intro b' g hb
    rcases List.mem_cons.1 hb with hb | hb
    · have h1 := hr (.tmp t) ht
      rw [h] at h1
      injection hb with e1 e2
      subst e1 e2
      exact ⟨h1.1, rfl⟩
    · exact ih b' g hb
  | hd t h _ _ ih => exact ih
  | hdn t h _ _ ih => exact ih
  | hds t h _ _ ih => exact ih
  | nst t h _ _ ih => exact ih
theorem FactsEv.rep {ev : Operand → PV} {T T' : Nat → BTag} {F : Nat → Nat} {ρ ρ' : Nat → Nat × Nat} {a : Act} {w : World} (hr : ∀ x, isV x = true → RepP T F ρ w (ev x) (a.eval x)) (hT : ∀ b, T b ≠ .obj 0 → T' b = .ext) {fs : List PV} (h : FactsEv ev fs) : (∀ b g, (b, g) ∈ ownOf fs → T' b = .obj g) → ∀ p ∈ fs, RepP T' (fun _ => 0) ρ' w p undef := by
  induction h with
  | nil => intro _ p hp; cases hp
  | kept t h ht _ ih =>
    intro hk p hp
    rcases List.mem_cons.1 hp with rfl | hp
    · have h1 := hr (.tmp t) ht
      rw [h] at h1
      exact ⟨hk _ _ (List.mem_cons_self ..), h1.2⟩
    · exact ih (fun b g hb => hk b g (List.mem_cons_of_mem _ hb)) p hp
  | @hd v tag app k els l t h ht _ ih =>
    intro hk p hp
    rcases List.mem_cons.1 hp with rfl | hp
    · have h1 := hr (.tmp t) ht
      rw [h] at h1
      obtain ⟨A, n, c, hu, h1⟩ := h1
      exact ⟨A, n, c, hu, h1.toAt fun b hb => hT b (by rw [hb]; cases tag <;> intro h <;> cases h)⟩
    · exact ih hk p hp
  | @hdn v tag rts uq k els l t h ht _ ih =>
    intro hk p hp
    rcases List.mem_cons.1 hp with rfl | hp
    · have h1 := hr (.tmp t) ht
      rw [h] at h1
      obtain ⟨hs, A, n, c, hu, h1, h2, h3⟩ := h1
      exact ⟨hs, A, n, c, hu, h1.toAt fun b hb => hT b (by rw [hb]; cases tag <;> intro h <;> cases h), h2.map (fun _ => none) (fun _ _ => List.mem_singleton_self _) (fun tg k els A n c _ h => h.toAt fun b hb => hT b (by rw [hb]; cases tg <;> intro h <;> cases h)), fun h => by cases h⟩
    · exact ih hk p hp
  | @hds tag k m l t h ht _ ih =>
    intro hk p hp
    rcases List.mem_cons.1 hp with rfl | hp
    · have h1 := hr (.tmp t) ht
      rw [h] at h1
      intro q hq
      obtain ⟨A, n, c, hu, h1⟩ := h1 q hq
      exact ⟨A, n, c, hu, h1.toAt fun b hb => hT b (by rw [hb]; cases tag <;> intro h <;> cases h)⟩
    · exact ih hk p hp
  | @nst g k rows l t h ht _ ih =>
    intro hk p hp
    rcases List.mem_cons.1 hp with rfl | hp
    · have h1 := hr (.tmp t) ht
      rw [h] at h1
      exact NestOk.hds h1 fun b hb => hT b (by rw [hb]; intro h; cases h)
    · exact ih hk p hp
end

/-! ### from a walk to such a function -/
/-- What the last state tells. -/
inductive TellF (env : List (Nat × PV)) : List PV → Prop
  | nil : TellF env []
  | kept {b : Nat} {o : Obj} {l : List PV} (t : Nat) (h : look env t = .kept b o) (r : TellF env l) : TellF env (.kept b o :: l)
  | hd {v : Value} {τ : Nat} {app : App} {k : Nat} {els : List (List Value)} {l : List PV} (t : Nat) (h : look env t = .hd v (.sl (some τ) app k els)) (r : TellF env l) : TellF env (.hd v (.sl (some 0) .no k els) :: l)
  | nl {k : Nat} {l : List PV} (r : TellF env l) : TellF env (.hd (.slice none 0 0) (.sl (some 0) .no k []) :: l)
  | hds {τ k : Nat} {m : List (Value × List (List Value))} {l : List PV} (t : Nat) (h : look env t = .hds (some τ) k m) (r : TellF env l) : TellF env (.hds (some 0) k m :: l)
  | nest {g k : Nat} {rows : List NRow} {l : List PV} (t : Nat) (h : look env t = .nest g k rows) (r : TellF env l) : TellF env (.nest g k rows :: l)
inductive KeptOk (env : List (Nat × PV)) (ws : List Nat) : List PV → Prop
  | nil : KeptOk env ws []
  | hd {v : Value} {x : SV} {l : List PV} (r : KeptOk env ws l) : KeptOk env ws (.hd v x :: l)
  | hds {tag : Option Nat} {k : Nat} {m : List (Value × List (List Value))} {l : List PV} (r : KeptOk env ws l) : KeptOk env ws (.hds tag k m :: l)
  | nest {g k : Nat} {rows : List NRow} {l : List PV} (r : KeptOk env ws l) : KeptOk env ws (.nest g k rows :: l)
  | same {b : Nat} {o : Obj} {l : List PV} (t : Nat) (h : look env t = .kept b o) (r : KeptOk env ws l) : KeptOk env ws (.kept b o :: l)
  | turn {b : Nat} {o o' : Obj} {l : List PV} (t : Nat) (h : look env t = .kept b o') (hw : b ∈ ws) (r : KeptOk env ws l) : KeptOk env ws (.kept b o :: l)
theorem gsn0 (g : Nat) : gsn 0 g = g := by unfold gsn; cases Nat.blt g 1000 <;> rfl
theorem gsh0 : ∀ g : Nat, gsh 0 g = g
  | 0 => rfl
  | g + 1 => congrArg (· + 1) (gsn0 g)
theorem TellF.rep {w0 : Base} {n : Nat} {T : Nat → BTag} {F : Nat → Nat} {ρ ρ' : Nat → Nat × Nat} {env : List (Nat × PV)} {bs : List (Nat × List Value)} {a : Act} {w : World} (hr : RSx w0 n T F ρ ⟨env, bs⟩ a w) {fs : List PV} (h : TellF env fs) : ∀ p ∈ fs, okFact p = true ∧ RepP (fun b => (T b).retag 0) F ρ' w p undef := by
  induction h with
  | nil => intro p hp; cases hp
  | @kept b o l t h _ ih =>
    intro p hp
    rcases List.mem_cons.1 hp with rfl | hp
    · have h1 := hr.env t
      rw [show (St.mk env bs).look t = look env t from rfl, h] at h1
      exact ⟨rfl, by show (T b).retag 0 = _; rw [h1.1]; rfl, h1.2⟩
    · exact ih p hp
  | @hd v τ app k els l t h _ ih =>
    intro p hp
    rcases List.mem_cons.1 hp with rfl | hp
    · have h1 := hr.env t
      rw [show (St.mk env bs).look t = look env t from rfl, h] at h1
      have h2 : RepS T F w (.sl (some τ) app k els) v := h1
      obtain ⟨A, n, c, hu, h3⟩ := h2.retag 0
      exact ⟨rfl, A, n, c, hu, h3.toNo⟩
    · exact ih p hp
  | nl _ ih =>
    intro p hp
    rcases List.mem_cons.1 hp with rfl | hp
    · exact ⟨rfl, none, 0, 0, rfl, SlOk.toNil _ _ _⟩
    · exact ih p hp
  | @hds τ k m l t h _ ih =>
    intro p hp
    rcases List.mem_cons.1 hp with rfl | hp
    · have h1 := hr.env t
      rw [show (St.mk env bs).look t = look env t from rfl, h] at h1
      exact ⟨rfl, fun q hq => (show RepS T F w (.sl (some τ) .no k q.2) q.1 from h1 q hq).retag 0⟩
    · exact ih p hp
  | @nest g k rows l t h _ ih =>
    intro p hp
    rcases List.mem_cons.1 hp with rfl | hp
    · have h1 := hr.env t
      rw [show (St.mk env bs).look t = look env t from rfl, h] at h1
      refine ⟨rfl, NestOk.tags h1 fun b hb => ?_⟩
      show (T b).retag 0 = _
      rw [hb]
      exact congrArg BTag.obj (gsh0 _)
    · exact ih p hp
theorem KeptOk.rep {w0 : Base} {n : Nat} {T : Nat → BTag} {F : Nat → Nat} {ρ : Nat → Nat × Nat} {env : List (Nat × PV)} {bs : List (Nat × List Value)} {a : Act} {w : World} (hr : RSx w0 n T F ρ ⟨env, bs⟩ a w) {fs : List PV} {ws : List Nat} (h : KeptOk env ws fs) : ∀ b o, PV.kept b o ∈ fs → T b = .obj 0 ∧ b < w.heap.size ∧ (b ∉ ws → w.heap[b]? = some o) := by
  have key : ∀ t b o, look env t = .kept b o → T b = .obj 0 ∧ b < w.heap.size ∧ w.heap[b]? = some o := fun t b o h => by
    have h1 := hr.env t
    rw [show (St.mk env bs).look t = look env t from rfl, h] at h1
    exact h1
  induction h with
  | nil => intro b o hp; cases hp
  | hd _ ih =>
    intro b o hp
    rcases List.mem_cons.1 hp with h | hp
    · cases h
    · exact ih b o hp
  | hds _ ih =>
    intro b o hp
    rcases List.mem_cons.1 hp with h | hp
    · cases h
    · exact ih b o hp
  | nest _ ih =>
    intro b o hp
    rcases List.mem_cons.1 hp with h | hp
    · cases h
    · exact ih b o hp
  | same t h _ ih =>
    intro b o hp
    rcases List.mem_cons.1 hp with h' | hp
    · injection h' with h1 h2
      subst h1 h2
      obtain ⟨q1, q2, q3⟩ := key t _ _ h
      exact ⟨q1, q2, fun _ => q3⟩
    · exact ih b o hp
  | turn t h hw _ ih =>
    intro b o hp
    rcases List.mem_cons.1 hp with h' | hp
    · injection h' with h1 h2
      subst h1 h2
      obtain ⟨q1, q2, q3⟩ := key t _ _ h
      exact ⟨q1, q2, fun hn => absurd hw hn⟩
    · exact ih b o hp
/-- The walk's end: what it gives, what it tells, what it has kept. -/
inductive ActEnd (P : Program) (W : World) (fs : List PV) (ws : List Nat) (K : PV → List PV → Prop) (l : List ResultVar) (s : St) : Prop
  | mk (res : PV) (fs' : List PV) (hK : K res fs') (hr : ResOk P s l res) (hn : res.isNew = true) (ho : look s.env 2999999 = .old W (keptOf fs)) (ht : TellF s.env fs') (hk : KeptOk s.env ws fs)
/-! ### objects made and written -/
structure Put1 (w : World) (b : Nat) (o' : Obj) (w' : World) : Prop where
  os : w'.os = w.os
  tape : w'.tape = w.tape
  output : w'.output = w.output
  size : w'.heap.size = w.heap.size
  other : ∀ k, k ≠ b → w'.heap[k]? = w.heap[k]?
  same : b < w.heap.size → w'.heap[b]? = some o'
theorem Put1.put (w : World) (b : Nat) (o' : Obj) : Put1 w b o' (w.putObj b o') := ⟨rfl, rfl, rfl, by simp, fun _ hk => World.putObj_heap_other hk, fun h => World.putObj_heap_same h⟩
theorem Put1.drew {w w' : World} {b : Nat} {o' : Obj} (h : Put1 w.drew b o' w') : Put1 w b o' w' := ⟨h.os, h.tape, h.output, h.size, h.other, h.same⟩
theorem Put1.refl {w : World} {b : Nat} {o : Obj} (h : w.heap[b]? = some o) : Put1 w b o w := ⟨rfl, rfl, rfl, rfl, fun _ _ => rfl, fun _ => h⟩
section
variable {P : Program} {ops : Array Oper} {rest : List Oper} {env : List (Nat × PV)} {bs : List (Nat × List Value)} {K : St → Prop} {d : Nat} {op : Op} {ty : TypeId} {pos : String} {aft : Array Edge} {g : Option (Nat × Bool)}
end
end Go.Proofs.Ytfacimebfdeaeaa.Pv
