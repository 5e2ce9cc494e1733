/- The machine of values: slices whose places are known. No condition. -/
import Derived.Test.YtonangdimkgdpaaPvH
import Derived.Laws.MakeOwn
namespace Go.Proofs.Ytonangdimkgdpaa.Pv
open Go Go.RowKit
/-! ### nests: slices whose places are known -/
def NRow.nl : NRow := ⟨none, 0, []⟩
/-- A pointer to its j-th element (elements of one cell). -/
def NRow.ptr (r : NRow) (j : Nat) : Value := .pointer (some ⟨(r.A.getD (0, 0)).1, (r.A.getD (0, 0)).2 + j, none⟩)
def NRow.put (r : NRow) (j : Nat) (u : Value) : NRow := ⟨r.A, r.cap, r.els.set j [u]⟩
def NRow.cut (r : NRow) (n : Nat) : NRow := ⟨r.A, r.cap, r.els.take n⟩
theorem NRow.hdr_cells (r : NRow) : r.hdr.cells.toList = [r.hdr] := rfl
theorem NRow.hdr_one (r : NRow) : r.hdr.oneCell' = true := rfl
theorem NRowOk.nl (T : Nat → BTag) (w : World) (g k : Nat) : NRowOk T w g k NRow.nl := ⟨fun _ h => absurd h List.not_mem_nil, Nat.le_refl _, by show 0 ≤ maxLen; exact Nat.zero_le _, .inl ⟨rfl, rfl⟩⟩
theorem NestOk.nils (T : Nat → BTag) (w : World) (g k n : Nat) : NestOk T w g k (List.replicate n NRow.nl) := by
  refine ⟨?_, fun r hr => by rw [List.eq_of_mem_replicate hr]; exact .nl T w g k⟩
  rw [show (List.replicate n NRow.nl).filterMap NRow.blk = [] from List.filterMap_eq_nil_iff.2 fun r hr => by rw [List.eq_of_mem_replicate hr]; rfl]
  exact List.nodup_nil
/-- A place for a nest of n nil slices. -/
theorem Turns.nestNils {env : List (Nat × PV)} {bs : List (Nat × List Value)} (h g k n : Nat) : Turns ⟨env, bs⟩ (Eq ⟨(h, .nest g k (List.replicate n NRow.nl)) :: env, bs⟩) := by
  rintro w0 m a w ⟨T, F, ρ, hr⟩
  exact ⟨_, rfl, T, F, ρ, hr.addFact h fun _ => NestOk.nils T w g k n⟩
/-- The rows before and behind the i-th. -/
def sides (rows : List NRow) (i : Nat) : List NRow := rows.take i ++ rows.drop (i + 1)
theorem sides_sub (rows : List NRow) (i : Nat) : (sides rows i).Sublist rows := by
  have h : (rows.take i ++ rows.drop i).Sublist rows := by rw [List.take_append_drop]; exact List.Sublist.refl _
  refine List.Sublist.trans (List.Sublist.append (List.Sublist.refl _) ?_) h
  rw [← List.tail_drop]
  exact List.tail_sublist _
theorem set_perm {rows : List NRow} {i : Nat} (hi : i < rows.length) (r : NRow) : (rows.set i r).Perm (r :: sides rows i) := by
  rw [List.set_eq_take_append_cons_drop, if_pos hi]
  exact List.perm_middle
theorem snoc_perm (rows : List NRow) (r : NRow) : (rows ++ [r]).Perm (r :: rows) := List.perm_append_comm
theorem get_perm {rows : List NRow} {i : Nat} {r : NRow} (h : rows[i]? = some r) : rows.Perm (r :: sides rows i) := by
  obtain ⟨hi, e⟩ := List.getElem?_eq_some_iff.1 h
  have := set_perm hi r
  rw [← e, List.set_getElem_self] at this
  rw [← e]; exact this
theorem NestOk.perm {T : Nat → BTag} {w : World} {g k : Nat} {rows rows' : List NRow} (hp : rows.Perm rows') (h : NestOk T w g k rows) : NestOk T w g k rows' := ⟨(hp.filterMap _).nodup_iff.1 h.1, fun r hr => h.2 r (hp.symm.subset hr)⟩
theorem NestOk.cons {T : Nat → BTag} {w : World} {g k : Nat} {rows : List NRow} {r : NRow} : NestOk T w g k (r :: rows) ↔ NRowOk T w g k r ∧ NestOk T w g k rows ∧ ∀ b, r.blk = some b → b ∉ rows.filterMap NRow.blk := by
  unfold NestOk
  rw [List.filterMap_cons]
  cases hb : r.blk with
  | none => simp only [List.forall_mem_cons]; exact ⟨fun ⟨h1, h2, h3⟩ => ⟨h2, ⟨h1, h3⟩, fun b h => nomatch h⟩, fun ⟨h2, ⟨h1, h3⟩, _⟩ => ⟨h1, h2, h3⟩⟩
  | some b =>
    simp only [List.forall_mem_cons, List.nodup_cons]
    exact ⟨fun ⟨⟨h0, h1⟩, h2, h3⟩ => ⟨h2, ⟨h1, h3⟩, fun b' h => by injection h with h; subst h; exact h0⟩, fun ⟨h2, ⟨h1, h3⟩, h0⟩ => ⟨⟨h0 b rfl, h1⟩, h2, h3⟩⟩
theorem NestOk.except {T T' : Nat → BTag} {w : World} {g k : Nat} {rows : List NRow} (h : NestOk T w g k rows) (hT : ∀ b ∈ rows.filterMap NRow.blk, T' b = T b) : NestOk T' w g k rows := NestOk.own h fun b hb => (hT b hb).trans (h.obj hb).1
/-- A slice is taken out of a nest: a row of the call's own. -/
theorem Turns.takeN {env : List (Nat × PV)} {bs : List (Nat × List Value)} (t h τ i : Nat) (e : TypeId) {g k : Nat} {rows : List NRow} {r : NRow} (hl : look env t = .s (.v r.hdr)) (hk : look env h = .nest g k rows) (hi : rows[i]? = some r) (ht : Nat.blt t 1000000 = true) (hh : Nat.ble 2000000 h = true) (hn : noNest [g] (rmS [h] env) = true) :
    Turns ⟨env, bs⟩ (Eq ⟨(t, .s (.sl (some τ) (.front e) k r.els)) :: (h, .nest g k (rows.set i NRow.nl)) :: rmS [h] env, bs⟩) := by
  rintro w0 m a w ⟨T, F, ρ, hr⟩
  refine ⟨_, rfl, ?_⟩
  have hil : i < rows.length := (List.getElem?_eq_some_iff.1 hi).1
  have hnest : NestOk T w g k rows := by have := hr.env h; rw [show (St.mk env bs).look h = look env h from rfl, hk] at this; exact this
  have hv : vl a w0.fr t = r.hdr := by have := hr.env t; rw [show (St.mk env bs).look t = look env t from rfl, hl] at this; exact this
  obtain ⟨hrow, hside, hfree⟩ := NestOk.cons.1 (hnest.perm (get_perm hi))
  have hth : t ≠ h := fun e => by subst e; rw [Nat.blt_eq] at ht; rw [Nat.ble_eq] at hh; omega
  obtain ⟨h1, h2, h3, h4⟩ := hrow
  -- the tags and ends as they are now
  obtain ⟨T', F', hT1, hT2, hT3⟩ : ∃ (T' : Nat → BTag) (F' : Nat → Nat), (∀ b, (r.blk ≠ some b) → T' b = T b ∧ F' b = F b) ∧ (∀ b o, r.A = some (b, o) → T' b = .row τ ∧ F' b = o + r.els.length * k) ∧ True := by
    cases hA : r.A with
    | none => exact ⟨T, F, fun _ _ => ⟨rfl, rfl⟩, (fun b o h => nomatch h), trivial⟩
    | some p =>
      refine ⟨fun b => if b = p.1 then .row τ else T b, fun b => if b = p.1 then p.2 + r.els.length * k else F b, fun b hb => ?_, fun b o h => ?_, trivial⟩
      · have : b ≠ p.1 := fun e => hb (by unfold NRow.blk; rw [hA, e]; rfl)
        exact ⟨if_neg this, if_neg this⟩
      · injection h with h
        subst h
        exact ⟨if_pos rfl, if_pos rfl⟩
  have hown : ∀ b, T b ≠ .obj (g + 1) → T' b = T b ∧ F' b = F b := fun b hb => hT1 b fun hbb => hb (by
    rcases h4 with ⟨h4, _⟩ | ⟨b', o, cur, e', q1, q2, _⟩
    · unfold NRow.blk at hbb; rw [h4] at hbb; cases hbb
    · rw [NRow.blk_some q1] at hbb; injection hbb with hbb; subst hbb; exact q2)
  refine ⟨T', F', ρ, hr.defers, hr.size, hr.small, hr.below, fun b hb => ?_, fun u => ?_, fun id cs hid hne => ?_⟩
  · rw [(hown b (by rw [hr.ext b hb]; intro h; cases h)).1]; exact hr.ext b hb
  · show RepP T' F' ρ w (look ((t, _) :: (h, _) :: rmS [h] env) u) (vl a w0.fr u)
    rw [look_put]
    split
    · rename_i hu
      subst hu
      rw [hv]
      refine ⟨r.A.map fun p => ⟨p.1, p.2, none⟩, r.els.length, r.cap, rfl, rfl, h2, h3, h1, fun hA => ?_, fun ad hA => ?_, ⟨.inl (by simp), ?_⟩, .inr ?_⟩
      · rcases h4 with ⟨h4, h5⟩ | ⟨b, o, cur, e, q1, _⟩
        · exact ⟨by omega, h5⟩
        · rw [q1] at hA; cases hA
      · rcases h4 with ⟨h4, h5⟩ | ⟨b, o, cur, e, q1, q2, q3, q4, q5⟩
        · rw [h4] at hA; cases hA
        · rw [q1] at hA
          injection hA with hA
          subst hA
          exact ⟨rfl, (Array.getElem?_eq_some_iff.1 q3).1, (hT2 b o q1).1, .inr (Nat.le_of_eq (hT2 b o q1).2.symm), q5⟩
      · rcases h4 with ⟨h4, h5⟩ | ⟨b, o, cur, e, q1, q2, q3, q4, q5⟩
        · exact .inl (by omega)
        · exact .inr ⟨b, o, cur, e, by rw [q1]; rfl, (hT2 b o q1).2.symm, q3, q4⟩
      · rcases h4 with ⟨h4, h5⟩ | ⟨b, o, cur, e, q1, q2, q3, q4, q5⟩
        · exact .inl (by rw [h4]; rfl)
        · exact .inr ⟨b, o, cur, e, by rw [q1]; rfl, q3, q4⟩
    · rw [look_put]
      split
      · refine NestOk.perm (set_perm hil _).symm (NestOk.cons.2 ⟨.nl _ _ _ _, ?_, fun b hb => nomatch hb⟩)
        exact hside.except fun b hb => (hT1 b fun e => hfree b e hb).1
      · rcases look_rmS [h] env u with h' | h'
        · rw [h']; trivial
        · have hnn := noNest_look hn u
          rw [h'] at hnn ⊢
          have ho : ∀ b g', (look env u).owns b g' → T b = .obj g' → T' b = .obj g' := fun b g' how hb => by
            rw [(hown b (fun e => ?_)).1]; exact hb
            rw [hb] at e
            injection e with e
            subst e
            cases hq : look env u with
            | kept b' o => rw [hq] at how; have := how.2; omega
            | nest g2 k2 rows2 =>
              rw [hq] at how hnn
              have e2 : g + 1 = g2 + 1 := how
              exact nestNe_of hnn (by rw [show g2 = g by omega]; exact List.mem_singleton_self _)
            | _ => rw [hq] at how; exact how
          exact (hr.env u).turn (fun tg _ x hx => hown x (by rw [hx]; cases tg <;> intro h <;> cases h)) (fun id' _ => ⟨rfl, fun x hx => (hown x (by rw [hx]; intro h; cases h)).1⟩) ho (fun x hx => by rw [(hown x (by rw [hx]; intro h; cases h)).1]; exact hx)
  · obtain ⟨b1, b2, b3, b4⟩ := hr.boxes id cs hid hne
    exact ⟨b1, b2, by rw [(hown _ (by rw [b3]; intro h; cases h)).1]; exact b3, b4⟩
/-- The tag is nobody's. -/
def noTag (τ : Nat) (env : List (Nat × PV)) : Bool := env.all fun p => !p.2.hasTag τ
theorem noTag_look {τ : Nat} : ∀ {env : List (Nat × PV)}, noTag τ env = true → ∀ t, (look env t).hasTag τ = false
  | [], _, t => rfl
  | (u, p) :: l, h, t => by
    have h : (!p.hasTag τ && noTag τ l) = true := h
    rw [Bool.and_eq_true] at h
    rw [look_put]
    split
    · simpa using h.1
    · exact noTag_look h.2 t
/-- A row of the call's own is put into a nest, in the place of the i-th slice, or behind all. -/
theorem Turns.intoN {env : List (Nat × PV)} {bs : List (Nat × List Value)} (t h : Nat) (f : NRow → List NRow) {rest : List NRow} {τ g k : Nat} {app : App} {els : List (List Value)} {rows : List NRow} (hf : ∀ r, (f r).Perm (r :: rest)) (hrest : ∀ T w, NestOk T w g k rows → NestOk T w g k rest) (hl : look env t = .s (.sl (some τ) app k els)) (hk : look env h = .nest g k rows) (ht : Nat.blt t 1000000 = true) (hh : Nat.ble 2000000 h = true) :
    Turns ⟨env, bs⟩ (fun s1 => ∃ r : NRow, r.els = els ∧ els.length ≤ r.cap ∧ s1 = ⟨(t, .s (.v r.hdr)) :: (h, .nest g k (f r)) :: (rmS [h] env).map (fun p => (p.1, p.2.dropT τ)), bs⟩) := by
  rintro w0 m a w ⟨T, F, ρ, hr⟩
  have hnest : NestOk T w g k rows := by have := hr.env h; rw [show (St.mk env bs).look h = look env h from rfl, hk] at this; exact this
  obtain ⟨A, n, c, hv, h1, h2, h3, h4, h5, h6, h7, h8⟩ : ∃ A n c, vl a w0.fr t = .slice A n c ∧ SlOk T F w (some τ) app k els A n c := by have := hr.env t; rw [show (St.mk env bs).look t = look env t from rfl, hl] at this; exact this
  have hside := hrest T w hnest
  have hth : t ≠ h := fun e => by subst e; rw [Nat.blt_eq] at ht; rw [Nat.ble_eq] at hh; omega
  have hdrop : ∀ p : PV, (p.dropT τ = .any) ∨ (p.dropT τ = p ∧ p.hasTag τ = false) := fun p => by
    unfold PV.dropT
    cases p.hasTag τ with
    | true => exact .inl rfl
    | false => exact .inr ⟨rfl, rfl⟩
  have hA : ∃ A' : Option (Nat × Nat), A = A'.map fun p => ⟨p.1, p.2, none⟩ := by
    cases A with
    | none => exact ⟨none, rfl⟩
    | some ad =>
      obtain ⟨b, o, sp⟩ := ad
      have := (h6 _ rfl).1
      simp only at this
      subst this
      exact ⟨some (b, o), rfl⟩
  obtain ⟨A', rfl⟩ := hA
  refine ⟨_, ⟨⟨A', c, els⟩, rfl, by show els.length ≤ c; omega, rfl⟩, ?_⟩
  obtain ⟨T', hT1, hT2⟩ : ∃ T' : Nat → BTag, (∀ b, T b ≠ .row τ → T' b = T b) ∧ ∀ b o, A' = some (b, o) → T' b = .obj (g + 1) ∧ ∀ b', b' ≠ b → T' b' = T b' := by
    cases A' with
    | none => exact ⟨T, fun _ _ => rfl, (fun b o h => nomatch h)⟩
    | some p =>
      refine ⟨fun b => if b = p.1 then .obj (g + 1) else T b, fun b hb => if_neg fun e => hb (by rw [e]; exact (h6 _ rfl).2.2.1), fun b o h => ?_⟩
      injection h with h
      subst h
      exact ⟨if_pos rfl, fun b' hb' => if_neg hb'⟩
  refine ⟨T', F, ρ, hr.defers, hr.size, hr.small, hr.below, fun b hb => ?_, fun u => ?_, fun id cs hid hne => ?_⟩
  · rw [hT1 b (by rw [hr.ext b hb]; intro h; cases h)]; exact hr.ext b hb
  · show RepP T' F ρ w (look ((t, _) :: (h, _) :: (rmS [h] env).map (fun p => (p.1, p.2.dropT τ))) u) (vl a w0.fr u)
    rw [look_put]
    split
    · rename_i hu
      subst hu
      rw [hv, h1]; rfl
    · rw [look_put]
      split
      · refine NestOk.perm (hf _).symm (NestOk.cons.2 ⟨⟨h4, by show els.length ≤ c; omega, h3, ?_⟩, ?_, fun b hb hm => ?_⟩)
        · cases hA' : A' with
          | none => subst hA'; exact .inl ⟨rfl, (h5 rfl).2⟩
          | some p =>
            subst hA'
            obtain ⟨q1, q2, q3, q4, q5⟩ := h6 _ rfl
            obtain ⟨b, o⟩ := p
            rcases h8 with h8 | h8 | ⟨b', o', cur, e, e1, e2, e3⟩
            · cases h8
            · cases h8
            · injection e1 with e1
              injection e1 with e1 e1'
              subst e1 e1'
              exact .inr ⟨b, o, cur, e, rfl, (hT2 b o rfl).1, e2, e3, q5⟩
        · exact hside.except fun b hb => hT1 b (by rw [(hside.obj hb).1]; intro h; cases h)
        · have hb' := (hside.obj hm).1
          obtain ⟨⟨b2, o⟩, hA', hb⟩ := Option.map_eq_some_iff.1 (show A'.map (·.1) = some b from hb)
          simp only at hb
          subst hb
          subst hA'
          have := (h6 _ rfl).2.2.1
          rw [show T b2 = BTag.row τ from this] at hb'
          cases hb'
      · rw [look_map (fun p => p.dropT τ) rfl]
        rcases hdrop (look (rmS [h] env) u) with e | ⟨e, ht'⟩
        · rw [e]; trivial
        · rw [e]
          rcases look_rmS [h] env u with h' | h'
          · rw [h']; trivial
          · rw [h'] at ht' ⊢
            refine (hr.env u).turn (fun tg htg x hx => ⟨hT1 x fun hx' => ?_, rfl⟩) (fun id' _ => ⟨rfl, fun x hx => hT1 x (by rw [hx]; intro h; cases h)⟩) (fun b g' _ hb => (hT1 b (by rw [hb]; intro h; cases h)).trans hb) (fun x hx => (hT1 x (by rw [hx]; intro h; cases h)).trans hx)
            rw [hx] at hx'
            cases tg with
            | none => cases hx'
            | some τ' =>
              injection hx' with hx'
              subst hx'
              have := htg τ' rfl
              rw [show (St.mk env bs).look u = look env u from rfl, ht'] at this
              cases this
  · obtain ⟨b1, b2, b3, b4⟩ := hr.boxes id cs hid hne
    exact ⟨b1, b2, by rw [hT1 _ (by rw [b3]; intro h; cases h)]; exact b3, b4⟩
theorem NestOk.sub {T : Nat → BTag} {w : World} {g k : Nat} {rows rows' : List NRow} (hs : rows'.Sublist rows) (h : NestOk T w g k rows) : NestOk T w g k rows' := ⟨h.1.sublist (hs.filterMap _), fun r hr => h.2 r (hs.subset hr)⟩
theorem Turns.putN {env : List (Nat × PV)} {bs : List (Nat × List Value)} (t h i : Nat) {τ g k : Nat} {app : App} {els : List (List Value)} {rows : List NRow} (hl : look env t = .s (.sl (some τ) app k els)) (hk : look env h = .nest g k rows) (hi : i < rows.length) (ht : Nat.blt t 1000000 = true) (hh : Nat.ble 2000000 h = true) :
    Turns ⟨env, bs⟩ (fun s1 => ∃ r : NRow, r.els = els ∧ els.length ≤ r.cap ∧ s1 = ⟨(t, .s (.v r.hdr)) :: (h, .nest g k (rows.set i r)) :: (rmS [h] env).map (fun p => (p.1, p.2.dropT τ)), bs⟩) :=
  Turns.intoN t h (fun r => rows.set i r) (fun r => set_perm hi r) (fun _ _ hn => hn.sub (sides_sub rows i)) hl hk ht hh
theorem Turns.pushN {env : List (Nat × PV)} {bs : List (Nat × List Value)} (t h : Nat) {τ g k : Nat} {app : App} {els : List (List Value)} {rows : List NRow} (hl : look env t = .s (.sl (some τ) app k els)) (hk : look env h = .nest g k rows) (ht : Nat.blt t 1000000 = true) (hh : Nat.ble 2000000 h = true) :
    Turns ⟨env, bs⟩ (fun s1 => ∃ r : NRow, r.els = els ∧ els.length ≤ r.cap ∧ s1 = ⟨(t, .s (.v r.hdr)) :: (h, .nest g k (rows ++ [r])) :: (rmS [h] env).map (fun p => (p.1, p.2.dropT τ)), bs⟩) :=
  Turns.intoN t h (fun r => rows ++ [r]) (fun r => snoc_perm rows r) (fun _ _ hn => hn) hl hk ht hh

section
variable {dr : Bool} {P : Program} {ops : Array Oper} {rest : List Oper} {env : List (Nat × PV)} {bs : List (Nat × List Value)} {K : St → Prop} {d : Nat} {op : Op} {ty : TypeId} {pos : String} {aft : Array Edge} {gd : Option (Nat × Bool)}
theorem Hu.asHds {o : Oper} {ev : Operand → PV} {bx : Nat → Option (List Value)} {v : Value} {tag : Option Nat} {k : Nat} {row : List (List Value)} {m : List (Value × List (List Value))} (h : Nat) (hu : Hu P o ev bx (.s (.v v)) none) (hh : Nat.ble 1000000 h = true) (hf : ev (.tmp h) = .hds tag k m) (hm : (v, row) ∈ m) : Hu P o ev bx (.s (.sl tag .no k row)) none := fun σs => by
  rw [unL_s, unS_sl, unA_no]
  refine ⟨fun B T F ρ a w hB hop next Q hK => ?_, fun σ _ _ => congrArg PV.s (SV.un_no ..)⟩
  have h1 := (hu σs).1
  rw [unL_v] at h1
  have h2 := (hop (.tmp h) (.inr hh)).1
  unfold unE at h2
  rw [hf, unL_hds] at h2
  refine h1 B T F ρ a w hB hop next Q fun v' w' T' F' ρ' hb hT hρ hv _ => ?_
  refine hK v' w' T' F' ρ' hb hT hρ ?_ (fun p hp => by cases hp)
  obtain ⟨hg, hE⟩ := Goes.of_below hb hT
  have h3 := RepS.goes hg hE (h2 _ hm)
  rw [SV.un_no] at h3
  rw [show v' = v from hv]
  exact h3
/-- A header is read that is known to be that of a slice. -/
theorem RunK.loadHdsE {t : TypeId} [h1 : TyOne P t] {x : Operand} {tg tag : Option Nat} {k0 k : Nat} {els row : List (List Value)} {e : List Value} {i j : Nat} {v : Value} {m : List (Value × List (List Value))} (h : Nat) (hw : wantedS ops ⟨env, bs⟩ ⟨some d, .load t x, ty, pos, aft, gd⟩ = some true) (hx : (St.mk env bs).ev x = .elp tg k0 els i j) (he : els[i]? = some e) (hu : e[j]? = some v) (hh : Nat.ble 1000000 h = true) (hf : look env h = .hds tag k m) (hm : (v, row) ∈ m)
    (kk : RunK dr P ops rest ⟨(d, .s (.sl tag .no k row)) :: env, bs⟩ K) : RunK dr P ops (⟨some d, .load t x, ty, pos, aft, gd⟩ :: rest) ⟨env, bs⟩ K :=
  .val rfl rfl hw (Hu.asHds h (.ofV fun σs => Val.loadEl (unE_l σs hx) he (.one h1 hu)) hh (ev_fact (Nat.ble_eq ▸ hh) hf rfl) hm) kk
theorem RunK.loadHdsB {t : TypeId} [h1 : TyOne P t] {x : Operand} {tag : Option Nat} {id off k : Nat} {cs : List Value} {row : List (List Value)} {v : Value} {m : List (Value × List (List Value))} (h : Nat) (hw : wantedS ops ⟨env, bs⟩ ⟨some d, .load t x, ty, pos, aft, gd⟩ = some true) (hx : (St.mk env bs).ev x = .box id off) (hb : (St.mk env bs).box id = some cs) (hu : cs[off]? = some v) (hh : Nat.ble 1000000 h = true) (hf : look env h = .hds tag k m) (hm : (v, row) ∈ m)
    (kk : RunK dr P ops rest ⟨(d, .s (.sl tag .no k row)) :: env, bs⟩ K) : RunK dr P ops (⟨some d, .load t x, ty, pos, aft, gd⟩ :: rest) ⟨env, bs⟩ K :=
  .val rfl rfl hw (Hu.asHds h (.ofV fun σs => Val.loadBox (unE_b σs hx) hb (.one h1 hu)) hh (ev_fact (Nat.ble_eq ▸ hh) hf rfl) hm) kk
theorem nest_row {k : Nat} {r : NRow} {T : Nat → BTag} {w : World} {g : Nat} (h : NRowOk T w g k r) {j : Nat} {e : List Value} (he : r.els[j]? = some e) : ∃ b o cur ee, r.A = some (b, o) ∧ w.heap[b]? = some (.cells cur ee (0, 0)) ∧ o + r.cap * k ≤ cur.size ∧ RowAt w b o k r.els ∧ T b = .obj (g + 1) := by
  have hj : j < r.els.length := (List.getElem?_eq_some_iff.1 he).1
  obtain ⟨h1, h2, h3, h4⟩ := h
  rcases h4 with ⟨_, h5⟩ | ⟨b, o, cur, ee, q1, q2, q3, q4, q5⟩
  · omega
  · exact ⟨b, o, cur, ee, q1, q3, q4, q5, q2⟩
/-- The place of an element of a nest's slice. -/
theorem RunK.idxN {t e by0 : Nat} [hT : TySl P t e 1 by0] {x y : Operand} {g : Nat} {rows : List NRow} {r : NRow} {kd : IntKind} {i : Int} {j : Nat} {u : List Value} (h : Nat) (hw : wantedS ops ⟨env, bs⟩ ⟨some d, .indexAddr t x y, ty, pos, aft, gd⟩ = some true) (hx : (St.mk env bs).ev x = .s (.v r.hdr)) (hy : (St.mk env bs).ev y = .s (.v (.int kd i))) (hij : i = (j : Int)) (hh : Nat.ble 1000000 h = true) (hk : look env h = .nest g 1 rows) (hr : r ∈ rows) (hj : r.els[j]? = some u)
    (k : RunK dr P ops rest ⟨(d, .s (.v (r.ptr j))) :: env, bs⟩ K) : RunK dr P ops (⟨some d, .indexAddr t x y, ty, pos, aft, gd⟩ :: rest) ⟨env, bs⟩ K :=
  .plainK rfl hw (fun a w hs => by
    subst hij
    have h1 := hs.v x _ (by simp [Op.operands]) hx
    have h2 := hs.v y _ (by simp [Op.operands]) hy
    obtain ⟨T, hN⟩ := hs.n h _ _ _ (Nat.ble_eq ▸ hh) hk
    obtain ⟨b, o, cur, ee, q1, _⟩ := nest_row (hN.2 r hr) hj
    obtain ⟨inf, z, hi, _, hsz, _⟩ := hT.info
    have hjl : j < r.els.length := (List.getElem?_eq_some_iff.1 hj).1
    have hin : (0 : Int) ≤ j ∧ (j : Int) < r.els.length := by omega
    unfold NRow.hdr at h1
    unfold NRow.ptr
    rw [q1] at h1 ⊢
    simp [execOp, h1, h2, Instr.indexAt, asIntOf, run_underlying hT.und, Go.sizeOf, typeInfo, hi, hsz, hin, Addr.add_mid]
    omega) k
theorem RunK.loadRN {t : TypeId} [ht : TyOne P t] {x : Operand} {g : Nat} {rows : List NRow} {r : NRow} {j : Nat} {u : Value} (h : Nat) (hw : wantedS ops ⟨env, bs⟩ ⟨some d, .load t x, ty, pos, aft, gd⟩ = some true) (hx : (St.mk env bs).ev x = .s (.v (r.ptr j))) (hh : Nat.ble 1000000 h = true) (hk : look env h = .nest g 1 rows) (hr : r ∈ rows) (hj : r.els[j]? = some [u])
    (k : RunK dr P ops rest ⟨(d, .s (.v u)) :: env, bs⟩ K) : RunK dr P ops (⟨some d, .load t x, ty, pos, aft, gd⟩ :: rest) ⟨env, bs⟩ K :=
  .plainK rfl hw (fun a w hs => by
    have h1 := hs.v x _ (by simp [Op.operands]) hx
    obtain ⟨T, hN⟩ := hs.n h _ _ _ (Nat.ble_eq ▸ hh) hk
    obtain ⟨b, o, cur, ee, q1, q2, q3, q4, _⟩ := nest_row (hN.2 r hr) hj
    have hc := q4 j 0 _ u hj rfl
    rw [show o + j * 1 + 0 = o + j by omega] at hc
    unfold NRow.ptr at h1
    rw [q1] at h1
    simp only [Option.getD_some] at h1
    simp [execOp, h1, Instr.loadAt, Instr.sureAddr, run_loadVar_one ht hc]) k
/-- How long a slice is whose header is known. -/
theorem RunK.lenK {t e k0 by0 : Nat} [hT : TySl P t e k0 by0] {x : Operand} {A : Option Addr} {m c : Nat} (hw : wantedS ops ⟨env, bs⟩ ⟨some d, .call ⟨.builtin .len, #[x], #[t]⟩, ty, pos, aft, gd⟩ = some true) (hx : (St.mk env bs).ev x = .s (.v (.slice A m c)))
    (k : RunK dr P ops rest ⟨(d, .s (.v (.int .i64 m))) :: env, bs⟩ K) : RunK dr P ops (⟨some d, .call ⟨.builtin .len, #[x], #[t]⟩, ty, pos, aft, gd⟩ :: rest) ⟨env, bs⟩ K :=
  .plainK rfl hw (fun a w hs => by
    have h1 := hs.v x _ (by simp [Op.operands, Call.operands]) hx
    simp [execOp, resolve, invoke, builtin, Builtin.len_, run_underlying hT.und, h1, goInt]) k
def NRow.clip (r : NRow) (n : Nat) : NRow := ⟨r.A, n, r.els.take n⟩
theorem opt_bound {s : St} {y : Operand} {kd : IntKind} {i : Int} {l dflt : Nat} (hy : s.ev y = .s (.v (.int kd i))) (hil : i = (l : Int)) {a : Act} {w : World} (h2 : a.eval y = .int kd i) (n : Nat) (hn : l ≤ n) (code : BoundsCode) : (match some (a.eval y) with | some v => Instr.sliceBound v n code | none => pure dflt : Sem Nat).run P w = .ok l w := by
  have := (OptN.given (ev := s.ev) (dflt := dflt) hy hil).bound (P := P) (w := w) (a := a) (T := fun _ => .ext) (F := fun _ => 0) (ρ := fun _ => (0, 0)) (fun x hx => by
    obtain rfl : x = y := by simpa using hx
    rw [hy]; exact h2) n hn code
  simpa using this
theorem RunK.sliceFromN {t e k0 by0 : Nat} [hT : TySl P t e k0 by0] {x y : Operand} {r : NRow} {kd : IntKind} {i : Int} {l : Nat} (hw : wantedS ops ⟨env, bs⟩ ⟨some d, .slice t x (some y) none none, ty, pos, aft, gd⟩ = some true) (hx : (St.mk env bs).ev x = .s (.v r.hdr)) (hy : (St.mk env bs).ev y = .s (.v (.int kd i))) (hil : i = (l : Int)) (hl : l ≤ r.els.length)
    (k : RunK dr P ops rest ⟨(d, .s (.v (r.from k0 l))) :: env, bs⟩ K) : RunK dr P ops (⟨some d, .slice t x (some y) none none, ty, pos, aft, gd⟩ :: rest) ⟨env, bs⟩ K :=
  .plainK rfl hw (fun a w hs => by
    have h3 := hs.v x _ (by simp [Op.operands]) hx
    have h2 := hs.v y _ (by simp [Op.operands]) hy
    obtain ⟨inf, z, hi, _, hsz, _⟩ := hT.info
    have hb := opt_bound (P := P) (dflt := 0) hy hil (w := w) h2 r.els.length hl .sliceB
    unfold NRow.hdr at h3
    simp only [execOp, Instr.sliceAt, Sem.run_bind, run_underlying hT.und, Result.andThen_ok, Instr.slice, h3, Instr.sliceBounds, Option.map_some, Option.map_none, Sem.run_pure, Option.isSome_none, Bool.false_eq_true, if_false, hb, Go.sizeOf, typeInfo, run_program, hi, hsz]
    rcases r with ⟨_ | ⟨b, o⟩, cap, els⟩
    · simp [NRow.from]
    · simp [NRow.from, Addr.add_mid]) k
theorem RunK.sliceToN {t e k0 by0 : Nat} [hT : TySl P t e k0 by0] {x y : Operand} {r : NRow} {kd : IntKind} {i : Int} {l : Nat} (hw : wantedS ops ⟨env, bs⟩ ⟨some d, .slice t x none (some y) none, ty, pos, aft, gd⟩ = some true) (hx : (St.mk env bs).ev x = .s (.v r.hdr)) (hy : (St.mk env bs).ev y = .s (.v (.int kd i))) (hil : i = (l : Int)) (hl : l ≤ r.els.length) (hc : r.els.length ≤ r.cap)
    (k : RunK dr P ops rest ⟨(d, .s (.v (r.cut l).hdr)) :: env, bs⟩ K) : RunK dr P ops (⟨some d, .slice t x none (some y) none, ty, pos, aft, gd⟩ :: rest) ⟨env, bs⟩ K :=
  .plainK rfl hw (fun a w hs => by
    have h3 := hs.v x _ (by simp [Op.operands]) hx
    have h2 := hs.v y _ (by simp [Op.operands]) hy
    obtain ⟨inf, z, hi, _, hsz, _⟩ := hT.info
    have hb := opt_bound (P := P) (dflt := 0) hy hil (w := w) h2 r.cap (Nat.le_trans hl hc) .sliceAcap
    unfold NRow.hdr at h3
    simp only [execOp, Instr.sliceAt, Sem.run_bind, run_underlying hT.und, Result.andThen_ok, Instr.slice, h3, Instr.sliceBounds, Option.map_some, Option.map_none, Sem.run_pure, Option.isSome_none, if_true, hb, Go.sizeOf, typeInfo, run_program, hi, hsz]
    rcases r with ⟨_ | ⟨b, o⟩, cap, els⟩
    · simp [NRow.hdr, NRow.cut, Nat.min_eq_left hl]
    · simp [NRow.hdr, NRow.cut, Nat.min_eq_left hl, Addr.add_mid]) k
theorem RunK.sliceFullN {t e k0 by0 : Nat} [hT : TySl P t e k0 by0] {x y y2 : Operand} {r : NRow} {kd kd2 : IntKind} {i i2 : Int} {l : Nat} (hw : wantedS ops ⟨env, bs⟩ ⟨some d, .slice t x none (some y) (some y2), ty, pos, aft, gd⟩ = some true) (hx : (St.mk env bs).ev x = .s (.v r.hdr)) (hy : (St.mk env bs).ev y = .s (.v (.int kd i))) (hy2 : (St.mk env bs).ev y2 = .s (.v (.int kd2 i2))) (hil : i = (l : Int)) (hil2 : i2 = (l : Int)) (hl : l ≤ r.els.length) (hc : r.els.length ≤ r.cap)
    (k : RunK dr P ops rest ⟨(d, .s (.v (r.clip l).hdr)) :: env, bs⟩ K) : RunK dr P ops (⟨some d, .slice t x none (some y) (some y2), ty, pos, aft, gd⟩ :: rest) ⟨env, bs⟩ K :=
  .plainK rfl hw (fun a w hs => by
    have h3 := hs.v x _ (by simp [Op.operands]) hx
    have h2 := hs.v y _ (by simp [Op.operands]) hy
    have h4 := hs.v y2 _ (by simp [Op.operands]) hy2
    obtain ⟨inf, z, hi, _, hsz, _⟩ := hT.info
    have hb2 := opt_bound (P := P) (dflt := 0) hy2 hil2 (w := w) h4 r.cap (Nat.le_trans hl hc) .slice3Acap
    have hb := opt_bound (P := P) (dflt := 0) hy hil (w := w) h2 l (Nat.le_refl _) .slice3B
    unfold NRow.hdr at h3
    simp only [execOp, Instr.sliceAt, Sem.run_bind, run_underlying hT.und, Result.andThen_ok, Instr.slice, h3, Instr.sliceBounds, Option.map_some, Option.map_none, Sem.run_pure, Option.isSome_some, if_true, hb, hb2, Go.sizeOf, typeInfo, run_program, hi, hsz]
    rcases r with ⟨_ | ⟨b, o⟩, cap, els⟩
    · simp [NRow.hdr, NRow.clip, Nat.min_eq_left hl]
    · simp [NRow.hdr, NRow.clip, Nat.min_eq_left hl, Addr.add_mid]) k
end

theorem NestOk.heap {T : Nat → BTag} {w w' : World} {g k : Nat} {rows : List NRow} (h : NestOk T w g k rows) (hw : ∀ b ∈ rows.filterMap NRow.blk, w'.heap[b]? = w.heap[b]?) : NestOk T w' g k rows := by
  refine ⟨h.1, fun r hr => ?_⟩
  obtain ⟨h1, h2, h3, h4⟩ := h.2 r hr
  refine ⟨h1, h2, h3, h4.imp id ?_⟩
  rintro ⟨b, o, cur, e, q1, q2, q3, q4, q5⟩
  have hb := hw b (List.mem_filterMap.2 ⟨r, hr, NRow.blk_some q1⟩)
  refine ⟨b, o, cur, e, q1, q2, hb.trans q3, q4, fun i j x u hx hu => ?_⟩
  have := q5 i j x u hx hu
  simp only [World.cell?] at this ⊢
  rw [hb]; exact this
theorem nest_of {w0 : Base} {n : Nat} {T : Nat → BTag} {F : Nat → Nat} {ρ : Nat → Nat × Nat} {env : List (Nat × PV)} {bs : List (Nat × List Value)} {a : Act} {w : World} (hr : RSx w0 n T F ρ ⟨env, bs⟩ a w) {h g k : Nat} {rows : List NRow} (hk : look env h = .nest g k rows) : NestOk T w g k rows := by
  have := hr.env h
  rw [show (St.mk env bs).look h = look env h from rfl, hk] at this
  exact this
section
variable {P : Program} {ops : Array Oper} {rest : List Oper} {env : List (Nat × PV)} {bs : List (Nat × List Value)} {K : St → Prop} {d : Nat} {op : Op} {ty : TypeId} {pos : String} {aft : Array Edge} {gd : Option (Nat × Bool)}
/-- A nest's slice is told of in another way. -/
theorem Turns.reN (h i : Nat) (r' : NRow) {g k : Nat} {rows : List NRow} {r : NRow} (hk : look env h = .nest g k rows) (hi : rows[i]? = some r) (hA : r'.A = r.A) (hw : ∀ T w, NRowOk T w g k r → NRowOk T w g k r') : Turns ⟨env, bs⟩ (Eq ⟨(h, .nest g k (rows.set i r')) :: env, bs⟩) := by
  rintro w0 m a w ⟨T, F, ρ, hr⟩
  refine ⟨_, rfl, T, F, ρ, hr.addFact h fun _ => ?_⟩
  have hil : i < rows.length := (List.getElem?_eq_some_iff.1 hi).1
  obtain ⟨q1, q2, q3⟩ := NestOk.cons.1 ((nest_of hr hk).perm (get_perm hi))
  exact NestOk.perm (set_perm hil _).symm (NestOk.cons.2 ⟨hw T w q1, q2, fun b hb => q3 b (by unfold NRow.blk at hb ⊢; rw [hA] at hb; exact hb)⟩)
theorem NRowOk.cut {T : Nat → BTag} {w : World} {g k : Nat} {r : NRow} (n : Nat) (h : NRowOk T w g k r) : NRowOk T w g k (r.cut n) := by
  obtain ⟨h1, h2, h3, h4⟩ := h
  refine ⟨fun x hx => h1 x (List.mem_of_mem_take hx), Nat.le_trans (by show (r.els.take n).length ≤ _; rw [List.length_take]; exact Nat.min_le_right _ _) h2, h3, h4.imp id fun ⟨b, o, cur, e, q1, q2, q3, q4, q5⟩ => ⟨b, o, cur, e, q1, q2, q3, q4, RowAt.take q5⟩⟩
theorem NRowOk.clip {T : Nat → BTag} {w : World} {g k : Nat} {r : NRow} {n : Nat} (hn : n ≤ r.cap) (h : NRowOk T w g k r) : NRowOk T w g k (r.clip n) := by
  obtain ⟨h1, h2, h3, h4⟩ := h
  refine ⟨fun x hx => h1 x (List.mem_of_mem_take hx), by show (r.els.take n).length ≤ n; rw [List.length_take]; exact Nat.min_le_left _ _, Nat.le_trans hn h3, h4.imp (fun ⟨q1, q2⟩ => ⟨q1, by show n = 0; omega⟩) fun ⟨b, o, cur, e, q1, q2, q3, q4, q5⟩ => ⟨b, o, cur, e, q1, q2, q3, Nat.le_trans (Nat.add_le_add_left (Nat.mul_le_mul_right _ hn) _) q4, RowAt.take q5⟩⟩
/-- An element of a nest's slice is written. -/
theorem Eff.storeRN {t : TypeId} [hT : TySize P t 1] {x y : Operand} {g i j : Nat} {rows : List NRow} {r : NRow} {e0 : List Value} {u : Value} (h : Nat) (hx : (St.mk env bs).ev x = .s (.v (r.ptr j))) (hy : (St.mk env bs).ev y = .s (.v u)) (hk : look env h = .nest g 1 rows) (hi : rows[i]? = some r) (hj : r.els[j]? = some e0)
    (hc : u.cells.toList = [u]) (ho : u.oneCell' = true) (hn : noNest [g] (rmS [h] env) = true) : Eff P ⟨none, .store t x y, ty, pos, aft, gd⟩ ⟨env, bs⟩ (Eq ⟨(h, .nest g 1 (rows.set i (r.put j u))) :: rmS [h] env, bs⟩) := by
  rintro w0 n a w ⟨T, F, ρ, hr⟩ hd next Q hK
  have h1 := ev_v hr hx
  have h2 := ev_v hr hy
  have hil : i < rows.length := (List.getElem?_eq_some_iff.1 hi).1
  have hjl : j < r.els.length := (List.getElem?_eq_some_iff.1 hj).1
  obtain ⟨q1, q2, q3⟩ := NestOk.cons.1 ((nest_of hr hk).perm (get_perm hi))
  obtain ⟨b, o, cur, ee, hA, hh, hcap, hat, hTb⟩ := nest_row q1 hj
  have hlen := q1.2.1
  have hoj : o + j < cur.size := by omega
  have hcell : w.cell? ⟨b, o + j, none⟩ = some cur[o + j] := by rw [cell_of_row w b (o + j) cur ee (0, 0) hh]; simp [hoj]
  have hfr : w.frozen? ⟨b, o + j, none⟩ = false := by unfold World.frozen?; rw [hh]; simp
  have hst := run_storeCells_cells (P := P) b (o + j) [u] 0 w (fun i hi => by simp at hi; subst hi; simp [hcell]) (fun i hi => by simp at hi; subst hi; simpa using hfr) (fun v hv => by rw [List.mem_singleton.1 hv]; exact ho)
  have hsz : u.cells.size = 1 := by rw [← Array.length_toList, hc]; rfl
  have hb : b < w.heap.size := (Array.getElem?_eq_some_iff.1 hh).1
  have hrun : (execOp a.eval ⟨none, .store t x y, ty, pos, aft, gd⟩).run P w = .ok .skip (w.putObj b (.cells (cur.setIfInBounds (o + j) u) ee (0, 0))) := by
    have hs := hT.size
    unfold NRow.ptr at h1
    rw [hA] at h1
    simp only [Option.getD_some] at h1
    cases hi : P.info? t with
    | none => rw [hi] at hs; cases hs
    | some inf =>
      have hsz2 : inf.size = 1 := by rw [hi] at hs; simpa using hs
      simp only [Nat.add_zero, World.setCells] at hst
      simp [execOp, h1, h2, Instr.storeAt, Instr.sureAddr, storeVar, Go.sizeOf, typeInfo, hi, hsz2, hsz, hc, hst, setCell_put hh]
  unfold Oper.wp
  rw [hrun]
  refine hK _ rfl _ _ ⟨T, F, ρ, ?_⟩
  have hother : ∀ c, c ≠ b → (w.putObj b (.cells (cur.setIfInBounds (o + j) u) ee (0, 0))).heap[c]? = w.heap[c]? := fun c hc => World.putObj_heap_other hc
  have hsame : (w.putObj b (.cells (cur.setIfInBounds (o + j) u) ee (0, 0))).heap[b]? = some (.cells (cur.setIfInBounds (o + j) u) ee (0, 0)) := World.putObj_heap_same hb
  have hnew : NestOk T (w.putObj b (.cells (cur.setIfInBounds (o + j) u) ee (0, 0))) g 1 (rows.set i (r.put j u)) := by
    refine NestOk.perm (set_perm hil _).symm (NestOk.cons.2 ⟨⟨fun x hx => ?_, by show (r.els.set j [u]).length ≤ r.cap; rw [List.length_set]; exact hlen, q1.2.2.1, .inr ⟨b, o, _, ee, hA, hTb, hsame, by rw [Array.size_setIfInBounds]; exact hcap, fun i' j' x' u' hx' hu' => ?_⟩⟩, q2.heap fun c hc => hother c fun e => q3 c (by rw [e]; exact NRow.blk_some hA) hc, fun c hc => q3 c hc⟩)
    · rcases List.mem_or_eq_of_mem_set hx with hx | hx
      · exact q1.1 x hx
      · rw [hx]; rfl
    · have hj'0 : j' = 0 := by
        have hl1 : x'.length = 1 := by
          have hm := List.mem_of_getElem? hx'
          rcases List.mem_or_eq_of_mem_set hm with hm | hm
          · exact q1.1 x' hm
          · rw [hm]; rfl
        have := (List.getElem?_eq_some_iff.1 hu').1
        omega
      subst hj'0
      rw [cell_of_row _ b _ _ ee (0, 0) hsame]
      have hx2 : (r.els.set j [u])[i']? = some x' := hx'
      rw [List.getElem?_set] at hx2
      by_cases hij : j = i'
      · subst hij
        rw [if_pos rfl, if_pos hjl] at hx2
        injection hx2 with hx2
        subst hx2
        injection hu' with hu'
        subst hu'
        simp [hoj]
      · rw [if_neg hij] at hx2
        have hold := hat i' 0 x' u' hx2 hu'
        rw [cell_of_row w b _ cur ee (0, 0) hh] at hold
        rw [Array.getElem?_setIfInBounds_ne (by omega)]
        exact hold
  have he : ∀ t, RepP T F ρ (w.putObj b (.cells (cur.setIfInBounds (o + j) u) ee (0, 0))) (look ((h, .nest g 1 (rows.set i (r.put j u))) :: rmS [h] env) t) (vl (a.put none undef) w0.fr t) ∨ (look ((h, .nest g 1 (rows.set i (r.put j u))) :: rmS [h] env) t = look env t ∧ vl (a.put none undef) w0.fr t = vl a w0.fr t ∧ keptNe [] (look env t) ∧ nestNe [g] (look env t) = true) := fun t => by
    rw [look_put]
    split
    · exact .inl hnew
    · rcases look_rmS [h] env t with h' | h'
      · rw [h']; exact .inl trivial
      · rw [h']
        refine .inr ⟨rfl, rfl, by cases look env t <;> first | trivial | exact List.not_mem_nil, ?_⟩
        rw [← h']
        exact noNest_look hn t
  exact hr.turnK (ws := []) (gs := [g]) (us := [b]) (a' := a.put none undef) (w' := w.putObj b (.cells (cur.setIfInBounds (o + j) u) ee (0, 0))) (T' := T) (F' := F) (fun c hc => .inr ⟨g, List.mem_singleton_self _, by rw [List.mem_singleton.1 hc]; exact hTb⟩) (by simp) rfl rfl rfl (fun c _ hc => hother c fun e => hc (by rw [e]; exact List.mem_singleton_self _)) (fun _ _ _ => ⟨rfl, rfl⟩) (defers_put ..) (size_put ..) he
end

theorem rmS_map (hs : List Nat) (f : PV → PV) : ∀ (l : List (Nat × PV)), rmS hs (l.map fun p => (p.1, f p.2)) = (rmS hs l).map fun p => (p.1, f p.2)
  | [] => rfl
  | (t, p) :: l => by
    rw [List.map_cons, rmS, rmS, rmS_map hs f l]
    cases hs.any (Nat.beq t) <;> rfl
theorem SV.un_noTag {τ : Nat} {x : SV} (h : x.hasTag τ = false) : x.un (some τ) = x := by
  cases x with
  | sl tag app k els =>
    cases tag with
    | none => rfl
    | some t =>
      have h : Nat.beq t τ = false := h
      have h2 : Nat.beq τ t = false := by rw [← Bool.not_eq_true, Nat.beq_eq] at h ⊢; exact fun e => h e.symm
      simp only [SV.un, h2, cond_false]
  | _ => rfl
theorem PV.un_noTag {τ : Nat} {p : PV} (h : p.hasTag τ = false) : p.un (some τ) = p := by
  cases p with
  | s x => exact congrArg PV.s (SV.un_noTag h)
  | tup xs =>
    refine congrArg PV.tup ?_
    refine (List.map_congr_left fun x hx => ?_).trans (List.map_id xs)
    exact SV.un_noTag (by
      have := List.any_eq_false.1 h x hx
      simpa using this)
  | hd v x => exact congrArg (PV.hd v) (SV.un_noTag h)
  | _ => rfl
theorem Eff.turn {P : Program} {o : Oper} {s : St} {S S' : St → Prop} (h : Eff P o s S) (k : ∀ s1, S s1 → Turns s1 S') : Eff P o s S' := by
  intro w0 n a w hr hd next Q hK
  refine h w0 n a w hr hd next Q fun s1 hs a' w' hr' => ?_
  obtain ⟨s2, h2, hr2⟩ := k s1 hs w0 n a' w' hr'
  exact hK s2 h2 a' w' hr2
theorem Turns.post {s : St} {S S' : St → Prop} (h : Turns s S) (k : ∀ s1, S s1 → ∃ s2, S' s2 ∧ Less s1 s2) : Turns s S' := by
  intro w0 n a w hr
  obtain ⟨s1, h1, hr1⟩ := h w0 n a w hr
  obtain ⟨s2, h2, hl⟩ := k s1 h1
  exact ⟨s2, h2, hr1.less hl⟩
section
variable {dr : Bool} {P : Program} {ops : Array Oper} {rest : List Oper} {env : List (Nat × PV)} {bs : List (Nat × List Value)} {K : St → Prop} {d : Nat} {op : Op} {ty : TypeId} {pos : String} {aft : Array Edge} {gd : Option (Nat × Bool)}
/-- An append to a nest's slice. -/
theorem Eff.appendRN {t e bytes : Nat} [hT : TySl P t e 1 bytes] {tx : Nat} {y : Operand} {g i : Nat} {rows : List NRow} {r : NRow} {els2 : List (List Value)} (h τ : Nat) (hx : look env tx = .s (.v r.hdr)) (htx : Nat.blt tx 1000000 = true) (hk : look env h = .nest g 1 rows) (hi : rows[i]? = some r) (hh : Nat.ble 2000000 h = true) (hn : noNest [g] (rmS [h] env) = true) (hnt : noTag τ (rmS [h] env) = true) (hd0 : Nat.blt d 1000000 = true)
    (hy : ReadLe ((St.mk ((tx, .s (.sl (some τ) (.front e) 1 r.els)) :: (h, .nest g 1 (rows.set i NRow.nl)) :: rmS [h] env) bs).ev y) 1 els2) (hone : ∀ l ∈ els2, ∀ u ∈ l, u.oneCell' = true) (hb : (r.els.length + els2.length) * bytes ≤ 140737488355328) :
    Eff P ⟨some d, .call ⟨.builtin .append, #[.tmp tx, y], #[t, t]⟩, ty, pos, aft, gd⟩ ⟨env, bs⟩ (fun s1 => ∃ r' : NRow, r'.els = r.els ++ els2 ∧ r'.els.length ≤ r'.cap ∧ s1 = ⟨(d, .s (.v r'.hdr)) :: (tx, .any) :: (h, .nest g 1 (rows.set i r')) :: rmS [h] env, bs⟩) := by
  have hil : i < rows.length := (List.getElem?_eq_some_iff.1 hi).1
  have htx' : tx < 1000000 := Nat.blt_eq ▸ htx
  have hd' : d < 1000000 := Nat.blt_eq ▸ hd0
  have hh' : 2000000 ≤ h := Nat.ble_eq ▸ hh
  refine Eff.pre (Turns.takeN tx h τ i e hx hk hi htx hh hn) fun s1 hs1 => ?_
  subst hs1
  have ex : (St.mk ((tx, .s (.sl (some τ) (.front e) 1 r.els)) :: (h, .nest g 1 (rows.set i NRow.nl)) :: rmS [h] env) bs).ev (.tmp tx) = .s (.sl (some τ) (.front e) 1 r.els) := by
    show (bif Nat.blt tx 1000000 then look _ tx else _) = _
    rw [htx, cond_true, look_put, if_pos rfl]
  refine Eff.turn (Eff.append (d := some d) (x := .tmp tx) (by rw [ex]; exact SrcLe.sl τ (.front e) 1 r.els) (.inr rfl) hy hone hb) fun s2 hs2 => ?_
  subst hs2
  have hl2 : ∀ u, look ((d, PV.s (.sl (some τ) (.front e) 1 (r.els ++ els2))) :: (((tx, PV.s (.sl (some τ) (.front e) 1 r.els)) :: (h, .nest g 1 (rows.set i NRow.nl)) :: rmS [h] env).map fun p : Nat × PV => (p.1, PV.un (some τ) p.2))) u = if d = u then PV.s (.sl (some τ) (.front e) 1 (r.els ++ els2)) else (look ((tx, PV.s (.sl (some τ) (.front e) 1 r.els)) :: (h, .nest g 1 (rows.set i NRow.nl)) :: rmS [h] env) u).un (some τ) := fun u => by
    rw [look_put, look_map (fun p => p.un (some τ)) rfl]
  show Turns (St.mk ((d, PV.s (.sl (some τ) (.front e) 1 (r.els ++ els2))) :: (((tx, PV.s (.sl (some τ) (.front e) 1 r.els)) :: (h, .nest g 1 (rows.set i NRow.nl)) :: rmS [h] env).map fun p : Nat × PV => (p.1, PV.un (some τ) p.2))) bs) _
  refine Turns.post (Turns.putN (env := (d, PV.s (.sl (some τ) (.front e) 1 (r.els ++ els2))) :: (((tx, PV.s (.sl (some τ) (.front e) 1 r.els)) :: (h, .nest g 1 (rows.set i NRow.nl)) :: rmS [h] env).map fun p : Nat × PV => (p.1, PV.un (some τ) p.2))) (bs := bs) d h i (rows := rows.set i NRow.nl) (by rw [hl2, if_pos rfl]) (by
      rw [hl2, if_neg (by omega), look_put, if_neg (by omega), look_put, if_pos rfl]; rfl) (by rw [List.length_set]; exact hil) hd0 hh) ?_
  rintro s3 ⟨r', h1, h2, rfl⟩
  refine ⟨_, ⟨r', h1, by rw [h1]; exact h2, rfl⟩, fun u => ?_, fun id cs hc => .inl hc⟩
  show PVLt (look ((d, _) :: (h, _) :: (rmS [h] _).map _) u) (look ((d, _) :: (tx, PV.any) :: (h, _) :: rmS [h] env) u)
  have hR : look ((d, PV.s (.v r'.hdr)) :: (tx, PV.any) :: (h, PV.nest g 1 (rows.set i r')) :: rmS [h] env) u = if d = u then PV.s (.v r'.hdr) else if tx = u then .any else if h = u then .nest g 1 (rows.set i r') else look (rmS [h] env) u := by rw [look_put, look_put, look_put]
  rw [hR, look_put]
  by_cases e1 : d = u
  · rw [if_pos e1, if_pos e1]; exact .le (.refl _)
  · rw [if_neg e1, if_neg e1]
    by_cases e2 : tx = u
    · rw [if_pos e2]; exact .le (.any _)
    · rw [if_neg e2, look_put]
      by_cases e3 : h = u
      · rw [if_pos e3, if_pos e3, List.set_set]; exact .le (.refl _)
      · rw [if_neg e3, if_neg e3, look_map (fun p => p.dropT τ) rfl]
        have e4 : look (rmS [h] ((d, PV.s (.sl (some τ) (.front e) 1 (r.els ++ els2))) :: (((tx, PV.s (.sl (some τ) (.front e) 1 r.els)) :: (h, .nest g 1 (rows.set i NRow.nl)) :: rmS [h] env).map fun p : Nat × PV => (p.1, PV.un (some τ) p.2)))) u = (look (rmS [h] env) u).un (some τ) := by
          have b1 : [h].any (Nat.beq d) = false := by simp only [List.any_cons, List.any_nil, Bool.or_false]; rw [← Bool.not_eq_true, Nat.beq_eq]; omega
          have b2 : [h].any (Nat.beq tx) = false := by simp only [List.any_cons, List.any_nil, Bool.or_false]; rw [← Bool.not_eq_true, Nat.beq_eq]; omega
          have b3 : [h].any (Nat.beq h) = true := by simp only [List.any_cons, List.any_nil, Bool.or_false]; exact Nat.beq_refl h
          rw [rmS, b1, cond_false, look_put, if_neg e1, rmS_map, look_map (fun p => p.un (some τ)) rfl, rmS, b2, cond_false, look_put, if_neg e2, rmS, b3, cond_true]
          congr 1
          have key : ∀ l : List (Nat × PV), rmS [h] (rmS [h] l) = rmS [h] l := fun l => by
            induction l with
            | nil => rfl
            | cons q l ih =>
              obtain ⟨v, p⟩ := q
              rw [rmS]
              cases hb : [h].any (Nat.beq v) with
              | true => rw [cond_true]; exact ih
              | false => rw [cond_false, rmS, hb, cond_false, ih]
          rw [key]
        rw [e4]
        have e5 := noTag_look hnt u
        rw [PV.un_noTag e5]
        unfold PV.dropT
        rw [e5]
        exact .le (.refl _)
theorem chop_rep (v : Value) : ∀ n : Nat, chop 1 n (List.replicate n v) = List.replicate n [v]
  | 0 => rfl
  | n + 1 => by rw [chop, List.replicate_succ, List.replicate_succ]; simp [chop_rep v n]
/-- make([]T, n). -/
theorem Val.makeSl {ev : Operand → PV} {bx : Nat → Option (List Value)} {dd : Option Nat} {t e by0 : Nat} {z : Value} [hT : TySl P t e 1 by0] [hz : TyZero P e z] (τ : Nat) {x y : Operand} {kd kd2 : IntKind} {n : Nat} (hx : ev x = .s (.v (.int kd (n : Int)))) (hy : ev y = .s (.v (.int kd2 (n : Int)))) (hb : n * by0 ≤ 140737488355328) {zv : Value} (hzc : z.cells = #[zv]) :
    Val P ⟨dd, .makeSlice t x y, ty, pos, aft, gd⟩ ev bx (.s (.sl (some τ) (.front e) 1 (List.replicate n [zv]))) none := by
  intro B T F ρ a w hB hop next Q hK
  have h1 := rep_v (hop x (.inl (by simp [Op.operands]))).1 hx
  have h2 := rep_v (hop y (.inl (by simp [Op.operands]))).1 hy
  obtain ⟨inf, z', hi, hz', hsz, hby, hzs⟩ := hT.info
  have hzz : z' = z := by
    obtain ⟨q1, q2, q3⟩ := hz
    rw [hi] at q2; injection q2 with q2; subst q2
    rw [hz'] at q3; injection q3
  subst hzz
  have hby0 := hT.by_
  have hnb : n ≤ 140737488355328 := Nat.le_trans (Nat.le_mul_of_pos_right _ hby0) hb
  have hc : (madeCells z'.cells (n * inf.size)).toList = List.replicate n zv := by
    rw [hsz, hzc, Nat.mul_one]
    refine List.ext_getElem? fun i => ?_
    unfold madeCells
    rw [List.getElem?_replicate]
    by_cases hin : i < n
    · simp [hin, Nat.mod_one]
    · simp [hin]
  have hbi : (inf.bytes : Int) * (n : Int) ≤ 281474976710656 := by
    rw [hby]
    have : ((by0 * n : Nat) : Int) ≤ 281474976710656 := by rw [Nat.mul_comm]; omega
    rwa [Int.natCast_mul] at this
  have hmk := run_make (P := P) w t e inf z' hT.und hi hz' kd kd2 n n (by omega) (Int.le_refl _) hbi (by omega)
  simp only [Int.toNat_natCast] at hmk
  have hrun : (execOp a.eval ⟨dd, .makeSlice t x y, ty, pos, aft, gd⟩).run P w = .ok (.value (.slice (some ⟨w.heap.size, 0, none⟩) n n)) (w.alloc (.cells (madeCells z'.cells (n * inf.size)) e)) := by
    simp [execOp, h1, h2, hmk]
  unfold Oper.wp
  rw [hrun]
  refine hK _ (w.alloc (.cells (madeCells z'.cells (n * inf.size)) e)) (fun b => if b = w.heap.size then .row τ else T b) (fun b => if b = w.heap.size then n * 1 else F b) ρ ((Below.refl _ _).alloc (Nat.le_refl _) _) (fun b hb => ⟨if_neg (by omega), if_neg (by omega)⟩) (fun _ _ => rfl) ?_ (fun p hp => by cases hp)
  have hlen : (madeCells z'.cells (n * inf.size)).toList.length = n * 1 := by rw [hc, List.length_replicate, Nat.mul_one]
  refine ⟨_, _, _, rfl, slOk_new (heap_alloc_new w _) (if_pos rfl) (if_pos rfl) (List.length_replicate ..).symm (Nat.le_refl _) (by unfold maxLen; omega) (fun l hl => by rw [List.eq_of_mem_replicate hl]; rfl) (by rw [← Array.length_toList]; exact hlen) ?_⟩
  rw [← chop_rep zv n, ← hc]
  refine RowAt.chop fun j v hj => ?_
  rw [Nat.zero_add, World.cell?_alloc_new]
  simpa using hj
theorem RunK.makeSl {t e by0 : Nat} {z : Value} [hT : TySl P t e 1 by0] [hz : TyZero P e z] {x y : Operand} {kd kd2 : IntKind} {n : Nat} (hw : wantedS ops ⟨env, bs⟩ ⟨some d, .makeSlice t x y, ty, pos, aft, gd⟩ = some true) (hx : (St.mk env bs).ev x = .s (.v (.int kd (n : Int)))) (hy : (St.mk env bs).ev y = .s (.v (.int kd2 (n : Int)))) (hb : n * by0 ≤ 140737488355328) {zv : Value} (hzc : z.cells = #[zv])
    (k : RunK dr P ops rest ⟨(d, .s (.sl (some d) (.front e) 1 (List.replicate n [zv]))) :: env, bs⟩ K) : RunK dr P ops (⟨some d, .makeSlice t x y, ty, pos, aft, gd⟩ :: rest) ⟨env, bs⟩ K :=
  .val rfl rfl hw (.ofNew (fun σs => Val.makeSl d (unE_v σs hx) (unE_v σs hy) hb hzc) fun _ hσ => un_front hσ) k
/-- A variable that is held as an object. -/
theorem RunK.allocK {e : TypeId} {z : Value} [hz : TyZero P e z] (h : Nat) (hw : wantedS ops ⟨env, bs⟩ ⟨some d, .alloc e, ty, pos, aft, gd⟩ = some true)
    (k : ∀ b : Nat, (∀ t b' o', look env t = .kept b' o' → b' ≠ b) → RunK false P ops rest ⟨(h, .kept b (.cells z.cells e (0, 0))) :: (d, .s (.v (.pointer (some ⟨b, 0, none⟩)))) :: env, bs⟩ K) : RunK false P ops (⟨some d, .alloc e, ty, pos, aft, gd⟩ :: rest) ⟨env, bs⟩ K :=
  .mkObj (fun b => .pointer (some ⟨b, 0, none⟩)) h hw (fun a w _ => by simp [execOp, Instr.alloc, run_zeroValue (z := z), newVar, newRow]) k
end

/-! ### calm operations of a drawn region come first -/
section
variable {P : Program} {ops : Array Oper} {md : Region.Mode} {K : St → Prop}
theorem wp_frame {o : Oper} (hs : ∀ cs b, o.op ≠ .select cs b) {a : Act} {x : Option Tmp} {v : Value} (h1 : ∀ d, x = some d → d ∉ o.looksAt ops) (h2 : ∀ d, x = some d → o.dst ≠ some d) {w : World} {next : Act → World → Prop} {Q : Exit → Act → World → Prop}
    (h : o.wp P (a.put x v) w next (fun e _ w' => Q e a w')) : o.wp P a w (fun a1 w1 => next (a1.put x v) w1) Q := by
  unfold Oper.wp at *
  rw [execOp_put o hs a x v h1] at h
  generalize (execOp a.eval o).run P w = r at *
  cases r with
  | ok n w' =>
    cases n <;> simp only [Oper.upon] at h ⊢
    case value u => rw [← Act.put_comm a v u h2]; exact h
    case skip => rw [← Act.put_comm a v undef h2]; exact h
    case defer d =>
      rw [← Act.put_comm _ v undef h2, ← Act.put_defers]
      exact h
    case enter f args =>
      refine Calls.mono h fun e w'' he => ?_
      cases e with
      | returned u =>
        show next ((a.put o.dst u).put x v) w''
        rw [← Act.put_comm a v u h2]; exact he
      | panicked c => exact he
      | outgrown => obtain ⟨_, w', he⟩ := he; exact ⟨a, w', he⟩
    case row row args => exact Rows.mono h fun u w'' he => by rw [← Act.put_comm a v u h2]; exact he
  | halt x w' =>
    cases x <;> simp only [Oper.upon] at h ⊢
    case panic u => exact h
theorem RS.putV {w0 : Base} {n : Nat} {s : St} {a : Act} {w : World} (h : RS w0 n s a w) {d : Nat} (hd : d < n) (v : Value) : RS w0 n (s.put d (.s (.v v))) (a.put (some d) v) w := by
  obtain ⟨T, F, ρ, hr⟩ := h
  exact ⟨T, F, ρ, hr.goes (d := some d) (pv := .s (.v v)) (nb := none) (fun e h => by injection h with h; rw [← h]; exact hd) (Below.refl _ _) (fun _ _ => ⟨rfl, rfl⟩) (fun _ _ => rfl) (fun _ hp => by cases hp) rfl (fun _ hp => by cases hp) rfl⟩
def PV.plain : PV → PV
  | .s (.v x) => .s (.v x)
  | _ => .any
/-- The same, but for one slot. -/
def St.wipe (s : St) (d : Nat) (p : PV) : St := ⟨(d, p.plain) :: s.env, s.boxes⟩
theorem RS.wipe {w0 : Base} {n : Nat} {s : St} {a : Act} {w : World} {d : Nat} {v : Value} {p : PV} (hd : d < 1000000) (hp : ∀ x, p = .s (.v x) → a.tmps.getD d undef = x) (h : RS w0 n s (a.put (some d) v) w) : RS w0 n (s.wipe d p) a w := by
  obtain ⟨T, F, ρ, hr⟩ := h
  refine ⟨T, F, ρ, by have := hr.defers; rwa [defers_put] at this, by have := hr.size; rwa [size_put] at this, hr.small, hr.below, hr.ext, fun t => ?_, hr.boxes⟩
  show RepP T F ρ w (look ((d, p.plain) :: s.env) t) _
  rw [look_put]
  split
  · rename_i e
    subst e
    have e : vl a w0.fr d = a.tmps.getD d undef := by unfold vl; rw [blt_t hd]; rfl
    rw [e]
    cases p with
    | s x =>
      cases x with
      | v x => exact hp x rfl
      | _ => trivial
    | _ => trivial
  · rename_i hne
    have h1 := hr.env t
    have e : vl (a.put (some d) v) w0.fr t = vl a w0.fr t := by
      unfold vl
      cases Nat.blt t 1000000 with
      | false => rfl
      | true =>
        simp only [cond_true, Act.put]
        rw [Array.getD_eq_getD_getElem?, Array.getD_eq_getD_getElem?, Array.getElem?_setIfInBounds_ne hne]
    rw [e] at h1
    exact h1
theorem EffR.wipe {oj : Oper} {s : St} {S : St → Prop} {i : Nat} {oi : Oper} {d : Nat} {v : Value} (hi : ops[i]? = some oi) (hdi : oi.dst = some d) (hd : d < 1000000) (hs : ∀ cs b, oj.op ≠ .select cs b) (hap : oi.apart ops oj = true) (h : EffR P ops oj (s.put d (.s (.v v))) S) : EffR P ops oj s (fun s2 => ∃ s1, S s1 ∧ s2 = s1.wipe d (s.look d)) := by
  intro w0 n a w hr hdj hall next Q hK
  obtain ⟨a1, a2, _⟩ := Oper.apart_spec hap
  have hdn : d < n := hall i oi hi d hdi
  have h1 := h w0 n (a.put (some d) v) w (hr.putV hdn v) hdj hall (fun a' w' => ∀ a1 : Act, a' = a1.put (some d) v → a1.tmps.getD d undef = a.tmps.getD d undef → next a1 w') (fun e _ w' => Q e a w') (fun s1 hs1 a' w' hr' a1 e e2 => hK _ ⟨s1, hs1, rfl⟩ a1 w' (by
    subst e
    refine hr'.wipe hd fun x hx => ?_
    obtain ⟨T, F, ρ, hr0⟩ := hr
    have h0 := hr0.env d
    rw [hx] at h0
    have h0 : vl a w0.fr d = x := h0
    unfold vl at h0
    rw [blt_t hd] at h0
    exact e2.trans h0))
  have keep : ∀ u, (a.put oj.dst u).tmps.getD d undef = a.tmps.getD d undef := fun u => by
    cases hdd : oj.dst with
    | none => rfl
    | some e =>
      have hne : e ≠ d := fun he => a2 d hdi (by rw [hdd, he])
      simp only [Act.put]
      rw [Array.getD_eq_getD_getElem?, Array.getD_eq_getD_getElem?, Array.getElem?_setIfInBounds_ne hne]
  have h2 := wp_frame (ops := ops) hs (x := some d) (v := v) (fun d' e => a1 d' (by rw [hdi]; exact e)) (fun d' e => a2 d' (by rw [hdi]; exact e)) h1
  unfold Oper.wp at *
  generalize (execOp a.eval oj).run P w = r at *
  cases r with
  | ok n w' =>
    cases n <;> simp only [Oper.upon] at h2 ⊢
    case value u => exact h2 _ rfl (keep u)
    case skip => exact h2 _ rfl (keep undef)
    case defer d' =>
      refine h2 _ rfl ?_
      have := keep undef
      cases hdd : oj.dst with
      | none => rfl
      | some e => rw [hdd] at this; exact this
    case enter f args =>
      refine Calls.mono h2 fun e w'' he => ?_
      cases e with
      | returned u => exact he _ rfl (keep u)
      | panicked c => exact he
      | outgrown => exact he
    case row row args => exact Rows.mono h2 fun u w'' he => he _ rfl (keep u)
  | halt x w' =>
    cases x <;> simp only [Oper.upon] at h2 ⊢
    case panic u => exact h2
/-- sc tells calm things only, and s tells them, too. -/
def CalmLe (sc s : St) : Prop := sc.boxes = [] ∧ ∀ t : Nat, sc.look t = .any ∨ ((t < 1000000 ∨ 3000000 ≤ t) ∧ (sc.look t).calm t = true ∧ s.look t = sc.look t)
theorem CalmLe.ev {sc s : St} (h : CalmLe sc s) (x : Operand) : sc.ev x = .any ∨ sc.ev x = s.ev x := by
  cases x with
  | tmp t =>
    show (bif Nat.blt t 1000000 then sc.look t else (sc.look t).fact) = _ ∨ (bif Nat.blt t 1000000 then sc.look t else (sc.look t).fact) = (bif Nat.blt t 1000000 then s.look t else (s.look t).fact)
    rcases h.2 t with h1 | ⟨_, _, h1⟩
    · rw [h1]; left; cases Nat.blt t 1000000 <;> rfl
    · right; rw [h1]
  | _ => exact .inr rfl
theorem CalmLe.hu {sc s : St} (h : CalmLe sc s) {o : Oper} {v : Value} (hu : Hu P o sc.ev sc.box (.s (.v v)) none) : Hu P o s.ev s.box (.s (.v v)) none := fun σs => by
  rw [unL_v]
  refine ⟨fun B T F ρ a w hB hop next Q hK => ?_, fun σ _ _ => rfl⟩
  have h1 := (hu σs).1
  rw [unL_v] at h1
  refine h1 B T F ρ a w hB (fun x hx => ⟨?_, fun id _ cs hc => ?_⟩) next Q hK
  · have h2 := (hop x hx).1
    rcases h.ev x with e | e
    · unfold unE; rw [e, unL_any]; trivial
    · unfold unE at h2 ⊢; rw [e]; exact h2
  · exfalso
    have hc : boxOf sc.boxes id = some cs := hc
    rw [h.1] at hc
    cases hc
theorem CalmLe.wanted {sc s : St} (h : CalmLe sc s) {o : Oper} (hw : wantedS ops sc o = some true) : wantedS ops s o = some true := by
  unfold wantedS at *
  cases hg : o.guard with
  | none => rfl
  | some g =>
    rw [hg] at hw
    simp only at hw ⊢
    cases ht : (ops[g.1]?).bind (·.dst) with
    | none => rw [ht] at hw; cases hw
    | some t =>
      rw [ht] at hw
      simp only at hw ⊢
      rcases h.ev (.tmp t) with e | e
      · rw [e] at hw; cases hw
      · rw [← e]; exact hw
theorem CalmLe.put {sc s : St} (h : CalmLe sc s) {d : Nat} (hd : d < 1000000) (v : Value) : CalmLe (sc.put d (.s (.v v))) (s.put d (.s (.v v))) := ⟨h.1, fun t => by
  show look ((d, _) :: sc.env) t = .any ∨ (_ ∧ (look ((d, _) :: sc.env) t).calm t = true ∧ look ((d, _) :: s.env) t = look ((d, _) :: sc.env) t)
  rw [look_put, look_put]
  split
  · rename_i e; exact .inr ⟨.inl (by omega), rfl, rfl⟩
  · exact h.2 t⟩
/-- A calm operation that yields a plain value. -/
structure PStep (P : Program) (ops : Array Oper) (sc : St) (oi : Oper) (d : Nat) (v : Value) : Prop where
  dst : oi.dst = some d
  lt : d < 1000000
  eff : isEff ops oi = false
  wanted : wantedS ops sc oi = some true
  hu : Hu P oi sc.ev sc.box (.s (.v v)) none
theorem PStep.step {sc s : St} {i : Nat} {oi : Oper} {d : Nat} {v : Value} {Kn : St → Prop} (h : PStep P ops sc oi d v) (hc : CalmLe sc s) (hk : Kn (s.put d (.s (.v v)))) : StepA P ops i oi s Kn :=
  .inl ⟨.s (.v v), none, hc.wanted h.wanted, h.eff, hc.hu h.hu, (fun p hp => nomatch hp), rfl, by rw [h.dst]; exact hk⟩
theorem calm_un {t τ : Nat} {p : PV} (h : p.calm t = true) : p.un (some τ) = p := by
  cases p with
  | s x => cases x <;> first | rfl | cases h
  | kept b o => rfl
  | nest g k rows => rfl
  | _ => cases h
theorem CalmLe.next {sc s : St} (h : CalmLe sc s) {oj : Oper} {q : Part} (hd : ∀ d, oj.dst = some d → sc.look d = .any) : CalmLe sc (q.next oj s) := ⟨h.1, fun t => by
  rcases h.2 t with h1 | ⟨h1, h2, h3⟩
  · exact .inl h1
  · refine .inr ⟨h1, h2, ?_⟩
    rw [Part.look]
    by_cases hdt : oj.dst = some t
    · rw [hd t hdt] at h2; cases h2
    · rw [if_neg hdt, h3]
      cases q.τ with
      | none => rfl
      | some τ => exact calm_un h2⟩
theorem StepA.swapP {sc s : St} {i j : Nat} {oi oj : Oper} {d : Nat} {v : Value} {Kn : St → Prop} (h : PStep P ops sc oi d v) (hc : CalmLe sc s) (hj : ops[j]? = some oj) (hwf : Wf s) (hap : oi.apart ops oj = true) (hej : isEff ops oj = false) (hfree : ∀ d, oj.dst = some d → sc.look d = .any) (hKn : ∀ s1 s1', Eqv s1 s1' → Kn s1 → Kn s1')
    (hq : StepA P ops j oj (s.put d (.s (.v v))) Kn) : StepA P ops j oj s (fun s2 => Wf s2 ∧ CalmLe sc s2 ∧ Kn (s2.put d (.s (.v v)))) := by
  obtain ⟨a1, a2, a3⟩ := Oper.apart_spec hap
  have hr : Does P ops i oi s ⟨.s (.v v), none, none⟩ := .inl ⟨hc.wanted h.wanted, rfl, hc.hu h.hu, (fun p hp => nomatch hp), rfl⟩
  have hnx : ∀ s : St, Part.next oi s ⟨.s (.v v), none, none⟩ = s.put d (.s (.v v)) := fun s => by unfold Part.next; rw [h.dst]; rfl
  have hVi : ∀ d', oi.dst = some d' → d' < 1000000 := fun d' e => by rw [h.dst] at e; injection e with e; rw [← e]; exact h.lt
  rw [← hnx] at hq
  obtain ⟨q, hq1, hk⟩ := hq.does hej
  obtain ⟨q', e1, e2, e3, hq'⟩ := Does.earlier hVi (.inr rfl) hj hwf hap hr hq1
  refine hq'.step hej ⟨hq'.wf hwf, hc.next hfree, ?_⟩
  refine hKn _ _ ?_ hk
  rw [← hnx]
  refine Part.comm a2 (fun p p' _ hp' => nomatch hp') rfl e1 rfl e2 ?_ e3
  cases q.τ <;> rfl
theorem StepA.swapE {sc s : St} {i j : Nat} {oi oj : Oper} {d : Nat} {v : Value} {Kn : St → Prop} (h : PStep P ops sc oi d v) (hc : CalmLe sc s) (hi : ops[i]? = some oi) (hs : ∀ cs b, oj.op ≠ .select cs b) (hwf : Wf s) (hap : oi.apart ops oj = true) (hej : isEff ops oj = true) (hfree : ∀ d, oj.dst = some d → sc.look d = .any) (hKn : ∀ s1 s1', Eqv s1 s1' → Kn s1 → Kn s1')
    (hq : StepA P ops j oj (s.put d (.s (.v v))) Kn) : StepA P ops j oj s (fun s2 => Wf s2 ∧ CalmLe sc s2 ∧ Kn (s2.put d (.s (.v v)))) := by
  obtain ⟨a1, a2, a3⟩ := Oper.apart_spec hap
  rcases hq with ⟨pv, nb, h1, h2, _⟩ | ⟨h1, h2, _⟩ | ⟨h1, h2, _⟩ | ⟨h1, h2, S, h3, h4, h5⟩
  · rw [hej] at h2; cases h2
  · rw [hej] at h2; cases h2
  · rw [hej] at h2; cases h2
  have hnx : Part.next oi s ⟨.s (.v v), none, none⟩ = s.put d (.s (.v v)) := by unfold Part.next; rw [h.dst]; rfl
  have hw : wantedS ops s oj = some true := by
    have := wanted_part (s := s) (r := ⟨.s (.v v), none, none⟩) a1
    rw [hnx] at this
    rw [← this]; exact h1
  have hwf1 : Wf (s.put d (.s (.v v))) := fun t id ht => by
    have ht : (look ((d, PV.s (.v v)) :: s.env) t).isBox id = true := ht
    rw [look_put] at ht
    split at ht
    · cases ht
    · exact hwf t id ht
  have hpl : ∀ (p : PV) (id : Nat), p.plain.isBox id = false := fun p id => by
    cases p with
    | s x => cases x <;> rfl
    | _ => rfl
  have htame : ∀ s1, S s1 → Tame oj s (s1.wipe d (s.look d)) := fun s1 hs1 t ht hne hcm => by
    show look ((d, (s.look d).plain) :: s1.env) t = s.look t
    rw [look_put]
    split
    · rename_i e
      subst e
      have : d < 1000000 := h.lt
      generalize s.look d = p at hcm
      cases p with
      | s x => cases x <;> first | rfl | cases hcm
      | kept b o =>
        have hcm : Nat.ble 3000000 d = true := hcm
        rw [Nat.ble_eq] at hcm
        omega
      | nest g k rows =>
        have hcm : Nat.ble 3000000 d = true := hcm
        rw [Nat.ble_eq] at hcm
        omega
      | _ => cases hcm
    · rename_i hdt
      have e2 : (s.put d (.s (.v v))).look t = s.look t := by
        show look ((d, PV.s (.v v)) :: s.env) t = _
        rw [look_put, if_neg hdt]; rfl
      have := (h3 s1 hs1).2 t ht hne (by rw [e2]; exact hcm)
      exact this.trans e2
  refine .inr (.inr (.inr ⟨hw, hej, _, ?_, EffR.wipe hi h.dst h.lt hs hap h4, ?_⟩))
  · rintro s2 ⟨s1, hs1, rfl⟩
    refine ⟨fun _ t id ht => ?_, htame s1 hs1⟩
    have hw1 := (h3 s1 hs1).1 hwf1
    have ht : (look ((d, (s.look d).plain) :: s1.env) t).isBox id = true := ht
    rw [look_put] at ht
    split at ht
    · rw [hpl] at ht; cases ht
    · exact hw1 t id ht
  · rintro s2 ⟨s1, hs1, rfl⟩
    have hw1 := (h3 s1 hs1).1 hwf1
    refine ⟨fun t id ht => ?_, ⟨hc.1, fun t => ?_⟩, hKn s1 _ ⟨fun t => ?_, fun _ => rfl⟩ (h5 s1 hs1)⟩
    · have ht : (look ((d, (s.look d).plain) :: s1.env) t).isBox id = true := ht
      rw [look_put] at ht
      split at ht
      · rw [hpl] at ht; cases ht
      · exact hw1 t id ht
    · rcases hc.2 t with q1 | ⟨q1, q2, q3⟩
      · exact .inl q1
      · refine .inr ⟨q1, q2, ?_⟩
        rw [← q3]
        exact htame s1 hs1 t q1 (fun e => by rw [hfree t e] at q2; cases q2) (by rw [q3]; exact q2)
    · show s1.look t = look ((d, PV.s (.v v)) :: (d, (s.look d).plain) :: s1.env) t
      rw [look_put]
      split
      · rename_i e
        subst e
        have e2 : (s.put d (.s (.v v))).look d = .s (.v v) := by
          show look ((d, PV.s (.v v)) :: s.env) d = _
          rw [look_put, if_pos rfl]
        have := (h3 s1 hs1).2 d (.inl h.lt) (a2 d h.dst) (by rw [e2]; rfl)
        exact this.trans e2
      · rename_i hdt
        rw [look_put, if_neg hdt]; rfl
theorem AnyA.firstC {i : Nat} {oi : Oper} {sc : St} {d : Nat} {v : Value} (hi : ops[i]? = some oi) (hK : ∀ s s', Eqv s s' → K s → K s') (h : PStep P ops sc oi d v) :
    ∀ (D : Nat → Bool), (∀ j oj, ops[j]? = some oj → D j = true → ∃ e ∈ oj.after, Region.binds md e = true ∧ (e.on = i ∨ D e.on = true)) → ∀ (fuel : Nat) (listed : Array Bool) (s : St), Wf s → CalmLe sc s → (∀ j, D j = true → listed.getD j true = false) →
      (∀ j oj, ops[j]? = some oj → j ≠ i → listed.getD j true = false → D j = false → oi.apart ops oj = true ∧ (∀ d', oj.dst = some d' → sc.look d' = .any) ∧ (isEff ops oj = false ∨ (isEff ops oj = true ∧ ∀ cs b, oj.op ≠ .select cs b))) →
      i ∈ Region.ready md ops listed → AnyA P md ops K fuel (listed.setIfInBounds i true) (s.put d (.s (.v v))) → AnyA P md ops K (fuel + 1) listed s := by
  intro D hD fuel
  induction fuel with
  | zero =>
    intro listed s _ hc _ _ hr H
    refine ⟨fun h => (by rw [h] at hr; cases hr), fun j hj => ?_⟩
    by_cases hji : j = i
    · subst hji; rw [hi]; exact h.step hc H
    · have := ready_mono hj hji
      rw [H.1] at this
      cases this
  | succ fuel ih =>
    intro listed s hwf hc hun0 hfree hr H
    refine ⟨fun h => (by rw [h] at hr; cases hr), fun j hj => ?_⟩
    by_cases hji : j = i
    · subst hji; rw [hi]; exact h.step hc H
    · obtain ⟨hjun, oj, hoj, hall⟩ := mem_ready.1 hj
      rw [hoj]
      simp only
      have hlisted : ∀ e ∈ oj.after, Region.binds md e = true → listed.getD e.on true = true := fun e he hb => by
        have h1 := hall e he hb
        rcases Nat.lt_or_ge e.on listed.size with h' | h'
        · simp [h'] at h1 ⊢; exact h1
        · simp [Array.getElem?_eq_none h'] at h1
      have hDj : D j = false := by
        cases hd : D j with
        | false => rfl
        | true =>
          obtain ⟨e, he, hb, h3⟩ := hD j oj hoj hd
          have h4 := hlisted e he hb
          rcases h3 with h3 | h3
          · rw [h3, (mem_ready.1 hr).1] at h4; cases h4
          · rw [hun0 _ h3] at h4; cases h4
      obtain ⟨hap, hfd, hej⟩ := hfree j oj hoj hji hjun hDj
      have H2 : StepA P ops j oj (s.put d (.s (.v v))) (AnyA P md ops K fuel ((listed.setIfInBounds i true).setIfInBounds j true)) := by
        have h2 := H.2 j (ready_mono hj hji)
        rw [hoj] at h2
        exact h2
      have hfree' : ∀ k ok, ops[k]? = some ok → k ≠ i → (listed.setIfInBounds j true).getD k true = false →
          D k = false → oi.apart ops ok = true ∧ (∀ d', ok.dst = some d' → sc.look d' = .any) ∧ (isEff ops ok = false ∨ (isEff ops ok = true ∧ ∀ cs b, ok.op ≠ .select cs b)) := fun k ok hk hki hun hno => by
        refine hfree k ok hk hki ?_ hno
        by_cases hjk : j = k
        · subst hjk; exact hjun
        · rw [getD_set_ne true hjk] at hun; exact hun
      have H3 : StepA P ops j oj s (fun s2 => Wf s2 ∧ CalmLe sc s2 ∧ AnyA P md ops K fuel ((listed.setIfInBounds i true).setIfInBounds j true) (s2.put d (.s (.v v)))) := by
        rcases hej with e1 | ⟨e1, e2⟩
        · exact StepA.swapP (i := i) h hc hoj hwf hap e1 hfd (AnyA.eqv hK _ _) H2
        · exact StepA.swapE h hc hi e2 hwf hap e1 hfd (AnyA.eqv hK _ _) H2
      refine H3.mono fun s2 h3 => ih (listed.setIfInBounds j true) s2 h3.1 h3.2.1 (fun k hk => ?_) hfree' (ready_mono hr (Ne.symm hji)) ?_
      · have hkj : j ≠ k := fun e => by subst e; rw [hDj] at hk; cases hk
        rw [getD_set_ne true hkj]; exact hun0 k hk
      · rw [Array.setIfInBounds_comm _ _ hji]
        exact h3.2.2
theorem PStep.of_run {sc : St} {o : Oper} {d : Nat} {v : Value} (hd : o.dst = some d) (hlt : Nat.blt d 1000000 = true) (hef : isEff ops o = false) (hna : noApp o = true) (hb : sc.boxes = []) (h : RunK true P ops [o] sc (fun s1 => s1 = sc.put d (.s (.v v)))) : PStep P ops sc o d v := by
  have key : ∀ {l : List Oper} {s : St}, Run true P ops (fun s1 => s1 = sc.put d (.s (.v v))) l s → l = [o] → Eqv s sc → PStep P ops sc o d v := by
    intro l s h
    have fin : ∀ {l : List Oper} {s : St}, Run true P ops (fun s1 => s1 = sc.put d (.s (.v v))) l s → l = [] → Eqv s (sc.put d (.s (.v v))) := by
      intro l s h
      induction h with
      | nil h => intro _; subst h; exact ⟨fun _ => rfl, fun _ => rfl⟩
      | eqv he _ ih => intro hl; have := ih hl; exact ⟨fun t => (he.1 t).trans (this.1 t), fun id => (he.2 id).trans (this.2 id)⟩
      | weak hd => cases hd
      | effI hd => cases hd
      | val => intro hl; cases hl
      | skip => intro hl; cases hl
      | app => intro hl; cases hl
      | eff => intro hl; cases hl
    induction h with
    | nil h => intro hl; cases hl
    | @eqv l s s1 he _ ih => intro hl hs; exact ih hl ⟨fun t => (he.1 t).symm.trans (hs.1 t), fun id => (he.2 id).symm.trans (hs.2 id)⟩
    | weak hd => cases hd
    | effI hd => cases hd
    | @val o' rest s pv nb hw hu hf hp he k _ =>
      intro hl hs
      injection hl with e1 e2
      subst e1 e2
      have h1 := fin k rfl
      have hpv : pv = .s (.v v) := by
        have h2 := h1.1 d
        rw [look_addBox, look_putO, if_pos hd] at h2
        have h3 : (sc.put d (.s (.v v))).look d = .s (.v v) := by show look ((d, PV.s (.v v)) :: sc.env) d = _; rw [look_put, if_pos rfl]
        exact h2.trans h3
      have hnb : nb = none := by
        cases nb with
        | none => rfl
        | some p =>
          have h2 := h1.2 p.1
          rw [box_addBox] at h2
          simp only [if_true] at h2
          have h3 : (sc.put d (.s (.v v))).box p.1 = none := by show boxOf sc.boxes p.1 = none; rw [hb]; rfl
          rw [h3] at h2
          cases h2
      subst hpv hnb
      exact ⟨hd, Nat.blt_eq ▸ hlt, he, by rw [← hs.wanted]; exact hw, hs.ev ▸ hs.boxf ▸ hu⟩
    | @skip o' rest s hw he k _ =>
      intro hl hs
      injection hl with e1 e2
      subst e1 e2
      exfalso
      have h2 := (fin k rfl).1 d
      rw [look_putO, if_pos hd] at h2
      have h3 : (sc.put d (.s (.v v))).look d = .s (.v v) := by show look ((d, PV.s (.v v)) :: sc.env) d = _; rw [look_put, if_pos rfl]
      rw [h3] at h2
      cases h2
    | @app o' rest s s1 hw he ha _ _ =>
      intro hl hs
      injection hl with e1 e2
      subst e1
      exfalso
      obtain ⟨t, e, k', bytes, x, y, τ, els, els2, hT, ho, _⟩ := ha
      unfold noApp at hna
      rw [ho] at hna
      cases hna
    | @eff o' rest s S hw h he k _ =>
      intro hl hs
      injection hl with e1 e2
      subst e1
      exfalso
      rw [(he rfl).1] at hef
      cases hef
  exact key h rfl ⟨fun _ => rfl, fun _ => rfl⟩
def notSel (o : Oper) : Bool := match o.op with | .select .. => false | _ => true
/-- Whatever has not come up yet waits for the i-th operation, or is apart from it. -/
def freeCJ (md : Region.Mode) (ops : Array Oper) (listed : Array Bool) (i : Nat) (oi : Oper) (ks : List Nat) (D : List Bool) (j : Nat) : Bool :=
  match ops[j]? with
  | none => !D.getD j false
  | some oj => bif D.getD j false then !listed.getD j true && oj.after.any (fun e => Region.binds md e && (Nat.beq e.on i || D.getD e.on false))
      else Nat.beq j i || listed.getD j true || (oi.apart ops oj && (match oj.dst with | some d => !ks.any (Nat.beq d) | none => true) && (!isEff ops oj || (isEff ops oj && notSel oj)))
def calmB (md : Region.Mode) (ops : Array Oper) (listed : Array Bool) (ks : List Nat) (i : Nat) : Bool :=
  match ops[i]? with
  | none => false
  | some oi => (Region.ready md ops listed).contains i && (List.range ops.size).all (freeCJ md ops listed i oi ks (descGo md i ops.toList 0 [])) && Nat.beq (descGo md i ops.toList 0 []).length ops.size
theorem look_keys {d : Nat} : ∀ {l : List (Nat × PV)}, (l.map (·.1)).any (Nat.beq d) = false → look l d = .any
  | [], _ => rfl
  | (t, p) :: l, h => by
    simp only [List.map_cons, List.any_cons, Bool.or_eq_false_iff] at h
    rw [look_put, if_neg (fun e => by rw [e, Nat.beq_refl] at h; cases h.1)]
    exact look_keys h.2
theorem calmB_spec {listed : Array Bool} {sc : St} {i : Nat} {oi : Oper} (hi : ops[i]? = some oi) (h : calmB md ops listed (sc.env.map (·.1)) i = true) : i ∈ Region.ready md ops listed ∧ ∃ D : Nat → Bool,
    (∀ j oj, ops[j]? = some oj → D j = true → ∃ e ∈ oj.after, Region.binds md e = true ∧ (e.on = i ∨ D e.on = true)) ∧ (∀ j, D j = true → listed.getD j true = false) ∧
    (∀ j oj, ops[j]? = some oj → j ≠ i → listed.getD j true = false → D j = false → oi.apart ops oj = true ∧ (∀ d', oj.dst = some d' → sc.look d' = .any) ∧ (isEff ops oj = false ∨ (isEff ops oj = true ∧ ∀ cs b, oj.op ≠ .select cs b))) := by
  unfold calmB at h
  rw [hi] at h
  simp only [Bool.and_eq_true, List.all_eq_true] at h
  obtain ⟨⟨hrd, h⟩, hlen⟩ := h
  have hlen : (descGo md i ops.toList 0 []).length = ops.size := Nat.beq_eq ▸ hlen
  generalize descGo md i ops.toList 0 [] = D at *
  refine ⟨by simpa using hrd, fun j => D.getD j false, fun j oj hj hd => ?_, fun j hd => ?_, fun j oj hj hji hun hd => ?_⟩
  · have h1 := h j (List.mem_range.2 (Array.getElem?_eq_some_iff.1 hj).1)
    unfold freeCJ at h1
    simp only at hd
    rw [hj, hd] at h1
    simp only [cond_true, Bool.and_eq_true] at h1
    have h2 := h1.2
    rw [← Array.any_toList, List.any_eq_true] at h2
    obtain ⟨e, he, h3⟩ := h2
    simp only [Bool.and_eq_true, Bool.or_eq_true] at h3
    exact ⟨e, Array.mem_toList_iff.1 he, h3.1, h3.2.imp (fun h => Nat.beq_eq ▸ h) id⟩
  · simp only at hd
    have hjs : j < ops.size := by
      rcases Nat.lt_or_ge j ops.size with h' | h'
      · exact h'
      · rw [List.getD_eq_getElem?_getD, List.getElem?_eq_none (by omega)] at hd
        cases hd
    have h1 := h j (List.mem_range.2 hjs)
    unfold freeCJ at h1
    rw [Array.getElem?_eq_getElem hjs, hd] at h1
    simp only [cond_true, Bool.and_eq_true, Bool.not_eq_true'] at h1
    exact h1.1
  · have h1 := h j (List.mem_range.2 (Array.getElem?_eq_some_iff.1 hj).1)
    unfold freeCJ at h1
    simp only at hd
    rw [hj, hd, hun] at h1
    simp only [cond_false, Bool.or_eq_true, Bool.and_eq_true, Bool.not_eq_true'] at h1
    rcases h1 with (h1 | h1) | ⟨⟨h1, h2⟩, h3⟩
    · exact absurd (Nat.beq_eq ▸ h1) hji
    · cases h1
    · refine ⟨h1, fun d' hd' => ?_, h3.imp id fun ⟨q1, q2⟩ => ⟨q1, fun cs b e => ?_⟩⟩
      · rw [hd'] at h2
        exact look_keys (by simpa using h2)
      · unfold notSel at q2
        rw [e] at q2
        cases q2
/-- The calm operations S, one by one; then the rest. -/
inductive CalmRun (P : Program) (md : Region.Mode) (ops : Array Oper) (K : St → Prop) (m : Nat) : List Nat → St → St → Array Bool → Prop
  | nil {sc s : St} {listed : Array Bool} (h : AnyA P md ops K m listed s) : CalmRun P md ops K m [] sc s listed
  | cons {i : Nat} {S : List Nat} {oi : Oper} {d : Nat} {v : Value} {sc s : St} {listed : Array Bool} (hi : ops[i]? = some oi) (hp : PStep P ops sc oi d v) (hb : calmB md ops listed (sc.env.map (·.1)) i = true) (k : CalmRun P md ops K m S (sc.put d (.s (.v v))) (s.put d (.s (.v v))) (listed.setIfInBounds i true)) : CalmRun P md ops K m (i :: S) sc s listed
theorem CalmRun.any (hK : ∀ s s', Eqv s s' → K s → K s') {m : Nat} {S : List Nat} {sc s : St} {listed : Array Bool} (h : CalmRun P md ops K m S sc s listed) : Wf s → CalmLe sc s → AnyA P md ops K (S.length + m) listed s := by
  induction h with
  | nil h => intro _ _; simpa using h
  | @cons i S oi d v sc s listed hi hp hb _ ih =>
    intro hwf hc
    obtain ⟨hr, D, d1, d2, d3⟩ := calmB_spec hi hb
    have hwf1 : Wf (s.put d (.s (.v v))) := fun t id ht => by
      have ht : (look ((d, PV.s (.v v)) :: s.env) t).isBox id = true := ht
      rw [look_put] at ht
      split at ht
      · cases ht
      · exact hwf t id ht
    have := AnyA.firstC hi hK hp D d1 (S.length + m) listed s hwf hc d2 d3 hr (ih hwf1 (hc.put hp.lt v))
    rwa [show (i :: S).length + m = S.length + m + 1 by rw [List.length_cons]; omega]
end

section
variable {P : Program} {ops : Array Oper} {md : Region.Mode} {K : St → Prop}
/-- The operations that have not come up yet, in the text's order: ks. -/
def lexS (md : Region.Mode) (ops : Array Oper) : List Nat → Array Bool → Bool
  | [], listed => (Region.ready md ops listed).isEmpty
  | k :: ks, listed => (Region.ready md ops listed).contains k && freeA md ops listed k && (List.range k).all (fun j => listed.getD j true) && ((match ops[k]? with | some o => noApp o | none => false) || (List.range ops.size).all (fun j => Nat.ble j k || ks.any (Nat.beq j))) && lexS md ops ks (listed.setIfInBounds k true)
theorem After.of2 {k : Nat} {ks : List Nat} {τ : Nat} {rest : List Oper} (hl : rest = ks.filterMap (ops[·]?)) (hB : (List.range ops.size).all (fun j => Nat.ble j k || ks.any (Nat.beq j)) = true) (h : notDst τ rest = true) : After ops k τ := fun j oj hij hj hd => by
  have hjs := (Array.getElem?_eq_some_iff.1 hj).1
  have h1 := List.all_eq_true.1 hB j (List.mem_range.2 hjs)
  rw [Bool.or_eq_true, Nat.ble_eq] at h1
  rcases h1 with h1 | h1
  · omega
  · obtain ⟨j', hj', e⟩ := List.any_eq_true.1 h1
    rw [Nat.beq_eq] at e
    subst e
    have h2 := List.all_eq_true.1 h oj (by rw [hl]; exact List.mem_filterMap.2 ⟨j, hj', hj⟩)
    rw [hd] at h2
    simp at h2
theorem AnyA.lexS (hV : ∀ (i : Nat) (o : Oper), ops[i]? = some o → ∀ d, o.dst = some d → d < 1000000) (hK : ∀ s s', Eqv s s' → K s → K s') : ∀ {l : List Oper} {s : St}, Run true P ops K l s → ∀ (ks : List Nat) (listed : Array Bool), Wf s → l = ks.filterMap (ops[·]?) → Pv.lexS md ops ks listed = true → AnyA P md ops K ks.length listed s := by
  intro l s h
  have split : ∀ {o : Oper} {rest : List Oper} {ks : List Nat} {listed : Array Bool}, o :: rest = ks.filterMap (ops[·]?) → Pv.lexS md ops ks listed = true → ∃ k ks', ks = k :: ks' ∧ ops[k]? = some o ∧ rest = ks'.filterMap (ops[·]?) ∧ k ∈ Region.ready md ops listed ∧ freeA md ops listed k = true ∧ (∀ j, j < k → listed.getD j true = true) ∧ (noApp o = true ∨ (List.range ops.size).all (fun j => Nat.ble j k || ks'.any (Nat.beq j)) = true) ∧ Pv.lexS md ops ks' (listed.setIfInBounds k true) = true := by
    intro o rest ks listed hl hB
    cases ks with
    | nil => cases hl
    | cons k ks' =>
      simp only [Pv.lexS, Bool.and_eq_true] at hB
      obtain ⟨⟨⟨⟨h1, h2⟩, h3⟩, h4⟩, h5⟩ := hB
      have hr : k ∈ Region.ready md ops listed := by simpa using h1
      obtain ⟨_, o', ho', _⟩ := mem_ready.1 hr
      rw [List.filterMap_cons, ho'] at hl
      simp only at hl
      injection hl with e1 e2
      subst e1
      rw [ho'] at h4
      exact ⟨k, ks', rfl, ho', e2, hr, h2, fun j hj => List.all_eq_true.1 h3 j (List.mem_range.2 hj), by simpa [Bool.or_eq_true] using h4, h5⟩
  have step : ∀ {o : Oper} {s : St} {k : Nat} {ks' : List Nat} {listed : Array Bool}, isEff ops o = false → Wf s → ops[k]? = some o → k ∈ Region.ready md ops listed → freeA md ops listed k = true → (∀ j, j < k → listed.getD j true = true) → StepA P ops k o s (AnyA P md ops K ks'.length (listed.setIfInBounds k true)) → AnyA P md ops K (ks'.length + 1) listed s := by
    intro o s k ks' listed he hwf h0 hr hfr hbl hst
    obtain ⟨D, d1, d2, d3⟩ := freeA_spec h0 hfr
    refine AnyA.first hV h0 hK he D d1 ks'.length listed s hwf d2 hbl (fun j oj hj hji hun hno => ?_) hr hst
    have := d3 j oj hj hji hun hno
    exact ⟨this.2, this.1.2⟩
  induction h with
  | nil hk =>
    intro ks listed _ hl hB
    cases ks with
    | nil => exact ⟨by simpa [Pv.lexS] using hB, hk⟩
    | cons k ks' =>
      exfalso
      simp only [Pv.lexS, Bool.and_eq_true] at hB
      have hr : k ∈ Region.ready md ops listed := by simpa using hB.1.1.1.1
      obtain ⟨_, o', ho', _⟩ := mem_ready.1 hr
      rw [List.filterMap_cons, ho'] at hl
      cases hl
  | @val o rest s pv nb hw hv hf hp he _ ih =>
    intro ks listed hwf hl hB
    obtain ⟨k, ks', rfl, h0, hl', hr, hfr, hbl, _, hB'⟩ := split hl hB
    exact step he hwf h0 hr hfr hbl (.inl ⟨pv, nb, hw, he, hv, fun p hp => (fresh_of hf p hp).1, hp, ih ks' _ (hwf.put hp) hl' hB'⟩)
  | @skip o rest s hw he _ ih =>
    intro ks listed hwf hl hB
    obtain ⟨k, ks', rfl, h0, hl', hr, hfr, hbl, _, hB'⟩ := split hl hB
    exact step he hwf h0 hr hfr hbl (.inr (.inl ⟨hw, he, ih ks' _ (hwf.put (o := o) (nb := none) rfl) hl' hB'⟩))
  | @app o rest s s1 hw he ha _ ih =>
    intro ks listed hwf hl hB
    obtain ⟨k, ks', rfl, h0, hl', hr, hfr, hbl, hna, hB'⟩ := split hl hB
    refine step he hwf h0 hr hfr hbl (.inr (.inr (.inl ⟨hw, he, s1, ha.mono (fun τ hτ => ?_), ih ks' _ (hwf.app ha) hl' hB'⟩)))
    rcases hna with hna | hna
    · exfalso
      obtain ⟨t, e, k', bytes, x, y, τ, els, els2, hT, ho, _⟩ := ha
      unfold noApp at hna
      rw [ho] at hna
      cases hna
    · exact After.of2 hl' hna hτ
  | @weak l s S hd _ _ _ => cases hd
  | @effI o rest s S hd _ _ _ _ => cases hd
  | @eff o rest s S hw hv he0 _ ih =>
    intro ks listed hwf hl hB
    obtain ⟨he, hw1⟩ := he0 rfl
    obtain ⟨k, ks', rfl, h0, hl', hr', hfr, hbl, _, hB'⟩ := split hl hB
    have IH := fun s1 hs1 => ih s1 hs1 ks' (listed.setIfInBounds k true) ((hw1 s1 hs1).1 hwf) hl' hB'
    refine ⟨fun h => (by rw [h] at hr'; cases hr'), fun j hj => ?_⟩
    by_cases hjk : j = k
    · subst hjk
      rw [h0]
      exact .inr (.inr (.inr ⟨hw, he, S, hw1, hv.toR, IH⟩))
    · exfalso
      obtain ⟨hjun, oj, hoj, hall⟩ := mem_ready.1 hj
      obtain ⟨D, d1, d2, d3⟩ := freeA_spec h0 hfr
      cases hd : D j with
      | false =>
        have := (d3 j oj hoj hjk hjun hd).1.1
        rw [he] at this
        cases this
      | true =>
        obtain ⟨e, he', hb, h3⟩ := d1 j oj hoj hd
        have h4 : listed.getD e.on true = true := by
          have h1 := hall e he' hb
          rcases Nat.lt_or_ge e.on listed.size with h' | h'
          · simp [h'] at h1 ⊢; exact h1
          · simp [Array.getElem?_eq_none h'] at h1
        rcases h3 with h3 | h3
        · rw [h3, (mem_ready.1 hr').1] at h4; cases h4
        · rw [d2 _ h3] at h4; cases h4
  | @eqv l s s1 h _ ih =>
    intro ks listed hwf hl hB
    exact AnyA.eqv hK _ _ _ _ h.symm (ih ks listed (h.wf hwf) hl hB)
/-- A drawn region: first the calm operations S, then the rest as it stands. sc: the calm things that S looks at. -/
theorem Wt.regionS {w0 : Base} {n : Nat} {s : St} {N R : St → Prop} {X : Nat → St → Prop} {i : Nat} {l : List Oper} (sc : St) (S ks : List Nat) (hm : P.follows .mixedOrders = true) (hlen : l.length = S.length + ks.length) (hd : dstsOk n l = true) (hw : wfB s = true) (hc : CalmLe sc s)
    (h : ∀ K : St → Prop, (∀ s s', Eqv s s' → K s → K s') → (∀ s, N s → K s) → CalmRun P .any l.toArray K ks.length S sc s (Array.replicate l.toArray.size false)) : Wt P w0 n (.region i l.toArray true) s N R X :=
  Wt.regionA hm hd hw fun K hK hN => by
    have := (h K hK hN).any hK (wf_of hw) hc
    rwa [← hlen] at this
/-- The rest of it. -/
theorem CalmRun.rest {m : Nat} {sc s : St} {listed : Array Bool} (ks : List Nat) {l : List Oper} (hdm : dstsOk 1000000 ops.toList = true) (hK : ∀ s s', Eqv s s' → K s → K s') (hm : m = ks.length) (hl : l = ks.filterMap (ops[·]?)) (hB : Pv.lexS md ops ks listed = true) (hwf : wfB s = true) (h : RunK true P ops l s K) : CalmRun P md ops K m [] sc s listed := by
  subst hm
  refine .nil (AnyA.lexS (fun i o ho d hd' => ?_) hK h ks listed (wf_of hwf) hl hB)
  have hmem : o ∈ ops.toList := by
    have : ops.toList[i]? = some o := by simpa using ho
    exact List.mem_of_getElem? this
  have := List.all_eq_true.1 hdm o hmem
  rw [hd', Bool.and_eq_true] at this
  exact (Nat.blt_eq ▸ this.1)
theorem CalmLe.of {sc s : St} (hb : sc.boxes = []) (h : ∀ p ∈ sc.env, (p.1 < 1000000 ∨ 3000000 ≤ p.1) ∧ p.2.calm p.1 = true ∧ s.look p.1 = p.2) : CalmLe sc s := ⟨hb, fun t => by
  have key : ∀ l : List (Nat × PV), (∀ p ∈ l, (p.1 < 1000000 ∨ 3000000 ≤ p.1) ∧ p.2.calm p.1 = true ∧ s.look p.1 = p.2) → look l t = .any ∨ ((t < 1000000 ∨ 3000000 ≤ t) ∧ (look l t).calm t = true ∧ s.look t = look l t) := fun l => by
    induction l with
    | nil => intro _; exact .inl rfl
    | cons q l ih =>
      obtain ⟨u, p⟩ := q
      intro h
      rw [look_put]
      split
      · rename_i e
        subst e
        exact .inr (h _ (List.mem_cons_self ..))
      · exact ih fun p hp => h p (List.mem_cons_of_mem _ hp)
  exact key sc.env h⟩
end

section
variable {P : Program} {ops : Array Oper} {rest : List Oper} {env : List (Nat × PV)} {bs : List (Nat × List Value)} {K : St → Prop} {ty : TypeId} {pos : String} {aft : Array Edge} {g : Option (Nat × Bool)} {dr : Bool}
theorem Put1.row {w : World} {b : Nat} {C : Array Value} {e : TypeId} (hb : w.heap[b]? = some (.cells C e (0, 0))) (l : Array Value) : Put1 w b (.cells l e (0, 0)) (w.setRow b l) := by
  have hlt : b < w.heap.size := (Array.getElem?_eq_some_iff.1 hb).1
  refine ⟨rfl, rfl, rfl, by simp [World.setRow], fun k hk => ?_, fun _ => ?_⟩
  · simp [World.setRow, Array.getElem?_modify, Ne.symm hk]
  · simp [World.setRow, Array.getElem?_modify, hb]
/-- A row is written into a held block. -/
theorem RunK.storePR {t m : Nat} [hT : TySize P t m] {x y : Operand} {b j : Nat} {C l : List Value} {e : TypeId} {u : Value} (h : Nat) (hw : wantedS ops ⟨env, bs⟩ ⟨none, .store t x y, ty, pos, aft, g⟩ = some true) (hx : (St.mk env bs).ev x = .s (.v (.pointer (some ⟨b, j, none⟩)))) (hy : (St.mk env bs).ev y = .s (.v u)) (hk : look env h = .kept b (.cells C.toArray e (0, 0)))
    (hm : u.cells.toList.length = m) (hone : u.cells.toList.all (·.oneCell') = true) (hle : j + m ≤ C.length) (hl : C.take j ++ u.cells.toList ++ C.drop (j + m) = l) (hap : ApartE [b] (rmS [h] env)) (k : RunK false P ops rest ⟨(h, .kept b (.cells l.toArray e (0, 0))) :: rmS [h] env, bs⟩ K) : RunK false P ops (⟨none, .store t x y, ty, pos, aft, g⟩ :: rest) ⟨env, bs⟩ K := by
  refine Run.eff hw (Eff.turnObj h (fun _ o' => o' = .cells l.toArray e (0, 0)) hk hap fun a w hs hb => ?_) (fun h => by cases h) (fun _ ⟨pv, o', h1, h2⟩ => ?_)
  · have h1 := hs.v x _ (by simp [Op.operands]) hx
    have h2 := hs.v y _ (by simp [Op.operands]) hy
    have hone' : ∀ v ∈ u.cells.toList, v.oneCell' = true := fun v hv => List.all_eq_true.1 hone v hv
    have hst := run_storeCells_at P b j e u.cells.toList 0 C.toArray w hb (by simp only [Nat.add_zero, List.size_toArray]; omega) hone'
    simp only [Nat.add_zero, hm, hl] at hst
    refine ⟨.tuple #[], .any, _, w.setRow b l.toArray, rfl, fun _ _ _ _ => trivial, .row hb _, .inr ⟨rfl, ?_⟩⟩
    have hs := hT.size
    cases hi : P.info? t with
    | none => rw [hi] at hs; cases hs
    | some inf =>
      have hsz : inf.size = m := by rw [hi] at hs; simpa using hs
      have hm' : u.cells.size = m := by rw [← hm]; simp
      simp [execOp, h1, h2, Instr.storeAt, Instr.sureAddr, storeVar, Go.sizeOf, typeInfo, hi, hsz, hm', hst]
  · subst h1 h2
    exact k
end

/-! ### nests in drawn regions -/
theorem wp_keeps {P : Program} {o : Oper} {a : Act} {w : World} {next : Act → World → Prop} {Q : Exit → Act → World → Prop} (h : o.wp P a w next Q) : o.wp P a w (fun a' w' => next a' w' ∧ ∀ t, o.dst ≠ some t → a'.tmps.getD t undef = a.tmps.getD t undef) Q := by
  have key : ∀ (a0 : Act) (v : Value), a0.tmps = a.tmps → ∀ t, o.dst ≠ some t → (a0.put o.dst v).tmps.getD t undef = a.tmps.getD t undef := by
    intro a0 v h0 t ht
    unfold Act.put
    cases hd : o.dst with
    | none => simp only [h0]
    | some d =>
      have hdt : d ≠ t := fun e => ht (by rw [hd, e])
      simp only [h0]
      rw [Array.getD_eq_getD_getElem?, Array.getD_eq_getD_getElem?, Array.getElem?_setIfInBounds_ne hdt]
  unfold Oper.wp at *
  generalize (execOp a.eval o).run P w = r at *
  cases r with
  | ok n w' =>
    cases n <;> simp only [Oper.upon] at h ⊢
    case value u => exact ⟨h, key a u rfl⟩
    case skip => exact ⟨h, key a undef rfl⟩
    case defer d => exact ⟨h, key _ undef rfl⟩
    case enter f args =>
      refine Calls.mono h fun e w'' he => ?_
      cases e with
      | returned u => exact ⟨he, key a u rfl⟩
      | panicked c => exact he
      | outgrown => exact he
    case row row args => exact Rows.mono h fun u w'' he => ⟨he, key a u rfl⟩
  | halt x w' =>
    cases x <;> simp only [Oper.upon] at h ⊢
    case panic u => exact h
/-- A plain slot that the operation does not write stays. -/
theorem Eff.keep {P : Program} {o : Oper} {s : St} {S : St → Prop} {t : Nat} {x : Value} (h : Eff P o s S) (ht : Nat.blt t 1000000 = true) (hl : s.look t = .s (.v x)) (hd : o.dst ≠ some t) : Eff P o s (fun s2 => ∃ s1, S s1 ∧ s2 = ⟨(t, .s (.v x)) :: s1.env, s1.boxes⟩) := by
  intro w0 n a w hr hdst next Q hK
  have h0 : a.tmps.getD t undef = x := by
    obtain ⟨T, F, ρ, hr0⟩ := hr
    have := hr0.env t
    rw [hl] at this
    have e : vl a w0.fr t = a.tmps.getD t undef := by unfold vl; rw [ht]; rfl
    rw [e] at this
    exact this
  refine Oper.wp_mono (fun a' w' hq => ?_) (wp_keeps (h w0 n a w hr hdst (fun a' w' => ∃ s1, S s1 ∧ RS w0 n s1 a' w') Q (fun s1 hs a' w' hr' => ⟨s1, hs, hr'⟩)))
  obtain ⟨⟨s1, hs, T, F, ρ, hr1⟩, hk⟩ := hq
  refine hK _ ⟨s1, hs, rfl⟩ a' w' ⟨T, F, ρ, hr1.defers, hr1.size, hr1.small, hr1.below, hr1.ext, fun u => ?_, hr1.boxes⟩
  show RepP T F ρ w' (look ((t, _) :: s1.env) u) _
  rw [look_put]
  split
  · rename_i e
    subst e
    have e : vl a' w0.fr t = a'.tmps.getD t undef := by unfold vl; rw [ht]; rfl
    rw [e, hk t hd, h0]
    rfl
  · exact hr1.env u
theorem Eff.postL {P : Program} {o : Oper} {s : St} {S S' : St → Prop} (h : Eff P o s S) (k : ∀ s1, S s1 → ∃ s2, S' s2 ∧ Less s1 s2) : Eff P o s S' :=
  Eff.turn h fun s1 hs => by
    obtain ⟨s2, h2, hl⟩ := k s1 hs
    intro w0 n a w hr
    exact ⟨s2, h2, hr.less hl⟩
theorem wf_nest {env : List (Nat × PV)} {bs : List (Nat × List Value)} {h g k : Nat} {rows : List NRow} (hw : Wf ⟨env, bs⟩) : Wf ⟨(h, .nest g k rows) :: rmS [h] env, bs⟩ := by
  intro t id hb
  have hb' : (look ((h, .nest g k rows) :: rmS [h] env) t).isBox id = true := hb
  rw [look_put] at hb'
  split at hb'
  · cases hb'
  · rcases look_rmS [h] env t with e | e
    · rw [e] at hb'; cases hb'
    · rw [e] at hb'; exact hw t id hb'
theorem rmS_of {h t : Nat} (e : h ≠ t) : t ∉ [h] := by simp only [List.mem_singleton]; exact fun x => e x.symm
theorem tame_nest {env : List (Nat × PV)} {bs bs' : List (Nat × List Value)} {h g k : Nat} {rows : List NRow} {o : Oper} (hh : (Nat.ble 1000000 h && Nat.blt h 3000000) = true) : Tame o ⟨env, bs⟩ ⟨(h, .nest g k rows) :: rmS [h] env, bs'⟩ := by
  rw [Bool.and_eq_true, Nat.ble_eq, Nat.blt_eq] at hh
  intro t ht _ _
  have hne : h ≠ t := by omega
  show look ((h, .nest g k rows) :: rmS [h] env) t = look env t
  rw [look_put, if_neg hne, look_rmS_ne (rmS_of hne)]
theorem Tame.put {o : Oper} {s s1 : St} {d : Nat} {p : PV} (hd : o.dst = some d) (h : Tame o s s1) : Tame o s ⟨(d, p) :: s1.env, s1.boxes⟩ := by
  intro t ht hne hc
  show look ((d, p) :: s1.env) t = _
  rw [look_put, if_neg fun e => hne (by rw [hd, e])]
  exact h t ht hne hc
theorem Wf.putS {env : List (Nat × PV)} {bs : List (Nat × List Value)} {d : Nat} {x : SV} (hw : Wf ⟨env, bs⟩) : Wf ⟨(d, .s x) :: env, bs⟩ := by
  intro t id hb
  have hb' : (look ((d, .s x) :: env) t).isBox id = true := hb
  rw [look_put] at hb'
  split at hb'
  · cases hb'
  · exact hw t id hb'
section
variable {dr : Bool} {P : Program} {ops : Array Oper} {rest : List Oper} {env : List (Nat × PV)} {bs : List (Nat × List Value)} {K : St → Prop} {d : Nat} {op : Op} {ty : TypeId} {pos : String} {aft : Array Edge} {gd : Option (Nat × Bool)}
/-- An append to a nest's slice; its old header stays where it is. -/
theorem Eff.appendRK {t e bytes : Nat} [hT : TySl P t e 1 bytes] {tx : Nat} {y : Operand} {g i : Nat} {rows : List NRow} {r : NRow} {els2 : List (List Value)} (h τ : Nat) (hx : look env tx = .s (.v r.hdr)) (htx : Nat.blt tx 1000000 = true) (hk : look env h = .nest g 1 rows) (hi : rows[i]? = some r) (hh : Nat.ble 2000000 h = true) (hn : noNest [g] (rmS [h] env) = true) (hnt : noTag τ (rmS [h] env) = true) (hd0 : Nat.blt d 1000000 = true) (hdx : Nat.beq d tx = false)
    (hy : ReadLe ((St.mk ((tx, .s (.sl (some τ) (.front e) 1 r.els)) :: (h, .nest g 1 (rows.set i NRow.nl)) :: rmS [h] env) bs).ev y) 1 els2) (hone : ∀ l ∈ els2, ∀ u ∈ l, u.oneCell' = true) (hb : (r.els.length + els2.length) * bytes ≤ 140737488355328) :
    Eff P ⟨some d, .call ⟨.builtin .append, #[.tmp tx, y], #[t, t]⟩, ty, pos, aft, gd⟩ ⟨env, bs⟩ (fun s1 => ∃ r' : NRow, r'.els = r.els ++ els2 ∧ r'.els.length ≤ r'.cap ∧ s1 = ⟨(d, .s (.v r'.hdr)) :: (h, .nest g 1 (rows.set i r')) :: rmS [h] env, bs⟩) := by
  have hdx' : d ≠ tx := fun e => by subst e; rw [Nat.beq_refl] at hdx; cases hdx
  have htx' : tx < 1000000 := Nat.blt_eq ▸ htx
  have hh' : 2000000 ≤ h := Nat.ble_eq ▸ hh
  refine Eff.postL (Eff.keep (t := tx) (x := r.hdr) (Eff.appendRN (d := d) h τ hx htx hk hi hh hn hnt hd0 hy hone hb) htx hx (by simp; exact hdx')) ?_
  rintro s1 ⟨_, ⟨r', h1, h2, rfl⟩, rfl⟩
  refine ⟨_, ⟨r', h1, h2, rfl⟩, fun u => ?_, fun id cs hc => .inl hc⟩
  show PVLt (look ((tx, _) :: (d, _) :: (tx, PV.any) :: (h, _) :: rmS [h] env) u) (look ((d, _) :: (h, _) :: rmS [h] env) u)
  rw [look_put, look_put, look_put, look_put, look_put, look_put]
  by_cases e1 : tx = u
  · subst e1
    rw [if_pos rfl, if_neg hdx', if_neg (by omega), look_rmS_ne (rmS_of (by omega)), hx]
    exact .le (.refl _)
  · rw [if_neg e1]
    split
    · exact .le (.refl _)
    · exact .le (.refl _)
theorem RunK.appendRN {t e bytes : Nat} [hT : TySl P t e 1 bytes] {tx : Nat} {y : Operand} {g i : Nat} {rows : List NRow} {r : NRow} {els2 : List (List Value)} (h τ : Nat) (hw : wantedS ops ⟨env, bs⟩ ⟨some d, .call ⟨.builtin .append, #[.tmp tx, y], #[t, t]⟩, ty, pos, aft, gd⟩ = some true) (he : dr = true → isEff ops ⟨some d, .call ⟨.builtin .append, #[.tmp tx, y], #[t, t]⟩, ty, pos, aft, gd⟩ = true) (hx : look env tx = .s (.v r.hdr)) (htx : Nat.blt tx 1000000 = true) (hk : look env h = .nest g 1 rows) (hi : rows[i]? = some r) (hh : (Nat.ble 2000000 h && Nat.blt h 3000000) = true) (hn : noNest [g] (rmS [h] env) = true) (hnt : noTag τ (rmS [h] env) = true) (hd0 : Nat.blt d 1000000 = true) (hdx : Nat.beq d tx = false)
    (hy : ReadLe ((St.mk ((tx, .s (.sl (some τ) (.front e) 1 r.els)) :: (h, .nest g 1 (rows.set i NRow.nl)) :: rmS [h] env) bs).ev y) 1 els2) (hone : ∀ l ∈ els2, ∀ u ∈ l, u.oneCell' = true) (hb : (r.els.length + els2.length) * bytes ≤ 140737488355328)
    (k : ∀ r' : NRow, r'.els = r.els ++ els2 → r'.els.length ≤ r'.cap → RunK dr P ops rest ⟨(d, .s (.v r'.hdr)) :: (h, .nest g 1 (rows.set i r')) :: rmS [h] env, bs⟩ K) : RunK dr P ops (⟨some d, .call ⟨.builtin .append, #[.tmp tx, y], #[t, t]⟩, ty, pos, aft, gd⟩ :: rest) ⟨env, bs⟩ K := by
  have hh' := hh
  rw [Bool.and_eq_true, Nat.ble_eq, Nat.blt_eq] at hh'
  refine Run.eff hw (Eff.appendRK h τ hx htx hk hi (Nat.ble_eq ▸ hh'.1) hn hnt hd0 hdx hy hone hb) (fun hdr => ⟨he hdr, ?_⟩) (fun s1 ⟨r', h1, h2, e⟩ => e ▸ k r' h1 h2)
  rintro s1 ⟨r', h1, h2, rfl⟩
  refine ⟨fun hwf => (wf_nest hwf).putS, Tame.put (s1 := ⟨(h, .nest g 1 (rows.set i r')) :: rmS [h] env, bs⟩) rfl (tame_nest ?_)⟩
  rw [Bool.and_eq_true, Nat.ble_eq, Nat.blt_eq]; omega
/-- An element of a nest's slice is written. -/
theorem RunK.storeRN {t : TypeId} [hT : TySize P t 1] {x y : Operand} {g i j : Nat} {rows : List NRow} {r : NRow} {e0 : List Value} {u : Value} (h : Nat) (hw : wantedS ops ⟨env, bs⟩ ⟨none, .store t x y, ty, pos, aft, gd⟩ = some true) (hx : (St.mk env bs).ev x = .s (.v (r.ptr j))) (hy : (St.mk env bs).ev y = .s (.v u)) (hk : look env h = .nest g 1 rows) (hi : rows[i]? = some r) (hj : r.els[j]? = some e0)
    (hc : u.cells.toList = [u]) (ho : u.oneCell' = true) (hn : noNest [g] (rmS [h] env) = true) (hh : (Nat.ble 1000000 h && Nat.blt h 3000000) = true)
    (k : RunK dr P ops rest ⟨(h, .nest g 1 (rows.set i (r.put j u))) :: rmS [h] env, bs⟩ K) : RunK dr P ops (⟨none, .store t x y, ty, pos, aft, gd⟩ :: rest) ⟨env, bs⟩ K :=
  Run.eff hw (Eff.storeRN h hx hy hk hi hj hc ho hn) (fun _ => ⟨rfl, fun _ e => e ▸ ⟨fun hwf => wf_nest hwf, tame_nest hh⟩⟩) (fun _ e => e ▸ k)
theorem RunK.weakS {l : List Oper} {s : St} {S : St → Prop} (h : Turns s S) (k : ∀ s1, S s1 → RunK false P ops l s1 K) : RunK false P ops l s K := Run.weak rfl h k
/-- The place of an element, when the header is in sight. -/
theorem RunK.idxP {t e k0 by0 : Nat} [hT : TySl P t e k0 by0] {x y : Operand} {b o n c : Nat} {kd : IntKind} {i : Int} {j : Nat} (hw : wantedS ops ⟨env, bs⟩ ⟨some d, .indexAddr t x y, ty, pos, aft, gd⟩ = some true) (hx : (St.mk env bs).ev x = .s (.v (.slice (some ⟨b, o, none⟩) n c))) (hy : (St.mk env bs).ev y = .s (.v (.int kd i))) (hij : i = (j : Int)) (hj : j < n)
    (k : RunK dr P ops rest ⟨(d, .s (.v (.pointer (some ⟨b, o + j * k0, none⟩)))) :: env, bs⟩ K) : RunK dr P ops (⟨some d, .indexAddr t x y, ty, pos, aft, gd⟩ :: rest) ⟨env, bs⟩ K :=
  .plainK rfl hw (fun a w hs => by
    have h1 := hs.v x _ (by simp [Op.operands]) hx
    have h2 := hs.v y _ (by simp [Op.operands]) hy
    obtain ⟨inf, z', hi, hz', hsz, hby, hzs⟩ := hT.info
    subst hij
    have hin : (0 : Int) ≤ j ∧ (j : Int) < n := by omega
    simp [execOp, h1, h2, Instr.indexAt, asIntOf, run_underlying hT.und, Go.sizeOf, typeInfo, hi, hsz, hin, Addr.add_mid]
    omega) k
/-- A new array that is held as an object. -/
theorem RunK.makeK {t e by0 : Nat} {z : Value} [hT : TySl P t e 1 by0] [hz : TyZero P e z] {x y : Operand} {kd kd2 : IntKind} {n : Nat} (h : Nat) (hw : wantedS ops ⟨env, bs⟩ ⟨some d, .makeSlice t x y, ty, pos, aft, gd⟩ = some true) (hx : (St.mk env bs).ev x = .s (.v (.int kd (n : Int)))) (hy : (St.mk env bs).ev y = .s (.v (.int kd2 (n : Int)))) (hb : n * by0 ≤ 140737488355328) {zv : Value} (hzc : z.cells = #[zv])
    (k : ∀ b : Nat, (∀ t b' o', look env t = .kept b' o' → b' ≠ b) → RunK false P ops rest ⟨(h, .kept b (.cells (List.replicate n zv).toArray e (0, 0))) :: (d, .s (.v (.slice (some ⟨b, 0, none⟩) n n))) :: env, bs⟩ K) : RunK false P ops (⟨some d, .makeSlice t x y, ty, pos, aft, gd⟩ :: rest) ⟨env, bs⟩ K :=
  .mkObj (fun b => .slice (some ⟨b, 0, none⟩) n n) h hw (fun a w hs => by
    have h1 := hs.v x _ (by simp [Op.operands]) hx
    have h2 := hs.v y _ (by simp [Op.operands]) hy
    obtain ⟨inf, z', hi, hz', hsz, hby, hzs⟩ := hT.info
    have hzz : z' = z := by
      obtain ⟨q1, q2, q3⟩ := hz
      rw [hi] at q2; injection q2 with q2; subst q2
      rw [hz'] at q3; injection q3
    subst hzz
    have hby0 := hT.by_
    have hnb : n ≤ 140737488355328 := Nat.le_trans (Nat.le_mul_of_pos_right _ hby0) hb
    have hc : (madeCells z'.cells (n * inf.size)).toList = List.replicate n zv := by
      rw [hsz, hzc, Nat.mul_one]
      refine List.ext_getElem? fun i => ?_
      unfold madeCells
      rw [List.getElem?_replicate]
      by_cases hin : i < n
      · simp [hin, Nat.mod_one]
      · simp [hin]
    have hbi : (inf.bytes : Int) * (n : Int) ≤ 281474976710656 := by
      rw [hby]
      have : ((by0 * n : Nat) : Int) ≤ 281474976710656 := by rw [Nat.mul_comm]; omega
      rwa [Int.natCast_mul] at this
    have hmk := run_make (P := P) w t e inf z' hT.und hi hz' kd kd2 n n (by omega) (Int.le_refl _) hbi (by omega)
    simp only [Int.toNat_natCast] at hmk
    have hc' : madeCells z'.cells (n * inf.size) = (List.replicate n zv).toArray := by rw [← hc]
    rw [hc'] at hmk
    simp [execOp, h1, h2, hmk]) k
end

/-! ### slices of slices are built -/
/-- A part of such a literal: a row of the call's own, nil, or a header. -/
inductive Cls where
  | row (t τ : Nat) (els : List (List Value))
  | nil
  | v (u : Value)
def clsOf (ev : Operand → PV) : Operand → Option Cls
  | .tmp t => match ev (.tmp t) with
    | .s (.sl (some τ) _ 1 els) => bif Nat.blt t 1000000 then some (.row t τ els) else none
    | .s .nil => some .nil
    | .s (.v u) => some (.v u)
    | _ => none
  | x => match ev x with
    | .s .nil => some .nil
    | .s (.v u) => some (.v u)
    | _ => none
/-- The parts are of these kinds. -/
inductive PartsC (ev : Operand → PV) : List (Nat × Operand) → List Cls → Prop
  | nil : PartsC ev [] []
  | row {i t τ : Nat} {app : App} {els : List (List Value)} {ps : List (Nat × Operand)} {cs : List Cls} (ht : Nat.blt t 1000000 = true) (h : ev (.tmp t) = .s (.sl (some τ) app 1 els)) (r : PartsC ev ps cs) : PartsC ev ((i, .tmp t) :: ps) (.row t τ els :: cs)
  | nl {i : Nat} {x : Operand} {ps : List (Nat × Operand)} {cs : List Cls} (h : ev x = .s .nil) (r : PartsC ev ps cs) : PartsC ev ((i, x) :: ps) (.nil :: cs)
  | v {i : Nat} {x : Operand} {u : Value} {ps : List (Nat × Operand)} {cs : List Cls} (h : ev x = .s (.v u)) (r : PartsC ev ps cs) : PartsC ev ((i, x) :: ps) (.v u :: cs)
def tagsOf : List Cls → List Nat
  | [] => []
  | .row _ τ _ :: cs => τ :: tagsOf cs
  | _ :: cs => tagsOf cs
def elsOf : List Cls → List (List (List Value))
  | [] => []
  | .row _ _ els :: cs => els :: elsOf cs
  | _ :: cs => elsOf cs
def hdrsOf : List Cls → List NRow → List Value
  | [], _ => []
  | .row _ _ _ :: cs, r :: rs => r.hdr :: hdrsOf cs rs
  | .row _ _ _ :: cs, [] => .slice none 0 0 :: hdrsOf cs []
  | .nil :: cs, rs => .slice none 0 0 :: hdrsOf cs rs
  | .v u :: cs, rs => u :: hdrsOf cs rs
def distinctB : List Nat → Bool
  | [] => true
  | x :: l => !l.any (Nat.beq x) && distinctB l
/-- Whatever bears one of these tags is forgotten. -/
def PV.dropTs (τs : List Nat) (p : PV) : PV := τs.foldl (fun p τ => p.dropT τ) p
theorem dropT_any (τ : Nat) : PV.any.dropT τ = .any := rfl
theorem dropTs_any : ∀ τs : List Nat, PV.any.dropTs τs = .any
  | [] => rfl
  | _ :: τs => dropTs_any τs
theorem dropT_cases (τ : Nat) (p : PV) : p.dropT τ = .any ∨ p.dropT τ = p := by
  unfold PV.dropT
  cases p.hasTag τ <;> simp
theorem dropTs_cases : ∀ (τs : List Nat) (p : PV), p.dropTs τs = .any ∨ p.dropTs τs = p
  | [], _ => .inr rfl
  | τ :: τs, p => by
    show (p.dropT τ).dropTs τs = _ ∨ _
    rcases dropT_cases τ p with e | e
    · rw [e]; exact .inl (dropTs_any τs)
    · rcases dropTs_cases τs p with e' | e'
      · rw [e]; exact .inl e'
      · refine .inr ?_
        show (p.dropT τ).dropTs τs = p
        rw [e]; exact e'
theorem calm_dropTs {t : Nat} {p : PV} (τs : List Nat) (h : p.calm t = true) : p.dropTs τs = p := by
  induction τs with
  | nil => rfl
  | cons τ τs ih =>
    show (p.dropT τ).dropTs τs = p
    have : p.dropT τ = p := by
      unfold PV.dropT
      have : p.hasTag τ = false := by
        cases p with
        | s x => cases x <;> first | rfl | cases h
        | kept => rfl
        | nest => rfl
        | _ => cases h
      rw [this]; rfl
    rw [this, ih]
def slots : List Cls → List NRow → List (Nat × PV)
  | [], _ => []
  | .row t _ _ :: cs, r :: rs => slots cs rs ++ [(t, .s (.v r.hdr))]
  | .row _ _ _ :: cs, [] => slots cs []
  | _ :: cs, rs => slots cs rs
theorem rmS_rmS (hs : List Nat) : ∀ l : List (Nat × PV), rmS hs (rmS hs l) = rmS hs l
  | [] => rfl
  | (v, p) :: l => by
    rw [rmS]
    cases hb : hs.any (Nat.beq v) with
    | true => rw [cond_true]; exact rmS_rmS hs l
    | false => rw [cond_false, rmS, hb, cond_false, rmS_rmS hs l]
theorem hasTag_sl {τ τ' k : Nat} {app : App} {els : List (List Value)} (h : Nat.beq τ τ' = false) : (PV.s (.sl (some τ) app k els)).dropT τ' = .s (.sl (some τ) app k els) := by
  unfold PV.dropT
  have : (PV.s (.sl (some τ) app k els)).hasTag τ' = false := h
  rw [this]; rfl
/-- Slots of rows, all put into a nest. -/
inductive RowsC (env : List (Nat × PV)) : List Cls → Prop
  | nil : RowsC env []
  | row {t τ : Nat} {app : App} {els : List (List Value)} {cs : List Cls} (ht : Nat.blt t 1000000 = true) (h : look env t = .s (.sl (some τ) app 1 els)) (r : RowsC env cs) : RowsC env (.row t τ els :: cs)
  | nl {cs : List Cls} (r : RowsC env cs) : RowsC env (.nil :: cs)
  | v {u : Value} {cs : List Cls} (r : RowsC env cs) : RowsC env (.v u :: cs)
theorem RowsC.imp {env env' : List (Nat × PV)} : ∀ {cs : List Cls}, (∀ t τ app els, τ ∈ tagsOf cs → t < 1000000 → look env t = .s (.sl (some τ) app 1 els) → look env' t = .s (.sl (some τ) app 1 els)) → RowsC env cs → RowsC env' cs
  | _, _, .nil => .nil
  | _, h, .row ht hl r => .row ht (h _ _ _ _ (List.mem_cons_self ..) (Nat.blt_eq ▸ ht) hl) (r.imp fun t τ app els hτ => h t τ app els (List.mem_cons_of_mem _ hτ))
  | _, h, .nl r => .nl (r.imp h)
  | _, h, .v r => .v (r.imp h)
theorem look_app_congr {B C : List (Nat × PV)} {u : Nat} : ∀ {A : List (Nat × PV)}, look C u = look B u → look (A ++ C) u = look (A ++ B) u
  | [], h => h
  | (t, p) :: A, h => by
    show (bif Nat.beq t u then p else look (A ++ C) u) = (bif Nat.beq t u then p else look (A ++ B) u)
    rw [look_app_congr h]
theorem Turns.refl {s : St} {S : St → Prop} (h : S s) : Turns s S := fun _ _ _ _ hr => ⟨s, h, hr⟩
theorem Turns.bind {s : St} {S S' : St → Prop} (h : Turns s S) (k : ∀ s1, S s1 → Turns s1 S') : Turns s S' := fun w0 n a w hr => by
  obtain ⟨s1, h1, hr1⟩ := h w0 n a w hr
  exact k s1 h1 w0 n a w hr1
theorem Turns.pushAll {bs : List (Nat × List Value)} (h g : Nat) (hh : Nat.ble 2000000 h = true) : ∀ {cs : List Cls} {env : List (Nat × PV)} {rows : List NRow}, RowsC env cs → distinctB (tagsOf cs) = true → look env h = .nest g 1 rows →
    Turns ⟨env, bs⟩ (fun s1 => ∃ new : List NRow, new.map (·.els) = elsOf cs ∧ (∀ r ∈ new, r.els.length ≤ r.cap) ∧ s1 = ⟨slots cs new ++ (h, .nest g 1 (rows ++ new)) :: (rmS [h] env).map (fun p => (p.1, p.2.dropTs (tagsOf cs))), bs⟩)
  | [], env, rows, _, _, hk => by
    refine Turns.post (Turns.refl (S := Eq _) rfl) ?_
    rintro _ rfl
    refine ⟨_, ⟨[], rfl, (fun r hr => by cases hr), rfl⟩, fun u => ?_, fun id cs hc => .inl hc⟩
    show PVLt (look env u) (look ((h, _) :: (rmS [h] env).map (fun p => (p.1, p.2.dropTs []))) u)
    rw [look_put]
    by_cases e : h = u
    · subst e; rw [if_pos rfl, hk, List.append_nil]; exact .le (.refl _)
    · rw [if_neg e, look_map (fun p => PV.dropTs [] p) rfl, look_rmS_ne (rmS_of e)]; exact .le (.refl _)
  | .nil :: cs, env, rows, .nl r, hd, hk => Turns.pushAll h g hh (cs := cs) r hd hk
  | .v _ :: cs, env, rows, .v r, hd, hk => Turns.pushAll h g hh (cs := cs) r hd hk
  | .row t τ els :: cs, env, rows, .row ht hl r, hd, hk => by
    have hd' : (!(tagsOf cs).any (Nat.beq τ) && distinctB (tagsOf cs)) = true := hd
    rw [Bool.and_eq_true, Bool.not_eq_true'] at hd'
    have hht : h ≠ t := fun e => by subst e; rw [Nat.blt_eq] at ht; rw [Nat.ble_eq] at hh; omega
    refine Turns.bind (Turns.pushN t h hl hk ht hh) ?_
    rintro s1 ⟨r0, h1, h2, rfl⟩
    have hlook : ∀ u, look ((t, .s (.v r0.hdr)) :: (h, .nest g 1 (rows ++ [r0])) :: (rmS [h] env).map (fun p => (p.1, p.2.dropT τ))) u = if t = u then .s (.v r0.hdr) else if h = u then .nest g 1 (rows ++ [r0]) else (look env u).dropT τ := fun u => by
      rw [look_put, look_put, look_map (fun p => p.dropT τ) rfl]
      by_cases e1 : t = u
      · simp [e1]
      · by_cases e2 : h = u
        · simp [e1, e2]
        · rw [if_neg e1, if_neg e1, if_neg e2, if_neg e2, look_rmS_ne (rmS_of e2)]
    refine Turns.post (Turns.pushAll h g hh (cs := cs) (rows := rows ++ [r0]) (r.imp fun t' τ' app' els' hτ' ht' hl' => ?_) hd'.2 (by rw [hlook, if_neg fun e => hht e.symm, if_pos rfl])) ?_
    · have hne : Nat.beq τ' τ = false := by
        have := List.any_eq_false.1 hd'.1 τ' hτ'
        rw [Nat.beq_eq] at this
        rw [← Bool.not_eq_true, Nat.beq_eq]
        exact fun e => this e.symm
      have htt : t ≠ t' := fun e => by
        subst e
        rw [hl] at hl'
        injection hl' with hl'
        injection hl' with hl' _ _ _
        injection hl' with hl'
        rw [hl', Nat.beq_refl] at hne
        cases hne
      rw [hlook, if_neg htt, if_neg (fun e => by subst e; rw [Nat.ble_eq] at hh; omega), hl', hasTag_sl hne]
    · rintro _ ⟨new, e1, e2, rfl⟩
      refine ⟨_, ⟨r0 :: new, by rw [List.map_cons, e1, h1]; rfl, fun r hr => ?_, rfl⟩, fun u => ?_, fun id cs hc => .inl hc⟩
      · rcases List.mem_cons.1 hr with rfl | hr
        · rw [h1]; exact h2
        · exact e2 r hr
      · show PVLt (look (slots cs new ++ (h, .nest g 1 (rows ++ [r0] ++ new)) :: (rmS [h] ((t, .s (.v r0.hdr)) :: (h, .nest g 1 (rows ++ [r0])) :: (rmS [h] env).map (fun p => (p.1, p.2.dropT τ)))).map (fun p => (p.1, p.2.dropTs (tagsOf cs)))) u) (look ((slots cs new ++ [(t, .s (.v r0.hdr))]) ++ (h, .nest g 1 (rows ++ r0 :: new)) :: (rmS [h] env).map (fun p => (p.1, p.2.dropTs (τ :: tagsOf cs)))) u)
        rw [List.append_assoc (slots cs new), look_app_congr (B := [(t, .s (.v r0.hdr))] ++ (h, .nest g 1 (rows ++ r0 :: new)) :: (rmS [h] env).map (fun p => (p.1, p.2.dropTs (τ :: tagsOf cs))))]
        · exact .le (.refl _)
        · show look _ u = look ((t, .s (.v r0.hdr)) :: (h, .nest g 1 (rows ++ r0 :: new)) :: (rmS [h] env).map (fun p => (p.1, p.2.dropTs (τ :: tagsOf cs)))) u
          rw [look_put, look_put, look_put, look_map (fun p => PV.dropTs (tagsOf cs) p) (dropTs_any _), look_map (fun p => PV.dropTs (τ :: tagsOf cs) p) (dropTs_any _), List.append_assoc, List.singleton_append]
          by_cases e1 : h = u
          · subst e1; simp [show t ≠ h from fun e => hht e.symm]
          · rw [if_neg e1, if_neg e1, look_rmS_ne (rmS_of e1), look_rmS_ne (rmS_of e1), hlook]
            by_cases e2 : t = u
            · rw [if_pos e2, if_pos e2]; exact calm_dropTs (t := 0) _ rfl
            · rw [if_neg e2, if_neg e2, if_neg e1]; rfl
theorem slots_key {env : List (Nat × PV)} {t : Nat} {p : PV} : ∀ {cs : List Cls} {new : List NRow}, RowsC env cs → (∀ τ app els, τ ∈ tagsOf cs → look env t ≠ .s (.sl (some τ) app 1 els)) → ∀ L, look (slots cs new ++ L) t = look L t
  | [], _, _, _, _ => rfl
  | .nil :: cs, new, .nl r, h, L => slots_key (p := p) r h L
  | .v _ :: cs, new, .v r, h, L => slots_key (p := p) r h L
  | .row t' τ els :: cs, [], .row ht hl r, h, L => slots_key (p := p) r (fun τ' app els hτ => h τ' app els (List.mem_cons_of_mem _ hτ)) L
  | .row t' τ els :: cs, r0 :: rs, .row ht hl r, h, L => by
    show look ((slots cs rs ++ [(t', _)]) ++ L) t = _
    rw [List.append_assoc, slots_key (p := p) r (fun τ' app els hτ => h τ' app els (List.mem_cons_of_mem _ hτ))]
    show look ((t', _) :: L) t = _
    rw [look_put, if_neg fun e => by subst e; exact h τ _ _ (List.mem_cons_self ..) hl]
theorem slots_at {env : List (Nat × PV)} (h : Nat) (L : List (Nat × PV)) : ∀ {cs : List Cls} {new : List NRow}, RowsC env cs → distinctB (tagsOf cs) = true → new.map (·.els) = elsOf cs → ∀ {i : Nat} {t τ : Nat} {els : List (List Value)}, cs[i]? = some (.row t τ els) → ∃ r : NRow, (hdrsOf cs new)[i]? = some r.hdr ∧ look (slots cs new ++ L) t = .s (.v r.hdr)
  | [], _, _, _, _, i, _, _, _, hi => by simp at hi
  | .nil :: cs, new, .nl r, hd, he, i, t, τ, els, hi => by
    cases i with
    | zero => simp at hi
    | succ i =>
      obtain ⟨r0, h1, h2⟩ := slots_at h L (cs := cs) (new := new) r hd he (i := i) (t := t) (τ := τ) (els := els) (by simpa using hi)
      exact ⟨r0, by simpa [hdrsOf] using h1, h2⟩
  | .v u :: cs, new, .v r, hd, he, i, t, τ, els, hi => by
    cases i with
    | zero => simp at hi
    | succ i =>
      obtain ⟨r0, h1, h2⟩ := slots_at h L (cs := cs) (new := new) r hd he (i := i) (t := t) (τ := τ) (els := els) (by simpa using hi)
      exact ⟨r0, by simpa [hdrsOf] using h1, h2⟩
  | .row t' τ' els' :: cs, [], .row ht hl r, hd, he, i, t, τ, els, hi => by simp [elsOf] at he
  | .row t' τ' els' :: cs, r0 :: rs, .row ht hl r, hd, he, i, t, τ, els, hi => by
    have hd' : (!(tagsOf cs).any (Nat.beq τ') && distinctB (tagsOf cs)) = true := hd
    rw [Bool.and_eq_true, Bool.not_eq_true'] at hd'
    have he' : r0.els :: rs.map (·.els) = els' :: elsOf cs := he
    injection he' with he1 he2
    cases i with
    | zero =>
      have hi' : Cls.row t' τ' els' = .row t τ els := by simpa using hi
      injection hi' with hi1 hi2 hi3
      subst hi1
      refine ⟨r0, rfl, ?_⟩
      show look ((slots cs rs ++ [(t', _)]) ++ L) t' = _
      rw [List.append_assoc, slots_key (p := .any) r ?_]
      · show look ((t', _) :: L) t' = _
        rw [look_put, if_pos rfl]
      · intro τ2 app2 els2 hτ2 hl2
        rw [hl] at hl2
        injection hl2 with hl2
        injection hl2 with hl2 _ _ _
        injection hl2 with hl2
        have := List.any_eq_false.1 hd'.1 τ2 hτ2
        rw [Nat.beq_eq] at this
        exact this hl2
    | succ i =>
      have hi' : cs[i]? = some (.row t τ els) := by simpa using hi
      obtain ⟨r1, h1, h2⟩ := slots_at h ([(t', .s (.v r0.hdr))] ++ L) (cs := cs) (new := rs) r hd'.2 he2 hi'
      refine ⟨r1, by simpa [hdrsOf] using h1, ?_⟩
      show look ((slots cs rs ++ [(t', _)]) ++ L) t = _
      rw [List.append_assoc]
      exact h2
theorem PartsC.rows {env : List (Nat × PV)} {bs : List (Nat × List Value)} : ∀ {ps : List (Nat × Operand)} {cs : List Cls}, PartsC (St.mk env bs).ev ps cs → RowsC env cs
  | _, _, .nil => .nil
  | _, _, .row ht h r => .row ht (by
      have h' : (bif Nat.blt _ 1000000 then look env _ else _) = _ := h
      rw [ht] at h'
      exact h') r.rows
  | _, _, .nl _ r => .nl r.rows
  | _, _, .v _ r => .v r.rows
def Cls.says (ev : Operand → PV) (x : Operand) : Cls → Prop
  | .row t _ _ => x = .tmp t ∧ Nat.blt t 1000000 = true
  | .nil => ev x = .s .nil
  | .v u => ev x = .s (.v u)
theorem PartsC.get {ev : Operand → PV} : ∀ {ps : List (Nat × Operand)} {cs : List Cls}, PartsC ev ps cs → ps.length = cs.length ∧ ∀ (j i : Nat) (x : Operand), ps[j]? = some (i, x) → ∃ c, cs[j]? = some c ∧ c.says ev x
  | _, _, .nil => ⟨rfl, fun j i x h => by simp at h⟩
  | _, _, .row ht h r => ⟨by simp [r.get.1], fun j i x hj => by
      cases j with
      | zero => simp at hj; exact ⟨_, rfl, hj.2.symm, ht⟩
      | succ j => exact r.get.2 j i x (by simpa using hj)⟩
  | _, _, .nl h r => ⟨by simp [r.get.1], fun j i x hj => by
      cases j with
      | zero => simp at hj; exact ⟨_, rfl, by rw [← hj.2]; exact h⟩
      | succ j => exact r.get.2 j i x (by simpa using hj)⟩
  | _, _, .v h r => ⟨by simp [r.get.1], fun j i x hj => by
      cases j with
      | zero => simp at hj; exact ⟨_, rfl, by rw [← hj.2]; exact h⟩
      | succ j => exact r.get.2 j i x (by simpa using hj)⟩
theorem hdrs_len : ∀ (cs : List Cls) (new : List NRow), (hdrsOf cs new).length = cs.length
  | [], _ => rfl
  | .row _ _ _ :: cs, _ :: rs => by simp [hdrsOf, hdrs_len cs rs]
  | .row _ _ _ :: cs, [] => by simp [hdrsOf, hdrs_len cs []]
  | .nil :: cs, rs => by simp [hdrsOf, hdrs_len cs rs]
  | .v _ :: cs, rs => by simp [hdrsOf, hdrs_len cs rs]
theorem hdrs_get : ∀ {cs : List Cls} {new : List NRow} {j : Nat}, (cs[j]? = some .nil → (hdrsOf cs new)[j]? = some (.slice none 0 0)) ∧ ∀ u, cs[j]? = some (.v u) → (hdrsOf cs new)[j]? = some u
  | [], _, _ => ⟨fun h => by simp at h, fun u h => by simp at h⟩
  | .row _ _ _ :: cs, _ :: rs, 0 => ⟨fun h => by simp at h, fun u h => by simp at h⟩
  | .row _ _ _ :: cs, [], 0 => ⟨fun h => by simp at h, fun u h => by simp at h⟩
  | .nil :: cs, rs, 0 => ⟨fun _ => rfl, fun u h => by simp at h⟩
  | .v _ :: cs, rs, 0 => ⟨fun h => by simp at h, fun u h => by simpa [hdrsOf] using h⟩
  | .row _ _ _ :: cs, _ :: rs, j + 1 => by simpa [hdrsOf] using hdrs_get (cs := cs) (new := rs) (j := j)
  | .row _ _ _ :: cs, [], j + 1 => by simpa [hdrsOf] using hdrs_get (cs := cs) (new := []) (j := j)
  | .nil :: cs, rs, j + 1 => by simpa [hdrsOf] using hdrs_get (cs := cs) (new := rs) (j := j)
  | .v _ :: cs, rs, j + 1 => by simpa [hdrsOf] using hdrs_get (cs := cs) (new := rs) (j := j)
theorem PartsOk.of {ev : Operand → PV} : ∀ {ps : List (Nat × Operand)} {us : List Value}, ps.length = us.length → (∀ (j i : Nat) (x : Operand) (u : Value), ps[j]? = some (i, x) → us[j]? = some u → ev x = .s (.v u) ∨ (ev x = .s .nil ∧ u = .slice none 0 0)) → PartsOk ev ps ((ps.map (·.1)).zip us)
  | [], [], _, _ => .nil
  | (i, x) :: ps, u :: us, hl, h => by
    have ih := PartsOk.of (ps := ps) (us := us) (by simpa using hl) (fun j i' x' u' h1 h2 => h (j + 1) i' x' u' (by simpa using h1) (by simpa using h2))
    rcases h 0 i x u rfl rfl with h0 | ⟨h0, rfl⟩
    · exact .cons h0 ih
    · exact .consN h0 ih
  | [], _ :: _, hl, _ => by simp at hl
  | _ :: _, [], hl, _ => by simp at hl
def idxB : Nat → List (Nat × Operand) → Bool
  | _, [] => true
  | i, (j, _) :: l => Nat.beq j i && idxB (i + 1) l
theorem rows_zip : ∀ {ps : List (Nat × Operand)} {us : List Value} {i : Nat}, ps.length = us.length → idxB i ps = true → (∀ u ∈ us, u.cells.toList = [u]) → Rows 1 i ((ps.map (·.1)).zip us) (us.map fun u => [u])
  | [], [], _, _, _, _ => .nil _
  | (j, x) :: ps, u :: us, i, hl, hi, hu => by
    have hi' : (Nat.beq j i && idxB (i + 1) ps) = true := hi
    rw [Bool.and_eq_true, Nat.beq_eq] at hi'
    obtain ⟨rfl, h2⟩ := hi'
    exact .cons (Cells.one u (hu u (List.mem_cons_self ..))) rfl (rows_zip (by simpa using hl) h2 fun v hv => hu v (List.mem_cons_of_mem _ hv))
  | [], _ :: _, _, hl, _, _ => by simp at hl
  | _ :: _, [], _, hl, _, _ => by simp at hl
def clsOk : Cls → Bool
  | .v (.slice _ _ _) => true
  | .v _ => false
  | _ => true
theorem hdrs_one : ∀ {cs : List Cls} {new : List NRow}, cs.all clsOk = true → ∀ u ∈ hdrsOf cs new, u.cells.toList = [u]
  | [], _, _, u, hu => by simp [hdrsOf] at hu
  | .row _ _ _ :: cs, r :: rs, h, u, hu => by
    rcases List.mem_cons.1 (show u ∈ r.hdr :: hdrsOf cs rs from hu) with rfl | hu
    · exact r.hdr_cells
    · exact hdrs_one (by simpa [clsOk] using h) u hu
  | .row _ _ _ :: cs, [], h, u, hu => by
    rcases List.mem_cons.1 (show u ∈ .slice none 0 0 :: hdrsOf cs [] from hu) with rfl | hu
    · rfl
    · exact hdrs_one (by simpa [clsOk] using h) u hu
  | .nil :: cs, rs, h, u, hu => by
    rcases List.mem_cons.1 (show u ∈ .slice none 0 0 :: hdrsOf cs rs from hu) with rfl | hu
    · rfl
    · exact hdrs_one (by simpa [clsOk] using h) u hu
  | .v v :: cs, rs, h, u, hu => by
    have h' : (clsOk (.v v) && cs.all clsOk) = true := h
    rw [Bool.and_eq_true] at h'
    rcases List.mem_cons.1 (show u ∈ v :: hdrsOf cs rs from hu) with rfl | hu
    · cases u <;> first | rfl | cases h'.1
    · exact hdrs_one h'.2 u hu
theorem dropTs_tag {τ : Nat} {p : PV} (hp : p.hasTag τ = true) : ∀ {τs : List Nat}, τ ∈ τs → p.dropTs τs = .any
  | σ :: τs, h => by
    show (p.dropT σ).dropTs τs = .any
    rcases List.mem_cons.1 h with rfl | h
    · unfold PV.dropT; rw [hp]; exact dropTs_any τs
    · rcases dropT_cases σ p with e | e
      · rw [e]; exact dropTs_any τs
      · rw [e]; exact dropTs_tag hp h
  | [], h => by cases h
theorem dropTs_nil : ∀ (τs : List Nat), (PV.s .nil).dropTs τs = .s .nil
  | [] => rfl
  | _ :: τs => dropTs_nil τs
section
variable {dr : Bool} {P : Program} {ops : Array Oper} {rest : List Oper} {env : List (Nat × PV)} {bs : List (Nat × List Value)} {K : St → Prop} {d : Nat} {op : Op} {ty : TypeId} {pos : String} {aft : Array Edge} {gd : Option (Nat × Bool)}
theorem PartsC.ok {ps : List (Nat × Operand)} {cs : List Cls} (hp : PartsC (St.mk env bs).ev ps cs) (hd : distinctB (tagsOf cs) = true) {new : List NRow} (he : new.map (·.els) = elsOf cs) {h : Nat} (hh : Nat.ble 2000000 h = true) (N : PV) :
    PartsOk (St.mk (slots cs new ++ (h, N) :: (rmS [h] env).map (fun p => (p.1, p.2.dropTs (tagsOf cs)))) bs).ev ps ((ps.map (·.1)).zip (hdrsOf cs new)) := by
  have hR := hp.rows
  have hh' : 2000000 ≤ h := Nat.ble_eq ▸ hh
  refine PartsOk.of (by rw [hdrs_len]; exact hp.get.1) fun j i x u hj hu => ?_
  obtain ⟨c, hc, hs⟩ := hp.get.2 j i x hj
  have keep : ∀ y : SV, (∀ τ app els, y ≠ .sl (some τ) app 1 els) → (PV.s y).dropTs (tagsOf cs) = .s y → (St.mk env bs).ev x = .s y → (St.mk (slots cs new ++ (h, N) :: (rmS [h] env).map (fun p => (p.1, p.2.dropTs (tagsOf cs)))) bs).ev x = .s y := by
    intro y hy hdy hx
    cases x with
    | tmp t =>
      have hx' : (bif Nat.blt t 1000000 then look env t else (look env t).fact) = .s y := hx
      show (bif Nat.blt t 1000000 then look _ t else (look _ t).fact) = .s y
      cases hb : Nat.blt t 1000000 with
      | false => rw [hb] at hx'; simp only [cond_false] at hx'; cases hl : look env t <;> rw [hl] at hx' <;> cases hx'
      | true =>
        rw [hb] at hx'
        simp only [cond_true] at hx' ⊢
        rw [Nat.blt_eq] at hb
        rw [slots_key (p := .any) hR (fun τ app els _ hl => by rw [hx'] at hl; injection hl with hl; exact hy _ _ _ hl), look_put, if_neg (by omega), look_map (fun p => PV.dropTs (tagsOf cs) p) (dropTs_any _), look_rmS_ne (rmS_of (by omega)), hx', hdy]
    | const v => exact hx
    | global g => exact hx
    | func f => exact hx
  cases c with
  | row t τ els =>
    obtain ⟨rfl, ht⟩ := hs
    obtain ⟨r, h1, h2⟩ := slots_at h ((h, N) :: (rmS [h] env).map (fun p => (p.1, p.2.dropTs (tagsOf cs)))) hR hd he hc
    rw [h1] at hu
    injection hu with hu
    subst hu
    left
    show (bif Nat.blt t 1000000 then look _ t else _) = _
    rw [ht]; exact h2
  | nil =>
    have := (hdrs_get (new := new)).1 hc
    rw [this] at hu
    injection hu with hu
    exact .inr ⟨keep .nil (fun _ _ _ h => nomatch h) (dropTs_nil _) hs, hu.symm⟩
  | v w =>
    have := (hdrs_get (new := new)).2 w hc
    rw [this] at hu
    injection hu with hu
    subst hu
    exact .inl (keep (.v w) (fun _ _ _ h => nomatch h) (calm_dropTs (t := 0) _ rfl) hs)
/-- A slice of slices is built. -/
theorem Eff.buildN {t e by0 : Nat} {z : Value} [hT : TySl P t e 1 by0] [hz : TyZero P e z] {n : Nat} {ps : List (Nat × Operand)} {cs : List Cls} {g : Nat} {rows : List NRow} (h : Nat) (hp : PartsC (St.mk env bs).ev ps cs) (hn : Nat.beq ps.length n = true) (hi : idxB 0 ps = true) (hcs : cs.all clsOk = true) (hd : distinctB (tagsOf cs) = true) (hm : Nat.ble (n * 1) 16777216 = true) (hk : look env h = .nest g 1 rows) (hh : Nat.ble 2000000 h = true) :
    Eff P ⟨some d, .buildSlice t n ps.toArray, ty, pos, aft, gd⟩ ⟨env, bs⟩ (fun s1 => ∃ new : List NRow, new.map (·.els) = elsOf cs ∧ (∀ r ∈ new, r.els.length ≤ r.cap) ∧ s1 = ⟨(d, .s (.sl (some d) (.front e) 1 ((hdrsOf cs new).map fun v => [v]))) :: (h, .nest g 1 (rows ++ new)) :: (rmS [h] env).map (fun p => (p.1, p.2.dropTs (tagsOf cs))), bs⟩) := by
  have hR := hp.rows
  have hn' : ps.length = n := Nat.eq_of_beq_eq_true hn
  refine Eff.pre (Turns.pushAll h g hh hR hd hk) ?_
  rintro s1 ⟨new, e1, e2, rfl⟩
  have hl : ps.length = (hdrsOf cs new).length := by rw [hdrs_len]; exact hp.get.1
  have hr := rows_zip (us := hdrsOf cs new) hl hi (hdrs_one hcs)
  have hzl : ((ps.map (·.1)).zip (hdrsOf cs new)).length = n := by rw [List.length_zip, List.length_map, ← hl, Nat.min_self, hn']
  subst hzl
  have h1 := hr.fill (cs := []) (zs := ((Array.range (((ps.map (·.1)).zip (hdrsOf cs new)).length * 1)).map (z.cells[· % z.cells.size]!)).toList) (by simp) (by simp)
  have hV := Val.buildSlice (P := P) (d := some d) (ty := ty) (pos := pos) (aft := aft) (g := gd) (bx := (St.mk (slots cs new ++ (h, .nest g 1 (rows ++ new)) :: (rmS [h] env).map (fun p => (p.1, p.2.dropTs (tagsOf cs)))) bs).box) (t := t) d (hp.ok hd e1 hh (.nest g 1 (rows ++ new))) hm (by simpa using h1) hr.chop.2
  rw [hr.chop.1] at hV
  refine Eff.postL (hV.eff (fun _ hp => by cases hp)) ?_
  rintro _ rfl
  refine ⟨_, ⟨new, e1, e2, rfl⟩, fun u => ?_, fun id cs hc => .inl hc⟩
  show PVLt (look ((d, _) :: (slots cs new ++ (h, .nest g 1 (rows ++ new)) :: (rmS [h] env).map (fun p => (p.1, p.2.dropTs (tagsOf cs))))) u) (look ((d, _) :: (h, _) :: (rmS [h] env).map _) u)
  rw [look_put, look_put]
  split
  · exact .le (.refl _)
  · by_cases hu : ∃ τ app els, τ ∈ tagsOf cs ∧ look env u = .s (.sl (some τ) app 1 els)
    · obtain ⟨τ, app, els, hτ, hl⟩ := hu
      have hne : h ≠ u := fun e => by subst e; rw [hk] at hl; cases hl
      rw [look_put, if_neg hne, look_map (fun p => PV.dropTs (tagsOf cs) p) (dropTs_any _), look_rmS_ne (rmS_of hne), hl, dropTs_tag (p := .s (.sl (some τ) app 1 els)) (Nat.beq_refl τ) hτ]
      exact .le (.any _)
    · rw [slots_key (p := .any) hR (fun τ app els hτ hl => hu ⟨τ, app, els, hτ, hl⟩)]
      exact .le (.refl _)
theorem RunK.buildN {t e by0 : Nat} {z : Value} [hT : TySl P t e 1 by0] [hz : TyZero P e z] {n : Nat} {ps : List (Nat × Operand)} {cs : List Cls} {g : Nat} {rows : List NRow} (h : Nat) (hw : wantedS ops ⟨env, bs⟩ ⟨some d, .buildSlice t n ps.toArray, ty, pos, aft, gd⟩ = some true) (he : dr = true → isEff ops ⟨some d, .buildSlice t n ps.toArray, ty, pos, aft, gd⟩ = true) (hp : PartsC (St.mk env bs).ev ps cs) (hn : Nat.beq ps.length n = true) (hi : idxB 0 ps = true) (hcs : cs.all clsOk = true) (hd : distinctB (tagsOf cs) = true) (hm : Nat.ble (n * 1) 16777216 = true) (hk : look env h = .nest g 1 rows) (hh : (Nat.ble 2000000 h && Nat.blt h 3000000) = true)
    (k : ∀ new : List NRow, new.map (·.els) = elsOf cs → (∀ r ∈ new, r.els.length ≤ r.cap) → RunK dr P ops rest ⟨(d, .s (.sl (some d) (.front e) 1 ((hdrsOf cs new).map fun v => [v]))) :: (h, .nest g 1 (rows ++ new)) :: (rmS [h] env).map (fun p => (p.1, p.2.dropTs (tagsOf cs))), bs⟩ K) :
    RunK dr P ops (⟨some d, .buildSlice t n ps.toArray, ty, pos, aft, gd⟩ :: rest) ⟨env, bs⟩ K := by
  have hh' := hh
  rw [Bool.and_eq_true, Nat.ble_eq, Nat.blt_eq] at hh'
  refine Run.eff hw (Eff.buildN h hp hn hi hcs hd hm hk (Nat.ble_eq ▸ hh'.1)) (fun hdr => ⟨he hdr, ?_⟩) (fun s1 ⟨new, h1, h2, e⟩ => e ▸ k new h1 h2)
  rintro s1 ⟨new, h1, h2, rfl⟩
  refine ⟨fun hwf => ?_, ?_⟩
  · intro u id hb
    have hb' : (look ((d, .s (.sl (some d) (.front e) 1 ((hdrsOf cs new).map fun v => [v]))) :: (h, .nest g 1 (rows ++ new)) :: (rmS [h] env).map (fun p => (p.1, p.2.dropTs (tagsOf cs)))) u).isBox id = true := hb
    rw [look_put, look_put] at hb'
    split at hb'
    · cases hb'
    · split at hb'
      · cases hb'
      · rw [look_map (fun p => PV.dropTs (tagsOf cs) p) (dropTs_any _)] at hb'
        rcases dropTs_cases (tagsOf cs) (look (rmS [h] env) u) with e | e
        · rw [e] at hb'; cases hb'
        · rw [e] at hb'
          rcases look_rmS [h] env u with e | e
          · rw [e] at hb'; cases hb'
          · rw [e] at hb'; exact hwf u id hb'
  · intro u hu hne hc
    have hc' : (look env u).calm u = true := hc
    have hhu : h ≠ u := by omega
    show look ((d, _) :: (h, _) :: (rmS [h] env).map _) u = look env u
    rw [look_put, if_neg fun e => hne (by rw [e]), look_put, if_neg hhu, look_map (fun p => PV.dropTs (tagsOf cs) p) (dropTs_any _), look_rmS_ne (rmS_of hhu), calm_dropTs _ hc']
end

/-! ### slices of slices as values: what operations make of them -/
theorem RepP.nsl_of {T : Nat → BTag} {F : Nat → Nat} {ρ : Nat → Nat × Nat} {w : World} {ev : Operand → PV} {x : Operand} {a : Act} {tag : Option Nat} {rts : List (Option Nat)} {uq : Bool} {k : Nat} {els : List (List EV)} (h : RepP T F ρ w (ev x) (a.eval x)) (hx : ev x = .s (.nsl tag rts uq k els)) :
    ∃ hs A n c, a.eval x = .slice A n c ∧ SlOk T F w tag .no k hs A n c ∧ EVsOk T F w rts els hs ∧ (uq = true → ((A.map (·.block)).toList ++ hs.flatten.filterMap blkV).Nodup) := by rw [hx] at h; exact h
section
variable {P : Program} {ev : Operand → PV} {bx : Nat → Option (List Value)} {d : Option Nat} {ty : TypeId} {pos : String} {aft : Array Edge} {g : Option (Nat × Bool)}
theorem Val.indexN {t e0 k0 by0 : Nat} [hT : TySl P t e0 k0 by0] {x y : Operand} {tag : Option Nat} {rts : List (Option Nat)} {uq : Bool} {els : List (List EV)} {kd : IntKind} {i : Int} (j : Nat) (hx : ev x = .s (.nsl tag rts uq k0 els)) (hy : ev y = .s (.v (.int kd i))) (hij : i = (j : Int)) (hj : j < els.length) :
    Val P ⟨d, .indexAddr t x y, ty, pos, aft, g⟩ ev bx (.nep tag rts k0 els j 0) none :=
  .same fun B T F ρ a w h => by
    subst hij
    obtain ⟨hs, A, n, c, h3, ⟨h4, h5, h5', h6, h7, h8, h9⟩, hev, _⟩ := (h x (by simp [Op.operands])).1.nsl_of hx
    have h2 := rep_v (h y (by simp [Op.operands])).1 hy
    obtain ⟨inf, z, hi, _, hs', _⟩ := hT.info
    have hl := hev.1
    cases A with
    | none => have := (h7 rfl).1; omega
    | some ad =>
      obtain ⟨b, o, sp⟩ := ad
      obtain ⟨q1, q2, q3, q4, q5⟩ := h8 _ rfl
      simp only at q1 q2 q3 q4 q5
      subst q1
      refine ⟨.pointer (some ⟨b, o + j * k0 + 0, none⟩), ?_, hs, ⟨b, o, rfl, q2, q3, by rw [h4] at q4; exact q4, h6, q5⟩, hev⟩
      have hin : (0 : Int) ≤ j ∧ (j : Int) < n := by omega
      simp [execOp, h3, h2, Instr.indexAt, asIntOf, run_underlying hT.und, Go.sizeOf, typeInfo, hi, hs', hin, Addr.add_mid]
      omega
theorem RepP.nep_of {T : Nat → BTag} {F : Nat → Nat} {ρ : Nat → Nat × Nat} {w : World} {x : Operand} {a : Act} {tag : Option Nat} {rts : List (Option Nat)} {k : Nat} {els : List (List EV)} {i j : Nat} (h : RepP T F ρ w (ev x) (a.eval x)) (hx : ev x = .nep tag rts k els i j) :
    ∃ hs, (∃ b o, a.eval x = .pointer (some ⟨b, o + i * k + j, none⟩) ∧ b < w.heap.size ∧ T b = ofTag tag ∧ (tag = none ∨ o + hs.length * k ≤ F b) ∧ (∀ e ∈ hs, e.length = k) ∧ RowAt w b o k hs) ∧ EVsOk T F w rts els hs := by rw [hx] at h; exact h
/-- A plain cell. -/
theorem Val.loadN {t : TypeId} [h1 : TyOne P t] {x : Operand} {tag : Option Nat} {rts : List (Option Nat)} {k : Nat} {els : List (List EV)} {i j : Nat} {e : List EV} {u : Value} (hx : ev x = .nep tag rts k els i j) (he : els[i]? = some e) (hu : e[j]? = some (.v u)) : Val P ⟨d, .load t x, ty, pos, aft, g⟩ ev bx (.s (.v u)) none :=
  .same fun B T F ρ a w h => by
    obtain ⟨hs, ⟨b, o, h3, _, _, _, _, hr⟩, hev⟩ := (h x (by simp [Op.operands])).1.nep_of hx
    have hil : i < hs.length := by rw [hev.1]; exact (List.getElem?_eq_some_iff.1 he).1
    obtain ⟨q1, q2⟩ := hev.2 i e _ he (List.getElem?_eq_getElem hil)
    have hjl : j < hs[i].length := by rw [← q1]; exact (List.getElem?_eq_some_iff.1 hu).1
    have hv : hs[i][j] = u := q2 j _ _ hu (List.getElem?_eq_getElem hjl)
    refine ⟨u, ?_, rfl⟩
    have := run_loadV (w := w) (b := b) (o := o + i * k) (.one h1 (u := u) (off := j) (cs := hs[i]) (by rw [List.getElem?_eq_getElem hjl, hv])) (fun j v hv => hr i j _ v (List.getElem?_eq_getElem hil) hv)
    simp [execOp, h3, Instr.loadAt, Instr.sureAddr, this]
/-- A slice in it. -/
theorem Val.loadNS {t : TypeId} [h1 : TyOne P t] {x : Operand} {tag rt : Option Nat} {k k2 : Nat} {els : List (List EV)} {row : List (List Value)} {i j : Nat} {e : List EV} (hx : ev x = .nep tag [rt] k els i j) (he : els[i]? = some e) (hu : e[j]? = some (.sl k2 row)) : Val P ⟨d, .load t x, ty, pos, aft, g⟩ ev bx (.s (.sl rt .no k2 row)) none :=
  .same fun B T F ρ a w h => by
    obtain ⟨hs, ⟨b, o, h3, _, _, _, _, hr⟩, hev⟩ := (h x (by simp [Op.operands])).1.nep_of hx
    have hil : i < hs.length := by rw [hev.1]; exact (List.getElem?_eq_some_iff.1 he).1
    obtain ⟨q1, q2⟩ := hev.2 i e _ he (List.getElem?_eq_getElem hil)
    have hjl : j < hs[i].length := by rw [← q1]; exact (List.getElem?_eq_some_iff.1 hu).1
    obtain ⟨tg, hm, A, n, c, hv, hsl⟩ := q2 j _ _ hu (List.getElem?_eq_getElem hjl)
    rw [List.mem_singleton] at hm
    subst hm
    refine ⟨hs[i][j], ?_, A, n, c, hv, hsl⟩
    have := run_loadV (w := w) (b := b) (o := o + i * k) (.one h1 (u := hs[i][j]) (off := j) (cs := hs[i]) (by rw [List.getElem?_eq_getElem hjl])) (fun j v hv => hr i j _ v (List.getElem?_eq_getElem hil) hv)
    simp [execOp, h3, Instr.loadAt, Instr.sureAddr, this]
theorem Val.fieldN {t f off0 : Nat} [TyField P t f off0] {x : Operand} {tag : Option Nat} {rts : List (Option Nat)} {k : Nat} {els : List (List EV)} {i j : Nat} (hx : ev x = .nep tag rts k els i j) : Val P ⟨d, .fieldAddr t x f, ty, pos, aft, g⟩ ev bx (.nep tag rts k els i (j + off0)) none :=
  .same fun B T F ρ a w h => by
    obtain ⟨hs, ⟨b, o, h3, q⟩, hev⟩ := (h x (by simp [Op.operands])).1.nep_of hx
    exact ⟨.pointer (some ⟨b, o + i * k + j + off0, none⟩), by simp [execOp, h3, run_fieldAt (P := P) (t := t) (f := f) (off := off0)], hs, ⟨b, o, by simp [Nat.add_assoc], q⟩, hev⟩
theorem Val.lenNs {t e0 k0 by0 : Nat} [hT : TySl P t e0 k0 by0] {x : Operand} {ats : Array TypeId} {tag : Option Nat} {rts : List (Option Nat)} {uq : Bool} {k : Nat} {els : List (List EV)} (hx : ev x = .s (.nsl tag rts uq k els)) (ht : ats = #[t]) :
    Val P ⟨d, .call ⟨.builtin .len, #[x], ats⟩, ty, pos, aft, g⟩ ev bx (.s (.v (.int .i64 els.length))) none :=
  .same fun B T F ρ a w h => by
    subst ht
    obtain ⟨hs, A, n, c, h3, h4, hev, _⟩ := (h x (by simp [Op.operands, Call.operands])).1.nsl_of hx
    refine ⟨.int .i64 n, ?_, by rw [h4.1, hev.1]; rfl⟩
    simp [execOp, resolve, invoke, builtin, Builtin.len_, run_underlying hT.und, h3, goInt]
theorem EVsOk.take {T : Nat → BTag} {F : Nat → Nat} {w : World} {rts : List (Option Nat)} {els : List (List EV)} {hs : List (List Value)} (l : Nat) (h : EVsOk T F w rts els hs) : EVsOk T F w rts (els.take l) (hs.take l) := by
  refine ⟨by simp [h.1], fun i e y he hy => ?_⟩
  rw [List.getElem?_take] at he hy
  split at he
  · rename_i hl
    rw [if_pos hl] at hy
    exact h.2 i e y he hy
  · cases he
theorem Val.sliceToN {t e0 k0 by0 : Nat} [hT : TySl P t e0 k0 by0] {x y : Operand} {tag : Option Nat} {rts : List (Option Nat)} {uq : Bool} {els : List (List EV)} {kd : IntKind} {i : Int} (l : Nat) (hx : ev x = .s (.nsl tag rts uq k0 els)) (hy : ev y = .s (.v (.int kd i))) (hil : i = (l : Int)) (hl : l ≤ els.length) :
    Val P ⟨d, .slice t x none (some y) none, ty, pos, aft, g⟩ ev bx (.s (.nsl tag rts false k0 (els.take l))) none :=
  .same fun B T F ρ a w h => by
    obtain ⟨hs', A, n, c, h3, hs, hev, _⟩ := (h x (by simp [Op.operands])).1.nsl_of hx
    have hn : n = hs'.length := hs.1
    have hl' := hev.1
    have hnc := hs.2.1
    obtain ⟨inf, z, hi, _, hsz, _⟩ := hT.info
    have hb := (OptN.given (ev := ev) (dflt := 0) hy hil).bound (P := P) (w := w) (a := a) (fun x hx => (h x (by simp [Op.operands] at hx ⊢; simp [hx])).1) c (by omega) .sliceAcap
    have he : (if c = 0 then A else A.map (·.add (0 * k0))) = A := by
      split
      · rfl
      · cases A with
        | none => rfl
        | some ad => simp [Addr.add]
    refine ⟨.slice A l c, ?_, hs'.take l, _, _, _, rfl, hs.to_ (by omega) (by omega) (Nat.le_refl _), hev.take l, fun h => by cases h⟩
    simp only [Option.map_some] at hb
    simp only [execOp, Instr.sliceAt, Sem.run_bind, run_underlying hT.und, Result.andThen_ok, Instr.slice, h3, Instr.sliceBounds, Option.map_some, Option.map_none, Sem.run_pure, Option.isSome_none, if_true, hb, Go.sizeOf, typeInfo, run_program, hi, hsz]
    simp only [he, Nat.sub_zero]
end
theorem unE_ns {σs : List Nat} {ev : Operand → PV} {x : Operand} {p : PV} (h : ev x = p) (hp : ∀ σs, unL σs p = p) : unE σs ev x = p := by unfold unE; rw [h]; exact hp σs
section
variable {dr : Bool} {P : Program} {ops : Array Oper} {rest : List Oper} {env : List (Nat × PV)} {bs : List (Nat × List Value)} {K : St → Prop} {d : Nat} {op : Op} {ty : TypeId} {pos : String} {aft : Array Edge} {g : Option (Nat × Bool)}
theorem Hu.ofFix {o : Oper} {ev : Operand → PV} {bx : Nat → Option (List Value)} {nb : Option (Nat × List Value)} {pv : PV} (hp : ∀ σ, pv.un σ = pv) (h : ∀ σs, Val P o (unE σs ev) bx pv nb) : Hu P o ev bx pv nb := .ofNew h fun σ _ => hp (some σ)
theorem RunK.indexN {t e0 k0 by0 : Nat} [hT : TySl P t e0 k0 by0] {x y : Operand} {tag : Option Nat} {rts : List (Option Nat)} {uq : Bool} {els : List (List EV)} {kd : IntKind} {i : Int} {j : Nat} (hw : wantedS ops ⟨env, bs⟩ ⟨some d, .indexAddr t x y, ty, pos, aft, g⟩ = some true) (hx : (St.mk env bs).ev x = .s (.nsl tag rts uq k0 els)) (hy : (St.mk env bs).ev y = .s (.v (.int kd i))) (hij : i = (j : Int)) (hj : j < els.length)
    (k : RunK dr P ops rest ⟨(d, .nep tag rts k0 els j 0) :: env, bs⟩ K) : RunK dr P ops (⟨some d, .indexAddr t x y, ty, pos, aft, g⟩ :: rest) ⟨env, bs⟩ K :=
  .val rfl rfl hw (.ofFix (fun _ => rfl) fun σs => Val.indexN j (unE_nsl σs hx) (unE_v σs hy) hij hj) k
theorem RunK.loadNv {t : TypeId} [h1 : TyOne P t] {x : Operand} {tag : Option Nat} {rts : List (Option Nat)} {k0 : Nat} {els : List (List EV)} {i j : Nat} {e : List EV} {u : Value} (hw : wantedS ops ⟨env, bs⟩ ⟨some d, .load t x, ty, pos, aft, g⟩ = some true) (hx : (St.mk env bs).ev x = .nep tag rts k0 els i j) (he : els[i]? = some e) (hu : e[j]? = some (.v u))
    (k : RunK dr P ops rest ⟨(d, .s (.v u)) :: env, bs⟩ K) : RunK dr P ops (⟨some d, .load t x, ty, pos, aft, g⟩ :: rest) ⟨env, bs⟩ K :=
  .val rfl rfl hw (.ofV fun σs => Val.loadN (unE_nep σs hx) he hu) k
theorem RunK.loadNS {t : TypeId} [h1 : TyOne P t] {x : Operand} {tag rt : Option Nat} {k0 k2 : Nat} {els : List (List EV)} {row : List (List Value)} {i j : Nat} {e : List EV} (hw : wantedS ops ⟨env, bs⟩ ⟨some d, .load t x, ty, pos, aft, g⟩ = some true) (hx : (St.mk env bs).ev x = .nep tag [rt] k0 els i j) (he : els[i]? = some e) (hu : e[j]? = some (.sl k2 row))
    (k : RunK dr P ops rest ⟨(d, .s (.sl rt .no k2 row)) :: env, bs⟩ K) : RunK dr P ops (⟨some d, .load t x, ty, pos, aft, g⟩ :: rest) ⟨env, bs⟩ K :=
  .val rfl rfl hw (Hu.ofFix (pv := .s (.sl rt .no k2 row)) (fun σ => congrArg PV.s (SV.un_no σ rt k2 row)) fun σs => Val.loadNS (unE_nep σs hx) he hu) k
theorem RunK.fieldN {t f off0 : Nat} [hT : TyField P t f off0] {x : Operand} {tag : Option Nat} {rts : List (Option Nat)} {k0 : Nat} {els : List (List EV)} {i j : Nat} (hw : wantedS ops ⟨env, bs⟩ ⟨some d, .fieldAddr t x f, ty, pos, aft, g⟩ = some true) (hx : (St.mk env bs).ev x = .nep tag rts k0 els i j)
    (k : RunK dr P ops rest ⟨(d, .nep tag rts k0 els i (j + off0)) :: env, bs⟩ K) : RunK dr P ops (⟨some d, .fieldAddr t x f, ty, pos, aft, g⟩ :: rest) ⟨env, bs⟩ K :=
  .val rfl rfl hw (.ofFix (fun _ => rfl) fun σs => Val.fieldN (unE_nep σs hx)) k
theorem RunK.lenNs {t e0 k0 by0 : Nat} [hT : TySl P t e0 k0 by0] {x : Operand} {tag : Option Nat} {rts : List (Option Nat)} {uq : Bool} {k1 : Nat} {els : List (List EV)} (hw : wantedS ops ⟨env, bs⟩ ⟨some d, .call ⟨.builtin .len, #[x], #[t]⟩, ty, pos, aft, g⟩ = some true) (hx : (St.mk env bs).ev x = .s (.nsl tag rts uq k1 els))
    (k : RunK dr P ops rest ⟨(d, .s (.v (.int .i64 els.length))) :: env, bs⟩ K) : RunK dr P ops (⟨some d, .call ⟨.builtin .len, #[x], #[t]⟩, ty, pos, aft, g⟩ :: rest) ⟨env, bs⟩ K :=
  .val rfl rfl hw (.ofV fun σs => Val.lenNs (unE_nsl σs hx) rfl) k
theorem RunK.sliceToNs {t e0 k0 by0 : Nat} [hT : TySl P t e0 k0 by0] {x y : Operand} {tag : Option Nat} {rts : List (Option Nat)} {uq : Bool} {els : List (List EV)} {kd : IntKind} {i : Int} {l : Nat} (hw : wantedS ops ⟨env, bs⟩ ⟨some d, .slice t x none (some y) none, ty, pos, aft, g⟩ = some true) (hx : (St.mk env bs).ev x = .s (.nsl tag rts uq k0 els)) (hy : (St.mk env bs).ev y = .s (.v (.int kd i))) (hij : i = (l : Int)) (hj : l ≤ els.length)
    (k : RunK dr P ops rest ⟨(d, .s (.nsl tag rts false k0 (els.take l))) :: env, bs⟩ K) : RunK dr P ops (⟨some d, .slice t x none (some y) none, ty, pos, aft, g⟩ :: rest) ⟨env, bs⟩ K :=
  .val rfl rfl hw (.ofFix (fun _ => rfl) fun σs => Val.sliceToN l (unE_nsl σs hx) (unE_v σs hy) hij hj) k
theorem RunK.moveNs {x : Operand} {tag : Option Nat} {rts : List (Option Nat)} {uq : Bool} {k0 : Nat} {els : List (List EV)} (hw : wantedS ops ⟨env, bs⟩ ⟨some d, .move x, ty, pos, aft, g⟩ = some true) (hx : (St.mk env bs).ev x = .s (.nsl tag rts uq k0 els)) (k : RunK dr P ops rest ⟨(d, .s (.nsl tag rts uq k0 els)) :: env, bs⟩ K) : RunK dr P ops (⟨some d, .move x, ty, pos, aft, g⟩ :: rest) ⟨env, bs⟩ K :=
  .val rfl rfl hw (.ofCopy hx (by simp [Op.operands]) (fun _ => Val.move)) k
theorem RunK.assignNs {x : Operand} {tag : Option Nat} {rts : List (Option Nat)} {uq : Bool} {k0 : Nat} {els : List (List EV)} (hw : wantedS ops ⟨env, bs⟩ ⟨some d, .assign x, ty, pos, aft, g⟩ = some true) (hx : (St.mk env bs).ev x = .s (.nsl tag rts uq k0 els)) (k : RunK dr P ops rest ⟨(d, .s (.nsl tag rts uq k0 els)) :: env, bs⟩ K) : RunK dr P ops (⟨some d, .assign x, ty, pos, aft, g⟩ :: rest) ⟨env, bs⟩ K :=
  .val rfl rfl hw (.ofCopy hx (by simp [Op.operands]) (fun _ => Val.assign)) k
end

/-! ### nests and values -/
theorem blkV_hdr (r : NRow) : blkV r.hdr = r.blk := by
  obtain ⟨A, cap, els⟩ := r
  cases A <;> rfl
theorem flat_one {α : Type} : ∀ l : List α, (l.map fun x => [x]).flatten = l
  | [] => rfl
  | x :: l => by rw [List.map_cons, List.flatten_cons, flat_one l]; rfl
theorem hdrs_blk (rows : List NRow) : ((rows.map fun r => [r.hdr]).flatten).filterMap blkV = rows.filterMap NRow.blk := by
  rw [show (rows.map fun r => [r.hdr]) = ((rows.map NRow.hdr).map fun x => [x]) by rw [List.map_map]; rfl, flat_one, List.filterMap_map]
  exact congrArg (fun f => List.filterMap f rows) (funext fun r => blkV_hdr r)
def cellsAt (w : World) (b : Nat) : Nat := match w.heap[b]? with
  | some (.cells cur _ _) => cur.size
  | _ => 0
/-- A nest and the slice of its headers are a value. -/
theorem Turns.freezeN {env : List (Nat × PV)} {bs : List (Nat × List Value)} (t h σ : Nat) {τ g : Nat} {app : App} {els : List (List Value)} {rows : List NRow} {L : List (List (List Value))} (hl : look env t = .s (.sl (some τ) app 1 els)) (hk : look env h = .nest g 1 rows) (he : els = rows.map fun r => [r.hdr]) (hL : rows.map (·.els) = L) (hn : noNest [g] (rmS [h] env) = true) :
    Turns ⟨env, bs⟩ (Eq ⟨(t, .s (.nsl (some τ) [some σ] true 1 (L.map fun e => [.sl 1 e]))) :: rmS [h] env, bs⟩) := by
  classical
  subst he hL
  rintro w0 m a w ⟨T, F, ρ, hr⟩
  refine ⟨_, rfl, ?_⟩
  have hnest : NestOk T w g 1 rows := by have := hr.env h; rw [show (St.mk env bs).look h = look env h from rfl, hk] at this; exact this
  obtain ⟨A, n, c, hv, hsl⟩ : ∃ A n c, vl a w0.fr t = .slice A n c ∧ SlOk T F w (some τ) app 1 (rows.map fun r => [r.hdr]) A n c := by have := hr.env t; rw [show (St.mk env bs).look t = look env t from rfl, hl] at this; exact this
  let T' : Nat → BTag := fun b => if T b = .obj (g + 1) then .row σ else T b
  let F' : Nat → Nat := fun b => if T b = .obj (g + 1) then cellsAt w b else F b
  have hown : ∀ b, T b ≠ .obj (g + 1) → T' b = T b ∧ F' b = F b := fun b hb => ⟨if_neg hb, if_neg hb⟩
  have hin : ∀ b, T b = .obj (g + 1) → T' b = .row σ ∧ F' b = cellsAt w b := fun b hb => ⟨if_pos hb, if_pos hb⟩
  refine ⟨T', F', ρ, hr.defers, hr.size, hr.small, hr.below, fun b hb => ?_, fun u => ?_, fun id cs hid hne => ?_⟩
  · rw [(hown b (by rw [hr.ext b hb]; intro h; cases h)).1]; exact hr.ext b hb
  · show RepP T' F' ρ w (look ((t, _) :: rmS [h] env) u) (vl a w0.fr u)
    rw [look_put]
    split
    · rename_i hu
      subst hu
      rw [hv]
      refine ⟨rows.map fun r => [r.hdr], A, n, c, rfl, (hsl.turn fun b hb => hown b (by rw [hb]; intro h; cases h)).toNo, ⟨by simp, fun i e y hei hyi => ?_⟩, fun _ => ?_⟩
      · rw [List.map_map, List.getElem?_map] at hei
        rw [List.getElem?_map] at hyi
        cases hri : rows[i]? with
        | none => rw [hri] at hei; cases hei
        | some r =>
          rw [hri] at hei hyi
          injection hei with hei
          injection hyi with hyi
          subst hei hyi
          refine ⟨rfl, fun j x z hx hz => ?_⟩
          cases j with
          | succ j => simp at hx
          | zero =>
            injection hx with hx
            injection hz with hz
            subst hx hz
            obtain ⟨h1, h2, h3, h4⟩ := hnest.2 r (List.mem_of_getElem? hri)
            refine ⟨some σ, List.mem_singleton_self _, _, _, _, rfl, rfl, h2, h3, h1, fun hA => ?_, fun ad hA => ?_, trivial, .inr ?_⟩
            · rcases h4 with ⟨h4, h5⟩ | ⟨b, o, cur, e, q1, _⟩
              · exact ⟨by show r.els.length = 0; omega, h5⟩
              · rw [q1] at hA; cases hA
            · rcases h4 with ⟨h4, h5⟩ | ⟨b, o, cur, e, q1, q2, q3, q4, q5⟩
              · rw [h4] at hA; cases hA
              · rw [q1] at hA
                injection hA with hA
                subst hA
                refine ⟨rfl, (Array.getElem?_eq_some_iff.1 q3).1, (hin b q2).1, .inr ?_, q5⟩
                show o + r.els.length * 1 ≤ F' b
                rw [(hin b q2).2]
                unfold cellsAt
                rw [q3]
                show _ ≤ cur.size
                omega
            · rcases h4 with ⟨h4, h5⟩ | ⟨b, o, cur, e, q1, q2, q3, q4, q5⟩
              · exact .inl (by rw [h4]; rfl)
              · exact .inr ⟨b, o, cur, e, by rw [q1]; rfl, q3, q4⟩
      · rw [hdrs_blk]
        cases A with
        | none => exact hnest.1
        | some ad =>
          refine List.nodup_cons.2 ⟨fun hm => ?_, hnest.1⟩
          have h1 := (hnest.obj hm).1
          rw [(hsl.2.2.2.2.2.1 ad rfl).2.2.1] at h1
          cases h1
    · rcases look_rmS [h] env u with h' | h'
      · rw [h']; trivial
      · have hnn := noNest_look hn u
        rw [h'] at hnn ⊢
        refine (hr.env u).turn (fun tg htg x hx => hown x (by rw [hx]; cases tg <;> intro h <;> cases h)) (fun id' _ => ⟨rfl, fun x hx => (hown x (by rw [hx]; intro h; cases h)).1⟩) (fun b g' how hb => ?_) (fun x hx => (hown x (by rw [hx]; intro h; cases h)).1.trans hx)
        refine (hown b fun e => ?_).1.trans hb
        rw [hb] at e
        injection e with e
        subst e
        have how' : (look env u).owns b (g + 1) := how
        generalize look env u = p at hnn how'
        cases p with
        | kept b' o => exact absurd how'.2 (by omega)
        | nest g2 k2 rows2 =>
          have e2 : g + 1 = g2 + 1 := how'
          injection e2 with e2
          exact nestNe_of hnn (by rw [e2]; exact List.mem_singleton_self _)
        | _ => exact how'
  · obtain ⟨b1, b2, b3, r⟩ := hr.boxes id cs hid hne
    exact ⟨b1, b2, (hown _ (by rw [b3]; intro h; cases h)).1.trans b3, r⟩
theorem EVsOk.cons_inv {T : Nat → BTag} {F : Nat → Nat} {w : World} {rts : List (Option Nat)} {e : List EV} {els : List (List EV)} {hs : List (List Value)} (ho : EVsOk T F w rts (e :: els) hs) : ∃ h hs', hs = h :: hs' ∧ (e.length = h.length ∧ ∀ (j : Nat) (x : EV) (y : Value), e[j]? = some x → h[j]? = some y → EVRep T F w rts x y) ∧ EVsOk T F w rts els hs' := by
  cases hs with
  | nil => exact absurd ho.1 (by simp)
  | cons h hs' => exact ⟨h, hs', rfl, ho.2 0 e h rfl rfl, by simpa using ho.1, fun i e' h' he hh => ho.2 (i + 1) e' h' (by simpa using he) (by simpa using hh)⟩
theorem rows_of {T : Nat → BTag} {F : Nat → Nat} {w : World} {rts : List (Option Nat)} (hrts : rts.all (·.isSome) = true) : ∀ {L : List (List (List Value))} {hs : List (List Value)}, EVsOk T F w rts (L.map fun e => [EV.sl 1 e]) hs →
    ∃ rows : List NRow, rows.map (·.els) = L ∧ hs = rows.map (fun r => [r.hdr]) ∧ ∀ r ∈ rows, (∀ x ∈ r.els, x.length = 1) ∧ r.els.length ≤ r.cap ∧ r.cap ≤ maxLen ∧ ((r.A = none ∧ r.cap = 0) ∨ ∃ b o cur e τ, r.A = some (b, o) ∧ T b = .row τ ∧ some τ ∈ rts ∧ w.heap[b]? = some (.cells cur e (0, 0)) ∧ o + r.cap * 1 ≤ cur.size ∧ RowAt w b o 1 r.els)
  | [], hs, ho => ⟨[], rfl, List.eq_nil_of_length_eq_zero ho.1, fun r hr => by cases hr⟩
  | L0 :: L, hs, ho => by
    obtain ⟨h, hs', rfl, ⟨q1, q2⟩, ho'⟩ := EVsOk.cons_inv ho
    obtain ⟨rows, r1, r2, r3⟩ := rows_of hrts ho'
    match h, q1 with
    | [v], _ =>
      obtain ⟨tag, hm, A, n, c, hv, ⟨s1, s2, s3, s4, s5, s6, s7, s8⟩⟩ := q2 0 _ v rfl rfl
      subst hv
      have hts := List.all_eq_true.1 hrts tag hm
      cases tag with
      | none => cases hts
      | some τ =>
        obtain ⟨A', rfl⟩ : ∃ A' : Option (Nat × Nat), A = A'.map fun p => ⟨p.1, p.2, none⟩ := by
          cases A with
          | none => exact ⟨none, rfl⟩
          | some ad =>
            obtain ⟨b, o, sp⟩ := ad
            have := (s6 _ rfl).1
            simp only at this
            subst this
            exact ⟨some (b, o), rfl⟩
        refine ⟨⟨A', c, L0⟩ :: rows, by rw [List.map_cons, r1], by rw [List.map_cons, ← r2, s1]; rfl, fun r hr => ?_⟩
        rcases List.mem_cons.1 hr with rfl | hr
        · refine ⟨s4, by rw [← s1]; exact s2, s3, ?_⟩
          cases A' with
          | none => exact .inl ⟨rfl, (s5 rfl).2⟩
          | some p =>
            obtain ⟨b, o⟩ := p
            obtain ⟨t1, t2, t3, t4, t5⟩ := s6 _ rfl
            rcases s8 with s8 | s8 | ⟨b', o', cur, e, e1, e2, e3⟩
            · cases s8
            · cases s8
            · injection e1 with e1
              injection e1 with e1 e1'
              subst e1 e1'
              exact .inr ⟨b, o, cur, e, τ, rfl, t3, hm, e2, e3, t5⟩
        · exact r3 r hr
def somes : List (Option Nat) → List Nat
  | [] => []
  | some t :: l => t :: somes l
  | none :: l => somes l
theorem somes_mem {τ : Nat} : ∀ {l : List (Option Nat)}, some τ ∈ l → τ ∈ somes l
  | some t :: l, h => by
    rcases List.mem_cons.1 h with h | h
    · injection h with h; subst h; exact List.mem_cons_self ..
    · exact List.mem_cons_of_mem _ (somes_mem h)
  | none :: l, h => by
    rcases List.mem_cons.1 h with h | h
    · cases h
    · exact somes_mem (l := l) h
  | [], h => by cases h
theorem dropTs_no {τ : Nat} : ∀ {τs : List Nat} {p : PV}, τ ∈ τs → p.dropTs τs ≠ .any → p.hasTag τ = false
  | τs, p, hm, hne => by
    cases hp : p.hasTag τ with
    | false => rfl
    | true => exact absurd (dropTs_tag hp hm) hne
/-- And back. -/
theorem Turns.thawN {env : List (Nat × PV)} {bs : List (Nat × List Value)} (t h g : Nat) {τ : Nat} {rts : List (Option Nat)} {E : List (List EV)} {L : List (List (List Value))} (hl : look env t = .s (.nsl (some τ) rts true 1 E)) (hE : E = L.map fun e => [.sl 1 e]) (hrts : rts.all (·.isSome) = true) :
    Turns ⟨env, bs⟩ (fun s1 => ∃ rows : List NRow, rows.map (·.els) = L ∧ (∀ r ∈ rows, r.els.length ≤ r.cap) ∧ s1 = ⟨(t, .s (.sl (some τ) .no 1 (rows.map fun r => [r.hdr]))) :: (h, .nest g 1 rows) :: env.map (fun p => (p.1, p.2.dropTs (somes rts))), bs⟩) := by
  classical
  subst hE
  rintro w0 m a w ⟨T, F, ρ, hr⟩
  obtain ⟨hs, A, n, c, hv, hsl, hev, huq⟩ : RepS T F w (.nsl (some τ) rts true 1 (L.map fun e => [.sl 1 e])) (vl a w0.fr t) := by have := hr.env t; rw [show (St.mk env bs).look t = look env t from rfl, hl] at this; exact this
  obtain ⟨rows, r1, r2, r3⟩ := rows_of hrts hev
  subst r2
  have huq' := huq rfl
  rw [hdrs_blk] at huq'
  have hblk : ∀ b ∈ rows.filterMap NRow.blk, ∃ τ', some τ' ∈ rts ∧ T b = .row τ' := fun b hb => by
    obtain ⟨r, hr0, hb⟩ := List.mem_filterMap.1 hb
    obtain ⟨_, _, _, h4 | ⟨b', o, cur, e, τ', q1, q2, q3, _⟩⟩ := r3 r hr0
    · unfold NRow.blk at hb; rw [h4.1] at hb; cases hb
    · rw [NRow.blk_some q1] at hb; injection hb with hb; subst hb; exact ⟨τ', q3, q2⟩
  refine ⟨_, ⟨rows, r1, fun r hr0 => (r3 r hr0).2.1, rfl⟩, ?_⟩
  let T' : Nat → BTag := fun b => if b ∈ rows.filterMap NRow.blk then .obj (g + 1) else T b
  have hout : ∀ b, b ∉ rows.filterMap NRow.blk → T' b = T b := fun b hb => if_neg hb
  have hin : ∀ b, b ∈ rows.filterMap NRow.blk → T' b = .obj (g + 1) := fun b hb => if_pos hb
  have hno : ∀ b, (∀ τ', T b ≠ .row τ') → T' b = T b := fun b hb => hout b fun hm => by obtain ⟨τ', _, h2⟩ := hblk b hm; exact hb τ' h2
  refine ⟨T', F, ρ, hr.defers, hr.size, hr.small, hr.below, fun b hb => ?_, fun u => ?_, fun id cs hid hne => ?_⟩
  · rw [hno b (fun τ' h => by rw [hr.ext b hb] at h; cases h)]; exact hr.ext b hb
  · show RepP T' F ρ w (look ((t, _) :: (h, _) :: env.map (fun p => (p.1, p.2.dropTs (somes rts)))) u) (vl a w0.fr u)
    rw [look_put]
    split
    · rename_i hu
      subst hu
      rw [hv]
      refine ⟨A, n, c, rfl, ?_⟩
      obtain ⟨s1, s2, s3, s4, s5, s6, s7, s8⟩ := hsl
      refine ⟨s1, s2, s3, s4, s5, fun ad hA => ?_, trivial, s8⟩
      obtain ⟨q1, q2, q3, q4, q5⟩ := s6 ad hA
      subst hA
      refine ⟨q1, q2, (hout _ fun hm => ?_).trans q3, q4, q5⟩
      exact (List.nodup_cons.1 (show (ad.block :: rows.filterMap NRow.blk).Nodup from huq')).1 hm
    · rw [look_put]
      split
      · refine ⟨?_, fun r hr0 => ?_⟩
        · cases A with
          | none => exact huq'
          | some ad => exact (List.nodup_cons.1 (show (ad.block :: rows.filterMap NRow.blk).Nodup from huq')).2
        · obtain ⟨h1, h2, h3, h4⟩ := r3 r hr0
          refine ⟨h1, h2, h3, h4.imp id fun ⟨b, o, cur, e, τ', q1, q2, q3, q4⟩ => ⟨b, o, cur, e, q1, hin b (List.mem_filterMap.2 ⟨r, hr0, NRow.blk_some q1⟩), q4⟩⟩
      · rw [look_map (fun p => PV.dropTs (somes rts) p) (dropTs_any _)]
        by_cases hd : (look env u).dropTs (somes rts) = .any
        · rw [hd]; trivial
        · have hsame := (dropTs_cases (somes rts) (look env u)).resolve_left hd
          rw [hsame]
          refine (hr.env u).turn (fun tg htg x hx => ⟨hout x fun hm => ?_, rfl⟩) (fun id' _ => ⟨rfl, fun x hx => hno x (fun τ' h => by rw [hx] at h; cases h)⟩) (fun b g' _ hb => (hno b (fun τ' h => by rw [hb] at h; cases h)).trans hb) (fun x hx => (hno x (fun τ' h => by rw [hx] at h; cases h)).trans hx)
          obtain ⟨τ', h1, h2⟩ := hblk x hm
          rw [h2] at hx
          cases tg with
          | none => cases hx
          | some τ2 =>
            injection hx with hx
            subst hx
            have h3 := htg τ' rfl
            rw [show (St.mk env bs).look u = look env u from rfl, dropTs_no (somes_mem h1) hd] at h3
            cases h3
  · obtain ⟨b1, b2, b3, r⟩ := hr.boxes id cs hid hne
    exact ⟨b1, b2, (hno _ (fun τ' h => by rw [b3] at h; cases h)).trans b3, r⟩
/-! ### tags are laid together -/
def mgT (τs : List Nat) (σ : Option Nat) : Option Nat → Option Nat
  | some t => bif τs.any (Nat.beq t) then σ else some t
  | none => none
def mgA (τs : List Nat) (tag : Option Nat) (app : App) : App := match tag with
  | some t => bif τs.any (Nat.beq t) then .no else app
  | none => app
def SV.mg (τs : List Nat) (σ : Option Nat) : SV → SV
  | .sl tag app k els => .sl (mgT τs σ tag) (mgA τs tag app) k els
  | .nsl tag rts uq k els => .nsl (mgT τs σ tag) (rts.map (mgT τs σ)) uq k els
  | .ag rts e => .ag (rts.map (mgT τs σ)) e
  | x => x
def PV.mg (τs : List Nat) (σ : Option Nat) : PV → PV
  | .s x => .s (x.mg τs σ)
  | .tup xs => .tup (xs.map (·.mg τs σ))
  | .elp tag k els i j => .elp (mgT τs σ tag) k els i j
  | .hd v x => .hd v (x.mg τs σ)
  | .hds tag k l => .hds (mgT τs σ tag) k l
  | .nep tag rts k els i j => .nep (mgT τs σ tag) (rts.map (mgT τs σ)) k els i j
  | p => p
def mgB (τs : List Nat) (σ : Option Nat) : BTag → BTag
  | .row t => bif τs.any (Nat.beq t) then ofTag σ else .row t
  | x => x
theorem mgB_of (τs : List Nat) (σ tag : Option Nat) : mgB τs σ (ofTag tag) = ofTag (mgT τs σ tag) := by
  cases tag with
  | none => rfl
  | some t => show (bif _ then _ else _) = ofTag (bif _ then _ else _); cases τs.any (Nat.beq t) <;> rfl
theorem mgT_none {τs : List Nat} {σ tag : Option Nat} (h : tag = none) : mgT τs σ tag = none := by subst h; rfl
section
variable {T : Nat → BTag} {F : Nat → Nat} {ρ : Nat → Nat × Nat} {w : World} (τs : List Nat) (σ : Option Nat)
theorem SlOk.mg {tag : Option Nat} {app : App} {k : Nat} {els : List (List Value)} {A : Option Addr} {n c : Nat} (h : SlOk T F w tag app k els A n c) : SlOk (fun b => mgB τs σ (T b)) F w (mgT τs σ tag) (mgA τs tag app) k els A n c := by
  obtain ⟨s1, s2, s3, s4, s5, s6, s7, s8⟩ := h
  refine ⟨s1, s2, s3, s4, s5, fun ad hA => ?_, ?_, ?_⟩
  · obtain ⟨q1, q2, q3, q4, q5⟩ := s6 ad hA
    exact ⟨q1, q2, by show mgB τs σ (T ad.block) = _; rw [q3, mgB_of], q4.imp mgT_none id, q5⟩
  · cases tag with
    | none => exact s7
    | some t =>
      show AppOk w F (bif τs.any (Nat.beq t) then σ else some t) A n c k (bif τs.any (Nat.beq t) then .no else app)
      cases τs.any (Nat.beq t) with
      | true => trivial
      | false => exact s7
  · exact s8.imp mgT_none id
theorem mgA_no (tag : Option Nat) : mgA τs tag .no = .no := by
  cases tag with
  | none => rfl
  | some t => show (bif _ then _ else _) = _; cases τs.any (Nat.beq t) <;> rfl
theorem SlOk.mgN {tag : Option Nat} {k : Nat} {els : List (List Value)} {A : Option Addr} {n c : Nat} (h : SlOk T F w tag .no k els A n c) : SlOk (fun b => mgB τs σ (T b)) F w (mgT τs σ tag) .no k els A n c := by
  have := h.mg τs σ
  rwa [mgA_no] at this
theorem RepS.mg {x : SV} {u : Value} (h : RepS T F w x u) : RepS (fun b => mgB τs σ (T b)) F w (x.mg τs σ) u := by
  cases x with
  | v x => exact h
  | nil => exact h
  | sl tag app k els =>
    obtain ⟨A, n, c, hu, h1⟩ := h
    exact ⟨A, n, c, hu, h1.mg τs σ⟩
  | nsl tag rts uq k els =>
    obtain ⟨hs, A, n, c, hu, h1, h2, h3⟩ := h
    exact ⟨hs, A, n, c, hu, h1.mgN τs σ, h2.map (mgT τs σ) (fun t ht => List.mem_map_of_mem ht) (fun tag k els A n c _ h => h.mgN τs σ), h3⟩
  | ag rts e =>
    obtain ⟨hs, hu, h2⟩ := h
    exact ⟨hs, hu, h2.map (mgT τs σ) (fun t ht => List.mem_map_of_mem ht) (fun tag k els A n c _ h => h.mgN τs σ)⟩
theorem RepP.mg {p : PV} {u : Value} (h : RepP T F ρ w p u) : RepP (fun b => mgB τs σ (T b)) F ρ w (p.mg τs σ) u := by
  cases p with
  | any => trivial
  | s x => exact RepS.mg τs σ h
  | tup xs =>
    obtain ⟨vs, hu, hl, hr⟩ := h
    refine ⟨vs, hu, by simpa using hl, fun i x y hx hy => ?_⟩
    rw [List.getElem?_map] at hx
    cases hxi : xs[i]? with
    | none => rw [hxi] at hx; cases hx
    | some x0 =>
      rw [hxi] at hx
      injection hx with hx
      subst hx
      exact RepS.mg τs σ (hr i x0 y hxi hy)
  | box id off => exact h
  | elp tag k els i j =>
    obtain ⟨b, o, hu, q2, q3, q4, q5⟩ := h
    exact ⟨b, o, hu, q2, by show mgB τs σ (T b) = _; rw [q3, mgB_of], q4.imp mgT_none id, q5⟩
  | bsl id off k n =>
    rcases h with h | ⟨c, cur, e, h1, h2, h3, h4, h5, h6, h7⟩
    · exact .inl h
    · exact .inr ⟨c, cur, e, h1, h2, h3, h4, by show mgB τs σ (T _) = _; rw [h5]; rfl, h6, h7⟩
  | hd v x => exact RepS.mg τs σ h
  | hs v id off k n =>
    rcases h with h | ⟨c, cur, e, h1, h2, h3, h4, h5, h6, h7⟩
    · exact .inl h
    · exact .inr ⟨c, cur, e, h1, h2, h3, h4, by show mgB τs σ (T _) = _; rw [h5]; rfl, h6, h7⟩
  | hb v id off => exact h
  | kept b o => exact ⟨by show mgB τs σ (T b) = _; rw [h.1]; rfl, h.2⟩
  | old W B => exact ⟨fun c hc hB => let ⟨q1, q2⟩ := h.1 c hc hB; ⟨by show mgB τs σ (T c) = _; rw [q1]; rfl, q2⟩, h.2⟩
  | hds tag k l =>
    intro p hp
    have := RepS.mg τs σ (h p hp)
    simp only [SV.mg] at this
    rwa [mgA_no] at this
  | nest g k rows => exact NestOk.tags h fun b hb => by show mgB τs σ (T b) = _; rw [hb]; rfl
  | nep tag rts k els i j =>
    obtain ⟨hs, ⟨b, o, hu, q2, q3, q4, q5⟩, hv⟩ := h
    exact ⟨hs, ⟨b, o, hu, q2, by show mgB τs σ (T b) = _; rw [q3, mgB_of], q4.imp mgT_none id, q5⟩, hv.map (mgT τs σ) (fun t ht => List.mem_map_of_mem ht) (fun tag k els A n c _ h => h.mgN τs σ)⟩
  | clo f caps => exact h
end
/-- Tags are laid together, or let go. -/
theorem Turns.mg {env : List (Nat × PV)} {bs : List (Nat × List Value)} (τs : List Nat) (σ : Option Nat) : Turns ⟨env, bs⟩ (Eq ⟨env.map (fun p => (p.1, p.2.mg τs σ)), bs⟩) := by
  rintro w0 m a w ⟨T, F, ρ, hr⟩
  refine ⟨_, rfl, fun b => mgB τs σ (T b), F, ρ, hr.defers, hr.size, hr.small, hr.below, fun b hb => by show mgB τs σ (T b) = _; rw [hr.ext b hb]; rfl, fun u => ?_, fun id cs hid hne => ?_⟩
  · show RepP _ F ρ w (look (env.map (fun p => (p.1, p.2.mg τs σ))) u) _
    rw [look_map (fun p => PV.mg τs σ p) rfl]
    exact RepP.mg τs σ (hr.env u)
  · obtain ⟨b1, b2, b3, r⟩ := hr.boxes id cs hid hne
    exact ⟨b1, b2, by show mgB τs σ (T _) = _; rw [b3]; rfl, r⟩
/-! ### headers in sight -/
theorem Turns.asHd {env : List (Nat × PV)} {bs : List (Nat × List Value)} (t h : Nat) {x : SV} (hl : look env t = .s x) : Turns ⟨env, bs⟩ (fun s1 => ∃ v, s1 = ⟨(t, .s (.v v)) :: (h, .hd v x) :: env, bs⟩) := by
  rintro w0 m a w ⟨T, F, ρ, hr⟩
  have h1 : RepS T F w x (vl a w0.fr t) := by have := hr.env t; rw [show (St.mk env bs).look t = look env t from rfl, hl] at this; exact this
  refine ⟨_, ⟨vl a w0.fr t, rfl⟩, T, F, ρ, hr.defers, hr.size, hr.small, hr.below, hr.ext, fun u => ?_, hr.boxes⟩
  show RepP T F ρ w (look ((t, _) :: (h, _) :: env) u) _
  rw [look_put]
  split
  · rename_i e; subst e; rfl
  · rw [look_put]
    split
    · exact h1
    · exact hr.env u
theorem Turns.unHd {env : List (Nat × PV)} {bs : List (Nat × List Value)} (t h : Nat) {v : Value} {x : SV} (hl : look env t = .s (.v v)) (hk : look env h = .hd v x) : Turns ⟨env, bs⟩ (Eq ⟨(t, .s x) :: env, bs⟩) := by
  rintro w0 m a w ⟨T, F, ρ, hr⟩
  have h1 : vl a w0.fr t = v := by have := hr.env t; rw [show (St.mk env bs).look t = look env t from rfl, hl] at this; exact this
  have h2 : RepS T F w x v := by have := hr.env h; rw [show (St.mk env bs).look h = look env h from rfl, hk] at this; exact this
  refine ⟨_, rfl, T, F, ρ, hr.defers, hr.size, hr.small, hr.below, hr.ext, fun u => ?_, hr.boxes⟩
  show RepP T F ρ w (look ((t, _) :: env) u) _
  rw [look_put]
  split
  · rename_i e; subst e; rw [h1]; exact h2
  · exact hr.env u
theorem Turns.copyF {env : List (Nat × PV)} {bs : List (Nat × List Value)} (h h2 : Nat) {p : PV} (hl : look env h = p) (hp : p.fact = p) : Turns ⟨env, bs⟩ (Eq ⟨(h2, p) :: env, bs⟩) := by
  rintro w0 m a w ⟨T, F, ρ, hr⟩
  have h1 : RepP T F ρ w p (vl a w0.fr h) := by have := hr.env h; rw [show (St.mk env bs).look h = look env h from rfl, hl] at this; exact this
  exact ⟨_, rfl, T, F, ρ, hr.addFact h2 fun v => by have := h1.fact (v := v); rwa [hp] at this⟩
theorem Turns.permN {env : List (Nat × PV)} {bs : List (Nat × List Value)} (h : Nat) {g k : Nat} {rows : List NRow} (rows1 rows' : List NRow) (hk : look env h = .nest g k rows) (hp : rows.Perm rows1) (hs : rows'.Sublist rows1) : Turns ⟨env, bs⟩ (Eq ⟨(h, .nest g k rows') :: env, bs⟩) := by
  rintro w0 m a w ⟨T, F, ρ, hr⟩
  exact ⟨_, rfl, T, F, ρ, hr.addFact h fun _ => ((nest_of hr hk).perm hp).sub hs⟩
/-- A nest's group is another one. -/
theorem Turns.regroup {env : List (Nat × PV)} {bs : List (Nat × List Value)} (h g' : Nat) {g k : Nat} {rows : List NRow} (hk : look env h = .nest g k rows) (hn : noNest [g] (rmS [h] env) = true) : Turns ⟨env, bs⟩ (Eq ⟨(h, .nest g' k rows) :: rmS [h] env, bs⟩) := by
  classical
  rintro w0 m a w ⟨T, F, ρ, hr⟩
  have hnest := nest_of hr hk
  refine ⟨_, rfl, ?_⟩
  let T' : Nat → BTag := fun b => if T b = .obj (g + 1) then .obj (g' + 1) else T b
  have hown : ∀ b, T b ≠ .obj (g + 1) → T' b = T b := fun b hb => if_neg hb
  have hin : ∀ b, T b = .obj (g + 1) → T' b = .obj (g' + 1) := fun b hb => if_pos hb
  refine ⟨T', F, ρ, hr.defers, hr.size, hr.small, hr.below, fun b hb => ?_, fun u => ?_, fun id cs hid hne => ?_⟩
  · rw [hown b (by rw [hr.ext b hb]; intro h; cases h)]; exact hr.ext b hb
  · show RepP T' F ρ w (look ((h, _) :: rmS [h] env) u) (vl a w0.fr u)
    rw [look_put]
    split
    · exact hnest.tags hin
    · rcases look_rmS [h] env u with h' | h'
      · rw [h']; trivial
      · have hnn := noNest_look hn u
        rw [h'] at hnn ⊢
        refine (hr.env u).turn (fun tg htg x hx => ⟨hown x (by rw [hx]; cases tg <;> intro h <;> cases h), rfl⟩) (fun id' _ => ⟨rfl, fun x hx => hown x (by rw [hx]; intro h; cases h)⟩) (fun b g2 how hb => ?_) (fun x hx => (hown x (by rw [hx]; intro h; cases h)).trans hx)
        refine (hown b fun e => ?_).trans hb
        rw [hb] at e
        injection e with e
        subst e
        have how' : (look env u).owns b (g + 1) := how
        generalize look env u = p at hnn how'
        cases p with
        | kept b' o => exact absurd how'.2 (by omega)
        | nest g2 k2 rows2 =>
          have e2 : g + 1 = g2 + 1 := how'
          injection e2 with e2
          exact nestNe_of hnn (by rw [e2]; exact List.mem_singleton_self _)
        | _ => exact how'
  · obtain ⟨b1, b2, b3, r⟩ := hr.boxes id cs hid hne
    exact ⟨b1, b2, (hown _ (by rw [b3]; intro h; cases h)).trans b3, r⟩

/-! ### literals of slices of slices, as values -/
/-- The parts: slices, nil, plain values. τ: the tag that nil is said to have. -/
inductive PartsE (τ : Nat) (ev : Operand → PV) : List (Nat × Operand) → List EV → List (Option Nat) → Prop
  | nil : PartsE τ ev [] [] []
  | sl {i : Nat} {x : Operand} {tag : Option Nat} {app : App} {k : Nat} {els : List (List Value)} {ps : List (Nat × Operand)} {es : List EV} {ts : List (Option Nat)} (h : ev x = .s (.sl tag app k els)) (r : PartsE τ ev ps es ts) : PartsE τ ev ((i, x) :: ps) (.sl k els :: es) (tag :: ts)
  | nl {i : Nat} {x : Operand} {ps : List (Nat × Operand)} {es : List EV} {ts : List (Option Nat)} (h : ev x = .s .nil) (r : PartsE τ ev ps es ts) : PartsE τ ev ((i, x) :: ps) (.sl 1 [] :: es) (some τ :: ts)
theorem PartsE.un {τ : Nat} {ev : Operand → PV} (σs : List Nat) : ∀ {ps : List (Nat × Operand)} {es : List EV} {ts : List (Option Nat)}, PartsE τ ev ps es ts → PartsE τ (unE σs ev) ps es ts
  | _, _, _, .nil => .nil
  | _, _, _, .sl h r => .sl (unE_s σs h) (r.un σs)
  | _, _, _, .nl h r => .nl (unE_n σs h) (r.un σs)
theorem PartsE.len {τ : Nat} {ev : Operand → PV} : ∀ {ps : List (Nat × Operand)} {es : List EV} {ts : List (Option Nat)}, PartsE τ ev ps es ts → es.length = ps.length
  | _, _, _, .nil => rfl
  | _, _, _, .sl _ r => by simp [r.len]
  | _, _, _, .nl _ r => by simp [r.len]
theorem EVRep.sub {T : Nat → BTag} {F : Nat → Nat} {w : World} {rts rts' : List (Option Nat)} (hs : ∀ t ∈ rts, t ∈ rts') {x : EV} {u : Value} (h : EVRep T F w rts x u) : EVRep T F w rts' x u := by
  cases x with
  | v x => exact h
  | sl k els =>
    obtain ⟨tag, hm, r⟩ := h
    exact ⟨tag, hs tag hm, r⟩
theorem PartsE.rep {τ : Nat} {ev : Operand → PV} {T : Nat → BTag} {F : Nat → Nat} {ρ : Nat → Nat × Nat} {w : World} {a : Act} : ∀ {ps : List (Nat × Operand)} {es : List EV} {ts : List (Option Nat)}, PartsE τ ev ps es ts → (∀ p ∈ ps, RepP T F ρ w (ev p.2) (a.eval p.2)) →
    (∀ p ∈ ps, (a.eval p.2).cells.toList = [a.eval p.2]) ∧ ∀ (i : Nat) (e : EV) (p : Nat × Operand), es[i]? = some e → ps[i]? = some p → EVRep T F w ts e (a.eval p.2)
  | _, _, _, .nil, _ => ⟨fun p hp => (by cases hp), fun i e p he => (by simp at he)⟩
  | _, _, _, .sl (x := x) (tag := tag) (app := app) (k := k) (els := els) h r, hr => by
    obtain ⟨q1, q2⟩ := r.rep fun p hp => hr p (List.mem_cons_of_mem _ hp)
    have h0 := hr _ (List.mem_cons_self ..)
    simp only [h] at h0
    obtain ⟨A, n, c, hu, hs⟩ := h0
    refine ⟨fun p hp => ?_, fun i e p he hp => ?_⟩
    · rcases List.mem_cons.1 hp with rfl | hp
      · show (a.eval x).cells.toList = [a.eval x]
        rw [hu]; rfl
      · exact q1 p hp
    · cases i with
      | zero =>
        simp only [List.getElem?_cons_zero, Option.some.injEq] at he hp
        subst he hp
        exact ⟨tag, List.mem_cons_self .., A, n, c, hu, hs.toNo⟩
      | succ i => exact (q2 i e p (by simpa using he) (by simpa using hp)).sub fun t ht => List.mem_cons_of_mem _ ht
  | _, _, _, .nl (x := x) h r, hr => by
    obtain ⟨q1, q2⟩ := r.rep fun p hp => hr p (List.mem_cons_of_mem _ hp)
    have h0 := hr _ (List.mem_cons_self ..)
    simp only [h] at h0
    have hu : a.eval x = .slice none 0 0 := h0
    refine ⟨fun p hp => ?_, fun i e p he hp => ?_⟩
    · rcases List.mem_cons.1 hp with rfl | hp
      · show (a.eval x).cells.toList = [a.eval x]
        rw [hu]; rfl
      · exact q1 p hp
    · cases i with
      | zero =>
        simp only [List.getElem?_cons_zero, Option.some.injEq] at he hp
        subst he hp
        exact ⟨some τ, List.mem_cons_self .., none, 0, 0, hu, SlOk.toNil _ _ _⟩
      | succ i => exact (q2 i e p (by simpa using he) (by simpa using hp)).sub fun t ht => List.mem_cons_of_mem _ ht
section
variable {P : Program} {ev : Operand → PV} {bx : Nat → Option (List Value)} {d : Option Nat} {ty : TypeId} {pos : String} {aft : Array Edge} {g : Option (Nat × Bool)}
theorem Val.buildNsl {t e by0 : Nat} {z : Value} [hT : TySl P t e 1 by0] [hz : TyZero P e z] (τ : Nat) {n : Nat} {ps : List (Nat × Operand)} {es : List EV} {ts : List (Option Nat)} (hp : PartsE τ ev ps es ts) (hn : Nat.beq ps.length n = true) (hi : idxB 0 ps = true) (hm : Nat.ble (n * 1) 16777216 = true) :
    Val P ⟨d, .buildSlice t n ps.toArray, ty, pos, aft, g⟩ ev bx (.s (.nsl (some τ) ts false 1 (es.map fun x => [x]))) none := by
  intro B T F ρ a w hB hop next Q hK
  have hn' : ps.length = n := Nat.eq_of_beq_eq_true hn
  obtain ⟨q1, q2⟩ := hp.rep (T := T) (F := F) (ρ := ρ) (w := w) (a := a) (fun p hp' => (hop p.2 (.inl (by simp [Op.operands]; exact ⟨p.1, hp'⟩))).1)
  have hl : ps.length = (ps.map fun p => a.eval p.2).length := by simp
  have hr := rows_zip (us := ps.map fun p => a.eval p.2) hl hi (fun u hu => by obtain ⟨p, hp', rfl⟩ := List.mem_map.1 hu; exact q1 p hp')
  have hzl : ((ps.map (·.1)).zip (ps.map fun p => a.eval p.2)).length = n := by rw [List.length_zip, List.length_map, List.length_map, Nat.min_self, hn']
  subst hzl
  have h1 := hr.fill (cs := []) (zs := ((Array.range (((ps.map (·.1)).zip (ps.map fun p => a.eval p.2)).length * 1)).map (z.cells[· % z.cells.size]!)).toList) (by simp) (by simp)
  have hpo : PartsOk (fun x => PV.s (.v (a.eval x))) ps ((ps.map (·.1)).zip (ps.map fun p => a.eval p.2)) := PartsOk.of hl fun j i x u hj hu => .inl (by
    rw [List.getElem?_map, hj] at hu
    injection hu with hu
    subst hu
    rfl)
  have hV := Val.buildSlice (P := P) (d := d) (ty := ty) (pos := pos) (aft := aft) (g := g) (bx := bx) (t := t) τ hpo hm (by simpa using h1) hr.chop.2
  rw [hr.chop.1] at hV
  refine hV B T F ρ a w hB (fun x _ => ⟨rfl, fun id h => by cases h⟩) next Q fun v w' T' F' ρ' hb hTF hρ hrep hnb => hK v w' T' F' ρ' hb hTF hρ ?_ hnb
  obtain ⟨A, n', c, hu, hsl⟩ := hrep
  have hg := Goes.of_below (T := T) (T' := T') (F := F) (F' := F') hb hTF
  refine ⟨_, A, n', c, hu, hsl.toNo, ⟨by simp [hp.len], fun i e' h he hh => ?_⟩, fun h => by cases h⟩
  rw [List.getElem?_map] at he hh
  rw [List.getElem?_map] at hh
  cases hei : es[i]? with
  | none => rw [hei] at he; cases he
  | some x =>
    cases hpi : ps[i]? with
    | none => rw [hpi] at hh; cases hh
    | some p =>
      rw [hei] at he
      rw [hpi] at hh
      injection he with he
      injection hh with hh
      subst he hh
      refine ⟨rfl, fun j y u hy hu' => ?_⟩
      cases j with
      | succ j => simp at hy
      | zero =>
        simp only [List.getElem?_cons_zero, Option.some.injEq] at hy hu'
        subst hy hu'
        exact (q2 i _ p hei hpi).goes hg.1 hg.2
end
section
variable {dr : Bool} {P : Program} {ops : Array Oper} {rest : List Oper} {env : List (Nat × PV)} {bs : List (Nat × List Value)} {K : St → Prop} {d : Nat} {op : Op} {ty : TypeId} {pos : String} {aft : Array Edge} {g : Option (Nat × Bool)}
theorem RunK.buildNsl {t e by0 : Nat} {z : Value} [hT : TySl P t e 1 by0] [hz : TyZero P e z] {n : Nat} {ps : List (Nat × Operand)} {es : List EV} {ts : List (Option Nat)} (hw : wantedS ops ⟨env, bs⟩ ⟨some d, .buildSlice t n ps.toArray, ty, pos, aft, g⟩ = some true) (he : isEff ops ⟨some d, .buildSlice t n ps.toArray, ty, pos, aft, g⟩ = false) (hp : PartsE d (St.mk env bs).ev ps es ts) (hn : Nat.beq ps.length n = true) (hi : idxB 0 ps = true) (hm : Nat.ble (n * 1) 16777216 = true)
    (k : RunK dr P ops rest ⟨(d, .s (.nsl (some d) ts false 1 (es.map fun x => [x]))) :: env, bs⟩ K) : RunK dr P ops (⟨some d, .buildSlice t n ps.toArray, ty, pos, aft, g⟩ :: rest) ⟨env, bs⟩ K :=
  .val he rfl hw (.ofFix (fun _ => rfl) fun σs => Val.buildNsl d (hp.un σs) hn hi hm) k
theorem RunK.makeSlE {t e by0 : Nat} {z : Value} [hT : TySl P t e 1 by0] [hz : TyZero P e z] {x y : Operand} {kd kd2 : IntKind} {a a2 : Int} {n : Nat} (hw : wantedS ops ⟨env, bs⟩ ⟨some d, .makeSlice t x y, ty, pos, aft, g⟩ = some true) (hx : (St.mk env bs).ev x = .s (.v (.int kd a))) (hy : (St.mk env bs).ev y = .s (.v (.int kd2 a2))) (ha : a = (n : Int)) (ha2 : a2 = (n : Int)) (hb : n * by0 ≤ 140737488355328) {zv : Value} (hzc : z.cells = #[zv])
    (k : RunK dr P ops rest ⟨(d, .s (.sl (some d) (.front e) 1 (List.replicate n [zv]))) :: env, bs⟩ K) : RunK dr P ops (⟨some d, .makeSlice t x y, ty, pos, aft, g⟩ :: rest) ⟨env, bs⟩ K := by
  subst ha ha2
  exact .makeSl hw hx hy hb hzc k
/-- An append to a row, as an effect. -/
theorem RunK.appendE {t e k0 bytes : Nat} [hT : TySl P t e k0 bytes] {x y : Operand} {τ : Nat} {els els2 : List (List Value)} (hw : wantedS ops ⟨env, bs⟩ ⟨some d, .call ⟨.builtin .append, #[x, y], #[t, t]⟩, ty, pos, aft, g⟩ = some true) (he : dr = true → isEff ops ⟨some d, .call ⟨.builtin .append, #[x, y], #[t, t]⟩, ty, pos, aft, g⟩ = true) (hx : (St.mk env bs).ev x = .s (.sl (some τ) (.front e) k0 els)) (hy : ReadLe ((St.mk env bs).ev y) k0 els2)
    (hone : ∀ l ∈ els2, ∀ u ∈ l, u.oneCell' = true) (hb : (els.length + els2.length) * bytes ≤ 140737488355328) (k : RunK dr P ops rest ⟨(d, .s (.sl (some τ) (.front e) k0 (els ++ els2))) :: env.map (fun p => (p.1, p.2.un (some τ))), bs⟩ K) : RunK dr P ops (⟨some d, .call ⟨.builtin .append, #[x, y], #[t, t]⟩, ty, pos, aft, g⟩ :: rest) ⟨env, bs⟩ K :=
  .eff he (wf_append τ _) (tame_append τ _ rfl) hw (Eff.append (by rw [hx]; exact .sl τ (.front e) k0 els) (.inr rfl) hy hone hb) k
theorem RunK.appendEN {t e k0 bytes : Nat} [hT : TySl P t e k0 bytes] {x y : Operand} {els2 : List (List Value)} (hw : wantedS ops ⟨env, bs⟩ ⟨some d, .call ⟨.builtin .append, #[x, y], #[t, t]⟩, ty, pos, aft, g⟩ = some true) (he : dr = true → isEff ops ⟨some d, .call ⟨.builtin .append, #[x, y], #[t, t]⟩, ty, pos, aft, g⟩ = true) (hx : (St.mk env bs).ev x = .s .nil) (hy : ReadLe ((St.mk env bs).ev y) k0 els2)
    (hone : ∀ l ∈ els2, ∀ u ∈ l, u.oneCell' = true) (hb : els2.length * bytes ≤ 140737488355328) (k : RunK dr P ops rest ⟨(d, .s (.sl (some d) (.front e) k0 els2)) :: env.map (fun p => (p.1, p.2.un (some d))), bs⟩ K) : RunK dr P ops (⟨some d, .call ⟨.builtin .append, #[x, y], #[t, t]⟩, ty, pos, aft, g⟩ :: rest) ⟨env, bs⟩ K :=
  .eff he (wf_append d _) (tame_append d _ rfl) hw (Eff.append (els := []) (by rw [hx]; exact .nil d k0) (.inl rfl) hy hone (by simpa using hb)) (by simpa using k)
end
section
variable {P : Program} {s : St}
theorem ResOk.g1 {t τ k : Nat} {rts : List (Option Nat)} {uq : Bool} {a b : List (List EV)} (h : s.ev (.tmp t) = .s (.nsl (some τ) rts uq k a)) (hr : rts.all (·.isSome) = true) (he : a = b) : ResOk P s [.tmp t] (.s (.nsl (some 0) [some 0] uq k b)) := by
  subst he
  refine .one (.tmp h) (.nsl _ _ _ (fun x hx => ?_) id)
  obtain ⟨y, hy, rfl⟩ := List.mem_map.1 hx
  have := List.all_eq_true.1 hr y hy
  cases y with
  | none => cases this
  | some _ => exact List.mem_singleton_self _
theorem ResOk.gv {t1 t2 τ k : Nat} {rts : List (Option Nat)} {uq : Bool} {a b : List (List EV)} {u2 v2 : Value} (h : s.ev (.tmp t1) = .s (.nsl (some τ) rts uq k a)) (hr : rts.all (·.isSome) = true) (he : a = b) (h2 : s.ev (.tmp t2) = .s (.v u2)) (e2 : u2 = v2) : ResOk P s [.tmp t1, .tmp t2] (.tup [.nsl (some 0) [some 0] uq k b, .v v2]) := by
  subst he e2
  refine .two (.tmp h) (.nsl _ _ _ (fun x hx => ?_) id) (.tmp h2) (.refl _)
  obtain ⟨y, hy, rfl⟩ := List.mem_map.1 hx
  have := List.all_eq_true.1 hr y hy
  cases y with
  | none => cases this
  | some _ => exact List.mem_singleton_self _
theorem ResOk.gn {t1 t2 k : Nat} {uq : Bool} {b : List (List EV)} {u2 v2 : Value} (h : s.ev (.tmp t1) = .s .nil) (he : [] = b) (h2 : s.ev (.tmp t2) = .s (.v u2)) (e2 : u2 = v2) : ResOk P s [.tmp t1, .tmp t2] (.tup [.nsl (some 0) [some 0] uq k b, .v v2]) := by
  subst he e2
  exact .two (.tmp h) (.nsn _ _ _ _) (.tmp h2) (.refl _)
theorem ResOk.gn1 {t1 k : Nat} {uq : Bool} {b : List (List EV)} (h : s.ev (.tmp t1) = .s .nil) (he : [] = b) : ResOk P s [.tmp t1] (.s (.nsl (some 0) [some 0] uq k b)) := by
  subst he
  exact .one (.tmp h) (.nsn _ _ _ _)
end

section
variable {dr : Bool} {P : Program} {ops : Array Oper} {rest : List Oper} {env : List (Nat × PV)} {bs : List (Nat × List Value)} {K : St → Prop} {d : Nat} {op : Op} {ty : TypeId} {pos : String} {aft : Array Edge} {g : Option (Nat × Bool)}
theorem wf_kept {h b : Nat} {o : Obj} (hw : Wf ⟨env, bs⟩) : Wf ⟨(h, .kept b o) :: rmS [h] env, bs⟩ := by
  intro t id hb
  have hb' : (look ((h, .kept b o) :: rmS [h] env) t).isBox id = true := hb
  rw [look_put] at hb'
  split at hb'
  · cases hb'
  · rcases look_rmS [h] env t with e | e
    · rw [e] at hb'; cases hb'
    · rw [e] at hb'; exact hw t id hb'
theorem tame_kept {h b : Nat} {ob : Obj} {bs' : List (Nat × List Value)} {o : Oper} (hh : (Nat.ble 1000000 h && Nat.blt h 3000000) = true) : Tame o ⟨env, bs⟩ ⟨(h, .kept b ob) :: rmS [h] env, bs'⟩ := by
  rw [Bool.and_eq_true, Nat.ble_eq, Nat.blt_eq] at hh
  intro t ht _ _
  have hne : h ≠ t := by omega
  show look ((h, .kept b ob) :: rmS [h] env) t = look env t
  rw [look_put, if_neg hne, look_rmS_ne (rmS_of hne)]
/-- A cell of a held block is written, in a drawn region too. -/
theorem RunK.storePD {t : TypeId} [hT : TySize P t 1] {x y : Operand} {b j : Nat} {C : Array Value} {e : TypeId} {u : Value} (h : Nat) (hw : wantedS ops ⟨env, bs⟩ ⟨none, .store t x y, ty, pos, aft, g⟩ = some true) (hx : (St.mk env bs).ev x = .s (.v (.pointer (some ⟨b, j, none⟩)))) (hy : (St.mk env bs).ev y = .s (.v u)) (hk : look env h = .kept b (.cells C e (0, 0))) (hh : (Nat.ble 1000000 h && Nat.blt h 3000000) = true) (hj : j < C.size)
    (hc : u.cells.toList = [u]) (ho : u.oneCell' = true) (hap : ApartE [b] (rmS [h] env)) (k : RunK dr P ops rest ⟨(h, .kept b (.cells (C.setIfInBounds j u) e (0, 0))) :: rmS [h] env, bs⟩ K) : RunK dr P ops (⟨none, .store t x y, ty, pos, aft, g⟩ :: rest) ⟨env, bs⟩ K := by
  refine Run.eff hw (Eff.turnObj h (fun pv o' => pv = .any ∧ o' = .cells (C.setIfInBounds j u) e (0, 0)) hk hap fun a w hs hb => ?_) (fun _ => ⟨rfl, fun _ ⟨pv, o', h1, h2⟩ => ?_⟩) (fun _ ⟨pv, o', h1, h2⟩ => ?_)
  · have h1 := hs.v x _ (by simp [Op.operands]) hx
    have h2 := hs.v y _ (by simp [Op.operands]) hy
    have hcell : w.cell? ⟨b, j, none⟩ = some C[j] := by rw [cell_of_row w b j C e (0, 0) hb]; simp [hj]
    have hfr : w.frozen? ⟨b, j, none⟩ = false := by unfold World.frozen?; rw [hb]; simp
    have hst := run_storeCells_cells (P := P) b j [u] 0 w (fun i hi => by simp at hi; subst hi; simp [hcell]) (fun i hi => by simp at hi; subst hi; simpa using hfr) (fun v hv => by rw [List.mem_singleton.1 hv]; exact ho)
    have hsz : u.cells.size = 1 := by rw [← Array.length_toList, hc]; rfl
    refine ⟨.tuple #[], .any, _, w.putObj b (.cells (C.setIfInBounds j u) e (0, 0)), ⟨rfl, rfl⟩, fun _ _ _ _ => trivial, .put .., .inr ⟨rfl, ?_⟩⟩
    have hs := hT.size
    cases hi : P.info? t with
    | none => rw [hi] at hs; cases hs
    | some inf =>
      have hsz2 : inf.size = 1 := by rw [hi] at hs; simpa using hs
      simp only [Nat.add_zero, World.setCells] at hst
      simp [execOp, h1, h2, Instr.storeAt, Instr.sureAddr, storeVar, Go.sizeOf, typeInfo, hi, hsz2, hsz, hc, hst, setCell_put hb]
  · subst h2
    obtain ⟨rfl, rfl⟩ := h1
    exact ⟨fun hwf => wf_kept hwf, tame_kept hh⟩
  · subst h2
    obtain ⟨rfl, rfl⟩ := h1
    exact k
theorem RunK.unHd {l : List Oper} (t h : Nat) {v : Value} {x : SV} (hl : look env t = .s (.v v)) (hk : look env h = .hd v x) (k : RunK false P ops l ⟨(t, .s x) :: env, bs⟩ K) : RunK false P ops l ⟨env, bs⟩ K := Run.weak rfl (Turns.unHd t h hl hk) fun _ e => e ▸ k
end

section
variable {P : Program} {ev : Operand → PV} {bx : Nat → Option (List Value)} {d : Option Nat} {ty : TypeId} {pos : String} {aft : Array Edge} {g : Option (Nat × Bool)}
theorem eqIn_s1 (w : World) (m : Nat) (t e : TypeId) (ad : Addr) (n c : Nat) (hu : P.underlying t = some (.slice e)) : (Op.equalIn (m + 1) t (.slice (some ad) n c) (.slice none 0 0)).run P w = .ok false w := by
  simp [Op.equalIn, run_underlying hu]
theorem eq_s1 (w : World) (t e : TypeId) (ad : Addr) (n c : Nat) (hu : P.underlying t = some (.slice e)) : (Op.equal t (.slice (some ad) n c) (.slice none 0 0)).run P w = .ok false w := eqIn_s1 w 9999 t e ad n c hu
/-- A slice that holds something is not nil. -/
theorem Val.eqlNilS {t e0 k0 by0 : Nat} [hT : TySl P t e0 k0 by0] {yt : TypeId} {x y : Operand} {tag : Option Nat} {app : App} {els : List (List Value)} (hx : ev x = .s (.sl tag app k0 els)) (hne : els ≠ []) (hy : ev y = .s .nil) :
    Val P ⟨d, .binOp .eql t x y yt, ty, pos, aft, g⟩ ev bx (.s (.v (.bool false))) none :=
  .same fun B T F ρ a w h => by
    obtain ⟨A, n, c, h3, h4, h5, h5', h6, h7, _⟩ := (h x (by simp [Op.operands])).1.sl_of hx
    have h2 : a.eval y = .slice none 0 0 := by have := (h y (by simp [Op.operands])).1; rw [hy] at this; exact this
    have hpos : 0 < els.length := List.length_pos_iff.2 hne
    cases A with
    | none => have := (h7 rfl).1; omega
    | some ad =>
      refine ⟨.bool false, ?_, rfl⟩
      have hB : BinRun P .eql t x y (.slice (some ad) n c) (.slice none 0 0) (.bool false) := .ofEq (fun _ => rfl) rfl fun w => eq_s1 w t _ ad n c hT.und
      simp only [execOp, h3, h2]
      rw [Sem.run_bind, hB w]
      rfl
end
section
variable {dr : Bool} {P : Program} {ops : Array Oper} {rest : List Oper} {env : List (Nat × PV)} {bs : List (Nat × List Value)} {K : St → Prop} {d : Nat} {op : Op} {ty : TypeId} {pos : String} {aft : Array Edge} {g : Option (Nat × Bool)}
theorem RunK.eqlNilS {t e0 k0 by0 : Nat} [hT : TySl P t e0 k0 by0] {yt : TypeId} {x y : Operand} {tag : Option Nat} {app : App} {els : List (List Value)} (hw : wantedS ops ⟨env, bs⟩ ⟨some d, .binOp .eql t x y yt, ty, pos, aft, g⟩ = some true) (hx : (St.mk env bs).ev x = .s (.sl tag app k0 els)) (hne : els ≠ []) (hy : (St.mk env bs).ev y = .s .nil)
    (k : RunK dr P ops rest ⟨(d, .s (.v (.bool false))) :: env, bs⟩ K) : RunK dr P ops (⟨some d, .binOp .eql t x y yt, ty, pos, aft, g⟩ :: rest) ⟨env, bs⟩ K :=
  .val rfl rfl hw (.ofV fun σs => Val.eqlNilS (unE_s σs hx) hne (unE_n σs hy)) k
end
end Go.Proofs.Ytonangdimkgdpaa.Pv
