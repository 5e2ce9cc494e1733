/- The machine of values: nil in a slice of slices. No condition. -/
import Derived.Test.YtonangdimkgdpaaPvL
namespace Go.Proofs.Ytonangdimkgdpaa.Pv
open Go Go.RowKit
section
variable {P : Program} {ops : Array Oper} {rest : List Oper} {env : List (Nat × PV)} {bs : List (Nat × List Value)} {K : St → Prop} {d : Nat} {op : Op} {ty : TypeId} {pos : String} {aft : Array Edge} {gd : Option (Nat × Bool)}
/-- Is it a slice? -/
def SV.isSl : SV → Bool
  | .v _ => false
  | .ag _ _ => false
  | _ => true
/-- The header of a slice comes in sight, and is known to read as it did. -/
theorem Turns.asHdS (t h : Nat) {x : SV} (hl : look env t = .s x) (hx : x.isSl = true) : Turns ⟨env, bs⟩ (fun s1 => ∃ A n c, s1 = ⟨(t, .s (.v (.slice A n c))) :: (h, .hd (.slice A n c) x) :: env, bs⟩) := by
  rintro w0 m a w ⟨T, F, ρ, hr⟩
  have h1 : RepS T F w x (vl a w0.fr t) := by have := hr.env t; rw [show (St.mk env bs).look t = look env t from rfl, hl] at this; exact this
  obtain ⟨A, k, c, hv⟩ : ∃ A n c, vl a w0.fr t = .slice A n c := by
    cases x with
    | v u => cases hx
    | ag _ _ => cases hx
    | nil => exact ⟨_, _, _, h1⟩
    | sl tag app k els => obtain ⟨A, n, c, h, _⟩ := h1; exact ⟨A, n, c, h⟩
    | nsl tag rts uq k els => obtain ⟨_, A, n, c, h, _⟩ := h1; exact ⟨A, n, c, h⟩
  refine ⟨_, ⟨A, k, c, rfl⟩, T, F, ρ, hr.defers, hr.size, hr.small, hr.below, hr.ext, fun u => ?_, hr.boxes⟩
  show RepP T F ρ w (look ((t, _) :: (h, _) :: env) u) _
  rw [look_put]
  split
  · rename_i e; subst e; exact hv
  · rw [look_put]
    split
    · show RepS T F w x _
      rw [← hv]; exact h1
    · exact hr.env u
/-- A nest's slice is forgotten: nil stands in its place. -/
theorem Turns.nlN (h i : Nat) {g k : Nat} {rows : List NRow} {r : NRow} (hk : look env h = .nest g k rows) (hi : rows[i]? = some r) : Turns ⟨env, bs⟩ (Eq ⟨(h, .nest g k (rows.set i NRow.nl)) :: env, bs⟩) := by
  rintro w0 m a w ⟨T, F, ρ, hr⟩
  refine ⟨_, rfl, T, F, ρ, hr.addFact h fun _ => ?_⟩
  have hil : i < rows.length := (List.getElem?_eq_some_iff.1 hi).1
  obtain ⟨q1, q2, q3⟩ := NestOk.cons.1 ((nest_of hr hk).perm (get_perm hi))
  exact NestOk.perm (set_perm hil _).symm (NestOk.cons.2 ⟨⟨fun x hx => (by cases hx), Nat.le_refl _, by decide, .inl ⟨rfl, rfl⟩⟩, q2, fun b hb => (by cases hb)⟩)
/-- Nil is written to an element of a nest's slice. -/
theorem Eff.storeRNil {t : TypeId} [hT : TySize P t 1] {x y : Operand} {g i j : Nat} {rows : List NRow} {r : NRow} {e0 : List Value} (h : Nat) (hx : (St.mk env bs).ev x = .s (.v (r.ptr j))) (hy : (St.mk env bs).ev y = .s .nil) (hk : look env h = .nest g 1 rows) (hi : rows[i]? = some r) (hj : r.els[j]? = some e0)
    (hn : noNest [g] (rmS [h] env) = true) : Eff P ⟨none, .store t x y, ty, pos, aft, gd⟩ ⟨env, bs⟩ (Eq ⟨(h, .nest g 1 (rows.set i (r.put j (.slice none 0 0)))) :: rmS [h] env, bs⟩) := by
  rintro w0 n a w ⟨T, F, ρ, hr⟩ hd next Q hK
  have h1 := ev_v hr hx
  have h2 : a.eval y = .slice none 0 0 := by have := hr.ev y; rw [hy] at this; exact this
  obtain ⟨u, hu0⟩ : ∃ u : Value, u = .slice none 0 0 := ⟨_, rfl⟩
  have hc : u.cells.toList = [u] := by rw [hu0]; rfl
  have ho : u.oneCell' = true := by rw [hu0]; rfl
  rw [← hu0] at h2 hK
  have hil : i < rows.length := (List.getElem?_eq_some_iff.1 hi).1
  have hjl : j < r.els.length := (List.getElem?_eq_some_iff.1 hj).1
  obtain ⟨q1, q2, q3⟩ := NestOk.cons.1 ((nest_of hr hk).perm (get_perm hi))
  obtain ⟨b, o, cur, ee, hA, hh, hcap, hat, hTb⟩ := nest_row q1 hj
  have hlen := q1.2.1
  have hoj : o + j < cur.size := by omega
  have hcell : w.cell? ⟨b, o + j, none⟩ = some cur[o + j] := by rw [cell_of_row w b (o + j) cur ee (0, 0) hh]; simp [hoj]
  have hfr : w.frozen? ⟨b, o + j, none⟩ = false := by unfold World.frozen?; rw [hh]; simp
  have hst := run_storeCells_cells (P := P) b (o + j) [u] 0 w (fun i hi => by simp at hi; subst hi; simp [hcell]) (fun i hi => by simp at hi; subst hi; simpa using hfr) (fun v hv => by rw [List.mem_singleton.1 hv]; exact ho)
  have hsz : u.cells.size = 1 := by rw [← Array.length_toList, hc]; rfl
  have hb : b < w.heap.size := (Array.getElem?_eq_some_iff.1 hh).1
  have hrun : (execOp a.eval ⟨none, .store t x y, ty, pos, aft, gd⟩).run P w = .ok .skip (w.putObj b (.cells (cur.setIfInBounds (o + j) u) ee (0, 0))) := by
    have hs := hT.size
    unfold NRow.ptr at h1
    rw [hA] at h1
    simp only [Option.getD_some] at h1
    cases hi : P.info? t with
    | none => rw [hi] at hs; cases hs
    | some inf =>
      have hsz2 : inf.size = 1 := by rw [hi] at hs; simpa using hs
      simp only [Nat.add_zero, World.setCells] at hst
      simp [execOp, h1, h2, Instr.storeAt, Instr.sureAddr, storeVar, Go.sizeOf, typeInfo, hi, hsz2, hsz, hc, hst, setCell_put hh]
  unfold Oper.wp
  rw [hrun]
  refine hK _ rfl _ _ ⟨T, F, ρ, ?_⟩
  have hother : ∀ c, c ≠ b → (w.putObj b (.cells (cur.setIfInBounds (o + j) u) ee (0, 0))).heap[c]? = w.heap[c]? := fun c hc => World.putObj_heap_other hc
  have hsame : (w.putObj b (.cells (cur.setIfInBounds (o + j) u) ee (0, 0))).heap[b]? = some (.cells (cur.setIfInBounds (o + j) u) ee (0, 0)) := World.putObj_heap_same hb
  have hnew : NestOk T (w.putObj b (.cells (cur.setIfInBounds (o + j) u) ee (0, 0))) g 1 (rows.set i (r.put j u)) := by
    refine NestOk.perm (set_perm hil _).symm (NestOk.cons.2 ⟨⟨fun x hx => ?_, by show (r.els.set j [u]).length ≤ r.cap; rw [List.length_set]; exact hlen, q1.2.2.1, .inr ⟨b, o, _, ee, hA, hTb, hsame, by rw [Array.size_setIfInBounds]; exact hcap, fun i' j' x' u' hx' hu' => ?_⟩⟩, q2.heap fun c hc => hother c fun e => q3 c (by rw [e]; exact NRow.blk_some hA) hc, fun c hc => q3 c hc⟩)
    · rcases List.mem_or_eq_of_mem_set hx with hx | hx
      · exact q1.1 x hx
      · rw [hx]; rfl
    · have hj'0 : j' = 0 := by
        have hl1 : x'.length = 1 := by
          have hm := List.mem_of_getElem? hx'
          rcases List.mem_or_eq_of_mem_set hm with hm | hm
          · exact q1.1 x' hm
          · rw [hm]; rfl
        have := (List.getElem?_eq_some_iff.1 hu').1
        omega
      subst hj'0
      rw [cell_of_row _ b _ _ ee (0, 0) hsame]
      have hx2 : (r.els.set j [u])[i']? = some x' := hx'
      rw [List.getElem?_set] at hx2
      by_cases hij : j = i'
      · subst hij
        rw [if_pos rfl, if_pos hjl] at hx2
        injection hx2 with hx2
        subst hx2
        injection hu' with hu'
        subst hu'
        simp [hoj]
      · rw [if_neg hij] at hx2
        have hold := hat i' 0 x' u' hx2 hu'
        rw [cell_of_row w b _ cur ee (0, 0) hh] at hold
        rw [Array.getElem?_setIfInBounds_ne (by omega)]
        exact hold
  have he : ∀ t, RepP T F ρ (w.putObj b (.cells (cur.setIfInBounds (o + j) u) ee (0, 0))) (look ((h, .nest g 1 (rows.set i (r.put j u))) :: rmS [h] env) t) (vl (a.put none undef) w0.fr t) ∨ (look ((h, .nest g 1 (rows.set i (r.put j u))) :: rmS [h] env) t = look env t ∧ vl (a.put none undef) w0.fr t = vl a w0.fr t ∧ keptNe [] (look env t) ∧ nestNe [g] (look env t) = true) := fun t => by
    rw [look_put]
    split
    · exact .inl hnew
    · rcases look_rmS [h] env t with h' | h'
      · rw [h']; exact .inl trivial
      · rw [h']
        refine .inr ⟨rfl, rfl, by cases look env t <;> first | trivial | exact List.not_mem_nil, ?_⟩
        rw [← h']
        exact noNest_look hn t
  exact hr.turnK (ws := []) (gs := [g]) (us := [b]) (a' := a.put none undef) (w' := w.putObj b (.cells (cur.setIfInBounds (o + j) u) ee (0, 0))) (T' := T) (F' := F) (fun c hc => .inr ⟨g, List.mem_singleton_self _, by rw [List.mem_singleton.1 hc]; exact hTb⟩) (by simp) rfl rfl rfl (fun c _ hc => hother c fun e => hc (by rw [e]; exact List.mem_singleton_self _)) (fun _ _ _ => ⟨rfl, rfl⟩) (defers_put ..) (size_put ..) he
end
section
variable {dr : Bool} {P : Program} {ops : Array Oper} {rest : List Oper} {env : List (Nat × PV)} {bs : List (Nat × List Value)} {K : St → Prop} {d : Nat} {op : Op} {ty : TypeId} {pos : String} {aft : Array Edge} {gd : Option (Nat × Bool)}
theorem RunK.storeRNil {t : TypeId} [hT : TySize P t 1] {x y : Operand} {g i j : Nat} {rows : List NRow} {r : NRow} {e0 : List Value} (h : Nat) (hw : wantedS ops ⟨env, bs⟩ ⟨none, .store t x y, ty, pos, aft, gd⟩ = some true) (hx : (St.mk env bs).ev x = .s (.v (r.ptr j))) (hy : (St.mk env bs).ev y = .s .nil) (hk : look env h = .nest g 1 rows) (hi : rows[i]? = some r) (hj : r.els[j]? = some e0)
    (hn : noNest [g] (rmS [h] env) = true) (hh : (Nat.ble 1000000 h && Nat.blt h 3000000) = true)
    (k : RunK dr P ops rest ⟨(h, .nest g 1 (rows.set i (r.put j (.slice none 0 0)))) :: rmS [h] env, bs⟩ K) : RunK dr P ops (⟨none, .store t x y, ty, pos, aft, gd⟩ :: rest) ⟨env, bs⟩ K :=
  Run.eff hw (Eff.storeRNil h hx hy hk hi hj hn) (fun _ => ⟨rfl, fun _ e => e ▸ ⟨fun hwf => wf_nest hwf, tame_nest hh⟩⟩) (fun _ e => e ▸ k)
end

/-! ### structs that hold slices, and tables of them -/
/-- The fields of a struct, a cell each. τ: the tag that nil is said to have. -/
inductive PartsF (τ : Nat) (ev : Operand → PV) : List (Nat × Operand) → List EV → List (Option Nat) → Prop
  | nil : PartsF τ ev [] [] []
  | v {i : Nat} {x : Operand} {u : Value} {ps : List (Nat × Operand)} {es : List EV} {ts : List (Option Nat)} (h : ev x = .s (.v u)) (hc : u.cells.toList = [u]) (r : PartsF τ ev ps es ts) : PartsF τ ev ((i, x) :: ps) (.v u :: es) ts
  | sl {i : Nat} {x : Operand} {tag : Option Nat} {app : App} {k : Nat} {els : List (List Value)} {ps : List (Nat × Operand)} {es : List EV} {ts : List (Option Nat)} (h : ev x = .s (.sl tag app k els)) (r : PartsF τ ev ps es ts) : PartsF τ ev ((i, x) :: ps) (.sl k els :: es) (tag :: ts)
  | nl {i : Nat} {x : Operand} (k : Nat) {ps : List (Nat × Operand)} {es : List EV} {ts : List (Option Nat)} (h : ev x = .s .nil) (r : PartsF τ ev ps es ts) : PartsF τ ev ((i, x) :: ps) (.sl k [] :: es) (some τ :: ts)
theorem PartsF.un {τ : Nat} {ev : Operand → PV} (σs : List Nat) : ∀ {ps : List (Nat × Operand)} {es : List EV} {ts : List (Option Nat)}, PartsF τ ev ps es ts → PartsF τ (unE σs ev) ps es ts
  | _, _, _, .nil => .nil
  | _, _, _, .v h hc r => .v (unE_v σs h) hc (r.un σs)
  | _, _, _, .sl h r => .sl (unE_s σs h) (r.un σs)
  | _, _, _, .nl k h r => .nl k (unE_n σs h) (r.un σs)
theorem PartsF.len {τ : Nat} {ev : Operand → PV} : ∀ {ps : List (Nat × Operand)} {es : List EV} {ts : List (Option Nat)}, PartsF τ ev ps es ts → es.length = ps.length
  | _, _, _, .nil => rfl
  | _, _, _, .v _ _ r => by simp [r.len]
  | _, _, _, .sl _ r => by simp [r.len]
  | _, _, _, .nl _ _ r => by simp [r.len]
theorem PartsF.rep {τ : Nat} {ev : Operand → PV} {T : Nat → BTag} {F : Nat → Nat} {ρ : Nat → Nat × Nat} {w : World} {a : Act} : ∀ {ps : List (Nat × Operand)} {es : List EV} {ts : List (Option Nat)}, PartsF τ ev ps es ts → (∀ p ∈ ps, RepP T F ρ w (ev p.2) (a.eval p.2)) →
    (∀ p ∈ ps, (a.eval p.2).cells.toList = [a.eval p.2]) ∧ ∀ (i : Nat) (e : EV) (p : Nat × Operand), es[i]? = some e → ps[i]? = some p → EVRep T F w ts e (a.eval p.2)
  | _, _, _, .nil, _ => ⟨fun p hp => (by cases hp), fun i e p he => (by simp at he)⟩
  | _, _, _, .v (x := x) (u := u) h hc r, hr => by
    obtain ⟨q1, q2⟩ := r.rep fun p hp => hr p (List.mem_cons_of_mem _ hp)
    have h0 := hr _ (List.mem_cons_self ..)
    simp only [h] at h0
    have hu : a.eval x = u := h0
    refine ⟨fun p hp => ?_, fun i e p he hp => ?_⟩
    · rcases List.mem_cons.1 hp with rfl | hp
      · show (a.eval x).cells.toList = [a.eval x]
        rw [hu]; exact hc
      · exact q1 p hp
    · cases i with
      | zero =>
        simp only [List.getElem?_cons_zero, Option.some.injEq] at he hp
        subst he hp
        exact hu
      | succ i => exact q2 i e p (by simpa using he) (by simpa using hp)
  | _, _, _, .sl (x := x) (tag := tag) h r, hr => by
    obtain ⟨q1, q2⟩ := r.rep fun p hp => hr p (List.mem_cons_of_mem _ hp)
    have h0 := hr _ (List.mem_cons_self ..)
    simp only [h] at h0
    obtain ⟨A, n, c, hu, hs⟩ := h0
    refine ⟨fun p hp => ?_, fun i e p he hp => ?_⟩
    · rcases List.mem_cons.1 hp with rfl | hp
      · show (a.eval x).cells.toList = [a.eval x]
        rw [hu]; rfl
      · exact q1 p hp
    · cases i with
      | zero =>
        simp only [List.getElem?_cons_zero, Option.some.injEq] at he hp
        subst he hp
        exact ⟨tag, List.mem_cons_self .., A, n, c, hu, hs.toNo⟩
      | succ i => exact (q2 i e p (by simpa using he) (by simpa using hp)).sub fun t ht => List.mem_cons_of_mem _ ht
  | _, _, _, .nl (x := x) k h r, hr => by
    obtain ⟨q1, q2⟩ := r.rep fun p hp => hr p (List.mem_cons_of_mem _ hp)
    have h0 := hr _ (List.mem_cons_self ..)
    simp only [h] at h0
    have hu : a.eval x = .slice none 0 0 := h0
    refine ⟨fun p hp => ?_, fun i e p he hp => ?_⟩
    · rcases List.mem_cons.1 hp with rfl | hp
      · show (a.eval x).cells.toList = [a.eval x]
        rw [hu]; rfl
      · exact q1 p hp
    · cases i with
      | zero =>
        simp only [List.getElem?_cons_zero, Option.some.injEq] at he hp
        subst he hp
        exact ⟨some τ, List.mem_cons_self .., none, 0, 0, hu, SlOk.toNil _ _ _⟩
      | succ i => exact (q2 i e p (by simpa using he) (by simpa using hp)).sub fun t ht => List.mem_cons_of_mem _ ht
theorem fillL_congr {f g : Nat → Option (Nat × Nat)} : ∀ {vs : List (Nat × Value)} {cells : List Value}, (∀ p ∈ vs, f p.1 = g p.1) → fillL f cells vs = fillL g cells vs
  | [], _, _ => rfl
  | (i, v) :: vs, cells, h => by
    simp only [fillL]
    rw [h (i, v) (List.mem_cons_self ..)]
    cases g i with
    | none => rfl
    | some p =>
      simp only
      split
      · rfl
      · exact fillL_congr fun p hp => h p (List.mem_cons_of_mem _ hp)
theorem idxB_lt : ∀ {ps : List (Nat × Operand)} {i : Nat}, idxB i ps = true → ∀ j ∈ ps.map (·.1), i ≤ j ∧ j < i + ps.length
  | [], _, _, _, h => by cases h
  | (j, x) :: ps, i, hi, q, hq => by
    have hi' : (Nat.beq j i && idxB (i + 1) ps) = true := hi
    rw [Bool.and_eq_true, Nat.beq_eq] at hi'
    obtain ⟨rfl, h2⟩ := hi'
    rcases List.mem_cons.1 hq with rfl | hq
    · simp
    · have := idxB_lt h2 q hq
      rw [List.length_cons]; omega
section
variable {P : Program} {ev : Operand → PV} {bx : Nat → Option (List Value)} {d : Option Nat} {ty : TypeId} {pos : String} {aft : Array Edge} {g : Option (Nat × Bool)}
theorem Val.buildAg {t : TypeId} {zero : List Value} {places : List (Nat × Nat)} [hT : TyStruct P t zero places] (τ : Nat) {ps : List (Nat × Operand)} {es : List EV} {ts : List (Option Nat)} (hp : PartsF τ ev ps es ts) (hpl : places = (List.range ps.length).map fun i => (i, 1)) (hz : zero.length = ps.length) (hi : idxB 0 ps = true) :
    Val P ⟨d, .build t ps.toArray, ty, pos, aft, g⟩ ev bx (.s (.ag ts es)) none := by
  intro B T F ρ a w hB hop next Q hK
  obtain ⟨q1, q2⟩ := hp.rep (T := T) (F := F) (ρ := ρ) (w := w) (a := a) (fun p hp' => (hop p.2 (.inl (by simp [Op.operands]; exact ⟨p.1, hp'⟩))).1)
  have hl : ps.length = (ps.map fun p => a.eval p.2).length := by simp
  have hr := rows_zip (us := ps.map fun p => a.eval p.2) hl hi (fun u hu => by obtain ⟨p, hp', rfl⟩ := List.mem_map.1 hu; exact q1 p hp')
  have hzl : ((ps.map (·.1)).zip (ps.map fun p => a.eval p.2)).length = ps.length := by rw [List.length_zip, List.length_map, List.length_map, Nat.min_self]
  have h1 := hr.fill (cs := []) (zs := zero) (by simp) (by rw [hzl, hz, Nat.mul_one])
  have hfl : ((ps.map fun p => a.eval p.2).map fun u => [u]).flatten = ps.map fun p => a.eval p.2 := by
    generalize ps.map (fun p => a.eval p.2) = us
    induction us with
    | nil => rfl
    | cons u us ih => simp [ih]
  rw [List.nil_append, List.nil_append, hfl] at h1
  rw [fillL_congr (g := (places[·]?)) fun p hp' => by
    have hm := (List.of_mem_zip hp').1
    have := (idxB_lt hi p.1 hm).2
    rw [hpl, List.getElem?_map, List.getElem?_range (by omega)]; simp] at h1
  have hpo : PartsOk (fun x => PV.s (.v (a.eval x))) ps ((ps.map (·.1)).zip (ps.map fun p => a.eval p.2)) := PartsOk.of hl fun j i x u hj hu => .inl (by
    rw [List.getElem?_map, hj] at hu
    injection hu with hu
    subst hu
    rfl)
  have hV := Val.build (P := P) (d := d) (ty := ty) (pos := pos) (aft := aft) (g := g) (bx := bx) (t := t) hpo h1
  refine hV B T F ρ a w hB (fun x _ => ⟨rfl, fun id h => by cases h⟩) next Q fun v w' T' F' ρ' hb hTF hρ hrep hnb => hK v w' T' F' ρ' hb hTF hρ ?_ hnb
  have hg := Goes.of_below (T := T) (T' := T') (F := F) (F' := F') hb hTF
  refine ⟨_, hrep, rfl, fun i e' h he hh => ?_⟩
  cases i with
  | succ i => simp at he
  | zero =>
    simp only [List.getElem?_cons_zero, Option.some.injEq] at he hh
    subst he hh
    refine ⟨by rw [hp.len]; simp, fun j y u hy hu => ?_⟩
    rw [List.getElem?_map] at hu
    cases hpj : ps[j]? with
    | none => rw [hpj] at hu; cases hu
    | some p =>
      rw [hpj] at hu
      injection hu with hu
      subst hu
      exact (q2 j _ p hy hpj).goes hg.1 hg.2
theorem made_len (cs : Array Value) (m : Nat) : (madeCells cs m).toList.length = m := by simp [madeCells]
/-- make([]T, n), elements of some cells. -/
theorem Val.makeSlC {t e k by0 : Nat} {z : Value} [hT : TySl P t e k by0] [hz : TyZero P e z] (τ : Nat) {x y : Operand} {kd kd2 : IntKind} {n : Nat} (hx : ev x = .s (.v (.int kd (n : Int)))) (hy : ev y = .s (.v (.int kd2 (n : Int)))) (hb : n * by0 ≤ 140737488355328) :
    Val P ⟨d, .makeSlice t x y, ty, pos, aft, g⟩ ev bx (.s (.sl (some τ) (.front e) k (chop k n (madeCells z.cells (n * k)).toList))) none := by
  intro B T F ρ a w hB hop next Q hK
  have h1 := rep_v (hop x (.inl (by simp [Op.operands]))).1 hx
  have h2 := rep_v (hop y (.inl (by simp [Op.operands]))).1 hy
  obtain ⟨inf, z', hi, hz', hsz, hby, hzs⟩ := hT.info
  have hzz : z' = z := by
    obtain ⟨q1, q2, q3⟩ := hz
    rw [hi] at q2; injection q2 with q2; subst q2
    rw [hz'] at q3; injection q3
  subst hzz
  have hby0 := hT.by_
  have hnb : n ≤ 140737488355328 := Nat.le_trans (Nat.le_mul_of_pos_right _ hby0) hb
  have hbi : (inf.bytes : Int) * (n : Int) ≤ 281474976710656 := by
    rw [hby]
    have : ((by0 * n : Nat) : Int) ≤ 281474976710656 := by rw [Nat.mul_comm]; omega
    rwa [Int.natCast_mul] at this
  have hmk := run_make (P := P) w t e inf z' hT.und hi hz' kd kd2 n n (by omega) (Int.le_refl _) hbi (by omega)
  simp only [Int.toNat_natCast] at hmk
  rw [hsz] at hmk
  have hrun : (execOp a.eval ⟨d, .makeSlice t x y, ty, pos, aft, g⟩).run P w = .ok (.value (.slice (some ⟨w.heap.size, 0, none⟩) n n)) (w.alloc (.cells (madeCells z'.cells (n * k)) e)) := by
    simp [execOp, h1, h2, hmk]
  unfold Oper.wp
  rw [hrun]
  refine hK _ (w.alloc (.cells (madeCells z'.cells (n * k)) e)) (fun b => if b = w.heap.size then .row τ else T b) (fun b => if b = w.heap.size then n * k else F b) ρ ((Below.refl _ _).alloc (Nat.le_refl _) _) (fun b hb => ⟨if_neg (by omega), if_neg (by omega)⟩) (fun _ _ => rfl) ?_ (fun p hp => by cases hp)
  have hlen := made_len z'.cells (n * k)
  refine ⟨_, _, _, rfl, slOk_new (heap_alloc_new w _) (if_pos rfl) (if_pos rfl) (chop_len k n _).symm (Nat.le_refl _) (by unfold maxLen; omega) (chop_mem hlen) (by rw [← Array.length_toList]; exact hlen) ?_⟩
  refine RowAt.chop fun j v hj => ?_
  rw [Nat.zero_add, World.cell?_alloc_new]
  simpa using hj
/-- x[l:m] -/
theorem Val.sliceMid {t e0 k0 by0 : Nat} [hT : TySl P t e0 k0 by0] {x y y2 : Operand} {tag : Option Nat} {app : App} {els : List (List Value)} {kd kd2 : IntKind} {i i2 : Int} (l m : Nat) (hx : ev x = .s (.sl tag app k0 els)) (hy : ev y = .s (.v (.int kd i))) (hil : i = (l : Int)) (hy2 : ev y2 = .s (.v (.int kd2 i2))) (hil2 : i2 = (m : Int)) (hl : l ≤ m) (hm : m ≤ els.length) :
    Val P ⟨d, .slice t x (some y) (some y2) none, ty, pos, aft, g⟩ ev bx (.s (.sl tag .no k0 ((els.take m).drop l))) none :=
  .same fun B T F ρ a w h => by
    obtain ⟨A, n, c, h3, hs⟩ := (h x (by simp [Op.operands])).1.sl_of hx
    have hn : n = els.length := hs.1
    have hnc := hs.2.1
    obtain ⟨inf, z, hi, _, hsz, _⟩ := hT.info
    have hb2 := (OptN.given (ev := ev) (dflt := 0) hy2 hil2).bound (P := P) (w := w) (a := a) (fun x hx => (h x (by simp [Op.operands] at hx ⊢; simp [hx])).1) c (by omega) .sliceAcap
    have hb := (OptN.given (ev := ev) (dflt := 0) hy hil).bound (P := P) (w := w) (a := a) (fun x hx => (h x (by simp [Op.operands] at hx ⊢; simp [hx])).1) m (by omega) .sliceB
    refine ⟨_, ?_, _, _, _, rfl, (hs.to_ (h := m) (c' := c) (by omega) (by omega) (Nat.le_refl _)).from_ (by omega)⟩
    simp only [Option.map_some] at hb hb2
    simp only [execOp, Instr.sliceAt, Sem.run_bind, run_underlying hT.und, Result.andThen_ok, Instr.slice, h3, Instr.sliceBounds, Option.map_some, Option.map_none, Sem.run_pure, Option.isSome_none, Bool.false_eq_true, if_false, if_true, hb, hb2, Go.sizeOf, typeInfo, run_program, hi, hsz]
/-- The elements of a table. -/
inductive PartsG (ev : Operand → PV) : List (Nat × Operand) → List (List EV) → List (Option Nat) → Prop
  | nil : PartsG ev [] [] []
  | cons {i : Nat} {x : Operand} {ts tts : List (Option Nat)} {es : List EV} {ps : List (Nat × Operand)} {ess : List (List EV)} (h : ev x = .s (.ag ts es)) (r : PartsG ev ps ess tts) : PartsG ev ((i, x) :: ps) (es :: ess) (ts ++ tts)
theorem PartsG.un {ev : Operand → PV} (σs : List Nat) : ∀ {ps : List (Nat × Operand)} {ess : List (List EV)} {ts : List (Option Nat)}, PartsG ev ps ess ts → PartsG (unE σs ev) ps ess ts
  | _, _, _, .nil => .nil
  | _, _, _, .cons h r => .cons (unE_ag σs h) (r.un σs)
theorem PartsG.len {ev : Operand → PV} : ∀ {ps : List (Nat × Operand)} {ess : List (List EV)} {ts : List (Option Nat)}, PartsG ev ps ess ts → ess.length = ps.length
  | _, _, _, .nil => rfl
  | _, _, _, .cons _ r => by simp [r.len]
theorem PartsG.rep {ev : Operand → PV} {T : Nat → BTag} {F : Nat → Nat} {ρ : Nat → Nat × Nat} {w : World} {a : Act} {k : Nat} : ∀ {ps : List (Nat × Operand)} {ess : List (List EV)} {ts : List (Option Nat)} {i : Nat}, PartsG ev ps ess ts → (∀ p ∈ ps, RepP T F ρ w (ev p.2) (a.eval p.2)) → ess.all (fun e => Nat.beq e.length k) = true → idxB i ps = true →
    ∃ hs : List (List Value), Rows k i ((ps.map (·.1)).zip (ps.map fun p => a.eval p.2)) hs ∧ EVsOk T F w ts ess hs
  | _, _, _, i, .nil, _, _, _ => ⟨[], .nil _, rfl, fun i e h he => by simp at he⟩
  | _, _, _, i, .cons (i := j) (x := x) (ts := ts) (es := es) (ps := ps) (ess := ess) h r, hr, hk, hi => by
    have hi' : (Nat.beq j i && idxB (i + 1) ps) = true := hi
    rw [Bool.and_eq_true, Nat.beq_eq] at hi'
    obtain ⟨rfl, h2⟩ := hi'
    have hk' : (Nat.beq es.length k && ess.all fun e => Nat.beq e.length k) = true := hk
    rw [Bool.and_eq_true, Nat.beq_eq] at hk'
    obtain ⟨hs, q1, q2⟩ := r.rep (k := k) (fun p hp => hr p (List.mem_cons_of_mem _ hp)) hk'.2 h2
    have h0 := hr _ (List.mem_cons_self ..)
    simp only [h] at h0
    obtain ⟨h1, hu, hev⟩ := h0
    have hlen := (hev.2 0 es h1 rfl rfl).1
    refine ⟨h1 :: hs, ?_, ?_, fun m e h' he hh => ?_⟩
    · rw [List.map_cons, List.map_cons, List.zip_cons_cons]
      refine .cons ?_ (by omega) q1
      show Cells (a.eval x) h1
      rw [hu]; exact Cells.agg _
    · simp [q2.1]
    · cases m with
      | zero =>
        simp only [List.getElem?_cons_zero, Option.some.injEq] at he hh
        subst he hh
        obtain ⟨z1, z2⟩ := hev.2 0 es h1 rfl rfl
        exact ⟨z1, fun m2 y u hy hu2 => (z2 m2 y u hy hu2).sub fun t ht => List.mem_append_left _ ht⟩
      | succ m =>
        obtain ⟨z1, z2⟩ := q2.2 m e h' (by simpa using he) (by simpa using hh)
        exact ⟨z1, fun m2 y u hy hu2 => (z2 m2 y u hy hu2).sub fun t ht => List.mem_append_right _ ht⟩
theorem Val.buildNag {t e k by0 : Nat} {z : Value} [hT : TySl P t e k by0] [hz : TyZero P e z] (τ : Nat) {n : Nat} {ps : List (Nat × Operand)} {ess : List (List EV)} {ts : List (Option Nat)} (hp : PartsG ev ps ess ts) (hk : ess.all (fun e => Nat.beq e.length k) = true) (hn : Nat.beq ps.length n = true) (hi : idxB 0 ps = true) (hm : Nat.ble (n * k) 16777216 = true) :
    Val P ⟨d, .buildSlice t n ps.toArray, ty, pos, aft, g⟩ ev bx (.s (.nsl (some τ) ts false k ess)) none := by
  intro B T F ρ a w hB hop next Q hK
  have hn' : ps.length = n := Nat.eq_of_beq_eq_true hn
  obtain ⟨hs, hr, hev⟩ := hp.rep (T := T) (F := F) (ρ := ρ) (w := w) (a := a) (k := k) (fun p hp' => (hop p.2 (.inl (by simp [Op.operands]; exact ⟨p.1, hp'⟩))).1) hk hi
  have hl : ps.length = (ps.map fun p => a.eval p.2).length := by simp
  have hzl : ((ps.map (·.1)).zip (ps.map fun p => a.eval p.2)).length = n := by rw [List.length_zip, List.length_map, List.length_map, Nat.min_self, hn']
  subst hzl
  have h1 := hr.fill (cs := []) (zs := ((Array.range (((ps.map (·.1)).zip (ps.map fun p => a.eval p.2)).length * k)).map (z.cells[· % z.cells.size]!)).toList) (by simp) (by simp)
  have hpo : PartsOk (fun x => PV.s (.v (a.eval x))) ps ((ps.map (·.1)).zip (ps.map fun p => a.eval p.2)) := PartsOk.of hl fun j i x u hj hu => .inl (by
    rw [List.getElem?_map, hj] at hu
    injection hu with hu
    subst hu
    rfl)
  have hV := Val.buildSlice (P := P) (d := d) (ty := ty) (pos := pos) (aft := aft) (g := g) (bx := bx) (t := t) τ hpo hm (by simpa using h1) hr.chop.2
  rw [hr.chop.1] at hV
  refine hV B T F ρ a w hB (fun x _ => ⟨rfl, fun id h => by cases h⟩) next Q fun v w' T' F' ρ' hb hTF hρ hrep hnb => hK v w' T' F' ρ' hb hTF hρ ?_ hnb
  obtain ⟨A, n', c, hu, hsl⟩ := hrep
  have hg := Goes.of_below (T := T) (T' := T') (F := F) (F' := F') hb hTF
  exact ⟨hs, A, n', c, hu, hsl.toNo, hev.goes hg.1 hg.2, fun h => by cases h⟩
end
section
variable {dr : Bool} {P : Program} {ops : Array Oper} {rest : List Oper} {env : List (Nat × PV)} {bs : List (Nat × List Value)} {K : St → Prop} {d : Nat} {op : Op} {ty : TypeId} {pos : String} {aft : Array Edge} {g : Option (Nat × Bool)}
theorem RunK.buildAg {t : TypeId} {zero : List Value} {places : List (Nat × Nat)} [hT : TyStruct P t zero places] {ps : List (Nat × Operand)} {es : List EV} {ts : List (Option Nat)} (hw : wantedS ops ⟨env, bs⟩ ⟨some d, .build t ps.toArray, ty, pos, aft, g⟩ = some true) (hp : PartsF d (St.mk env bs).ev ps es ts) (hpl : places = (List.range ps.length).map fun i => (i, 1)) (hz : zero.length = ps.length) (hi : idxB 0 ps = true)
    (k : RunK dr P ops rest ⟨(d, .s (.ag ts es)) :: env, bs⟩ K) : RunK dr P ops (⟨some d, .build t ps.toArray, ty, pos, aft, g⟩ :: rest) ⟨env, bs⟩ K :=
  .val rfl rfl hw (.ofFix (fun _ => rfl) fun σs => Val.buildAg d (hp.un σs) hpl hz hi) k
theorem RunK.buildNag {t e k0 by0 : Nat} {z : Value} [hT : TySl P t e k0 by0] [hz : TyZero P e z] {n : Nat} {ps : List (Nat × Operand)} {ess : List (List EV)} {ts : List (Option Nat)} (hw : wantedS ops ⟨env, bs⟩ ⟨some d, .buildSlice t n ps.toArray, ty, pos, aft, g⟩ = some true) (he : isEff ops ⟨some d, .buildSlice t n ps.toArray, ty, pos, aft, g⟩ = false) (hp : PartsG (St.mk env bs).ev ps ess ts) (hk : ess.all (fun e => Nat.beq e.length k0) = true) (hn : Nat.beq ps.length n = true) (hi : idxB 0 ps = true) (hm : Nat.ble (n * k0) 16777216 = true)
    (k : RunK dr P ops rest ⟨(d, .s (.nsl (some d) ts false k0 ess)) :: env, bs⟩ K) : RunK dr P ops (⟨some d, .buildSlice t n ps.toArray, ty, pos, aft, g⟩ :: rest) ⟨env, bs⟩ K :=
  .val he rfl hw (.ofFix (fun _ => rfl) fun σs => Val.buildNag d (hp.un σs) hk hn hi hm) k
theorem RunK.makeSlC {t e k0 by0 : Nat} {z : Value} [hT : TySl P t e k0 by0] [hz : TyZero P e z] {x y : Operand} {kd kd2 : IntKind} {i j : Int} {n : Nat} (hw : wantedS ops ⟨env, bs⟩ ⟨some d, .makeSlice t x y, ty, pos, aft, g⟩ = some true) (hx : (St.mk env bs).ev x = .s (.v (.int kd i))) (hy : (St.mk env bs).ev y = .s (.v (.int kd2 j))) (hi : i = (n : Int)) (hj : j = (n : Int)) (hb : n * by0 ≤ 140737488355328) {els : List (List Value)} (hc : chop k0 n (madeCells z.cells (n * k0)).toList = els)
    (k : RunK dr P ops rest ⟨(d, .s (.sl (some d) (.front e) k0 els)) :: env, bs⟩ K) : RunK dr P ops (⟨some d, .makeSlice t x y, ty, pos, aft, g⟩ :: rest) ⟨env, bs⟩ K := by
  subst hi hj hc
  exact .val rfl rfl hw (.ofNew (fun σs => Val.makeSlC d (unE_v σs hx) (unE_v σs hy) hb) fun _ hσ => un_front hσ) k
theorem RunK.sliceMid {t e0 k0 by0 : Nat} [hT : TySl P t e0 k0 by0] {x y y2 : Operand} {tag : Option Nat} {app : App} {els : List (List Value)} {kd kd2 : IntKind} {i i2 : Int} {l m : Nat} (hw : wantedS ops ⟨env, bs⟩ ⟨some d, .slice t x (some y) (some y2) none, ty, pos, aft, g⟩ = some true) (hx : (St.mk env bs).ev x = .s (.sl tag app k0 els)) (hy : (St.mk env bs).ev y = .s (.v (.int kd i))) (hil : i = (l : Int)) (hy2 : (St.mk env bs).ev y2 = .s (.v (.int kd2 i2))) (hil2 : i2 = (m : Int)) (hl : l ≤ m) (hm : m ≤ els.length)
    (k : RunK dr P ops rest ⟨(d, .s (.sl tag .no k0 ((els.take m).drop l))) :: env, bs⟩ K) : RunK dr P ops (⟨some d, .slice t x (some y) (some y2) none, ty, pos, aft, g⟩ :: rest) ⟨env, bs⟩ K :=
  .val rfl rfl hw (Hu.ofFix (pv := .s (.sl tag .no k0 ((els.take m).drop l))) (fun σ => congrArg PV.s (SV.un_no σ tag k0 _)) fun σs => Val.sliceMid l m (unE_s σs hx) (unE_v σs hy) hil (unE_v σs hy2) hil2 hl hm) k
theorem RunK.moveAg {x : Operand} {rts : List (Option Nat)} {e : List EV} (hw : wantedS ops ⟨env, bs⟩ ⟨some d, .move x, ty, pos, aft, g⟩ = some true) (hx : (St.mk env bs).ev x = .s (.ag rts e)) (k : RunK dr P ops rest ⟨(d, .s (.ag rts e)) :: env, bs⟩ K) : RunK dr P ops (⟨some d, .move x, ty, pos, aft, g⟩ :: rest) ⟨env, bs⟩ K :=
  .val rfl rfl hw (.ofCopy hx (by simp [Op.operands]) (fun _ => Val.move)) k
end
end Go.Proofs.Ytonangdimkgdpaa.Pv
