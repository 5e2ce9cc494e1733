/- The machine of values: nil in a slice of slices. No condition. -/
import Derived.Test.YtfokjpmcifkoeaaPvL
namespace Go.Proofs.Ytfokjpmcifkoeaa.Pv
open Go Go.RowKit
section
variable {P : Program} {ops : Array Oper} {rest : List Oper} {env : List (Nat × PV)} {bs : List (Nat × List Value)} {K : St → Prop} {d : Nat} {op : Op} {ty : TypeId} {pos : String} {aft : Array Edge} {gd : Option (Nat × Bool)}
/-- A nest's slice is forgotten: nil stands in its place. -/
theorem Turns.nlN (h i : Nat) {g k : Nat} {rows : List NRow} {r : NRow} (hk : look env h = .nest g k rows) (hi : rows[i]? = some r) : Turns ⟨env, bs⟩ (Eq ⟨(h, .nest g k (rows.set i NRow.nl)) :: env, bs⟩) := by
  rintro w0 m a w ⟨T, F, ρ, hr⟩
  refine ⟨_, rfl, T, F, ρ, hr.addFact h fun _ => ?_⟩
  have hil : i < rows.length := (List.getElem?_eq_some_iff.1 hi).1
  obtain ⟨q1, q2, q3⟩ := NestOk.cons.1 ((nest_of hr hk).perm (get_perm hi))
  exact NestOk.perm (set_perm hil _).symm (NestOk.cons.2 ⟨⟨fun x hx => (by cases hx), Nat.le_refl _, by decide, .inl ⟨rfl, rfl⟩⟩, q2, fun b hb => (by cases hb)⟩)
/-- Nil is written to an element of a nest's slice. -/
theorem Eff.storeRNil {t : TypeId} [hT : TySize P t 1] {x y : Operand} {g i j : Nat} {rows : List NRow} {r : NRow} {e0 : List Value} (h : Nat) (hx : (St.mk env bs).ev x = .s (.v (r.ptr j))) (hy : (St.mk env bs).ev y = .s .nil) (hk : look env h = .nest g 1 rows) (hi : rows[i]? = some r) (hj : r.els[j]? = some e0)
    (hn : noNest [g] (rmS [h] env) = true) : Eff P ⟨none, .store t x y, ty, pos, aft, gd⟩ ⟨env, bs⟩ (Eq ⟨(h, .nest g 1 (rows.set i (r.put j (.slice none 0 0)))) :: rmS [h] env, bs⟩) := by
  rintro w0 n a w ⟨T, F, ρ, hr⟩ hd next Q hK
  have h1 := ev_v hr hx
  have h2 : a.eval y = .slice none 0 0 := by have := hr.ev y; rw [hy] at this; exact this
  obtain ⟨u, hu0⟩ : ∃ u : Value, u = .slice none 0 0 := ⟨_, rfl⟩
  have hc : u.cells.toList = [u] := by rw [hu0]; rfl
  have ho : u.oneCell' = true := by rw [hu0]; rfl
  rw [← hu0] at h2 hK
  have hil : i < rows.length := (List.getElem?_eq_some_iff.1 hi).1
  have hjl : j < r.els.length := (List.getElem?_eq_some_iff.1 hj).1
  obtain ⟨q1, q2, q3⟩ := NestOk.cons.1 ((nest_of hr hk).perm (get_perm hi))
  obtain ⟨b, o, cur, ee, hA, hh, hcap, hat, hTb⟩ := nest_row q1 hj
  have hlen := q1.2.1
  have hoj : o + j < cur.size := by omega
  have hcell : w.cell? ⟨b, o + j, none⟩ = some cur[o + j] := by rw [cell_of_row w b (o + j) cur ee (0, 0) hh]; simp [hoj]
  have hfr : w.frozen? ⟨b, o + j, none⟩ = false := by unfold World.frozen?; rw [hh]; simp
  have hst := run_storeCells_cells (P := P) b (o + j) [u] 0 w (fun i hi => by simp at hi; subst hi; simp [hcell]) (fun i hi => by simp at hi; subst hi; simpa using hfr) (fun v hv => by rw [List.mem_singleton.1 hv]; exact ho)
  have hsz : u.cells.size = 1 := by rw [← Array.length_toList, hc]; rfl
  have hb : b < w.heap.size := (Array.getElem?_eq_some_iff.1 hh).1
  have hrun : (execOp a.eval ⟨none, .store t x y, ty, pos, aft, gd⟩).run P w = .ok .skip (w.putObj b (.cells (cur.setIfInBounds (o + j) u) ee (0, 0))) := by
    have hs := hT.size
    unfold NRow.ptr at h1
    rw [hA] at h1
    simp only [Option.getD_some] at h1
    cases hi : P.info? t with
    | none => rw [hi] at hs; cases hs
    | some inf =>
      have hsz2 : inf.size = 1 := by rw [hi] at hs; simpa using hs
      simp only [Nat.add_zero, World.setCells] at hst
      simp [execOp, h1, h2, Instr.storeAt, Instr.sureAddr, storeVar, Go.sizeOf, typeInfo, hi, hsz2, hsz, hc, hst, setCell_put hh]
  unfold Oper.wp
  rw [hrun]
  refine hK _ rfl _ _ ⟨T, F, ρ, ?_⟩
  have hother : ∀ c, c ≠ b → (w.putObj b (.cells (cur.setIfInBounds (o + j) u) ee (0, 0))).heap[c]? = w.heap[c]? := fun c hc => World.putObj_heap_other hc
  have hsame : (w.putObj b (.cells (cur.setIfInBounds (o + j) u) ee (0, 0))).heap[b]? = some (.cells (cur.setIfInBounds (o + j) u) ee (0, 0)) := World.putObj_heap_same hb
  have hnew : NestOk T (w.putObj b (.cells (cur.setIfInBounds (o + j) u) ee (0, 0))) g 1 (rows.set i (r.put j u)) := by
    refine NestOk.perm (set_perm hil _).symm (NestOk.cons.2 ⟨⟨fun x hx => ?_, by show (r.els.set j [u]).length ≤ r.cap; rw [List.length_set]; exact hlen, q1.2.2.1, .inr ⟨b, o, _, ee, hA, hTb, hsame, by rw [Array.size_setIfInBounds]; exact hcap, fun i' j' x' u' hx' hu' => ?_⟩⟩, q2.heap fun c hc => hother c fun e => q3 c (by rw [e]; exact NRow.blk_some hA) hc, fun c hc => q3 c hc⟩)
    · rcases List.mem_or_eq_of_mem_set hx with hx | hx
      · exact q1.1 x hx
      · rw [hx]; rfl
    · have hj'0 : j' = 0 := by
        have hl1 : x'.length = 1 := by
          have hm := List.mem_of_getElem? hx'
          rcases List.mem_or_eq_of_mem_set hm with hm | hm
          · exact q1.1 x' hm
          · rw [hm]; rfl
        have := (List.getElem?_eq_some_iff.1 hu').1
        omega
      subst hj'0
      rw [cell_of_row _ b _ _ ee (0, 0) hsame]
      have hx2 : (r.els.set j [u])[i']? = some x' := hx'
      rw [List.getElem?_set] at hx2
      by_cases hij : j = i'
      · subst hij
        rw [if_pos rfl, if_pos hjl] at hx2
        injection hx2 with hx2
        subst hx2
        injection hu' with hu'
        subst hu'
        simp [hoj]
      · rw [if_neg hij] at hx2
        have hold := hat i' 0 x' u' hx2 hu'
        rw [cell_of_row w b _ cur ee (0, 0) hh] at hold
        rw [Array.getElem?_setIfInBounds_ne (by omega)]
        exact hold
  have he : ∀ t, RepP T F ρ (w.putObj b (.cells (cur.setIfInBounds (o + j) u) ee (0, 0))) (look ((h, .nest g 1 (rows.set i (r.put j u))) :: rmS [h] env) t) (vl (a.put none undef) w0.fr t) ∨ (look ((h, .nest g 1 (rows.set i (r.put j u))) :: rmS [h] env) t = look env t ∧ vl (a.put none undef) w0.fr t = vl a w0.fr t ∧ keptNe [] (look env t) ∧ nestNe [g] (look env t) = true) := fun t => by
    rw [look_put]
    split
    · exact .inl hnew
    · rcases look_rmS [h] env t with h' | h'
      · rw [h']; exact .inl trivial
      · rw [h']
        refine .inr ⟨rfl, rfl, by cases look env t <;> first | trivial | exact List.not_mem_nil, ?_⟩
        rw [← h']
        exact noNest_look hn t
  exact hr.turnK (ws := []) (gs := [g]) (us := [b]) (a' := a.put none undef) (w' := w.putObj b (.cells (cur.setIfInBounds (o + j) u) ee (0, 0))) (T' := T) (F' := F) (fun c hc => .inr ⟨g, List.mem_singleton_self _, by rw [List.mem_singleton.1 hc]; exact hTb⟩) (by simp) rfl rfl rfl (fun c _ hc => hother c fun e => hc (by rw [e]; exact List.mem_singleton_self _)) (fun _ _ _ => ⟨rfl, rfl⟩) (defers_put ..) (size_put ..) he
end
section
variable {dr : Bool} {P : Program} {ops : Array Oper} {rest : List Oper} {env : List (Nat × PV)} {bs : List (Nat × List Value)} {K : St → Prop} {d : Nat} {op : Op} {ty : TypeId} {pos : String} {aft : Array Edge} {gd : Option (Nat × Bool)}
theorem RunK.storeRNil {t : TypeId} [hT : TySize P t 1] {x y : Operand} {g i j : Nat} {rows : List NRow} {r : NRow} {e0 : List Value} (h : Nat) (hw : wantedS ops ⟨env, bs⟩ ⟨none, .store t x y, ty, pos, aft, gd⟩ = some true) (hx : (St.mk env bs).ev x = .s (.v (r.ptr j))) (hy : (St.mk env bs).ev y = .s .nil) (hk : look env h = .nest g 1 rows) (hi : rows[i]? = some r) (hj : r.els[j]? = some e0)
    (hn : noNest [g] (rmS [h] env) = true) (hh : (Nat.ble 1000000 h && Nat.blt h 3000000) = true)
    (k : RunK dr P ops rest ⟨(h, .nest g 1 (rows.set i (r.put j (.slice none 0 0)))) :: rmS [h] env, bs⟩ K) : RunK dr P ops (⟨none, .store t x y, ty, pos, aft, gd⟩ :: rest) ⟨env, bs⟩ K :=
  Run.eff hw (Eff.storeRNil h hx hy hk hi hj hn) (fun _ => ⟨rfl, fun _ e => e ▸ ⟨fun hwf => wf_nest hwf, tame_nest hh⟩⟩) (fun _ e => e ▸ k)
end
end Go.Proofs.Ytfokjpmcifkoeaa.Pv
