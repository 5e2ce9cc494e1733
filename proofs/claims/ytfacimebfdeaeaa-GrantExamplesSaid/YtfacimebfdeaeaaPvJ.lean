/- The machine of values: slices whose places are known. No condition. -/
import Derived.Test.YtfacimebfdeaeaaPvH
import Derived.Laws.MakeOwn
namespace Go.Proofs.Ytfacimebfdeaeaa.Pv
open Go Go.RowKit
/-! ### nests: slices whose places are known -/
def NRow.nl : NRow := ⟨none, 0, []⟩
/-- A pointer to its j-th element (elements of one cell). -/
def NRow.ptr (r : NRow) (j : Nat) : Value := .pointer (some ⟨(r.A.getD (0, 0)).1, (r.A.getD (0, 0)).2 + j, none⟩)
def NRow.put (r : NRow) (j : Nat) (u : Value) : NRow := ⟨r.A, r.cap, r.els.set j [u]⟩
theorem NRowOk.nl (T : Nat → BTag) (w : World) (g k : Nat) : NRowOk T w g k NRow.nl := ⟨fun _ h => absurd h List.not_mem_nil, Nat.le_refl _, by show 0 ≤ maxLen; exact Nat.zero_le _, .inl ⟨rfl, rfl⟩⟩
theorem NestOk.cons {T : Nat → BTag} {w : World} {g k : Nat} {rows : List NRow} {r : NRow} : NestOk T w g k (r :: rows) ↔ NRowOk T w g k r ∧ NestOk T w g k rows ∧ ∀ b, r.blk = some b → b ∉ rows.filterMap NRow.blk := by
  unfold NestOk
  rw [List.filterMap_cons]
  cases hb : r.blk with
  | none => simp only [List.forall_mem_cons]; exact ⟨fun ⟨h1, h2, h3⟩ => ⟨h2, ⟨h1, h3⟩, fun b h => nomatch h⟩, fun ⟨h2, ⟨h1, h3⟩, _⟩ => ⟨h1, h2, h3⟩⟩
  | some b =>
    simp only [List.forall_mem_cons, List.nodup_cons]
    exact ⟨fun ⟨⟨h0, h1⟩, h2, h3⟩ => ⟨h2, ⟨h1, h3⟩, fun b' h => by injection h with h; subst h; exact h0⟩, fun ⟨h2, ⟨h1, h3⟩, h0⟩ => ⟨⟨h0 b rfl, h1⟩, h2, h3⟩⟩
theorem NestOk.sub {T : Nat → BTag} {w : World} {g k : Nat} {rows rows' : List NRow} (hs : rows'.Sublist rows) (h : NestOk T w g k rows) : NestOk T w g k rows' := ⟨h.1.sublist (hs.filterMap _), fun r hr => h.2 r (hs.subset hr)⟩
section
variable {dr : Bool} {P : Program} {ops : Array Oper} {rest : List Oper} {env : List (Nat × PV)} {bs : List (Nat × List Value)} {K : St → Prop} {d : Nat} {op : Op} {ty : TypeId} {pos : String} {aft : Array Edge} {gd : Option (Nat × Bool)}
end

theorem NestOk.heap {T : Nat → BTag} {w w' : World} {g k : Nat} {rows : List NRow} (h : NestOk T w g k rows) (hw : ∀ b ∈ rows.filterMap NRow.blk, w'.heap[b]? = w.heap[b]?) : NestOk T w' g k rows := by
  refine ⟨h.1, fun r hr => ?_⟩
  obtain ⟨h1, h2, h3, h4⟩ := h.2 r hr
  refine ⟨h1, h2, h3, h4.imp id ?_⟩
  rintro ⟨b, o, cur, e, q1, q2, q3, q4, q5⟩
  have hb := hw b (List.mem_filterMap.2 ⟨r, hr, NRow.blk_some q1⟩)
  refine ⟨b, o, cur, e, q1, q2, hb.trans q3, q4, fun i j x u hx hu => ?_⟩
  have := q5 i j x u hx hu
  simp only [World.cell?] at this ⊢
  rw [hb]; exact this
section
variable {P : Program} {ops : Array Oper} {rest : List Oper} {env : List (Nat × PV)} {bs : List (Nat × List Value)} {K : St → Prop} {d : Nat} {op : Op} {ty : TypeId} {pos : String} {aft : Array Edge} {gd : Option (Nat × Bool)}
end

theorem Eff.turn {P : Program} {o : Oper} {s : St} {S S' : St → Prop} (h : Eff P o s S) (k : ∀ s1, S s1 → Turns s1 S') : Eff P o s S' := by
  intro w0 n a w hr hd next Q hK
  refine h w0 n a w hr hd next Q fun s1 hs a' w' hr' => ?_
  obtain ⟨s2, h2, hr2⟩ := k s1 hs w0 n a' w' hr'
  exact hK s2 h2 a' w' hr2
theorem Turns.post {s : St} {S S' : St → Prop} (h : Turns s S) (k : ∀ s1, S s1 → ∃ s2, S' s2 ∧ Less s1 s2) : Turns s S' := by
  intro w0 n a w hr
  obtain ⟨s1, h1, hr1⟩ := h w0 n a w hr
  obtain ⟨s2, h2, hl⟩ := k s1 h1
  exact ⟨s2, h2, hr1.less hl⟩
section
variable {dr : Bool} {P : Program} {ops : Array Oper} {rest : List Oper} {env : List (Nat × PV)} {bs : List (Nat × List Value)} {K : St → Prop} {d : Nat} {op : Op} {ty : TypeId} {pos : String} {aft : Array Edge} {gd : Option (Nat × Bool)}
end

/-! ### calm operations of a drawn region come first -/
section
variable {P : Program} {ops : Array Oper} {md : Region.Mode} {K : St → Prop}
theorem wp_frame {o : Oper} (hs : ∀ cs b, o.op ≠ .select cs b) {a : Act} {x : Option Tmp} {v : Value} (h1 : ∀ d, x = some d → d ∉ o.looksAt ops) (h2 : ∀ d, x = some d → o.dst ≠ some d) {w : World} {next : Act → World → Prop} {Q : Exit → Act → World → Prop}
    (h : o.wp P (a.put x v) w next (fun e _ w' => Q e a w')) : o.wp P a w (fun a1 w1 => next (a1.put x v) w1) Q := by
  unfold Oper.wp at *
  rw [execOp_put o hs a x v h1] at h
  generalize (execOp a.eval o).run P w = r at *
  cases r with
  | ok n w' =>
    cases n <;> simp only [Oper.upon] at h ⊢
    case value u => rw [← Act.put_comm a v u h2]; exact h
    case skip => rw [← Act.put_comm a v undef h2]; exact h
    case defer d =>
      rw [← Act.put_comm _ v undef h2, ← Act.put_defers]
      exact h
    case enter f args =>
      refine Calls.mono h fun e w'' he => ?_
      cases e with
      | returned u =>
        show next ((a.put o.dst u).put x v) w''
        rw [← Act.put_comm a v u h2]; exact he
      | panicked c => exact he
      | outgrown => obtain ⟨_, w', he⟩ := he; exact ⟨a, w', he⟩
    case row row args => exact Rows.mono h fun u w'' he => by rw [← Act.put_comm a v u h2]; exact he
  | halt x w' =>
    cases x <;> simp only [Oper.upon] at h ⊢
    case panic u => exact h
theorem RS.putV {w0 : Base} {n : Nat} {s : St} {a : Act} {w : World} (h : RS w0 n s a w) {d : Nat} (hd : d < n) (v : Value) : RS w0 n (s.put d (.s (.v v))) (a.put (some d) v) w := by
  obtain ⟨T, F, ρ, hr⟩ := h
  exact ⟨T, F, ρ, hr.goes (d := some d) (pv := .s (.v v)) (nb := none) (fun e h => by injection h with h; rw [← h]; exact hd) (Below.refl _ _) (fun _ _ => ⟨rfl, rfl⟩) (fun _ _ => rfl) (fun _ hp => by cases hp) rfl (fun _ hp => by cases hp) rfl⟩
def PV.plain : PV → PV
  | .s (.v x) => .s (.v x)
  | _ => .any
/-- The same, but for one slot. -/
def St.wipe (s : St) (d : Nat) (p : PV) : St := ⟨(d, p.plain) :: s.env, s.boxes⟩
theorem RS.wipe {w0 : Base} {n : Nat} {s : St} {a : Act} {w : World} {d : Nat} {v : Value} {p : PV} (hd : d < 1000000) (hp : ∀ x, p = .s (.v x) → a.tmps.getD d undef = x) (h : RS w0 n s (a.put (some d) v) w) : RS w0 n (s.wipe d p) a w := by
  obtain ⟨T, F, ρ, hr⟩ := h
  refine ⟨T, F, ρ, by have := hr.defers; rwa [defers_put] at this, by have := hr.size; rwa [size_put] at this, hr.small, hr.below, hr.ext, fun t => ?_, hr.boxes⟩
  show RepP T F ρ w (look ((d, p.plain) :: s.env) t) _
  rw [look_put]
  split
  · rename_i e
    subst e
    have e : vl a w0.fr d = a.tmps.getD d undef := by unfold vl; rw [blt_t hd]; rfl
    rw [e]
    cases p with
    | s x =>
      cases x with
      | v x => exact hp x rfl
      | _ => trivial
    | _ => trivial
  · rename_i hne
    have h1 := hr.env t
    have e : vl (a.put (some d) v) w0.fr t = vl a w0.fr t := by
      unfold vl
      cases Nat.blt t 1000000 with
      | false => rfl
      | true =>
        simp only [cond_true, Act.put]
        rw [Array.getD_eq_getD_getElem?, Array.getD_eq_getD_getElem?, Array.getElem?_setIfInBounds_ne hne]
    rw [e] at h1
    exact h1
theorem EffR.wipe {oj : Oper} {s : St} {S : St → Prop} {i : Nat} {oi : Oper} {d : Nat} {v : Value} (hi : ops[i]? = some oi) (hdi : oi.dst = some d) (hd : d < 1000000) (hs : ∀ cs b, oj.op ≠ .select cs b) (hap : oi.apart ops oj = true) (h : EffR P ops oj (s.put d (.s (.v v))) S) : EffR P ops oj s (fun s2 => ∃ s1, S s1 ∧ s2 = s1.wipe d (s.look d)) := by
  intro w0 n a w hr hdj hall next Q hK
  obtain ⟨a1, a2, _⟩ := Oper.apart_spec hap
  have hdn : d < n := hall i oi hi d hdi
  have h1 := h w0 n (a.put (some d) v) w (hr.putV hdn v) hdj hall (fun a' w' => ∀ a1 : Act, a' = a1.put (some d) v → a1.tmps.getD d undef = a.tmps.getD d undef → next a1 w') (fun e _ w' => Q e a w') (fun s1 hs1 a' w' hr' a1 e e2 => hK _ ⟨s1, hs1, rfl⟩ a1 w' (by
    subst e
    refine hr'.wipe hd fun x hx => ?_
    obtain ⟨T, F, ρ, hr0⟩ := hr
    have h0 := hr0.env d
    rw [hx] at h0
    have h0 : vl a w0.fr d = x := h0
    unfold vl at h0
    rw [blt_t hd] at h0
    exact e2.trans h0))
  have keep : ∀ u, (a.put oj.dst u).tmps.getD d undef = a.tmps.getD d undef := fun u => by
    cases hdd : oj.dst with
    | none => rfl
    | some e =>
      have hne : e ≠ d := fun he => a2 d hdi (by rw [hdd, he])
      simp only [Act.put]
      rw [Array.getD_eq_getD_getElem?, Array.getD_eq_getD_getElem?, Array.getElem?_setIfInBounds_ne hne]
  have h2 := wp_frame (ops := ops) hs (x := some d) (v := v) (fun d' e => a1 d' (by rw [hdi]; exact e)) (fun d' e => a2 d' (by rw [hdi]; exact e)) h1
  unfold Oper.wp at *
  generalize (execOp a.eval oj).run P w = r at *
  cases r with
  | ok n w' =>
    cases n <;> simp only [Oper.upon] at h2 ⊢
    case value u => exact h2 _ rfl (keep u)
    case skip => exact h2 _ rfl (keep undef)
    case defer d' =>
      refine h2 _ rfl ?_
      have := keep undef
      cases hdd : oj.dst with
      | none => rfl
      | some e => rw [hdd] at this; exact this
    case enter f args =>
      refine Calls.mono h2 fun e w'' he => ?_
      cases e with
      | returned u => exact he _ rfl (keep u)
      | panicked c => exact he
      | outgrown => exact he
    case row row args => exact Rows.mono h2 fun u w'' he => he _ rfl (keep u)
  | halt x w' =>
    cases x <;> simp only [Oper.upon] at h2 ⊢
    case panic u => exact h2
/-- sc tells calm things only, and s tells them, too. -/
def CalmLe (sc s : St) : Prop := sc.boxes = [] ∧ ∀ t : Nat, sc.look t = .any ∨ ((t < 1000000 ∨ 3000000 ≤ t) ∧ (sc.look t).calm t = true ∧ s.look t = sc.look t)
theorem CalmLe.ev {sc s : St} (h : CalmLe sc s) (x : Operand) : sc.ev x = .any ∨ sc.ev x = s.ev x := by
  cases x with
  | tmp t =>
    show (bif Nat.blt t 1000000 then sc.look t else (sc.look t).fact) = _ ∨ (bif Nat.blt t 1000000 then sc.look t else (sc.look t).fact) = (bif Nat.blt t 1000000 then s.look t else (s.look t).fact)
    rcases h.2 t with h1 | ⟨_, _, h1⟩
    · rw [h1]; left; cases Nat.blt t 1000000 <;> rfl
    · right; rw [h1]
  | _ => exact .inr rfl
theorem CalmLe.hu {sc s : St} (h : CalmLe sc s) {o : Oper} {v : Value} (hu : Hu P o sc.ev sc.box (.s (.v v)) none) : Hu P o s.ev s.box (.s (.v v)) none := fun σs => by
  rw [unL_v]
  refine ⟨fun B T F ρ a w hB hop next Q hK => ?_, fun σ _ _ => rfl⟩
  have h1 := (hu σs).1
  rw [unL_v] at h1
  refine h1 B T F ρ a w hB (fun x hx => ⟨?_, fun id _ cs hc => ?_⟩) next Q hK
  · have h2 := (hop x hx).1
    rcases h.ev x with e | e
    · unfold unE; rw [e, unL_any]; trivial
    · unfold unE at h2 ⊢; rw [e]; exact h2
  · exfalso
    have hc : boxOf sc.boxes id = some cs := hc
    rw [h.1] at hc
    cases hc
theorem CalmLe.wanted {sc s : St} (h : CalmLe sc s) {o : Oper} (hw : wantedS ops sc o = some true) : wantedS ops s o = some true := by
  unfold wantedS at *
  cases hg : o.guard with
  | none => rfl
  | some g =>
    rw [hg] at hw
    simp only at hw ⊢
    cases ht : (ops[g.1]?).bind (·.dst) with
    | none => rw [ht] at hw; cases hw
    | some t =>
      rw [ht] at hw
      simp only at hw ⊢
      rcases h.ev (.tmp t) with e | e
      · rw [e] at hw; cases hw
      · rw [← e]; exact hw
theorem CalmLe.put {sc s : St} (h : CalmLe sc s) {d : Nat} (hd : d < 1000000) (v : Value) : CalmLe (sc.put d (.s (.v v))) (s.put d (.s (.v v))) := ⟨h.1, fun t => by
  show look ((d, _) :: sc.env) t = .any ∨ (_ ∧ (look ((d, _) :: sc.env) t).calm t = true ∧ look ((d, _) :: s.env) t = look ((d, _) :: sc.env) t)
  rw [look_put, look_put]
  split
  · rename_i e; exact .inr ⟨.inl (by omega), rfl, rfl⟩
  · exact h.2 t⟩
/-- A calm operation that yields a plain value. -/
structure PStep (P : Program) (ops : Array Oper) (sc : St) (oi : Oper) (d : Nat) (v : Value) : Prop where
  dst : oi.dst = some d
  lt : d < 1000000
  eff : isEff ops oi = false
  wanted : wantedS ops sc oi = some true
  hu : Hu P oi sc.ev sc.box (.s (.v v)) none
theorem PStep.step {sc s : St} {i : Nat} {oi : Oper} {d : Nat} {v : Value} {Kn : St → Prop} (h : PStep P ops sc oi d v) (hc : CalmLe sc s) (hk : Kn (s.put d (.s (.v v)))) : StepA P ops i oi s Kn :=
  .inl ⟨.s (.v v), none, hc.wanted h.wanted, h.eff, hc.hu h.hu, (fun p hp => nomatch hp), rfl, by rw [h.dst]; exact hk⟩
theorem calm_un {t τ : Nat} {p : PV} (h : p.calm t = true) : p.un (some τ) = p := by
  cases p with
  | s x => cases x <;> first | rfl | cases h
  | kept b o => rfl
  | nest g k rows => rfl
  | _ => cases h
theorem CalmLe.next {sc s : St} (h : CalmLe sc s) {oj : Oper} {q : Part} (hd : ∀ d, oj.dst = some d → sc.look d = .any) : CalmLe sc (q.next oj s) := ⟨h.1, fun t => by
  rcases h.2 t with h1 | ⟨h1, h2, h3⟩
  · exact .inl h1
  · refine .inr ⟨h1, h2, ?_⟩
    rw [Part.look]
    by_cases hdt : oj.dst = some t
    · rw [hd t hdt] at h2; cases h2
    · rw [if_neg hdt, h3]
      cases q.τ with
      | none => rfl
      | some τ => exact calm_un h2⟩
theorem StepA.swapP {sc s : St} {i j : Nat} {oi oj : Oper} {d : Nat} {v : Value} {Kn : St → Prop} (h : PStep P ops sc oi d v) (hc : CalmLe sc s) (hj : ops[j]? = some oj) (hwf : Wf s) (hap : oi.apart ops oj = true) (hej : isEff ops oj = false) (hfree : ∀ d, oj.dst = some d → sc.look d = .any) (hKn : ∀ s1 s1', Eqv s1 s1' → Kn s1 → Kn s1')
    (hq : StepA P ops j oj (s.put d (.s (.v v))) Kn) : StepA P ops j oj s (fun s2 => Wf s2 ∧ CalmLe sc s2 ∧ Kn (s2.put d (.s (.v v)))) := by
  obtain ⟨a1, a2, a3⟩ := Oper.apart_spec hap
  have hr : Does P ops i oi s ⟨.s (.v v), none, none⟩ := .inl ⟨hc.wanted h.wanted, rfl, hc.hu h.hu, (fun p hp => nomatch hp), rfl⟩
  have hnx : ∀ s : St, Part.next oi s ⟨.s (.v v), none, none⟩ = s.put d (.s (.v v)) := fun s => by unfold Part.next; rw [h.dst]; rfl
  have hVi : ∀ d', oi.dst = some d' → d' < 1000000 := fun d' e => by rw [h.dst] at e; injection e with e; rw [← e]; exact h.lt
  rw [← hnx] at hq
  obtain ⟨q, hq1, hk⟩ := hq.does hej
  obtain ⟨q', e1, e2, e3, hq'⟩ := Does.earlier hVi (.inr rfl) hj hwf hap hr hq1
  refine hq'.step hej ⟨hq'.wf hwf, hc.next hfree, ?_⟩
  refine hKn _ _ ?_ hk
  rw [← hnx]
  refine Part.comm a2 (fun p p' _ hp' => nomatch hp') rfl e1 rfl e2 ?_ e3
  cases q.τ <;> rfl
theorem StepA.swapE {sc s : St} {i j : Nat} {oi oj : Oper} {d : Nat} {v : Value} {Kn : St → Prop} (h : PStep P ops sc oi d v) (hc : CalmLe sc s) (hi : ops[i]? = some oi) (hs : ∀ cs b, oj.op ≠ .select cs b) (hwf : Wf s) (hap : oi.apart ops oj = true) (hej : isEff ops oj = true) (hfree : ∀ d, oj.dst = some d → sc.look d = .any) (hKn : ∀ s1 s1', Eqv s1 s1' → Kn s1 → Kn s1')
    (hq : StepA P ops j oj (s.put d (.s (.v v))) Kn) : StepA P ops j oj s (fun s2 => Wf s2 ∧ CalmLe sc s2 ∧ Kn (s2.put d (.s (.v v)))) := by
  obtain ⟨a1, a2, a3⟩ := Oper.apart_spec hap
  rcases hq with ⟨pv, nb, h1, h2, _⟩ | ⟨h1, h2, _⟩ | ⟨h1, h2, _⟩ | ⟨h1, h2, S, h3, h4, h5⟩
  · rw [hej] at h2; cases h2
  · rw [hej] at h2; cases h2
  · rw [hej] at h2; cases h2
  have hnx : Part.next oi s ⟨.s (.v v), none, none⟩ = s.put d (.s (.v v)) := by unfold Part.next; rw [h.dst]; rfl
  have hw : wantedS ops s oj = some true := by
    have := wanted_part (s := s) (r := ⟨.s (.v v), none, none⟩) a1
    rw [hnx] at this
    rw [← this]; exact h1
  have hwf1 : Wf (s.put d (.s (.v v))) := fun t id ht => by
    have ht : (look ((d, PV.s (.v v)) :: s.env) t).isBox id = true := ht
    rw [look_put] at ht
    split at ht
    · cases ht
    · exact hwf t id ht
  have hpl : ∀ (p : PV) (id : Nat), p.plain.isBox id = false := fun p id => by
    cases p with
    | s x => cases x <;> rfl
    | _ => rfl
  have htame : ∀ s1, S s1 → Tame oj s (s1.wipe d (s.look d)) := fun s1 hs1 t ht hne hcm => by
    show look ((d, (s.look d).plain) :: s1.env) t = s.look t
    rw [look_put]
    split
    · rename_i e
      subst e
      have : d < 1000000 := h.lt
      generalize s.look d = p at hcm
      cases p with
      | s x => cases x <;> first | rfl | cases hcm
      | kept b o =>
        have hcm : Nat.ble 3000000 d = true := hcm
        rw [Nat.ble_eq] at hcm
        omega
      | nest g k rows =>
        have hcm : Nat.ble 3000000 d = true := hcm
        rw [Nat.ble_eq] at hcm
        omega
      | _ => cases hcm
    · rename_i hdt
      have e2 : (s.put d (.s (.v v))).look t = s.look t := by
        show look ((d, PV.s (.v v)) :: s.env) t = _
        rw [look_put, if_neg hdt]; rfl
      have := (h3 s1 hs1).2 t ht hne (by rw [e2]; exact hcm)
      exact this.trans e2
  refine .inr (.inr (.inr ⟨hw, hej, _, ?_, EffR.wipe hi h.dst h.lt hs hap h4, ?_⟩))
  · rintro s2 ⟨s1, hs1, rfl⟩
    refine ⟨fun _ t id ht => ?_, htame s1 hs1⟩
    have hw1 := (h3 s1 hs1).1 hwf1
    have ht : (look ((d, (s.look d).plain) :: s1.env) t).isBox id = true := ht
    rw [look_put] at ht
    split at ht
    · rw [hpl] at ht; cases ht
    · exact hw1 t id ht
  · rintro s2 ⟨s1, hs1, rfl⟩
    have hw1 := (h3 s1 hs1).1 hwf1
    refine ⟨fun t id ht => ?_, ⟨hc.1, fun t => ?_⟩, hKn s1 _ ⟨fun t => ?_, fun _ => rfl⟩ (h5 s1 hs1)⟩
    · have ht : (look ((d, (s.look d).plain) :: s1.env) t).isBox id = true := ht
      rw [look_put] at ht
      split at ht
      · rw [hpl] at ht; cases ht
      · exact hw1 t id ht
    · rcases hc.2 t with q1 | ⟨q1, q2, q3⟩
      · exact .inl q1
      · refine .inr ⟨q1, q2, ?_⟩
        rw [← q3]
        exact htame s1 hs1 t q1 (fun e => by rw [hfree t e] at q2; cases q2) (by rw [q3]; exact q2)
    · show s1.look t = look ((d, PV.s (.v v)) :: (d, (s.look d).plain) :: s1.env) t
      rw [look_put]
      split
      · rename_i e
        subst e
        have e2 : (s.put d (.s (.v v))).look d = .s (.v v) := by
          show look ((d, PV.s (.v v)) :: s.env) d = _
          rw [look_put, if_pos rfl]
        have := (h3 s1 hs1).2 d (.inl h.lt) (a2 d h.dst) (by rw [e2]; rfl)
        exact this.trans e2
      · rename_i hdt
        rw [look_put, if_neg hdt]; rfl
theorem AnyA.firstC {i : Nat} {oi : Oper} {sc : St} {d : Nat} {v : Value} (hi : ops[i]? = some oi) (hK : ∀ s s', Eqv s s' → K s → K s') (h : PStep P ops sc oi d v) :
    ∀ (D : Nat → Bool), (∀ j oj, ops[j]? = some oj → D j = true → ∃ e ∈ oj.after, Region.binds md e = true ∧ (e.on = i ∨ D e.on = true)) → ∀ (fuel : Nat) (listed : Array Bool) (s : St), Wf s → CalmLe sc s → (∀ j, D j = true → listed.getD j true = false) →
      (∀ j oj, ops[j]? = some oj → j ≠ i → listed.getD j true = false → D j = false → oi.apart ops oj = true ∧ (∀ d', oj.dst = some d' → sc.look d' = .any) ∧ (isEff ops oj = false ∨ (isEff ops oj = true ∧ ∀ cs b, oj.op ≠ .select cs b))) →
      i ∈ Region.ready md ops listed → AnyA P md ops K fuel (listed.setIfInBounds i true) (s.put d (.s (.v v))) → AnyA P md ops K (fuel + 1) listed s := by
  intro D hD fuel
  induction fuel with
  | zero =>
    intro listed s _ hc _ _ hr H
    refine ⟨fun h => (by rw [h] at hr; cases hr), fun j hj => ?_⟩
    by_cases hji : j = i
    · subst hji; rw [hi]; exact h.step hc H
    · have := ready_mono hj hji
      rw [H.1] at this
      cases this
  | succ fuel ih =>
    intro listed s hwf hc hun0 hfree hr H
    refine ⟨fun h => (by rw [h] at hr; cases hr), fun j hj => ?_⟩
    by_cases hji : j = i
    · subst hji; rw [hi]; exact h.step hc H
    · obtain ⟨hjun, oj, hoj, hall⟩ := mem_ready.1 hj
      rw [hoj]
      simp only
      have hlisted : ∀ e ∈ oj.after, Region.binds md e = true → listed.getD e.on true = true := fun e he hb => by
        have h1 := hall e he hb
        rcases Nat.lt_or_ge e.on listed.size with h' | h'
        · simp [h'] at h1 ⊢; exact h1
        · simp [Array.getElem?_eq_none h'] at h1
      have hDj : D j = false := by
        cases hd : D j with
        | false => rfl
        | true =>
          obtain ⟨e, he, hb, h3⟩ := hD j oj hoj hd
          have h4 := hlisted e he hb
          rcases h3 with h3 | h3
          · rw [h3, (mem_ready.1 hr).1] at h4; cases h4
          · rw [hun0 _ h3] at h4; cases h4
      obtain ⟨hap, hfd, hej⟩ := hfree j oj hoj hji hjun hDj
      have H2 : StepA P ops j oj (s.put d (.s (.v v))) (AnyA P md ops K fuel ((listed.setIfInBounds i true).setIfInBounds j true)) := by
        have h2 := H.2 j (ready_mono hj hji)
        rw [hoj] at h2
        exact h2
      have hfree' : ∀ k ok, ops[k]? = some ok → k ≠ i → (listed.setIfInBounds j true).getD k true = false →
          D k = false → oi.apart ops ok = true ∧ (∀ d', ok.dst = some d' → sc.look d' = .any) ∧ (isEff ops ok = false ∨ (isEff ops ok = true ∧ ∀ cs b, ok.op ≠ .select cs b)) := fun k ok hk hki hun hno => by
        refine hfree k ok hk hki ?_ hno
        by_cases hjk : j = k
        · subst hjk; exact hjun
        · rw [getD_set_ne true hjk] at hun; exact hun
      have H3 : StepA P ops j oj s (fun s2 => Wf s2 ∧ CalmLe sc s2 ∧ AnyA P md ops K fuel ((listed.setIfInBounds i true).setIfInBounds j true) (s2.put d (.s (.v v)))) := by
        rcases hej with e1 | ⟨e1, e2⟩
        · exact StepA.swapP (i := i) h hc hoj hwf hap e1 hfd (AnyA.eqv hK _ _) H2
        · exact StepA.swapE h hc hi e2 hwf hap e1 hfd (AnyA.eqv hK _ _) H2
      refine H3.mono fun s2 h3 => ih (listed.setIfInBounds j true) s2 h3.1 h3.2.1 (fun k hk => ?_) hfree' (ready_mono hr (Ne.symm hji)) ?_
      · have hkj : j ≠ k := fun e => by subst e; rw [hDj] at hk; cases hk
        rw [getD_set_ne true hkj]; exact hun0 k hk
      · rw [Array.setIfInBounds_comm _ _ hji]
        exact h3.2.2
def notSel (o : Oper) : Bool := match o.op with | .select .. => false | _ => true
/-- Whatever has not come up yet waits for the i-th operation, or is apart from it. -/
def freeCJ (md : Region.Mode) (ops : Array Oper) (listed : Array Bool) (i : Nat) (oi : Oper) (ks : List Nat) (D : List Bool) (j : Nat) : Bool :=
  match ops[j]? with
  | none => !D.getD j false
  | some oj => bif D.getD j false then !listed.getD j true && oj.after.any (fun e => Region.binds md e && (Nat.beq e.on i || D.getD e.on false))
      else Nat.beq j i || listed.getD j true || (oi.apart ops oj && (match oj.dst with | some d => !ks.any (Nat.beq d) | none => true) && (!isEff ops oj || (isEff ops oj && notSel oj)))
def calmB (md : Region.Mode) (ops : Array Oper) (listed : Array Bool) (ks : List Nat) (i : Nat) : Bool :=
  match ops[i]? with
  | none => false
  | some oi => (Region.ready md ops listed).contains i && (List.range ops.size).all (freeCJ md ops listed i oi ks (descGo md i ops.toList 0 [])) && Nat.beq (descGo md i ops.toList 0 []).length ops.size
theorem look_keys {d : Nat} : ∀ {l : List (Nat × PV)}, (l.map (·.1)).any (Nat.beq d) = false → look l d = .any
  | [], _ => rfl
  | (t, p) :: l, h => by
    simp only [List.map_cons, List.any_cons, Bool.or_eq_false_iff] at h
    rw [look_put, if_neg (fun e => by rw [e, Nat.beq_refl] at h; cases h.1)]
    exact look_keys h.2
theorem calmB_spec {listed : Array Bool} {sc : St} {i : Nat} {oi : Oper} (hi : ops[i]? = some oi) (h : calmB md ops listed (sc.env.map (·.1)) i = true) : i ∈ Region.ready md ops listed ∧ ∃ D : Nat → Bool,
    (∀ j oj, ops[j]? = some oj → D j = true → ∃ e ∈ oj.after, Region.binds md e = true ∧ (e.on = i ∨ D e.on = true)) ∧ (∀ j, D j = true → listed.getD j true = false) ∧
    (∀ j oj, ops[j]? = some oj → j ≠ i → listed.getD j true = false → D j = false → oi.apart ops oj = true ∧ (∀ d', oj.dst = some d' → sc.look d' = .any) ∧ (isEff ops oj = false ∨ (isEff ops oj = true ∧ ∀ cs b, oj.op ≠ .select cs b))) := by
  unfold calmB at h
  rw [hi] at h
  simp only [Bool.and_eq_true, List.all_eq_true] at h
  obtain ⟨⟨hrd, h⟩, hlen⟩ := h
  have hlen : (descGo md i ops.toList 0 []).length = ops.size := Nat.beq_eq ▸ hlen
  generalize descGo md i ops.toList 0 [] = D at *
  refine ⟨by simpa using hrd, fun j => D.getD j false, fun j oj hj hd => ?_, fun j hd => ?_, fun j oj hj hji hun hd => ?_⟩
  · have h1 := h j (List.mem_range.2 (Array.getElem?_eq_some_iff.1 hj).1)
    unfold freeCJ at h1
    simp only at hd
    rw [hj, hd] at h1
    simp only [cond_true, Bool.and_eq_true] at h1
    have h2 := h1.2
    rw [← Array.any_toList, List.any_eq_true] at h2
    obtain ⟨e, he, h3⟩ := h2
    simp only [Bool.and_eq_true, Bool.or_eq_true] at h3
    exact ⟨e, Array.mem_toList_iff.1 he, h3.1, h3.2.imp (fun h => Nat.beq_eq ▸ h) id⟩
  · simp only at hd
    have hjs : j < ops.size := by
      rcases Nat.lt_or_ge j ops.size with h' | h'
      · exact h'
      · rw [List.getD_eq_getElem?_getD, List.getElem?_eq_none (by omega)] at hd
        cases hd
    have h1 := h j (List.mem_range.2 hjs)
    unfold freeCJ at h1
    rw [Array.getElem?_eq_getElem hjs, hd] at h1
    simp only [cond_true, Bool.and_eq_true, Bool.not_eq_true'] at h1
    exact h1.1
  · have h1 := h j (List.mem_range.2 (Array.getElem?_eq_some_iff.1 hj).1)
    unfold freeCJ at h1
    simp only at hd
    rw [hj, hd, hun] at h1
    simp only [cond_false, Bool.or_eq_true, Bool.and_eq_true, Bool.not_eq_true'] at h1
    rcases h1 with (h1 | h1) | ⟨⟨h1, h2⟩, h3⟩
    · exact absurd (Nat.beq_eq ▸ h1) hji
    · cases h1
    · refine ⟨h1, fun d' hd' => ?_, h3.imp id fun ⟨q1, q2⟩ => ⟨q1, fun cs b e => ?_⟩⟩
      · rw [hd'] at h2
        exact look_keys (by simpa using h2)
      · unfold notSel at q2
        rw [e] at q2
        cases q2
/-- The calm operations S, one by one; then the rest. -/
inductive CalmRun (P : Program) (md : Region.Mode) (ops : Array Oper) (K : St → Prop) (m : Nat) : List Nat → St → St → Array Bool → Prop
  | nil {sc s : St} {listed : Array Bool} (h : AnyA P md ops K m listed s) : CalmRun P md ops K m [] sc s listed
  | cons {i : Nat} {S : List Nat} {oi : Oper} {d : Nat} {v : Value} {sc s : St} {listed : Array Bool} (hi : ops[i]? = some oi) (hp : PStep P ops sc oi d v) (hb : calmB md ops listed (sc.env.map (·.1)) i = true) (k : CalmRun P md ops K m S (sc.put d (.s (.v v))) (s.put d (.s (.v v))) (listed.setIfInBounds i true)) : CalmRun P md ops K m (i :: S) sc s listed
theorem CalmRun.any (hK : ∀ s s', Eqv s s' → K s → K s') {m : Nat} {S : List Nat} {sc s : St} {listed : Array Bool} (h : CalmRun P md ops K m S sc s listed) : Wf s → CalmLe sc s → AnyA P md ops K (S.length + m) listed s := by
  induction h with
  | nil h => intro _ _; simpa using h
  | @cons i S oi d v sc s listed hi hp hb _ ih =>
    intro hwf hc
    obtain ⟨hr, D, d1, d2, d3⟩ := calmB_spec hi hb
    have hwf1 : Wf (s.put d (.s (.v v))) := fun t id ht => by
      have ht : (look ((d, PV.s (.v v)) :: s.env) t).isBox id = true := ht
      rw [look_put] at ht
      split at ht
      · cases ht
      · exact hwf t id ht
    have := AnyA.firstC hi hK hp D d1 (S.length + m) listed s hwf hc d2 d3 hr (ih hwf1 (hc.put hp.lt v))
    rwa [show (i :: S).length + m = S.length + m + 1 by rw [List.length_cons]; omega]
end

section
variable {P : Program} {ops : Array Oper} {md : Region.Mode} {K : St → Prop}
/-- The operations that have not come up yet, in the text's order: ks. -/
def lexS (md : Region.Mode) (ops : Array Oper) : List Nat → Array Bool → Bool
  | [], listed => (Region.ready md ops listed).isEmpty
  | k :: ks, listed => (Region.ready md ops listed).contains k && freeA md ops listed k && (List.range k).all (fun j => listed.getD j true) && ((match ops[k]? with | some o => noApp o | none => false) || (List.range ops.size).all (fun j => Nat.ble j k || ks.any (Nat.beq j))) && lexS md ops ks (listed.setIfInBounds k true)
theorem After.of2 {k : Nat} {ks : List Nat} {τ : Nat} {rest : List Oper} (hl : rest = ks.filterMap (ops[·]?)) (hB : (List.range ops.size).all (fun j => Nat.ble j k || ks.any (Nat.beq j)) = true) (h : notDst τ rest = true) : After ops k τ := fun j oj hij hj hd => by
  have hjs := (Array.getElem?_eq_some_iff.1 hj).1
  have h1 := List.all_eq_true.1 hB j (List.mem_range.2 hjs)
  rw [Bool.or_eq_true, Nat.ble_eq] at h1
  rcases h1 with h1 | h1
  · omega
  · obtain ⟨j', hj', e⟩ := List.any_eq_true.1 h1
    rw [Nat.beq_eq] at e
    subst e
    have h2 := List.all_eq_true.1 h oj (by rw [hl]; exact List.mem_filterMap.2 ⟨j, hj', hj⟩)
    rw [hd] at h2
    simp at h2
theorem AnyA.lexS (hV : ∀ (i : Nat) (o : Oper), ops[i]? = some o → ∀ d, o.dst = some d → d < 1000000) (hK : ∀ s s', Eqv s s' → K s → K s') : ∀ {l : List Oper} {s : St}, Run true P ops K l s → ∀ (ks : List Nat) (listed : Array Bool), Wf s → l = ks.filterMap (ops[·]?) → Pv.lexS md ops ks listed = true → AnyA P md ops K ks.length listed s := by
  intro l s h
  have split : ∀ {o : Oper} {rest : List Oper} {ks : List Nat} {listed : Array Bool}, o :: rest = ks.filterMap (ops[·]?) → Pv.lexS md ops ks listed = true → ∃ k ks', ks = k :: ks' ∧ ops[k]? = some o ∧ rest = ks'.filterMap (ops[·]?) ∧ k ∈ Region.ready md ops listed ∧ freeA md ops listed k = true ∧ (∀ j, j < k → listed.getD j true = true) ∧ (noApp o = true ∨ (List.range ops.size).all (fun j => Nat.ble j k || ks'.any (Nat.beq j)) = true) ∧ Pv.lexS md ops ks' (listed.setIfInBounds k true) = true := by
    intro o rest ks listed hl hB
    cases ks with
    | nil => cases hl
    | cons k ks' =>
      simp only [Pv.lexS, Bool.and_eq_true] at hB
      obtain ⟨⟨⟨⟨h1, h2⟩, h3⟩, h4⟩, h5⟩ := hB
      have hr : k ∈ Region.ready md ops listed := by simpa using h1
      obtain ⟨_, o', ho', _⟩ := mem_ready.1 hr
      rw [List.filterMap_cons, ho'] at hl
      simp only at hl
      injection hl with e1 e2
      subst e1
      rw [ho'] at h4
      exact ⟨k, ks', rfl, ho', e2, hr, h2, fun j hj => List.all_eq_true.1 h3 j (List.mem_range.2 hj), by simpa [Bool.or_eq_true] using h4, h5⟩
  have step : ∀ {o : Oper} {s : St} {k : Nat} {ks' : List Nat} {listed : Array Bool}, isEff ops o = false → Wf s → ops[k]? = some o → k ∈ Region.ready md ops listed → freeA md ops listed k = true → (∀ j, j < k → listed.getD j true = true) → StepA P ops k o s (AnyA P md ops K ks'.length (listed.setIfInBounds k true)) → AnyA P md ops K (ks'.length + 1) listed s := by
    intro o s k ks' listed he hwf h0 hr hfr hbl hst
    obtain ⟨D, d1, d2, d3⟩ := freeA_spec h0 hfr
    refine AnyA.first hV h0 hK he D d1 ks'.length listed s hwf d2 hbl (fun j oj hj hji hun hno => ?_) hr hst
    have := d3 j oj hj hji hun hno
    exact ⟨this.2, this.1.2⟩
  induction h with
  | nil hk =>
    intro ks listed _ hl hB
    cases ks with
    | nil => exact ⟨by simpa [Pv.lexS] using hB, hk⟩
    | cons k ks' =>
      exfalso
      simp only [Pv.lexS, Bool.and_eq_true] at hB
      have hr : k ∈ Region.ready md ops listed := by simpa using hB.1.1.1.1
      obtain ⟨_, o', ho', _⟩ := mem_ready.1 hr
      rw [List.filterMap_cons, ho'] at hl
      cases hl
  | @val o rest s pv nb hw hv hf hp he _ ih =>
    intro ks listed hwf hl hB
    obtain ⟨k, ks', rfl, h0, hl', hr, hfr, hbl, _, hB'⟩ := split hl hB
    exact step he hwf h0 hr hfr hbl (.inl ⟨pv, nb, hw, he, hv, fun p hp => (fresh_of hf p hp).1, hp, ih ks' _ (hwf.put hp) hl' hB'⟩)
  | @skip o rest s hw he _ ih =>
    intro ks listed hwf hl hB
    obtain ⟨k, ks', rfl, h0, hl', hr, hfr, hbl, _, hB'⟩ := split hl hB
    exact step he hwf h0 hr hfr hbl (.inr (.inl ⟨hw, he, ih ks' _ (hwf.put (o := o) (nb := none) rfl) hl' hB'⟩))
  | @app o rest s s1 hw he ha _ ih =>
    intro ks listed hwf hl hB
    obtain ⟨k, ks', rfl, h0, hl', hr, hfr, hbl, hna, hB'⟩ := split hl hB
    refine step he hwf h0 hr hfr hbl (.inr (.inr (.inl ⟨hw, he, s1, ha.mono (fun τ hτ => ?_), ih ks' _ (hwf.app ha) hl' hB'⟩)))
    rcases hna with hna | hna
    · exfalso
      obtain ⟨t, e, k', bytes, x, y, τ, els, els2, hT, ho, _⟩ := ha
      unfold noApp at hna
      rw [ho] at hna
      cases hna
    · exact After.of2 hl' hna hτ
  | @weak l s S hd _ _ _ => cases hd
  | @effI o rest s S hd _ _ _ _ => cases hd
  | @eff o rest s S hw hv he0 _ ih =>
    intro ks listed hwf hl hB
    obtain ⟨he, hw1⟩ := he0 rfl
    obtain ⟨k, ks', rfl, h0, hl', hr', hfr, hbl, _, hB'⟩ := split hl hB
    have IH := fun s1 hs1 => ih s1 hs1 ks' (listed.setIfInBounds k true) ((hw1 s1 hs1).1 hwf) hl' hB'
    refine ⟨fun h => (by rw [h] at hr'; cases hr'), fun j hj => ?_⟩
    by_cases hjk : j = k
    · subst hjk
      rw [h0]
      exact .inr (.inr (.inr ⟨hw, he, S, hw1, hv.toR, IH⟩))
    · exfalso
      obtain ⟨hjun, oj, hoj, hall⟩ := mem_ready.1 hj
      obtain ⟨D, d1, d2, d3⟩ := freeA_spec h0 hfr
      cases hd : D j with
      | false =>
        have := (d3 j oj hoj hjk hjun hd).1.1
        rw [he] at this
        cases this
      | true =>
        obtain ⟨e, he', hb, h3⟩ := d1 j oj hoj hd
        have h4 : listed.getD e.on true = true := by
          have h1 := hall e he' hb
          rcases Nat.lt_or_ge e.on listed.size with h' | h'
          · simp [h'] at h1 ⊢; exact h1
          · simp [Array.getElem?_eq_none h'] at h1
        rcases h3 with h3 | h3
        · rw [h3, (mem_ready.1 hr').1] at h4; cases h4
        · rw [d2 _ h3] at h4; cases h4
  | @eqv l s s1 h _ ih =>
    intro ks listed hwf hl hB
    exact AnyA.eqv hK _ _ _ _ h.symm (ih ks listed (h.wf hwf) hl hB)
/-- The rest of it. -/
theorem CalmRun.rest {m : Nat} {sc s : St} {listed : Array Bool} (ks : List Nat) {l : List Oper} (hdm : dstsOk 1000000 ops.toList = true) (hK : ∀ s s', Eqv s s' → K s → K s') (hm : m = ks.length) (hl : l = ks.filterMap (ops[·]?)) (hB : Pv.lexS md ops ks listed = true) (hwf : wfB s = true) (h : RunK true P ops l s K) : CalmRun P md ops K m [] sc s listed := by
  subst hm
  refine .nil (AnyA.lexS (fun i o ho d hd' => ?_) hK h ks listed (wf_of hwf) hl hB)
  have hmem : o ∈ ops.toList := by
    have : ops.toList[i]? = some o := by simpa using ho
    exact List.mem_of_getElem? this
  have := List.all_eq_true.1 hdm o hmem
  rw [hd', Bool.and_eq_true] at this
  exact (Nat.blt_eq ▸ this.1)
theorem CalmLe.of {sc s : St} (hb : sc.boxes = []) (h : ∀ p ∈ sc.env, (p.1 < 1000000 ∨ 3000000 ≤ p.1) ∧ p.2.calm p.1 = true ∧ s.look p.1 = p.2) : CalmLe sc s := ⟨hb, fun t => by
  have key : ∀ l : List (Nat × PV), (∀ p ∈ l, (p.1 < 1000000 ∨ 3000000 ≤ p.1) ∧ p.2.calm p.1 = true ∧ s.look p.1 = p.2) → look l t = .any ∨ ((t < 1000000 ∨ 3000000 ≤ t) ∧ (look l t).calm t = true ∧ s.look t = look l t) := fun l => by
    induction l with
    | nil => intro _; exact .inl rfl
    | cons q l ih =>
      obtain ⟨u, p⟩ := q
      intro h
      rw [look_put]
      split
      · rename_i e
        subst e
        exact .inr (h _ (List.mem_cons_self ..))
      · exact ih fun p hp => h p (List.mem_cons_of_mem _ hp)
  exact key sc.env h⟩
end

section
variable {P : Program} {ops : Array Oper} {rest : List Oper} {env : List (Nat × PV)} {bs : List (Nat × List Value)} {K : St → Prop} {ty : TypeId} {pos : String} {aft : Array Edge} {g : Option (Nat × Bool)} {dr : Bool}
theorem Put1.row {w : World} {b : Nat} {C : Array Value} {e : TypeId} (hb : w.heap[b]? = some (.cells C e (0, 0))) (l : Array Value) : Put1 w b (.cells l e (0, 0)) (w.setRow b l) := by
  have hlt : b < w.heap.size := (Array.getElem?_eq_some_iff.1 hb).1
  refine ⟨rfl, rfl, rfl, by simp [World.setRow], fun k hk => ?_, fun _ => ?_⟩
  · simp [World.setRow, Array.getElem?_modify, Ne.symm hk]
  · simp [World.setRow, Array.getElem?_modify, hb]
end

/-! ### nests in drawn regions -/
theorem wp_keeps {P : Program} {o : Oper} {a : Act} {w : World} {next : Act → World → Prop} {Q : Exit → Act → World → Prop} (h : o.wp P a w next Q) : o.wp P a w (fun a' w' => next a' w' ∧ ∀ t, o.dst ≠ some t → a'.tmps.getD t undef = a.tmps.getD t undef) Q := by
  have key : ∀ (a0 : Act) (v : Value), a0.tmps = a.tmps → ∀ t, o.dst ≠ some t → (a0.put o.dst v).tmps.getD t undef = a.tmps.getD t undef := by
    intro a0 v h0 t ht
    unfold Act.put
    cases hd : o.dst with
    | none => simp only [h0]
    | some d =>
      have hdt : d ≠ t := fun e => ht (by rw [hd, e])
      simp only [h0]
      rw [Array.getD_eq_getD_getElem?, Array.getD_eq_getD_getElem?, Array.getElem?_setIfInBounds_ne hdt]
  unfold Oper.wp at *
  generalize (execOp a.eval o).run P w = r at *
  cases r with
  | ok n w' =>
    cases n <;> simp only [Oper.upon] at h ⊢
    case value u => exact ⟨h, key a u rfl⟩
    case skip => exact ⟨h, key a undef rfl⟩
    case defer d => exact ⟨h, key _ undef rfl⟩
    case enter f args =>
      refine Calls.mono h fun e w'' he => ?_
      cases e with
      | returned u => exact ⟨he, key a u rfl⟩
      | panicked c => exact he
      | outgrown => exact he
    case row row args => exact Rows.mono h fun u w'' he => ⟨he, key a u rfl⟩
  | halt x w' =>
    cases x <;> simp only [Oper.upon] at h ⊢
    case panic u => exact h
/-- A plain slot that the operation does not write stays. -/
theorem Eff.keep {P : Program} {o : Oper} {s : St} {S : St → Prop} {t : Nat} {x : Value} (h : Eff P o s S) (ht : Nat.blt t 1000000 = true) (hl : s.look t = .s (.v x)) (hd : o.dst ≠ some t) : Eff P o s (fun s2 => ∃ s1, S s1 ∧ s2 = ⟨(t, .s (.v x)) :: s1.env, s1.boxes⟩) := by
  intro w0 n a w hr hdst next Q hK
  have h0 : a.tmps.getD t undef = x := by
    obtain ⟨T, F, ρ, hr0⟩ := hr
    have := hr0.env t
    rw [hl] at this
    have e : vl a w0.fr t = a.tmps.getD t undef := by unfold vl; rw [ht]; rfl
    rw [e] at this
    exact this
  refine Oper.wp_mono (fun a' w' hq => ?_) (wp_keeps (h w0 n a w hr hdst (fun a' w' => ∃ s1, S s1 ∧ RS w0 n s1 a' w') Q (fun s1 hs a' w' hr' => ⟨s1, hs, hr'⟩)))
  obtain ⟨⟨s1, hs, T, F, ρ, hr1⟩, hk⟩ := hq
  refine hK _ ⟨s1, hs, rfl⟩ a' w' ⟨T, F, ρ, hr1.defers, hr1.size, hr1.small, hr1.below, hr1.ext, fun u => ?_, hr1.boxes⟩
  show RepP T F ρ w' (look ((t, _) :: s1.env) u) _
  rw [look_put]
  split
  · rename_i e
    subst e
    have e : vl a' w0.fr t = a'.tmps.getD t undef := by unfold vl; rw [ht]; rfl
    rw [e, hk t hd, h0]
    rfl
  · exact hr1.env u
theorem rmS_of {h t : Nat} (e : h ≠ t) : t ∉ [h] := by simp only [List.mem_singleton]; exact fun x => e x.symm
theorem Tame.put {o : Oper} {s s1 : St} {d : Nat} {p : PV} (hd : o.dst = some d) (h : Tame o s s1) : Tame o s ⟨(d, p) :: s1.env, s1.boxes⟩ := by
  intro t ht hne hc
  show look ((d, p) :: s1.env) t = _
  rw [look_put, if_neg fun e => hne (by rw [hd, e])]
  exact h t ht hne hc
section
variable {dr : Bool} {P : Program} {ops : Array Oper} {rest : List Oper} {env : List (Nat × PV)} {bs : List (Nat × List Value)} {K : St → Prop} {d : Nat} {op : Op} {ty : TypeId} {pos : String} {aft : Array Edge} {gd : Option (Nat × Bool)}
theorem RunK.weakS {l : List Oper} {s : St} {S : St → Prop} (h : Turns s S) (k : ∀ s1, S s1 → RunK false P ops l s1 K) : RunK false P ops l s K := Run.weak rfl h k
end

/-! ### slices of slices are built -/
/-- A part of such a literal: a row of the call's own, nil, or a header. -/
inductive Cls where
  | row (t τ : Nat) (els : List (List Value))
  | nil
  | v (u : Value)
/-- The parts are of these kinds. -/
inductive PartsC (ev : Operand → PV) : List (Nat × Operand) → List Cls → Prop
  | nil : PartsC ev [] []
  | row {i t τ : Nat} {app : App} {els : List (List Value)} {ps : List (Nat × Operand)} {cs : List Cls} (ht : Nat.blt t 1000000 = true) (h : ev (.tmp t) = .s (.sl (some τ) app 1 els)) (r : PartsC ev ps cs) : PartsC ev ((i, .tmp t) :: ps) (.row t τ els :: cs)
  | nl {i : Nat} {x : Operand} {ps : List (Nat × Operand)} {cs : List Cls} (h : ev x = .s .nil) (r : PartsC ev ps cs) : PartsC ev ((i, x) :: ps) (.nil :: cs)
  | v {i : Nat} {x : Operand} {u : Value} {ps : List (Nat × Operand)} {cs : List Cls} (h : ev x = .s (.v u)) (r : PartsC ev ps cs) : PartsC ev ((i, x) :: ps) (.v u :: cs)
def tagsOf : List Cls → List Nat
  | [] => []
  | .row _ τ _ :: cs => τ :: tagsOf cs
  | _ :: cs => tagsOf cs
def elsOf : List Cls → List (List (List Value))
  | [] => []
  | .row _ _ els :: cs => els :: elsOf cs
  | _ :: cs => elsOf cs
def hdrsOf : List Cls → List NRow → List Value
  | [], _ => []
  | .row _ _ _ :: cs, r :: rs => r.hdr :: hdrsOf cs rs
  | .row _ _ _ :: cs, [] => .slice none 0 0 :: hdrsOf cs []
  | .nil :: cs, rs => .slice none 0 0 :: hdrsOf cs rs
  | .v u :: cs, rs => u :: hdrsOf cs rs
def distinctB : List Nat → Bool
  | [] => true
  | x :: l => !l.any (Nat.beq x) && distinctB l
/-- Whatever bears one of these tags is forgotten. -/
def PV.dropTs (τs : List Nat) (p : PV) : PV := τs.foldl (fun p τ => p.dropT τ) p
theorem dropTs_any : ∀ τs : List Nat, PV.any.dropTs τs = .any
  | [] => rfl
  | _ :: τs => dropTs_any τs
theorem calm_dropTs {t : Nat} {p : PV} (τs : List Nat) (h : p.calm t = true) : p.dropTs τs = p := by
  induction τs with
  | nil => rfl
  | cons τ τs ih =>
    show (p.dropT τ).dropTs τs = p
    have : p.dropT τ = p := by
      unfold PV.dropT
      have : p.hasTag τ = false := by
        cases p with
        | s x => cases x <;> first | rfl | cases h
        | kept => rfl
        | nest => rfl
        | _ => cases h
      rw [this]; rfl
    rw [this, ih]
def slots : List Cls → List NRow → List (Nat × PV)
  | [], _ => []
  | .row t _ _ :: cs, r :: rs => slots cs rs ++ [(t, .s (.v r.hdr))]
  | .row _ _ _ :: cs, [] => slots cs []
  | _ :: cs, rs => slots cs rs
/-- Slots of rows, all put into a nest. -/
inductive RowsC (env : List (Nat × PV)) : List Cls → Prop
  | nil : RowsC env []
  | row {t τ : Nat} {app : App} {els : List (List Value)} {cs : List Cls} (ht : Nat.blt t 1000000 = true) (h : look env t = .s (.sl (some τ) app 1 els)) (r : RowsC env cs) : RowsC env (.row t τ els :: cs)
  | nl {cs : List Cls} (r : RowsC env cs) : RowsC env (.nil :: cs)
  | v {u : Value} {cs : List Cls} (r : RowsC env cs) : RowsC env (.v u :: cs)
theorem RowsC.imp {env env' : List (Nat × PV)} : ∀ {cs : List Cls}, (∀ t τ app els, τ ∈ tagsOf cs → t < 1000000 → look env t = .s (.sl (some τ) app 1 els) → look env' t = .s (.sl (some τ) app 1 els)) → RowsC env cs → RowsC env' cs
  | _, _, .nil => .nil
  | _, h, .row ht hl r => .row ht (h _ _ _ _ (List.mem_cons_self ..) (Nat.blt_eq ▸ ht) hl) (r.imp fun t τ app els hτ => h t τ app els (List.mem_cons_of_mem _ hτ))
  | _, h, .nl r => .nl (r.imp h)
  | _, h, .v r => .v (r.imp h)
theorem Turns.refl {s : St} {S : St → Prop} (h : S s) : Turns s S := fun _ _ _ _ hr => ⟨s, h, hr⟩
theorem Turns.bind {s : St} {S S' : St → Prop} (h : Turns s S) (k : ∀ s1, S s1 → Turns s1 S') : Turns s S' := fun w0 n a w hr => by
  obtain ⟨s1, h1, hr1⟩ := h w0 n a w hr
  exact k s1 h1 w0 n a w hr1
theorem slots_key {env : List (Nat × PV)} {t : Nat} {p : PV} : ∀ {cs : List Cls} {new : List NRow}, RowsC env cs → (∀ τ app els, τ ∈ tagsOf cs → look env t ≠ .s (.sl (some τ) app 1 els)) → ∀ L, look (slots cs new ++ L) t = look L t
  | [], _, _, _, _ => rfl
  | .nil :: cs, new, .nl r, h, L => slots_key (p := p) r h L
  | .v _ :: cs, new, .v r, h, L => slots_key (p := p) r h L
  | .row t' τ els :: cs, [], .row ht hl r, h, L => slots_key (p := p) r (fun τ' app els hτ => h τ' app els (List.mem_cons_of_mem _ hτ)) L
  | .row t' τ els :: cs, r0 :: rs, .row ht hl r, h, L => by
    show look ((slots cs rs ++ [(t', _)]) ++ L) t = _
    rw [List.append_assoc, slots_key (p := p) r (fun τ' app els hτ => h τ' app els (List.mem_cons_of_mem _ hτ))]
    show look ((t', _) :: L) t = _
    rw [look_put, if_neg fun e => by subst e; exact h τ _ _ (List.mem_cons_self ..) hl]
theorem slots_at {env : List (Nat × PV)} (h : Nat) (L : List (Nat × PV)) : ∀ {cs : List Cls} {new : List NRow}, RowsC env cs → distinctB (tagsOf cs) = true → new.map (·.els) = elsOf cs → ∀ {i : Nat} {t τ : Nat} {els : List (List Value)}, cs[i]? = some (.row t τ els) → ∃ r : NRow, (hdrsOf cs new)[i]? = some r.hdr ∧ look (slots cs new ++ L) t = .s (.v r.hdr)
  | [], _, _, _, _, i, _, _, _, hi => by simp at hi
  | .nil :: cs, new, .nl r, hd, he, i, t, τ, els, hi => by
    cases i with
    | zero => simp at hi
    | succ i =>
      obtain ⟨r0, h1, h2⟩ := slots_at h L (cs := cs) (new := new) r hd he (i := i) (t := t) (τ := τ) (els := els) (by simpa using hi)
      exact ⟨r0, by simpa [hdrsOf] using h1, h2⟩
  | .v u :: cs, new, .v r, hd, he, i, t, τ, els, hi => by
    cases i with
    | zero => simp at hi
    | succ i =>
      obtain ⟨r0, h1, h2⟩ := slots_at h L (cs := cs) (new := new) r hd he (i := i) (t := t) (τ := τ) (els := els) (by simpa using hi)
      exact ⟨r0, by simpa [hdrsOf] using h1, h2⟩
  | .row t' τ' els' :: cs, [], .row ht hl r, hd, he, i, t, τ, els, hi => by simp [elsOf] at he
  | .row t' τ' els' :: cs, r0 :: rs, .row ht hl r, hd, he, i, t, τ, els, hi => by
    have hd' : (!(tagsOf cs).any (Nat.beq τ') && distinctB (tagsOf cs)) = true := hd
    rw [Bool.and_eq_true, Bool.not_eq_true'] at hd'
    have he' : r0.els :: rs.map (·.els) = els' :: elsOf cs := he
    injection he' with he1 he2
    cases i with
    | zero =>
      have hi' : Cls.row t' τ' els' = .row t τ els := by simpa using hi
      injection hi' with hi1 hi2 hi3
      subst hi1
      refine ⟨r0, rfl, ?_⟩
      show look ((slots cs rs ++ [(t', _)]) ++ L) t' = _
      rw [List.append_assoc, slots_key (p := .any) r ?_]
      · show look ((t', _) :: L) t' = _
        rw [look_put, if_pos rfl]
      · intro τ2 app2 els2 hτ2 hl2
        rw [hl] at hl2
        injection hl2 with hl2
        injection hl2 with hl2 _ _ _
        injection hl2 with hl2
        have := List.any_eq_false.1 hd'.1 τ2 hτ2
        rw [Nat.beq_eq] at this
        exact this hl2
    | succ i =>
      have hi' : cs[i]? = some (.row t τ els) := by simpa using hi
      obtain ⟨r1, h1, h2⟩ := slots_at h ([(t', .s (.v r0.hdr))] ++ L) (cs := cs) (new := rs) r hd'.2 he2 hi'
      refine ⟨r1, by simpa [hdrsOf] using h1, ?_⟩
      show look ((slots cs rs ++ [(t', _)]) ++ L) t = _
      rw [List.append_assoc]
      exact h2
theorem PartsC.rows {env : List (Nat × PV)} {bs : List (Nat × List Value)} : ∀ {ps : List (Nat × Operand)} {cs : List Cls}, PartsC (St.mk env bs).ev ps cs → RowsC env cs
  | _, _, .nil => .nil
  | _, _, .row ht h r => .row ht (by
      have h' : (bif Nat.blt _ 1000000 then look env _ else _) = _ := h
      rw [ht] at h'
      exact h') r.rows
  | _, _, .nl _ r => .nl r.rows
  | _, _, .v _ r => .v r.rows
def Cls.says (ev : Operand → PV) (x : Operand) : Cls → Prop
  | .row t _ _ => x = .tmp t ∧ Nat.blt t 1000000 = true
  | .nil => ev x = .s .nil
  | .v u => ev x = .s (.v u)
theorem PartsC.get {ev : Operand → PV} : ∀ {ps : List (Nat × Operand)} {cs : List Cls}, PartsC ev ps cs → ps.length = cs.length ∧ ∀ (j i : Nat) (x : Operand), ps[j]? = some (i, x) → ∃ c, cs[j]? = some c ∧ c.says ev x
  | _, _, .nil => ⟨rfl, fun j i x h => by simp at h⟩
  | _, _, .row ht h r => ⟨by simp [r.get.1], fun j i x hj => by
      cases j with
      | zero => simp at hj; exact ⟨_, rfl, hj.2.symm, ht⟩
      | succ j => exact r.get.2 j i x (by simpa using hj)⟩
  | _, _, .nl h r => ⟨by simp [r.get.1], fun j i x hj => by
      cases j with
      | zero => simp at hj; exact ⟨_, rfl, by rw [← hj.2]; exact h⟩
      | succ j => exact r.get.2 j i x (by simpa using hj)⟩
  | _, _, .v h r => ⟨by simp [r.get.1], fun j i x hj => by
      cases j with
      | zero => simp at hj; exact ⟨_, rfl, by rw [← hj.2]; exact h⟩
      | succ j => exact r.get.2 j i x (by simpa using hj)⟩
theorem hdrs_len : ∀ (cs : List Cls) (new : List NRow), (hdrsOf cs new).length = cs.length
  | [], _ => rfl
  | .row _ _ _ :: cs, _ :: rs => by simp [hdrsOf, hdrs_len cs rs]
  | .row _ _ _ :: cs, [] => by simp [hdrsOf, hdrs_len cs []]
  | .nil :: cs, rs => by simp [hdrsOf, hdrs_len cs rs]
  | .v _ :: cs, rs => by simp [hdrsOf, hdrs_len cs rs]
theorem hdrs_get : ∀ {cs : List Cls} {new : List NRow} {j : Nat}, (cs[j]? = some .nil → (hdrsOf cs new)[j]? = some (.slice none 0 0)) ∧ ∀ u, cs[j]? = some (.v u) → (hdrsOf cs new)[j]? = some u
  | [], _, _ => ⟨fun h => by simp at h, fun u h => by simp at h⟩
  | .row _ _ _ :: cs, _ :: rs, 0 => ⟨fun h => by simp at h, fun u h => by simp at h⟩
  | .row _ _ _ :: cs, [], 0 => ⟨fun h => by simp at h, fun u h => by simp at h⟩
  | .nil :: cs, rs, 0 => ⟨fun _ => rfl, fun u h => by simp at h⟩
  | .v _ :: cs, rs, 0 => ⟨fun h => by simp at h, fun u h => by simpa [hdrsOf] using h⟩
  | .row _ _ _ :: cs, _ :: rs, j + 1 => by simpa [hdrsOf] using hdrs_get (cs := cs) (new := rs) (j := j)
  | .row _ _ _ :: cs, [], j + 1 => by simpa [hdrsOf] using hdrs_get (cs := cs) (new := []) (j := j)
  | .nil :: cs, rs, j + 1 => by simpa [hdrsOf] using hdrs_get (cs := cs) (new := rs) (j := j)
  | .v _ :: cs, rs, j + 1 => by simpa [hdrsOf] using hdrs_get (cs := cs) (new := rs) (j := j)
theorem PartsOk.of {ev : Operand → PV} : ∀ {ps : List (Nat × Operand)} {us : List Value}, ps.length = us.length → (∀ (j i : Nat) (x : Operand) (u : Value), ps[j]? = some (i, x) → us[j]? = some u → ev x = .s (.v u) ∨ (ev x = .s .nil ∧ u = .slice none 0 0)) → PartsOk ev ps ((ps.map (·.1)).zip us)
  | [], [], _, _ => .nil
  | (i, x) :: ps, u :: us, hl, h => by
    have ih := PartsOk.of (ps := ps) (us := us) (by simpa using hl) (fun j i' x' u' h1 h2 => h (j + 1) i' x' u' (by simpa using h1) (by simpa using h2))
    rcases h 0 i x u rfl rfl with h0 | ⟨h0, rfl⟩
    · exact .cons h0 ih
    · exact .consN h0 ih
  | [], _ :: _, hl, _ => by simp at hl
  | _ :: _, [], hl, _ => by simp at hl
def idxB : Nat → List (Nat × Operand) → Bool
  | _, [] => true
  | i, (j, _) :: l => Nat.beq j i && idxB (i + 1) l
theorem rows_zip : ∀ {ps : List (Nat × Operand)} {us : List Value} {i : Nat}, ps.length = us.length → idxB i ps = true → (∀ u ∈ us, u.cells.toList = [u]) → Rows 1 i ((ps.map (·.1)).zip us) (us.map fun u => [u])
  | [], [], _, _, _, _ => .nil _
  | (j, x) :: ps, u :: us, i, hl, hi, hu => by
    have hi' : (Nat.beq j i && idxB (i + 1) ps) = true := hi
    rw [Bool.and_eq_true, Nat.beq_eq] at hi'
    obtain ⟨rfl, h2⟩ := hi'
    exact .cons (Cells.one u (hu u (List.mem_cons_self ..))) rfl (rows_zip (by simpa using hl) h2 fun v hv => hu v (List.mem_cons_of_mem _ hv))
  | [], _ :: _, _, hl, _, _ => by simp at hl
  | _ :: _, [], _, hl, _, _ => by simp at hl
theorem dropTs_nil : ∀ (τs : List Nat), (PV.s .nil).dropTs τs = .s .nil
  | [] => rfl
  | _ :: τs => dropTs_nil τs
section
variable {dr : Bool} {P : Program} {ops : Array Oper} {rest : List Oper} {env : List (Nat × PV)} {bs : List (Nat × List Value)} {K : St → Prop} {d : Nat} {op : Op} {ty : TypeId} {pos : String} {aft : Array Edge} {gd : Option (Nat × Bool)}
theorem PartsC.ok {ps : List (Nat × Operand)} {cs : List Cls} (hp : PartsC (St.mk env bs).ev ps cs) (hd : distinctB (tagsOf cs) = true) {new : List NRow} (he : new.map (·.els) = elsOf cs) {h : Nat} (hh : Nat.ble 2000000 h = true) (N : PV) :
    PartsOk (St.mk (slots cs new ++ (h, N) :: (rmS [h] env).map (fun p => (p.1, p.2.dropTs (tagsOf cs)))) bs).ev ps ((ps.map (·.1)).zip (hdrsOf cs new)) := by
  have hR := hp.rows
  have hh' : 2000000 ≤ h := Nat.ble_eq ▸ hh
  refine PartsOk.of (by rw [hdrs_len]; exact hp.get.1) fun j i x u hj hu => ?_
  obtain ⟨c, hc, hs⟩ := hp.get.2 j i x hj
  have keep : ∀ y : SV, (∀ τ app els, y ≠ .sl (some τ) app 1 els) → (PV.s y).dropTs (tagsOf cs) = .s y → (St.mk env bs).ev x = .s y → (St.mk (slots cs new ++ (h, N) :: (rmS [h] env).map (fun p => (p.1, p.2.dropTs (tagsOf cs)))) bs).ev x = .s y := by
    intro y hy hdy hx
    cases x with
    | tmp t =>
      have hx' : (bif Nat.blt t 1000000 then look env t else (look env t).fact) = .s y := hx
      show (bif Nat.blt t 1000000 then look _ t else (look _ t).fact) = .s y
      cases hb : Nat.blt t 1000000 with
      | false => rw [hb] at hx'; simp only [cond_false] at hx'; cases hl : look env t <;> rw [hl] at hx' <;> cases hx'
      | true =>
        rw [hb] at hx'
        simp only [cond_true] at hx' ⊢
        rw [Nat.blt_eq] at hb
        rw [slots_key (p := .any) hR (fun τ app els _ hl => by rw [hx'] at hl; injection hl with hl; exact hy _ _ _ hl), look_put, if_neg (by omega), look_map (fun p => PV.dropTs (tagsOf cs) p) (dropTs_any _), look_rmS_ne (rmS_of (by omega)), hx', hdy]
    | const v => exact hx
    | global g => exact hx
    | func f => exact hx
  cases c with
  | row t τ els =>
    obtain ⟨rfl, ht⟩ := hs
    obtain ⟨r, h1, h2⟩ := slots_at h ((h, N) :: (rmS [h] env).map (fun p => (p.1, p.2.dropTs (tagsOf cs)))) hR hd he hc
    rw [h1] at hu
    injection hu with hu
    subst hu
    left
    show (bif Nat.blt t 1000000 then look _ t else _) = _
    rw [ht]; exact h2
  | nil =>
    have := (hdrs_get (new := new)).1 hc
    rw [this] at hu
    injection hu with hu
    exact .inr ⟨keep .nil (fun _ _ _ h => nomatch h) (dropTs_nil _) hs, hu.symm⟩
  | v w =>
    have := (hdrs_get (new := new)).2 w hc
    rw [this] at hu
    injection hu with hu
    subst hu
    exact .inl (keep (.v w) (fun _ _ _ h => nomatch h) (calm_dropTs (t := 0) _ rfl) hs)
end

/-! ### slices of slices as values: what operations make of them -/
theorem RepP.nsl_of {T : Nat → BTag} {F : Nat → Nat} {ρ : Nat → Nat × Nat} {w : World} {ev : Operand → PV} {x : Operand} {a : Act} {tag : Option Nat} {rts : List (Option Nat)} {uq : Bool} {k : Nat} {els : List (List EV)} (h : RepP T F ρ w (ev x) (a.eval x)) (hx : ev x = .s (.nsl tag rts uq k els)) :
    ∃ hs A n c, a.eval x = .slice A n c ∧ SlOk T F w tag .no k hs A n c ∧ EVsOk T F w rts els hs ∧ (uq = true → ((A.map (·.block)).toList ++ hs.flatten.filterMap blkV).Nodup) := by rw [hx] at h; exact h
section
variable {P : Program} {ev : Operand → PV} {bx : Nat → Option (List Value)} {d : Option Nat} {ty : TypeId} {pos : String} {aft : Array Edge} {g : Option (Nat × Bool)}
theorem Val.indexN {t e0 k0 by0 : Nat} [hT : TySl P t e0 k0 by0] {x y : Operand} {tag : Option Nat} {rts : List (Option Nat)} {uq : Bool} {els : List (List EV)} {kd : IntKind} {i : Int} (j : Nat) (hx : ev x = .s (.nsl tag rts uq k0 els)) (hy : ev y = .s (.v (.int kd i))) (hij : i = (j : Int)) (hj : j < els.length) :
    Val P ⟨d, .indexAddr t x y, ty, pos, aft, g⟩ ev bx (.nep tag rts k0 els j 0) none :=
  .same fun B T F ρ a w h => by
    subst hij
    obtain ⟨hs, A, n, c, h3, ⟨h4, h5, h5', h6, h7, h8, h9⟩, hev, _⟩ := (h x (by simp [Op.operands])).1.nsl_of hx
    have h2 := rep_v (h y (by simp [Op.operands])).1 hy
    obtain ⟨inf, z, hi, _, hs', _⟩ := hT.info
    have hl := hev.1
    cases A with
    | none => have := (h7 rfl).1; omega
    | some ad =>
      obtain ⟨b, o, sp⟩ := ad
      obtain ⟨q1, q2, q3, q4, q5⟩ := h8 _ rfl
      simp only at q1 q2 q3 q4 q5
      subst q1
      refine ⟨.pointer (some ⟨b, o + j * k0 + 0, none⟩), ?_, hs, ⟨b, o, rfl, q2, q3, by rw [h4] at q4; exact q4, h6, q5⟩, hev⟩
      have hin : (0 : Int) ≤ j ∧ (j : Int) < n := by omega
      simp [execOp, h3, h2, Instr.indexAt, asIntOf, run_underlying hT.und, Go.sizeOf, typeInfo, hi, hs', hin, Addr.add_mid]
      omega
theorem RepP.nep_of {T : Nat → BTag} {F : Nat → Nat} {ρ : Nat → Nat × Nat} {w : World} {x : Operand} {a : Act} {tag : Option Nat} {rts : List (Option Nat)} {k : Nat} {els : List (List EV)} {i j : Nat} (h : RepP T F ρ w (ev x) (a.eval x)) (hx : ev x = .nep tag rts k els i j) :
    ∃ hs, (∃ b o, a.eval x = .pointer (some ⟨b, o + i * k + j, none⟩) ∧ b < w.heap.size ∧ T b = ofTag tag ∧ (tag = none ∨ o + hs.length * k ≤ F b) ∧ (∀ e ∈ hs, e.length = k) ∧ RowAt w b o k hs) ∧ EVsOk T F w rts els hs := by rw [hx] at h; exact h
/-- A plain cell. -/
theorem Val.loadN {t : TypeId} [h1 : TyOne P t] {x : Operand} {tag : Option Nat} {rts : List (Option Nat)} {k : Nat} {els : List (List EV)} {i j : Nat} {e : List EV} {u : Value} (hx : ev x = .nep tag rts k els i j) (he : els[i]? = some e) (hu : e[j]? = some (.v u)) : Val P ⟨d, .load t x, ty, pos, aft, g⟩ ev bx (.s (.v u)) none :=
  .same fun B T F ρ a w h => by
    obtain ⟨hs, ⟨b, o, h3, _, _, _, _, hr⟩, hev⟩ := (h x (by simp [Op.operands])).1.nep_of hx
    have hil : i < hs.length := by rw [hev.1]; exact (List.getElem?_eq_some_iff.1 he).1
    obtain ⟨q1, q2⟩ := hev.2 i e _ he (List.getElem?_eq_getElem hil)
    have hjl : j < hs[i].length := by rw [← q1]; exact (List.getElem?_eq_some_iff.1 hu).1
    have hv : hs[i][j] = u := q2 j _ _ hu (List.getElem?_eq_getElem hjl)
    refine ⟨u, ?_, rfl⟩
    have := run_loadV (w := w) (b := b) (o := o + i * k) (.one h1 (u := u) (off := j) (cs := hs[i]) (by rw [List.getElem?_eq_getElem hjl, hv])) (fun j v hv => hr i j _ v (List.getElem?_eq_getElem hil) hv)
    simp [execOp, h3, Instr.loadAt, Instr.sureAddr, this]
/-- A slice in it. -/
theorem Val.loadNS {t : TypeId} [h1 : TyOne P t] {x : Operand} {tag rt : Option Nat} {k k2 : Nat} {els : List (List EV)} {row : List (List Value)} {i j : Nat} {e : List EV} (hx : ev x = .nep tag [rt] k els i j) (he : els[i]? = some e) (hu : e[j]? = some (.sl k2 row)) : Val P ⟨d, .load t x, ty, pos, aft, g⟩ ev bx (.s (.sl rt .no k2 row)) none :=
  .same fun B T F ρ a w h => by
    obtain ⟨hs, ⟨b, o, h3, _, _, _, _, hr⟩, hev⟩ := (h x (by simp [Op.operands])).1.nep_of hx
    have hil : i < hs.length := by rw [hev.1]; exact (List.getElem?_eq_some_iff.1 he).1
    obtain ⟨q1, q2⟩ := hev.2 i e _ he (List.getElem?_eq_getElem hil)
    have hjl : j < hs[i].length := by rw [← q1]; exact (List.getElem?_eq_some_iff.1 hu).1
    obtain ⟨tg, hm, A, n, c, hv, hsl⟩ := q2 j _ _ hu (List.getElem?_eq_getElem hjl)
    rw [List.mem_singleton] at hm
    subst hm
    refine ⟨hs[i][j], ?_, A, n, c, hv, hsl⟩
    have := run_loadV (w := w) (b := b) (o := o + i * k) (.one h1 (u := hs[i][j]) (off := j) (cs := hs[i]) (by rw [List.getElem?_eq_getElem hjl])) (fun j v hv => hr i j _ v (List.getElem?_eq_getElem hil) hv)
    simp [execOp, h3, Instr.loadAt, Instr.sureAddr, this]
theorem Val.fieldN {t f off0 : Nat} [TyField P t f off0] {x : Operand} {tag : Option Nat} {rts : List (Option Nat)} {k : Nat} {els : List (List EV)} {i j : Nat} (hx : ev x = .nep tag rts k els i j) : Val P ⟨d, .fieldAddr t x f, ty, pos, aft, g⟩ ev bx (.nep tag rts k els i (j + off0)) none :=
  .same fun B T F ρ a w h => by
    obtain ⟨hs, ⟨b, o, h3, q⟩, hev⟩ := (h x (by simp [Op.operands])).1.nep_of hx
    exact ⟨.pointer (some ⟨b, o + i * k + j + off0, none⟩), by simp [execOp, h3, run_fieldAt (P := P) (t := t) (f := f) (off := off0)], hs, ⟨b, o, by simp [Nat.add_assoc], q⟩, hev⟩
theorem Val.lenNs {t e0 k0 by0 : Nat} [hT : TySl P t e0 k0 by0] {x : Operand} {ats : Array TypeId} {tag : Option Nat} {rts : List (Option Nat)} {uq : Bool} {k : Nat} {els : List (List EV)} (hx : ev x = .s (.nsl tag rts uq k els)) (ht : ats = #[t]) :
    Val P ⟨d, .call ⟨.builtin .len, #[x], ats⟩, ty, pos, aft, g⟩ ev bx (.s (.v (.int .i64 els.length))) none :=
  .same fun B T F ρ a w h => by
    subst ht
    obtain ⟨hs, A, n, c, h3, h4, hev, _⟩ := (h x (by simp [Op.operands, Call.operands])).1.nsl_of hx
    refine ⟨.int .i64 n, ?_, by rw [h4.1, hev.1]; rfl⟩
    simp [execOp, resolve, invoke, builtin, Builtin.len_, run_underlying hT.und, h3, goInt]
theorem EVsOk.take {T : Nat → BTag} {F : Nat → Nat} {w : World} {rts : List (Option Nat)} {els : List (List EV)} {hs : List (List Value)} (l : Nat) (h : EVsOk T F w rts els hs) : EVsOk T F w rts (els.take l) (hs.take l) := by
  refine ⟨by simp [h.1], fun i e y he hy => ?_⟩
  rw [List.getElem?_take] at he hy
  split at he
  · rename_i hl
    rw [if_pos hl] at hy
    exact h.2 i e y he hy
  · cases he
end
section
variable {dr : Bool} {P : Program} {ops : Array Oper} {rest : List Oper} {env : List (Nat × PV)} {bs : List (Nat × List Value)} {K : St → Prop} {d : Nat} {op : Op} {ty : TypeId} {pos : String} {aft : Array Edge} {g : Option (Nat × Bool)}
theorem Hu.ofFix {o : Oper} {ev : Operand → PV} {bx : Nat → Option (List Value)} {nb : Option (Nat × List Value)} {pv : PV} (hp : ∀ σ, pv.un σ = pv) (h : ∀ σs, Val P o (unE σs ev) bx pv nb) : Hu P o ev bx pv nb := .ofNew h fun σ _ => hp (some σ)
theorem RunK.indexN {t e0 k0 by0 : Nat} [hT : TySl P t e0 k0 by0] {x y : Operand} {tag : Option Nat} {rts : List (Option Nat)} {uq : Bool} {els : List (List EV)} {kd : IntKind} {i : Int} {j : Nat} (hw : wantedS ops ⟨env, bs⟩ ⟨some d, .indexAddr t x y, ty, pos, aft, g⟩ = some true) (hx : (St.mk env bs).ev x = .s (.nsl tag rts uq k0 els)) (hy : (St.mk env bs).ev y = .s (.v (.int kd i))) (hij : i = (j : Int)) (hj : j < els.length)
    (k : RunK dr P ops rest ⟨(d, .nep tag rts k0 els j 0) :: env, bs⟩ K) : RunK dr P ops (⟨some d, .indexAddr t x y, ty, pos, aft, g⟩ :: rest) ⟨env, bs⟩ K :=
  .val rfl rfl hw (.ofFix (fun _ => rfl) fun σs => Val.indexN j (unE_nsl σs hx) (unE_v σs hy) hij hj) k
theorem RunK.loadNv {t : TypeId} [h1 : TyOne P t] {x : Operand} {tag : Option Nat} {rts : List (Option Nat)} {k0 : Nat} {els : List (List EV)} {i j : Nat} {e : List EV} {u : Value} (hw : wantedS ops ⟨env, bs⟩ ⟨some d, .load t x, ty, pos, aft, g⟩ = some true) (hx : (St.mk env bs).ev x = .nep tag rts k0 els i j) (he : els[i]? = some e) (hu : e[j]? = some (.v u))
    (k : RunK dr P ops rest ⟨(d, .s (.v u)) :: env, bs⟩ K) : RunK dr P ops (⟨some d, .load t x, ty, pos, aft, g⟩ :: rest) ⟨env, bs⟩ K :=
  .val rfl rfl hw (.ofV fun σs => Val.loadN (unE_nep σs hx) he hu) k
theorem RunK.loadNS {t : TypeId} [h1 : TyOne P t] {x : Operand} {tag rt : Option Nat} {k0 k2 : Nat} {els : List (List EV)} {row : List (List Value)} {i j : Nat} {e : List EV} (hw : wantedS ops ⟨env, bs⟩ ⟨some d, .load t x, ty, pos, aft, g⟩ = some true) (hx : (St.mk env bs).ev x = .nep tag [rt] k0 els i j) (he : els[i]? = some e) (hu : e[j]? = some (.sl k2 row))
    (k : RunK dr P ops rest ⟨(d, .s (.sl rt .no k2 row)) :: env, bs⟩ K) : RunK dr P ops (⟨some d, .load t x, ty, pos, aft, g⟩ :: rest) ⟨env, bs⟩ K :=
  .val rfl rfl hw (Hu.ofFix (pv := .s (.sl rt .no k2 row)) (fun σ => congrArg PV.s (SV.un_no σ rt k2 row)) fun σs => Val.loadNS (unE_nep σs hx) he hu) k
theorem RunK.fieldN {t f off0 : Nat} [hT : TyField P t f off0] {x : Operand} {tag : Option Nat} {rts : List (Option Nat)} {k0 : Nat} {els : List (List EV)} {i j : Nat} (hw : wantedS ops ⟨env, bs⟩ ⟨some d, .fieldAddr t x f, ty, pos, aft, g⟩ = some true) (hx : (St.mk env bs).ev x = .nep tag rts k0 els i j)
    (k : RunK dr P ops rest ⟨(d, .nep tag rts k0 els i (j + off0)) :: env, bs⟩ K) : RunK dr P ops (⟨some d, .fieldAddr t x f, ty, pos, aft, g⟩ :: rest) ⟨env, bs⟩ K :=
  .val rfl rfl hw (.ofFix (fun _ => rfl) fun σs => Val.fieldN (unE_nep σs hx)) k
theorem RunK.lenNs {t e0 k0 by0 : Nat} [hT : TySl P t e0 k0 by0] {x : Operand} {tag : Option Nat} {rts : List (Option Nat)} {uq : Bool} {k1 : Nat} {els : List (List EV)} (hw : wantedS ops ⟨env, bs⟩ ⟨some d, .call ⟨.builtin .len, #[x], #[t]⟩, ty, pos, aft, g⟩ = some true) (hx : (St.mk env bs).ev x = .s (.nsl tag rts uq k1 els))
    (k : RunK dr P ops rest ⟨(d, .s (.v (.int .i64 els.length))) :: env, bs⟩ K) : RunK dr P ops (⟨some d, .call ⟨.builtin .len, #[x], #[t]⟩, ty, pos, aft, g⟩ :: rest) ⟨env, bs⟩ K :=
  .val rfl rfl hw (.ofV fun σs => Val.lenNs (unE_nsl σs hx) rfl) k
theorem RunK.moveNs {x : Operand} {tag : Option Nat} {rts : List (Option Nat)} {uq : Bool} {k0 : Nat} {els : List (List EV)} (hw : wantedS ops ⟨env, bs⟩ ⟨some d, .move x, ty, pos, aft, g⟩ = some true) (hx : (St.mk env bs).ev x = .s (.nsl tag rts uq k0 els)) (k : RunK dr P ops rest ⟨(d, .s (.nsl tag rts uq k0 els)) :: env, bs⟩ K) : RunK dr P ops (⟨some d, .move x, ty, pos, aft, g⟩ :: rest) ⟨env, bs⟩ K :=
  .val rfl rfl hw (.ofCopy hx (by simp [Op.operands]) (fun _ => Val.move)) k
theorem RunK.assignNs {x : Operand} {tag : Option Nat} {rts : List (Option Nat)} {uq : Bool} {k0 : Nat} {els : List (List EV)} (hw : wantedS ops ⟨env, bs⟩ ⟨some d, .assign x, ty, pos, aft, g⟩ = some true) (hx : (St.mk env bs).ev x = .s (.nsl tag rts uq k0 els)) (k : RunK dr P ops rest ⟨(d, .s (.nsl tag rts uq k0 els)) :: env, bs⟩ K) : RunK dr P ops (⟨some d, .assign x, ty, pos, aft, g⟩ :: rest) ⟨env, bs⟩ K :=
  .val rfl rfl hw (.ofCopy hx (by simp [Op.operands]) (fun _ => Val.assign)) k
end

/-! ### nests and values -/
/-! ### tags are laid together -/
def mgT (τs : List Nat) (σ : Option Nat) : Option Nat → Option Nat
  | some t => bif τs.any (Nat.beq t) then σ else some t
  | none => none
def mgA (τs : List Nat) (tag : Option Nat) (app : App) : App := match tag with
  | some t => bif τs.any (Nat.beq t) then .no else app
  | none => app
def SV.mg (τs : List Nat) (σ : Option Nat) : SV → SV
  | .sl tag app k els => .sl (mgT τs σ tag) (mgA τs tag app) k els
  | .nsl tag rts uq k els => .nsl (mgT τs σ tag) (rts.map (mgT τs σ)) uq k els
  | .ag rts e => .ag (rts.map (mgT τs σ)) e
  | x => x
def PV.mg (τs : List Nat) (σ : Option Nat) : PV → PV
  | .s x => .s (x.mg τs σ)
  | .tup xs => .tup (xs.map (·.mg τs σ))
  | .elp tag k els i j => .elp (mgT τs σ tag) k els i j
  | .hd v x => .hd v (x.mg τs σ)
  | .hds tag k l => .hds (mgT τs σ tag) k l
  | .nep tag rts k els i j => .nep (mgT τs σ tag) (rts.map (mgT τs σ)) k els i j
  | p => p
def mgB (τs : List Nat) (σ : Option Nat) : BTag → BTag
  | .row t => bif τs.any (Nat.beq t) then ofTag σ else .row t
  | x => x
theorem mgB_of (τs : List Nat) (σ tag : Option Nat) : mgB τs σ (ofTag tag) = ofTag (mgT τs σ tag) := by
  cases tag with
  | none => rfl
  | some t => show (bif _ then _ else _) = ofTag (bif _ then _ else _); cases τs.any (Nat.beq t) <;> rfl
theorem mgT_none {τs : List Nat} {σ tag : Option Nat} (h : tag = none) : mgT τs σ tag = none := by subst h; rfl
section
variable {T : Nat → BTag} {F : Nat → Nat} {ρ : Nat → Nat × Nat} {w : World} (τs : List Nat) (σ : Option Nat)
theorem SlOk.mg {tag : Option Nat} {app : App} {k : Nat} {els : List (List Value)} {A : Option Addr} {n c : Nat} (h : SlOk T F w tag app k els A n c) : SlOk (fun b => mgB τs σ (T b)) F w (mgT τs σ tag) (mgA τs tag app) k els A n c := by
  obtain ⟨s1, s2, s3, s4, s5, s6, s7, s8⟩ := h
  refine ⟨s1, s2, s3, s4, s5, fun ad hA => ?_, ?_, ?_⟩
  · obtain ⟨q1, q2, q3, q4, q5⟩ := s6 ad hA
    exact ⟨q1, q2, by show mgB τs σ (T ad.block) = _; rw [q3, mgB_of], q4.imp mgT_none id, q5⟩
  · cases tag with
    | none => exact s7
    | some t =>
      show AppOk w F (bif τs.any (Nat.beq t) then σ else some t) A n c k (bif τs.any (Nat.beq t) then .no else app)
      cases τs.any (Nat.beq t) with
      | true => trivial
      | false => exact s7
  · exact s8.imp mgT_none id
theorem mgA_no (tag : Option Nat) : mgA τs tag .no = .no := by
  cases tag with
  | none => rfl
  | some t => show (bif _ then _ else _) = _; cases τs.any (Nat.beq t) <;> rfl
theorem SlOk.mgN {tag : Option Nat} {k : Nat} {els : List (List Value)} {A : Option Addr} {n c : Nat} (h : SlOk T F w tag .no k els A n c) : SlOk (fun b => mgB τs σ (T b)) F w (mgT τs σ tag) .no k els A n c := by
  have := h.mg τs σ
  rwa [mgA_no] at this
theorem RepS.mg {x : SV} {u : Value} (h : RepS T F w x u) : RepS (fun b => mgB τs σ (T b)) F w (x.mg τs σ) u := by
  cases x with
  | v x => exact h
  | nil => exact h
  | sl tag app k els =>
    obtain ⟨A, n, c, hu, h1⟩ := h
    exact ⟨A, n, c, hu, h1.mg τs σ⟩
  | nsl tag rts uq k els =>
    obtain ⟨hs, A, n, c, hu, h1, h2, h3⟩ := h
    exact ⟨hs, A, n, c, hu, h1.mgN τs σ, h2.map (mgT τs σ) (fun t ht => List.mem_map_of_mem ht) (fun tag k els A n c _ h => h.mgN τs σ), h3⟩
  | ag rts e =>
    obtain ⟨hs, hu, h2⟩ := h
    exact ⟨hs, hu, h2.map (mgT τs σ) (fun t ht => List.mem_map_of_mem ht) (fun tag k els A n c _ h => h.mgN τs σ)⟩
theorem RepP.mg {p : PV} {u : Value} (h : RepP T F ρ w p u) : RepP (fun b => mgB τs σ (T b)) F ρ w (p.mg τs σ) u := by
  cases p with
  | any => trivial
  | s x => exact RepS.mg τs σ h
  | tup xs =>
    obtain ⟨vs, hu, hl, hr⟩ := h
    refine ⟨vs, hu, by simpa using hl, fun i x y hx hy => ?_⟩
    rw [List.getElem?_map] at hx
    cases hxi : xs[i]? with
    | none => rw [hxi] at hx; cases hx
    | some x0 =>
      rw [hxi] at hx
      injection hx with hx
      subst hx
      exact RepS.mg τs σ (hr i x0 y hxi hy)
  | box id off => exact h
  | elp tag k els i j =>
    obtain ⟨b, o, hu, q2, q3, q4, q5⟩ := h
    exact ⟨b, o, hu, q2, by show mgB τs σ (T b) = _; rw [q3, mgB_of], q4.imp mgT_none id, q5⟩
  | bsl id off k n =>
    rcases h with h | ⟨c, cur, e, h1, h2, h3, h4, h5, h6, h7⟩
    · exact .inl h
    · exact .inr ⟨c, cur, e, h1, h2, h3, h4, by show mgB τs σ (T _) = _; rw [h5]; rfl, h6, h7⟩
  | hd v x => exact RepS.mg τs σ h
  | hs v id off k n =>
    rcases h with h | ⟨c, cur, e, h1, h2, h3, h4, h5, h6, h7⟩
    · exact .inl h
    · exact .inr ⟨c, cur, e, h1, h2, h3, h4, by show mgB τs σ (T _) = _; rw [h5]; rfl, h6, h7⟩
  | hb v id off => exact h
  | kept b o => exact ⟨by show mgB τs σ (T b) = _; rw [h.1]; rfl, h.2⟩
  | old W B => exact ⟨fun c hc hB => let ⟨q1, q2⟩ := h.1 c hc hB; ⟨by show mgB τs σ (T c) = _; rw [q1]; rfl, q2⟩, h.2⟩
  | hds tag k l =>
    intro p hp
    have := RepS.mg τs σ (h p hp)
    simp only [SV.mg] at this
    rwa [mgA_no] at this
  | nest g k rows => exact NestOk.tags h fun b hb => by show mgB τs σ (T b) = _; rw [hb]; rfl
  | nep tag rts k els i j =>
    obtain ⟨hs, ⟨b, o, hu, q2, q3, q4, q5⟩, hv⟩ := h
    exact ⟨hs, ⟨b, o, hu, q2, by show mgB τs σ (T b) = _; rw [q3, mgB_of], q4.imp mgT_none id, q5⟩, hv.map (mgT τs σ) (fun t ht => List.mem_map_of_mem ht) (fun tag k els A n c _ h => h.mgN τs σ)⟩
  | clo f caps => exact h
end
/-- Tags are laid together, or let go. -/
theorem Turns.mg {env : List (Nat × PV)} {bs : List (Nat × List Value)} (τs : List Nat) (σ : Option Nat) : Turns ⟨env, bs⟩ (Eq ⟨env.map (fun p => (p.1, p.2.mg τs σ)), bs⟩) := by
  rintro w0 m a w ⟨T, F, ρ, hr⟩
  refine ⟨_, rfl, fun b => mgB τs σ (T b), F, ρ, hr.defers, hr.size, hr.small, hr.below, fun b hb => by show mgB τs σ (T b) = _; rw [hr.ext b hb]; rfl, fun u => ?_, fun id cs hid hne => ?_⟩
  · show RepP _ F ρ w (look (env.map (fun p => (p.1, p.2.mg τs σ))) u) _
    rw [look_map (fun p => PV.mg τs σ p) rfl]
    exact RepP.mg τs σ (hr.env u)
  · obtain ⟨b1, b2, b3, r⟩ := hr.boxes id cs hid hne
    exact ⟨b1, b2, by show mgB τs σ (T _) = _; rw [b3]; rfl, r⟩
/-! ### headers in sight -/
/-! ### literals of slices of slices, as values -/
/-- The parts: slices, nil, plain values. τ: the tag that nil is said to have. -/
inductive PartsE (τ : Nat) (ev : Operand → PV) : List (Nat × Operand) → List EV → List (Option Nat) → Prop
  | nil : PartsE τ ev [] [] []
  | sl {i : Nat} {x : Operand} {tag : Option Nat} {app : App} {k : Nat} {els : List (List Value)} {ps : List (Nat × Operand)} {es : List EV} {ts : List (Option Nat)} (h : ev x = .s (.sl tag app k els)) (r : PartsE τ ev ps es ts) : PartsE τ ev ((i, x) :: ps) (.sl k els :: es) (tag :: ts)
  | nl {i : Nat} {x : Operand} {ps : List (Nat × Operand)} {es : List EV} {ts : List (Option Nat)} (h : ev x = .s .nil) (r : PartsE τ ev ps es ts) : PartsE τ ev ((i, x) :: ps) (.sl 1 [] :: es) (some τ :: ts)
theorem PartsE.un {τ : Nat} {ev : Operand → PV} (σs : List Nat) : ∀ {ps : List (Nat × Operand)} {es : List EV} {ts : List (Option Nat)}, PartsE τ ev ps es ts → PartsE τ (unE σs ev) ps es ts
  | _, _, _, .nil => .nil
  | _, _, _, .sl h r => .sl (unE_s σs h) (r.un σs)
  | _, _, _, .nl h r => .nl (unE_n σs h) (r.un σs)
theorem PartsE.len {τ : Nat} {ev : Operand → PV} : ∀ {ps : List (Nat × Operand)} {es : List EV} {ts : List (Option Nat)}, PartsE τ ev ps es ts → es.length = ps.length
  | _, _, _, .nil => rfl
  | _, _, _, .sl _ r => by simp [r.len]
  | _, _, _, .nl _ r => by simp [r.len]
theorem EVRep.sub {T : Nat → BTag} {F : Nat → Nat} {w : World} {rts rts' : List (Option Nat)} (hs : ∀ t ∈ rts, t ∈ rts') {x : EV} {u : Value} (h : EVRep T F w rts x u) : EVRep T F w rts' x u := by
  cases x with
  | v x => exact h
  | sl k els =>
    obtain ⟨tag, hm, r⟩ := h
    exact ⟨tag, hs tag hm, r⟩
theorem PartsE.rep {τ : Nat} {ev : Operand → PV} {T : Nat → BTag} {F : Nat → Nat} {ρ : Nat → Nat × Nat} {w : World} {a : Act} : ∀ {ps : List (Nat × Operand)} {es : List EV} {ts : List (Option Nat)}, PartsE τ ev ps es ts → (∀ p ∈ ps, RepP T F ρ w (ev p.2) (a.eval p.2)) →
    (∀ p ∈ ps, (a.eval p.2).cells.toList = [a.eval p.2]) ∧ ∀ (i : Nat) (e : EV) (p : Nat × Operand), es[i]? = some e → ps[i]? = some p → EVRep T F w ts e (a.eval p.2)
  | _, _, _, .nil, _ => ⟨fun p hp => (by cases hp), fun i e p he => (by simp at he)⟩
  | _, _, _, .sl (x := x) (tag := tag) (app := app) (k := k) (els := els) h r, hr => by
    obtain ⟨q1, q2⟩ := r.rep fun p hp => hr p (List.mem_cons_of_mem _ hp)
    have h0 := hr _ (List.mem_cons_self ..)
    simp only [h] at h0
    obtain ⟨A, n, c, hu, hs⟩ := h0
    refine ⟨fun p hp => ?_, fun i e p he hp => ?_⟩
    · rcases List.mem_cons.1 hp with rfl | hp
      · show (a.eval x).cells.toList = [a.eval x]
        rw [hu]; rfl
      · exact q1 p hp
    · cases i with
      | zero =>
        simp only [List.getElem?_cons_zero, Option.some.injEq] at he hp
        subst he hp
        exact ⟨tag, List.mem_cons_self .., A, n, c, hu, hs.toNo⟩
      | succ i => exact (q2 i e p (by simpa using he) (by simpa using hp)).sub fun t ht => List.mem_cons_of_mem _ ht
  | _, _, _, .nl (x := x) h r, hr => by
    obtain ⟨q1, q2⟩ := r.rep fun p hp => hr p (List.mem_cons_of_mem _ hp)
    have h0 := hr _ (List.mem_cons_self ..)
    simp only [h] at h0
    have hu : a.eval x = .slice none 0 0 := h0
    refine ⟨fun p hp => ?_, fun i e p he hp => ?_⟩
    · rcases List.mem_cons.1 hp with rfl | hp
      · show (a.eval x).cells.toList = [a.eval x]
        rw [hu]; rfl
      · exact q1 p hp
    · cases i with
      | zero =>
        simp only [List.getElem?_cons_zero, Option.some.injEq] at he hp
        subst he hp
        exact ⟨some τ, List.mem_cons_self .., none, 0, 0, hu, SlOk.toNil _ _ _⟩
      | succ i => exact (q2 i e p (by simpa using he) (by simpa using hp)).sub fun t ht => List.mem_cons_of_mem _ ht
section
variable {P : Program} {ev : Operand → PV} {bx : Nat → Option (List Value)} {d : Option Nat} {ty : TypeId} {pos : String} {aft : Array Edge} {g : Option (Nat × Bool)}
end
section
variable {dr : Bool} {P : Program} {ops : Array Oper} {rest : List Oper} {env : List (Nat × PV)} {bs : List (Nat × List Value)} {K : St → Prop} {d : Nat} {op : Op} {ty : TypeId} {pos : String} {aft : Array Edge} {g : Option (Nat × Bool)}
end
section
variable {P : Program} {s : St}
end

section
variable {dr : Bool} {P : Program} {ops : Array Oper} {rest : List Oper} {env : List (Nat × PV)} {bs : List (Nat × List Value)} {K : St → Prop} {d : Nat} {op : Op} {ty : TypeId} {pos : String} {aft : Array Edge} {g : Option (Nat × Bool)}
end

section
variable {P : Program} {ev : Operand → PV} {bx : Nat → Option (List Value)} {d : Option Nat} {ty : TypeId} {pos : String} {aft : Array Edge} {g : Option (Nat × Bool)}
end
section
variable {dr : Bool} {P : Program} {ops : Array Oper} {rest : List Oper} {env : List (Nat × PV)} {bs : List (Nat × List Value)} {K : St → Prop} {d : Nat} {op : Op} {ty : TypeId} {pos : String} {aft : Array Edge} {g : Option (Nat × Bool)}
end
end Go.Proofs.Ytfacimebfdeaeaa.Pv
