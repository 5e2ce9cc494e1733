/- The machine of values: stores in any order. No condition. -/
import Derived.Test.YtfacimebfdeaeaaPvC
import Derived.RangeFuncRecord
import Derived.RangeFuncCalls
namespace Go.Proofs.Ytfacimebfdeaeaa.Pv
open Go Go.RowKit
/-! ### a drawn region, order by order -/
section
variable {P : Program} {ops : Array Oper} {md : Region.Mode} {K : St → Prop}
theorem run_nil {Kn : St → Prop} (hK : ∀ s s', Eqv s s' → Kn s → Kn s') : ∀ {l : List Oper} {s : St}, Run true P ops Kn l s → l = [] → Kn s := by
  intro l s h
  induction h with
  | nil h => intro _; exact h
  | eqv he _ ih => intro hl; exact hK _ _ ⟨fun t => (he.1 t).symm, fun id => (he.2 id).symm⟩ (ih hl)
  | weak hd => cases hd
  | effI hd => cases hd
  | val => intro hl; cases hl
  | skip => intro hl; cases hl
  | app => intro hl; cases hl
  | eff => intro hl; cases hl
def noApp (o : Oper) : Bool := match o.op with | .call ⟨.builtin .append, _, _⟩ => false | _ => true
theorem stepA_of_run {Kn : St → Prop} (i : Nat) {o : Oper} (hna : noApp o = true) (hK : ∀ s s', Eqv s s' → Kn s → Kn s') : ∀ {l : List Oper} {s : St}, Run true P ops Kn l s → Wf s → l = [o] → StepA P ops i o s Kn := by
  intro l s h
  induction h with
  | nil h => intro _ hl; cases hl
  | @eqv l s s1 he _ ih => intro hw hl; exact (ih (he.wf hw) hl).eqv ⟨fun t => (he.1 t).symm, fun id => (he.2 id).symm⟩ hK
  | weak hd => cases hd
  | effI hd => cases hd
  | @val o' rest s pv nb hw h hf hp he k _ => intro _ hl; injection hl with h1 h2; subst h1 h2; exact .inl ⟨pv, nb, hw, he, h, fun p hp => (fresh_of hf p hp).1, hp, run_nil hK k rfl⟩
  | @skip o' rest s hw he k _ => intro _ hl; injection hl with h1 h2; subst h1 h2; exact .inr (.inl ⟨hw, he, run_nil hK k rfl⟩)
  | @app o' rest s s1 hw he h k _ =>
    intro _ hl; injection hl with h1 h2; subst h1
    obtain ⟨t, e, k', bytes, x, y, τ, els, els2, hT, ho, _⟩ := h
    unfold noApp at hna
    rw [ho] at hna
    cases hna
  | @eff o' rest s S hw h he k _ =>
    intro hwf hl; injection hl with h1 h2; subst h1 h2
    obtain ⟨e1, e2⟩ := he rfl
    exact .inr (.inr (.inr ⟨hw, e1, S, fun s1 hs => ⟨fun _ => (e2 s1 hs).1 hwf, (e2 s1 hs).2⟩, h.toR, fun s1 hs => run_nil hK (k s1 hs) rfl⟩))
inductive AllJ (p : Nat → Prop) : List Nat → Prop
  | nil : AllJ p []
  | cons {j : Nat} {l : List Nat} (h : p j) (t : AllJ p l) : AllJ p (j :: l)
theorem AllJ.mem {p : Nat → Prop} : ∀ {l : List Nat}, AllJ p l → ∀ j ∈ l, p j
  | _, .nil, j, hj => by cases hj
  | _, .cons h t, j, hj => by
    rcases List.mem_cons.1 hj with rfl | hj
    · exact h
    · exact t.mem j hj
/-- One more operation, whichever comes. -/
def OneA (P : Program) (ops : Array Oper) (K : St → Prop) (fuel : Nat) (listed : Array Bool) (s : St) (j : Nat) : Prop := ∃ o, ops[j]? = some o ∧ noApp o = true ∧ RunK true P ops [o] s (AnyA P .any ops K fuel (listed.setIfInBounds j true))
theorem AnyA.go {fuel : Nat} {listed : Array Bool} {s : St} (js : List Nat) (hK : ∀ s s', Eqv s s' → K s → K s') (hw : Wf s) (hr : Region.ready .any ops listed = js) (hne : js.isEmpty = false) (h : AllJ (OneA P ops K fuel listed s) js) : AnyA P .any ops K (fuel + 1) listed s := by
  refine ⟨fun h0 => (by rw [hr] at h0; subst h0; cases hne), fun i hi => ?_⟩
  rw [hr] at hi
  obtain ⟨o, h1, h2, h3⟩ := h.mem i hi
  rw [h1]
  exact stepA_of_run i h2 (AnyA.eqv hK fuel _) h3 hw rfl
theorem AnyA.fin {listed : Array Bool} {s : St} (hr : Region.ready .any ops listed = []) (h : K s) : AnyA P .any ops K 0 listed s := ⟨hr, h⟩
theorem Wt.regionA {w0 : Base} {n : Nat} {s : St} {N R : St → Prop} {X : Nat → St → Prop} {i : Nat} {l : List Oper} (hm : P.follows .mixedOrders = true) (hd : dstsOk n l = true) (hw : wfB s = true)
    (h : ∀ K : St → Prop, (∀ s s', Eqv s s' → K s → K s') → (∀ s, N s → K s) → AnyA P .any l.toArray K l.length (Array.replicate l.toArray.size false) s) : Wt P w0 n (.region i l.toArray true) s N R X := fun a w hr => by
  refine wp_region_any hm ?_
  have hr' : RS w0 n s a { w with drawn := w.drawn + 1 } := by
    obtain ⟨T, F, ρ, hx⟩ := hr
    obtain ⟨hg, hE⟩ := Goes.of_below (T := T) (F := F) (w := w) (w' := { w with drawn := w.drawn + 1 }) ⟨rfl, rfl, rfl, Nat.le_refl _, fun _ _ => rfl⟩ (fun _ _ => ⟨rfl, rfl⟩)
    exact ⟨T, F, ρ, hx.defers, hx.size, hx.small, hx.below.drew, hx.ext, fun t => (hx.env t).goes0 hg hE (fun _ _ => rfl), fun id cs hc => hx.boxes id cs hc⟩
  have hdn : ∀ (i : Nat) (o : Oper), l.toArray[i]? = some o → ∀ d, o.dst = some d → d < n := fun i o ho d hd' => by
    have hmem : o ∈ l := by
      have : l[i]? = some o := by simpa using ho
      exact List.mem_of_getElem? this
    have := List.all_eq_true.1 hd o hmem
    rw [hd', Bool.and_eq_true] at this
    exact (Nat.blt_eq ▸ this.1)
  have hA := h (fun s => ∀ a w, RS w0 n s a w → ∃ s', N s' ∧ RS w0 n s' a w) (fun s s' he hk a w hr => hk a w (he.symm.rs hr)) (fun s' h2 a w hr => ⟨s', h2, hr⟩)
  have := wpAny_of_A (w0 := w0) (n := n) (Q := Post w0 n N R X) hdn (fun s hk a w hr => hk a w hr) l.length (Array.replicate l.toArray.size false) s (wf_of hw) hA a _ hr'
  simpa using this
end
/-- Put off. -/
structure Stop (p : Prop) : Prop where
  of ::
  h : p
/-- Here is a call of a value: the run stands still. -/
theorem RunK.stop {P : Program} {ops : Array Oper} {rest : List Oper} {s : St} {K : St → Prop} {d t : Nat} {xs : Array Operand} {ats : Array TypeId} {ty : TypeId} {pos : String} {aft : Array Edge} {g : Option (Nat × Bool)} (_hw : wantedS ops s ⟨some d, .call ⟨.value (.tmp t), xs, ats⟩, ty, pos, aft, g⟩ = some true)
    (k : Stop (RunK false P ops (⟨some d, .call ⟨.value (.tmp t), xs, ats⟩, ty, pos, aft, g⟩ :: rest) s K)) : RunK false P ops (⟨some d, .call ⟨.value (.tmp t), xs, ats⟩, ty, pos, aft, g⟩ :: rest) s K := k.h
end Go.Proofs.Ytfacimebfdeaeaa.Pv
