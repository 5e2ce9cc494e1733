/- The machine of values: a field of a value. No condition. -/
import Derived.Test.YtonangdimkgdpaaPvM
namespace Go.Proofs.Ytonangdimkgdpaa.Pv
open Go Go.RowKit
/-! ### a field of a value -/
theorem run_part_row {P : Program} {t m : Nat} (h : TyRow P t m) {cs : Array Value} {off : Nat} {w : World} : (part t cs off).run P w = .ok (.agg (cs.extract off (off + m))) w := by
  obtain ⟨d, hd, hr⟩ := h.und
  obtain ⟨inf, hi, hs⟩ := Option.map_eq_some_iff.1 h.size
  have hagg : (isAgg t).run P w = .ok true w := by
    unfold isAgg
    rw [Sem.run_bind, run_underlying hd w]
    cases d <;> simp_all [TypeDesc.isRow]
  simp [part, hagg, Go.sizeOf, typeInfo, hi, hs]
theorem Val.fieldR {P : Program} {ev : Operand → PV} {bx : Nat → Option (List Value)} {d : Option Nat} {ty : TypeId} {pos : String} {aft : Array Edge} {g : Option (Nat × Bool)} {t f m : Nat} {fs : Array Field} {fd : Field} (hu : P.underlying t = some (.struct fs)) (hf : fs[f]? = some fd) (h : TyRow P fd.type m) {x : Operand} {cs : Array Value} (hx : ev x = .s (.v (.agg cs))) :
    Val P ⟨d, .field t x f, ty, pos, aft, g⟩ ev bx (.s (.v (.agg (cs.extract fd.offset (fd.offset + m))))) none :=
  .same fun B T F ρ a w h0 => by
    have hv := rep_v (h0 x (by simp [Op.operands])).1 hx
    refine ⟨.agg (cs.extract fd.offset (fd.offset + m)), ?_, rfl⟩
    simp [execOp, hv, Instr.field, run_underlying hu, hf, asAgg, run_part_row h]
theorem RunK.fieldR {dr : Bool} {P : Program} {ops : Array Oper} {rest : List Oper} {env : List (Nat × PV)} {bs : List (Nat × List Value)} {K : St → Prop} {d : Nat} {ty : TypeId} {pos : String} {aft : Array Edge} {g : Option (Nat × Bool)} {t f m : Nat} {fs : Array Field} (hu : P.underlying t = some (.struct fs)) (ft o : Nat) [h : TyRow P ft m] (hf : fs[f]?.map (fun fd => (fd.type, fd.offset)) = some (ft, o)) {x : Operand} {cs : Array Value} (l : List Value)
    (hw : wantedS ops ⟨env, bs⟩ ⟨some d, .field t x f, ty, pos, aft, g⟩ = some true) (hx : (St.mk env bs).ev x = .s (.v (.agg cs))) (hl : cs.extract o (o + m) = l.toArray) (r : RunK dr P ops rest ⟨(d, .s (.v (.agg l.toArray))) :: env, bs⟩ K) :
    RunK dr P ops (⟨some d, .field t x f, ty, pos, aft, g⟩ :: rest) ⟨env, bs⟩ K := by
  obtain ⟨fd, h1, h2⟩ := Option.map_eq_some_iff.1 hf
  injection h2 with h2 h3
  subst h2 h3
  exact .val rfl rfl hw (.ofV fun σs => hl ▸ Val.fieldR hu h1 h (unE_v σs hx)) r
/-! ### a drawn region: its first operations as they stand, the rest order by order -/
section
variable {P : Program} {ops : Array Oper} {md : Region.Mode} {K : St → Prop}
def plainCall (o : Oper) : Bool := match o.op with | .call ⟨.builtin _, _, _⟩ => false | _ => true
def setN : Nat → Nat → Array Bool → Array Bool
  | 0, _, listed => listed
  | fuel + 1, k, listed => setN fuel (k + 1) (listed.setIfInBounds k true)
def lexP (md : Region.Mode) (ops : Array Oper) : Nat → Nat → Array Bool → Bool
  | 0, _, _ => true
  | fuel + 1, k, listed => (Region.ready md ops listed).contains k && freeA md ops listed k && lexP md ops fuel (k + 1) (listed.setIfInBounds k true)
theorem AnyA.lexP (hV : ∀ (i : Nat) (o : Oper), ops[i]? = some o → ∀ d, o.dst = some d → d < 1000000) (hK : ∀ s s', Eqv s s' → K s → K s') (m : Nat) (LF : Array Bool) : ∀ {l : List Oper} {s : St}, Run true P ops (AnyA P md ops K m LF) l s → l.all plainCall = true → ∀ (k : Nat) (listed : Array Bool), Wf s → (∀ j, j < k → listed.getD j true = true) → (∀ j, j < l.length → l[j]? = ops[k + j]?) → setN l.length k listed = LF → Pv.lexP md ops l.length k listed = true → AnyA P md ops K (l.length + m) listed s := by
  intro l s h
  have hfu : ∀ (o : Oper) (rest : List Oper), (o :: rest).length + m = (rest.length + m) + 1 := fun o rest => by simp only [List.length_cons]; omega
  have step : ∀ {o : Oper} {rest : List Oper} {s : St} (k : Nat) (listed : Array Bool), isEff ops o = false → Wf s → (∀ j, j < k → listed.getD j true = true) → (∀ j, j < (o :: rest).length → (o :: rest)[j]? = ops[k + j]?) → setN (o :: rest).length k listed = LF → Pv.lexP md ops (o :: rest).length k listed = true →
      (setN rest.length (k + 1) (listed.setIfInBounds k true) = LF → Pv.lexP md ops rest.length (k + 1) (listed.setIfInBounds k true) = true → (∀ j, j < k + 1 → (listed.setIfInBounds k true).getD j true = true) → (∀ j, j < rest.length → rest[j]? = ops[k + 1 + j]?) → StepA P ops k o s (AnyA P md ops K (rest.length + m) (listed.setIfInBounds k true))) → AnyA P md ops K ((o :: rest).length + m) listed s := by
    intro o rest s k listed he hwf hbl hl hS hB hst
    have h0 : ops[k]? = some o := by simpa using (hl 0 (by simp)).symm
    have hl' : ∀ j, j < rest.length → rest[j]? = ops[k + 1 + j]? := fun j hj => by have := hl (j + 1) (by simp; omega); simpa [Nat.add_assoc, Nat.add_comm 1 j] using this
    simp only [List.length_cons, Pv.lexP, Bool.and_eq_true] at hB
    obtain ⟨⟨hr, hfr⟩, hB'⟩ := hB
    obtain ⟨D, d1, d2, d3⟩ := freeA_spec h0 hfr
    rw [hfu]
    refine AnyA.first hV h0 hK he D d1 (rest.length + m) listed s hwf d2 hbl (fun j oj hj hji hun hno => ?_) (by simpa using hr) (hst hS hB' (fun j hj => ?_) hl')
    · have := d3 j oj hj hji hun hno
      exact ⟨this.2, this.1.2⟩
    · by_cases hjk : k = j
      · subst hjk
        rcases Nat.lt_or_ge k listed.size with h' | h'
        · simp [h']
        · simp
      · rw [getD_set_ne true hjk]; exact hbl j (by omega)
  induction h with
  | nil hk =>
    intro _ k listed _ _ _ hS _
    have hS : listed = LF := hS
    subst hS
    rw [show ([] : List Oper).length + m = m from Nat.zero_add m]
    exact hk
  | @val o rest s pv nb hw hv hf hp he _ ih =>
    intro hpl k listed hwf hbl hl hS hB
    rw [List.all_cons, Bool.and_eq_true] at hpl
    exact step k listed he hwf hbl hl hS hB fun hS' hB' hbl' hl' => .inl ⟨pv, nb, hw, he, hv, fun p hp => (fresh_of hf p hp).1, hp, ih hpl.2 (k + 1) _ (hwf.put hp) hbl' hl' hS' hB'⟩
  | @skip o rest s hw he _ ih =>
    intro hpl k listed hwf hbl hl hS hB
    rw [List.all_cons, Bool.and_eq_true] at hpl
    exact step k listed he hwf hbl hl hS hB fun hS' hB' hbl' hl' => .inr (.inl ⟨hw, he, ih hpl.2 (k + 1) _ (hwf.put (o := o) (nb := none) rfl) hbl' hl' hS' hB'⟩)
  | @app o rest s s1 hw he ha _ ih =>
    intro hpl
    exfalso
    obtain ⟨t, e, k', bytes, x, y, τ, els, els2, hT, ho, _⟩ := ha
    rw [List.all_cons, Bool.and_eq_true] at hpl
    have := hpl.1
    unfold plainCall at this
    rw [ho] at this
    cases this
  | @weak l s S hd _ _ _ => cases hd
  | @effI o rest s S hd _ _ _ _ => cases hd
  | @eff o rest s S hw hv he0 _ ih =>
    intro hpl k listed hwf hbl hl hS hB
    rw [List.all_cons, Bool.and_eq_true] at hpl
    obtain ⟨he, hw1⟩ := he0 rfl
    have h0 : ops[k]? = some o := by simpa using (hl 0 (by simp)).symm
    simp only [List.length_cons, Pv.lexP, Bool.and_eq_true] at hB
    obtain ⟨⟨hr, hfr⟩, hB'⟩ := hB
    have hr' : k ∈ Region.ready md ops listed := by simpa using hr
    have IH := fun s1 hs1 => ih s1 hs1 hpl.2 (k + 1) (listed.setIfInBounds k true) ((hw1 s1 hs1).1 hwf) (fun j hj => by
      by_cases hjk : k = j
      · subst hjk
        rcases Nat.lt_or_ge k listed.size with h' | h'
        · simp [h']
        · simp
      · rw [getD_set_ne true hjk]; exact hbl j (by omega)) (fun j hj => by have := hl (j + 1) (by simp; omega); simpa [Nat.add_assoc, Nat.add_comm 1 j] using this) hS hB'
    rw [hfu]
    refine ⟨fun h => (by rw [h] at hr'; cases hr'), fun j hj => ?_⟩
    by_cases hjk : j = k
    · subst hjk
      rw [h0]
      exact .inr (.inr (.inr ⟨hw, he, S, hw1, hv.toR, IH⟩))
    · exfalso
      obtain ⟨hjun, oj, hoj, hall⟩ := mem_ready.1 hj
      obtain ⟨D, d1, d2, d3⟩ := freeA_spec h0 hfr
      cases hd : D j with
      | false =>
        have := (d3 j oj hoj hjk hjun hd).1.1
        rw [he] at this
        cases this
      | true =>
        obtain ⟨e, he', hb, h3⟩ := d1 j oj hoj hd
        have h4 : listed.getD e.on true = true := by
          have h1 := hall e he' hb
          rcases Nat.lt_or_ge e.on listed.size with h' | h'
          · simp [h'] at h1 ⊢; exact h1
          · simp [Array.getElem?_eq_none h'] at h1
        rcases h3 with h3 | h3
        · rw [h3, (mem_ready.1 hr').1] at h4; cases h4
        · rw [d2 _ h3] at h4; cases h4
  | @eqv l s s1 h _ ih =>
    intro hpl k listed hwf hbl hl hS hB
    exact AnyA.eqv hK _ _ _ _ h.symm (ih hpl k listed (h.wf hwf) hbl hl hS hB)
/-- The first j operations of a drawn region are walked as they stand, the rest order by order. -/
theorem Wt.regionP {w0 : Base} {n : Nat} {s : St} {N R : St → Prop} {X : Nat → St → Prop} {i : Nat} {l : List Oper} (j m : Nat) (hm : P.follows .mixedOrders = true) (hB : Pv.lexP .any l.toArray (l.take j).length 0 (Array.replicate l.toArray.size false) = true) (hd : dstsOk n l = true) (hdm : dstsOk 1000000 l = true) (hj : l.length = j + m) (hw : wfB s = true) (hp : (l.take j).all plainCall = true)
    (h : ∀ K : St → Prop, (∀ s s', Eqv s s' → K s → K s') → (∀ s, N s → K s) → RunK true P l.toArray (l.take j) s (AnyA P .any l.toArray K m (setN (l.take j).length 0 (Array.replicate l.toArray.size false)))) : Wt P w0 n (.region i l.toArray true) s N R X :=
  Wt.regionA hm hd hw fun K hK hN => by
    have h1 := AnyA.lexP (P := P) (md := .any) (K := K) (fun i o ho d hd' => by
        have hmem : o ∈ l := by
          have : l[i]? = some o := by simpa using ho
          exact List.mem_of_getElem? this
        have := List.all_eq_true.1 hdm o hmem
        rw [hd', Bool.and_eq_true] at this
        exact (Nat.blt_eq ▸ this.1)) hK m _ (h K hK hN) hp 0 (Array.replicate l.toArray.size false) (wf_of hw) (fun j hj => absurd hj (by omega)) (fun q hq => by
          rw [List.length_take] at hq
          rw [List.getElem?_take_of_lt (by omega)]
          simp) rfl hB
    rw [List.length_take, show min j l.length + m = l.length by omega] at h1
    exact h1
end
end Go.Proofs.Ytonangdimkgdpaa.Pv
