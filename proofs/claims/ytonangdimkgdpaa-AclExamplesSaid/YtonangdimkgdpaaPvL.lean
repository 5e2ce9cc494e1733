/- The machine of values: slices without room. No condition. -/
import Derived.Test.YtonangdimkgdpaaPvJ
namespace Go.Proofs.Ytonangdimkgdpaa.Pv
open Go Go.RowKit
/-! ### slices without room: of these nothing is known but their headers -/
section
variable {P : Program} {ev : Operand → PV} {bx : Nat → Option (List Value)} {d : Option Nat} {ty : TypeId} {pos : String} {aft : Array Edge} {g : Option (Nat × Bool)}
theorem Val.appendZ {t e k0 bytes : Nat} [hT : TySl P t e k0 bytes] {x y : Operand} {τ c2 : Nat} {app : App} {els : List (List Value)} {A2 : Option Addr} (hx : ev x = .s (.sl (some τ) app k0 els)) (hy : ev y = .s (.v (.slice A2 0 c2))) :
    Val P ⟨d, .call ⟨.builtin .append, #[x, y], #[t, t]⟩, ty, pos, aft, g⟩ ev bx (.s (.sl (some τ) app k0 els)) none :=
  .same fun B T F ρ a w h => by
    obtain ⟨A, n, c, hu, hs⟩ := (h x (by simp [Op.operands, Call.operands])).1.sl_of hx
    have hu2 : a.eval y = .slice A2 0 c2 := by
      have := (h y (by simp [Op.operands, Call.operands])).1
      rw [hy] at this; exact this
    obtain ⟨i, z, hi, hz, hsz, hby, hzs⟩ := hT.info
    have h2 := hs.2.1
    have hf : (Builtin.firstCells k0 0 (.slice A2 0 c2)).run P w = .ok #[] w := by
      cases A2 <;> simp [Builtin.firstCells, loadCells, loadCellsFrom]
    have hrun : (Builtin.append_ #[t, t] ty #[.slice A n c, .slice A2 0 c2]).run P w = .ok (.slice A n c) w := by
      cases A <;> simp [Builtin.append_, run_underlying hT.und, Go.sizeOf, typeInfo, hi, hsz, Builtin.lenOf, h2, hf, storeCells]
    have hex : (execOp a.eval ⟨d, .call ⟨.builtin .append, #[x, y], #[t, t]⟩, ty, pos, aft, g⟩).run P w = ((Builtin.append_ #[t, t] ty #[.slice A n c, .slice A2 0 c2]).run P w).andThen fun v w' => .ok (.value v) w' := by
      simp [execOp, resolve, invoke, builtin, hu, hu2]
    refine ⟨.slice A n c, ?_, A, n, c, rfl, hs⟩
    rw [hex, hrun]; rfl
theorem Hu.appendZ {t e k0 bytes : Nat} [hT : TySl P t e k0 bytes] {x y : Operand} {τ c2 : Nat} {app : App} {els : List (List Value)} {A2 : Option Addr} (hx : ev x = .s (.sl (some τ) app k0 els)) (hy : ev y = .s (.v (.slice A2 0 c2))) :
    Hu P ⟨d, .call ⟨.builtin .append, #[x, y], #[t, t]⟩, ty, pos, aft, g⟩ ev bx (.s (.sl (some τ) app k0 els)) none := fun σs => by
  rw [unL_sl]
  refine ⟨Val.appendZ (unE_s σs hx) (unE_v σs hy), fun σ h _ => ?_⟩
  have h1 := h x (by simp [Op.operands, Call.operands])
  rw [unE_s σs hx] at h1
  exact h1
end
section
variable {dr : Bool} {P : Program} {ops : Array Oper} {rest : List Oper} {env : List (Nat × PV)} {bs : List (Nat × List Value)} {K : St → Prop} {d : Nat} {ty : TypeId} {pos : String} {aft : Array Edge} {g : Option (Nat × Bool)}
theorem RunK.appendZ {t e k0 bytes : Nat} [hT : TySl P t e k0 bytes] {x y : Operand} {τ c2 : Nat} {app : App} {els : List (List Value)} {A2 : Option Addr} (hw : wantedS ops ⟨env, bs⟩ ⟨some d, .call ⟨.builtin .append, #[x, y], #[t, t]⟩, ty, pos, aft, g⟩ = some true) (he : isEff ops ⟨some d, .call ⟨.builtin .append, #[x, y], #[t, t]⟩, ty, pos, aft, g⟩ = false)
    (hx : (St.mk env bs).ev x = .s (.sl (some τ) app k0 els)) (hy : (St.mk env bs).ev y = .s (.v (.slice A2 0 c2)))
    (k : RunK dr P ops rest ⟨(d, .s (.sl (some τ) app k0 els)) :: env, bs⟩ K) : RunK dr P ops (⟨some d, .call ⟨.builtin .append, #[x, y], #[t, t]⟩, ty, pos, aft, g⟩ :: rest) ⟨env, bs⟩ K :=
  .val he rfl hw (Hu.appendZ hx hy) k
theorem RunK.sliceToZ {t e0 k0 by0 : Nat} [hT : TySl P t e0 k0 by0] {x y : Operand} {ad : Addr} {kd : IntKind} {i : Int} (hw : wantedS ops ⟨env, bs⟩ ⟨some d, .slice t x none (some y) none, ty, pos, aft, g⟩ = some true) (hx : (St.mk env bs).ev x = .s (.v (.slice (some ad) 0 0))) (hy : (St.mk env bs).ev y = .s (.v (.int kd i))) (hij : i = ((0 : Nat) : Int))
    (k : RunK dr P ops rest ⟨(d, .s (.v (.slice (some ad) 0 0))) :: env, bs⟩ K) : RunK dr P ops (⟨some d, .slice t x none (some y) none, ty, pos, aft, g⟩ :: rest) ⟨env, bs⟩ K :=
  .plainK rfl hw (fun a w hs => by
    have h3 := hs.v x _ (by simp [Op.operands]) hx
    have h4 := hs.v y _ (by simp [Op.operands]) hy
    obtain ⟨inf, z, hi, _, hsz, _⟩ := hT.info
    have hb := opt_bound (s := ⟨env, bs⟩) (dflt := 0) hy hij h4 (w := w) (P := P) 0 (Nat.le_refl _) .sliceAcap
    simp only [execOp, Instr.sliceAt, Sem.run_bind, run_underlying hT.und, Result.andThen_ok, Instr.slice, h3, Instr.sliceBounds, Option.map_some, Option.map_none, Sem.run_pure, Option.isSome_none, if_true, hb, Go.sizeOf, typeInfo, run_program, hi, hsz]) k
end
/-! ### drawn regions in which nothing is written -/
section
variable {P : Program} {ops : Array Oper} {md : Region.Mode} {K : St → Prop}
/-- No effect; each operation waits for earlier ones only, and by an edge of its own for each one whose slot it looks at. -/
def pureJ (md : Region.Mode) (ops : Array Oper) (i : Nat) (oi : Oper) (j : Nat) : Bool :=
  match ops[j]? with
  | none => false
  | some oj => Nat.beq i j || (match oi.dst with
    | none => true
    | some d => (!(oj.looksAt ops).contains d || oj.after.any (fun e => Region.binds md e && Nat.beq e.on i)) && oj.dst != some d)
def pureI (md : Region.Mode) (ops : Array Oper) (i : Nat) : Bool :=
  match ops[i]? with
  | none => false
  | some oi => !isEff ops oi && oi.after.all (fun e => !Region.binds md e || Nat.blt e.on i) && (List.range ops.size).all (pureJ md ops i oi)
def pureB (md : Region.Mode) (ops : Array Oper) : Bool := (List.range ops.size).all (pureI md ops)
theorem pureB_spec (h : pureB md ops = true) {i : Nat} {oi : Oper} (hi : ops[i]? = some oi) : isEff ops oi = false ∧ (∀ e ∈ oi.after, Region.binds md e = true → e.on < i) ∧
    ∀ j oj, ops[j]? = some oj → j ≠ i → ∀ d, oi.dst = some d → (d ∈ oj.looksAt ops → ∃ e ∈ oj.after, Region.binds md e = true ∧ e.on = i) ∧ oj.dst ≠ some d := by
  have h1 := List.all_eq_true.1 h i (List.mem_range.2 (Array.getElem?_eq_some_iff.1 hi).1)
  unfold pureI at h1
  rw [hi] at h1
  simp only [Bool.and_eq_true, Bool.not_eq_true', List.all_eq_true] at h1
  obtain ⟨⟨h1, h2⟩, h3⟩ := h1
  refine ⟨h1, fun e he hb => ?_, fun j oj hj hji d hd => ?_⟩
  · rw [← Array.all_toList, List.all_eq_true] at h2
    have := h2 e (Array.mem_toList_iff.2 he)
    rw [hb] at this
    exact Nat.blt_eq ▸ (by simpa using this)
  · have h4 := h3 j (List.mem_range.2 (Array.getElem?_eq_some_iff.1 hj).1)
    unfold pureJ at h4
    rw [hj, hd] at h4
    simp only [Bool.or_eq_true, Bool.and_eq_true] at h4
    rcases h4 with h4 | ⟨h4, h5⟩
    · exact absurd (Nat.beq_eq ▸ h4 : i = j).symm hji
    · refine ⟨fun hm => ?_, by simpa using h5⟩
      rcases h4 with h4 | h4
      · simp at h4; exact absurd hm h4
      · rw [← Array.any_toList, List.any_eq_true] at h4
        obtain ⟨e, he, hb⟩ := h4
        rw [Bool.and_eq_true] at hb
        exact ⟨e, Array.mem_toList_iff.1 he, hb.1, Nat.beq_eq ▸ hb.2⟩
theorem AnyA.pure (hV : ∀ (i : Nat) (o : Oper), ops[i]? = some o → ∀ d, o.dst = some d → d < 1000000) (hK : ∀ s s', Eqv s s' → K s → K s') (hP : pureB md ops = true) : ∀ {l : List Oper} {s : St}, Run true P ops K l s → ∀ (k : Nat) (listed : Array Bool), Wf s → listed.size = ops.size → (∀ j, j < k → listed.getD j true = true) → (∀ j, k ≤ j → j < ops.size → listed.getD j true = false) → (∀ j, l[j]? = ops[k + j]?) → AnyA P md ops K l.length listed s := by
  intro l s h
  have step : ∀ {o : Oper} {rest : List Oper} {s : St} (k : Nat) (listed : Array Bool), Wf s → listed.size = ops.size → (∀ j, j < k → listed.getD j true = true) → (∀ j, k ≤ j → j < ops.size → listed.getD j true = false) → (∀ j, (o :: rest)[j]? = ops[k + j]?) →
      ((listed.setIfInBounds k true).size = ops.size → (∀ j, j < k + 1 → (listed.setIfInBounds k true).getD j true = true) → (∀ j, k + 1 ≤ j → j < ops.size → (listed.setIfInBounds k true).getD j true = false) → (∀ j, rest[j]? = ops[k + 1 + j]?) → StepA P ops k o s (AnyA P md ops K rest.length (listed.setIfInBounds k true))) → AnyA P md ops K (o :: rest).length listed s := by
    intro o rest s k listed hwf hsz hbl hun hl hst
    have h0 : ops[k]? = some o := by simpa using (hl 0).symm
    have hks := (Array.getElem?_eq_some_iff.1 h0).1
    have hl' : ∀ j, rest[j]? = ops[k + 1 + j]? := fun j => by have := hl (j + 1); simpa [Nat.add_assoc, Nat.add_comm 1 j] using this
    obtain ⟨p1, p2, p3⟩ := pureB_spec hP h0
    have hready : k ∈ Region.ready md ops listed := mem_ready.2 ⟨hun k (Nat.le_refl _) hks, o, h0, fun e he hb => by
      have hlt := p2 e he hb
      have := hbl e.on hlt
      have hin : e.on < listed.size := by omega
      simp [hin] at this ⊢
      exact this⟩
    let D : Nat → Bool := fun j => match ops[j]? with
      | none => false
      | some oj => oj.after.any fun e => Region.binds md e && Nat.beq e.on k
    have hD : ∀ j oj, ops[j]? = some oj → D j = oj.after.any fun e => Region.binds md e && Nat.beq e.on k := fun j oj hj => by show (match ops[j]? with | none => false | some oj => _) = _; rw [hj]
    have hD1 : ∀ j oj, ops[j]? = some oj → D j = true → ∃ e ∈ oj.after, Region.binds md e = true ∧ e.on = k := fun j oj hj hd => by
      rw [hD j oj hj, ← Array.any_toList, List.any_eq_true] at hd
      obtain ⟨e, he, hb⟩ := hd
      rw [Bool.and_eq_true] at hb
      exact ⟨e, Array.mem_toList_iff.1 he, hb.1, Nat.beq_eq ▸ hb.2⟩
    refine AnyA.first hV h0 hK p1 D (fun j oj hj hd => ?_) rest.length listed s hwf (fun j hd => ?_) hbl (fun j oj hj hji hunj hno => ?_) hready (hst (by simp [hsz]) (fun j hj => ?_) (fun j hj hjs => ?_) hl')
    · obtain ⟨e, he, hb, h3⟩ := hD1 j oj hj hd
      exact ⟨e, he, hb, .inl h3⟩
    · cases hj : ops[j]? with
      | none =>
        have : D j = false := by show (match ops[j]? with | none => false | some oj => _) = _; rw [hj]
        rw [this] at hd; cases hd
      | some oj =>
        obtain ⟨e, he, hb, h3⟩ := hD1 j oj hj hd
        have := (pureB_spec hP hj).2.1 e he hb
        exact hun j (by omega) (Array.getElem?_eq_some_iff.1 hj).1
    · have hjs := (Array.getElem?_eq_some_iff.1 hj).1
      have hkj : k < j := by
        rcases Nat.lt_trichotomy j k with h' | h' | h'
        · rw [hbl j h'] at hunj; cases hunj
        · exact absurd h' hji
        · exact h'
      obtain ⟨q1, q2, q3⟩ := pureB_spec hP hj
      refine ⟨?_, q1⟩
      have a1 : ∀ d, o.dst = some d → d ∉ oj.looksAt ops := fun d hd hm => by
        obtain ⟨e, he, hb, h3⟩ := (p3 j oj hj hji d hd).1 hm
        have : D j = true := by
          rw [hD j oj hj, ← Array.any_toList, List.any_eq_true]
          exact ⟨e, Array.mem_toList_iff.2 he, by rw [hb, h3]; simp⟩
        rw [this] at hno; cases hno
      have a2 : ∀ d, o.dst = some d → oj.dst ≠ some d := fun d hd => (p3 j oj hj hji d hd).2
      have a3 : ∀ d, oj.dst = some d → d ∉ o.looksAt ops := fun d hd hm => by
        obtain ⟨e, he, hb, h3⟩ := (q3 k o h0 (Ne.symm hji) d hd).1 hm
        have := p2 e he hb
        omega
      unfold Oper.apart
      rw [Bool.and_eq_true]
      constructor
      · cases hd : o.dst with
        | none => rfl
        | some d => simp only [Bool.and_eq_true]; exact ⟨by simpa using a1 d hd, by simpa using a2 d hd⟩
      · cases hd : oj.dst with
        | none => rfl
        | some d => simpa using a3 d hd
    · by_cases hjk : k = j
      · subst hjk
        simp [show k < listed.size by omega]
      · rw [getD_set_ne true hjk]; exact hbl j (by omega)
    · rw [getD_set_ne true (by omega)]; exact hun j (by omega) hjs
  induction h with
  | nil hk =>
    intro k listed _ hsz hbl _ hl
    refine ⟨?_, hk⟩
    cases hR : Region.ready md ops listed with
    | nil => rfl
    | cons j r =>
      exfalso
      obtain ⟨h1, oj, hj, _⟩ := mem_ready.1 (show j ∈ Region.ready md ops listed by rw [hR]; exact List.mem_cons_self ..)
      have hjs := (Array.getElem?_eq_some_iff.1 hj).1
      have hlk : ops.size ≤ k := by
        have := hl 0
        rw [Nat.add_zero] at this
        rcases Nat.lt_or_ge k ops.size with h' | h'
        · rw [Array.getElem?_eq_getElem h'] at this; cases this
        · exact h'
      rw [hbl j (by omega)] at h1; cases h1
  | @val o rest s pv nb hw hv hf hp he _ ih =>
    intro k listed hwf hsz hbl hun hl
    exact step k listed hwf hsz hbl hun hl fun hsz' hbl' hun' hl' => .inl ⟨pv, nb, hw, he, hv, fun p hp => (fresh_of hf p hp).1, hp, ih (k + 1) _ (hwf.put hp) hsz' hbl' hun' hl'⟩
  | @skip o rest s hw he _ ih =>
    intro k listed hwf hsz hbl hun hl
    exact step k listed hwf hsz hbl hun hl fun hsz' hbl' hun' hl' => .inr (.inl ⟨hw, he, ih (k + 1) _ (hwf.put (o := o) (nb := none) rfl) hsz' hbl' hun' hl'⟩)
  | @app o rest s s1 hw he ha _ ih =>
    intro k listed hwf hsz hbl hun hl
    exact step k listed hwf hsz hbl hun hl fun hsz' hbl' hun' hl' => .inr (.inr (.inl ⟨hw, he, s1, ha.mono (fun τ hτ => After.of hl' hτ), ih (k + 1) _ (hwf.app ha) hsz' hbl' hun' hl'⟩))
  | @weak l s S hd _ _ _ => cases hd
  | @effI o rest s S hd _ _ _ _ => cases hd
  | @eff o rest s S hw hv he0 _ ih =>
    intro k listed hwf hsz hbl hun hl
    obtain ⟨he, _⟩ := he0 rfl
    have h0 : ops[k]? = some o := by simpa using (hl 0).symm
    rw [(pureB_spec hP h0).1] at he
    cases he
  | @eqv l s s1 h _ ih =>
    intro k listed hwf hsz hbl hun hl
    exact AnyA.eqv hK _ _ _ _ h.symm (ih k listed (h.wf hwf) hsz hbl hun hl)
/-- A drawn region in which nothing is written. -/
theorem Wt.regionQ {w0 : Base} {n : Nat} {s : St} {N R : St → Prop} {X : Nat → St → Prop} {i : Nat} {l : List Oper} (hm : P.follows .mixedOrders = true) (hB : pureB .any l.toArray = true) (hd : dstsOk n l = true) (hdm : dstsOk 1000000 l = true) (hw : wfB s = true)
    (h : RunK true P l.toArray l s N) : Wt P w0 n (.region i l.toArray true) s N R X :=
  Wt.regionA hm hd hw fun K hK hN => by
    refine AnyA.pure (fun i o ho d hd' => ?_) hK hB (Run.mono hN h) 0 (Array.replicate l.toArray.size false) (wf_of hw) (by simp) (fun j hj => absurd hj (Nat.not_lt_zero _)) (fun j _ hj => ?_) (fun j => by simp)
    · have hmem : o ∈ l := by
        have : l[i]? = some o := by simpa using ho
        exact List.mem_of_getElem? this
      have := List.all_eq_true.1 hdm o hmem
      rw [hd', Bool.and_eq_true] at this
      exact (Nat.blt_eq ▸ this.1)
    · simp at hj
      simp [hj]
end
end Go.Proofs.Ytonangdimkgdpaa.Pv
