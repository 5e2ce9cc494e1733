/- The machine of values: methods through an interface. No condition. -/
import Derived.Test.YtfokjpmcifkoeaaPvL
namespace Go.Proofs.Ytfokjpmcifkoeaa.Pv
open Go Go.RowKit
/-! ### methods through an interface -/
section
variable {P : Program}
/-- The method of a pointer type: its function, and whether that takes the pointer. -/
structure MethodAt (P : Program) (t e : TypeId) (name : String) (f : FuncId) (ptr : Bool) : Prop where
  has : ∃ inf m, P.info? t = some inf ∧ inf.methods.find? (·.name == name) = some m ∧ m.path = #[] ∧ m.func = some (f, ptr)
  und : P.underlying t = some (.pointer e)
def methodB (P : Program) (t : TypeId) (name : String) (f : FuncId) (ptr : Bool) : Bool := match P.info? t with
  | some inf => (match inf.methods.find? (·.name == name) with
    | some m => Nat.beq m.path.size 0 && (match m.func with
      | some (g, q) => Nat.beq g f && (q == ptr)
      | none => false)
    | none => false)
  | none => false
theorem MethodAt.of {t e : TypeId} {name : String} {f : FuncId} {ptr : Bool} (h : methodB P t name f ptr = true) (hu : P.underlying t = some (.pointer e)) : MethodAt P t e name f ptr := by
  refine ⟨?_, hu⟩
  unfold methodB at h
  cases hi : P.info? t with
  | none => rw [hi] at h; cases h
  | some inf =>
    rw [hi] at h
    simp only at h
    cases hm : inf.methods.find? (·.name == name) with
    | none => rw [hm] at h; cases h
    | some m =>
      rw [hm] at h
      simp only [Bool.and_eq_true] at h
      obtain ⟨h1, h2⟩ := h
      cases hf : m.func with
      | none => rw [hf] at h2; cases h2
      | some q =>
        rw [hf] at h2
        obtain ⟨g, q⟩ := q
        simp only [Bool.and_eq_true] at h2
        have e1 : g = f := Nat.beq_eq ▸ h2.1
        have e2 : q = ptr := by simpa using h2.2
        subst e1 e2
        exact ⟨inf, m, rfl, hm, Array.eq_empty_of_size_eq_zero (Nat.beq_eq ▸ h1), hf⟩
theorem MethodAt.runP {t e : TypeId} {f : FuncId} {name : String} (h : MethodAt P t e name f true) (fuel : Nat) (v : Value) (w : World) : (method (fuel + 1) t v name).run P w = .ok (f, v) w := by
  obtain ⟨inf, m, hi, hm, hp, hf⟩ := h.has
  simp [method, typeInfo, hi, hm, hp, hf, follow, receiverAt, run_underlying h.und, Place.get]
theorem run_nilChk (t : TypeId) (ad : Addr) (a b : String) (w : World) : (Builtin.ssaWrapNilChk_ #[t] t #[.pointer (some ad), strVal a, strVal b]).run P w = .ok (.pointer (some ad)) w := rfl
theorem MethodAt.runV {t e : TypeId} [h1 : TyOne P e] {f : FuncId} {name : String} (h : MethodAt P t e name f false) (fuel : Nat) {ad : Addr} {u : Value} {w : World} (hc : w.cell? ad = some u) : (method (fuel + 1) t (.pointer (some ad)) name).run P w = .ok (f, u) w := by
  obtain ⟨inf, m, hi, hm, hp, hf⟩ := h.has
  simp [method, typeInfo, hi, hm, hp, hf, follow, receiverAt, run_underlying h.und, Place.get, run_nilChk, asAddr, run_loadVar_one h1 hc]
end
section
variable {P : Program} {ops : Array Oper} {rest : List Oper} {env : List (Nat × PV)} {bs : List (Nat × List Value)} {K : St → Prop} {d : Nat} {dd : Option Nat} {ty : TypeId} {pos : String} {aft : Array Edge} {g : Option (Nat × Bool)}
/-- What stands behind an interface is called: the receiver is rv. -/
theorem Eff.invoke {f : FuncId} {x : Operand} {name : String} {xs : List Operand} {ats : Array TypeId} {as : List SV} {t : TypeId} {v rv : Value} {fs : List PV} {ws : List Nat} {Kf : PV → List PV → Prop} (hs : List Nat) (τ : Nat) (hp : Acts P f (SV.v rv :: as) fs ws Kf) (hx : (St.mk env bs).ev x = .s (.v (.iface t v)))
    (hm : ∀ (w0 : Base) (n : Nat) (T : Nat → BTag) (F : Nat → Nat) (ρ : Nat → Nat × Nat) (a : Act) (w : World), RSx w0 n T F ρ ⟨env, bs⟩ a w → ∀ fuel, (method (fuel + 1) t v name).run P w = .ok (f, rv) w)
    (ha : ArgsLe (St.mk env bs).ev (St.mk env bs).box (groupsOf fs) xs as) (hf : FactsOk env (groupsOf fs) fs) (hap : ApartE ws (rmS hs env)) (hng : noNest (groupsOf fs) (rmS hs env) = true) :
    Eff P ⟨dd, .call ⟨.invoke x name, xs.toArray, ats⟩, ty, pos, aft, g⟩ ⟨env, bs⟩ (fun s1 => ∃ res fs', Kf res fs' ∧ (∀ t b' o', look env t = .kept b' o' → ∀ b o, PV.kept b o ∈ fs' → b ∈ keptOf fs ∨ b' ≠ b) ∧ (res.isNew = true ∧ ∀ p ∈ fs', okFact p = true) ∧ s1 = (St.mk (place hs (fs'.map (·.retag τ)) (rmS hs env)) bs).putO dd (res.retag τ)) :=
  Eff.actsE (f := f) (pre := [rv]) (post := []) (as := as) (xs := xs) hs τ (by simpa using hp) (fun w0 n T F ρ a w hr ⟨fn, q1, q2, q3⟩ => by
    have hx' := ev_v hr hx
    have q2' : ¬fn.name = "runtime.NumGoroutine" := by simpa using q2
    have h1 := hm w0 n T F ρ a w hr (P.types.size + Made.depth - 1)
    have h0 : 0 < Made.depth := by decide
    have h2 : P.types.size + Made.depth - 1 + 1 = P.types.size + Made.depth := by omega
    rw [h2] at h1
    simp [execOp, resolve, hx', Go.invoke, callMethod, callFunc, run_program, h1, q1, q2', q3]
    exact List.take_of_length_le (by simp)) ha hf hap hng
theorem RunK.invokeP {f : FuncId} {x : Operand} {name : String} {xs : List Operand} {ats : Array TypeId} {as : List SV} {t e : TypeId} {v : Value} {fs : List PV} {ws : List Nat} {Kf : PV → List PV → Prop} (hs : List Nat) (τ : Nat) (hM : MethodAt P t e name f true) (hw : wantedS ops ⟨env, bs⟩ ⟨some d, .call ⟨.invoke x name, xs.toArray, ats⟩, ty, pos, aft, g⟩ = some true) (hp : Acts P f (SV.v v :: as) fs ws Kf) (hx : (St.mk env bs).ev x = .s (.v (.iface t v)))
    (ha : ArgsLe (St.mk env bs).ev (St.mk env bs).box (groupsOf fs) xs as) (hf : FactsOk env (groupsOf fs) fs) (hap : ApartE ws (rmS hs env)) (hng : noNest (groupsOf fs) (rmS hs env) = true)
    (k : ∀ res fs', Kf res fs' → (∀ t b' o', look env t = .kept b' o' → ∀ b o, PV.kept b o ∈ fs' → b ∈ keptOf fs ∨ b' ≠ b) → RunK false P ops rest ⟨(d, res.retag τ) :: place hs (fs'.map (·.retag τ)) (rmS hs env), bs⟩ K) :
    RunK false P ops (⟨some d, .call ⟨.invoke x name, xs.toArray, ats⟩, ty, pos, aft, g⟩ :: rest) ⟨env, bs⟩ K :=
  Run.eff hw (Eff.invoke hs τ hp hx (fun _ _ _ _ _ _ w _ fuel => hM.runP fuel v w) ha hf hap hng) (fun h => by cases h) (fun _ ⟨res, fs', h1, h2, _, e⟩ => e ▸ k res fs' h1 h2)
theorem RunK.invokeV {f : FuncId} {x : Operand} {name : String} {xs : List Operand} {ats : Array TypeId} {as : List SV} {t e : TypeId} [h1 : TyOne P e] {b j : Nat} {C : Array Value} {et : TypeId} {fz : Nat × Nat} {u : Value} {fs : List PV} {ws : List Nat} {Kf : PV → List PV → Prop} (h : Nat) (hs : List Nat) (τ : Nat) (hM : MethodAt P t e name f false) (hw : wantedS ops ⟨env, bs⟩ ⟨some d, .call ⟨.invoke x name, xs.toArray, ats⟩, ty, pos, aft, g⟩ = some true) (hp : Acts P f (SV.v u :: as) fs ws Kf) (hx : (St.mk env bs).ev x = .s (.v (.iface t (.pointer (some ⟨b, j, none⟩)))))
    (hk : look env h = .kept b (.cells C et fz)) (hu : C[j]? = some u) (ha : ArgsLe (St.mk env bs).ev (St.mk env bs).box (groupsOf fs) xs as) (hf : FactsOk env (groupsOf fs) fs) (hap : ApartE ws (rmS hs env)) (hng : noNest (groupsOf fs) (rmS hs env) = true)
    (k : ∀ res fs', Kf res fs' → (∀ t b' o', look env t = .kept b' o' → ∀ b o, PV.kept b o ∈ fs' → b ∈ keptOf fs ∨ b' ≠ b) → RunK false P ops rest ⟨(d, res.retag τ) :: place hs (fs'.map (·.retag τ)) (rmS hs env), bs⟩ K) :
    RunK false P ops (⟨some d, .call ⟨.invoke x name, xs.toArray, ats⟩, ty, pos, aft, g⟩ :: rest) ⟨env, bs⟩ K :=
  Run.eff hw (Eff.invoke hs τ hp hx (fun w0 n T F ρ a w hr fuel => hM.runV fuel (by
    have h2 := hr.env h
    rw [show (St.mk env bs).look h = look env h from rfl, hk] at h2
    rw [cell_of_row w b j C et fz h2.2.2]; exact hu)) ha hf hap hng) (fun h => by cases h) (fun _ ⟨res, fs', h1, h2, _, e⟩ => e ▸ k res fs' h1 h2)
end
section
variable {P : Program} {dr : Bool} {ops : Array Oper} {rest : List Oper} {env : List (Nat × PV)} {bs : List (Nat × List Value)} {K : St → Prop} {d : Nat} {ty : TypeId} {pos : String} {aft : Array Edge} {gd : Option (Nat × Bool)}
/-- No interface. -/
def concB (P : Program) (t : TypeId) : Bool := match P.underlying t with
  | some (.interface _) => false
  | some _ => true
  | none => false
theorem RunK.mkIface {t : TypeId} {x : Operand} {u : Value} (hw : wantedS ops ⟨env, bs⟩ ⟨some d, .makeInterface t x, ty, pos, aft, gd⟩ = some true) (hx : (St.mk env bs).ev x = .s (.v u)) (hc : concB P t = true)
    (k : RunK dr P ops rest ⟨(d, .s (.v (.iface t u))) :: env, bs⟩ K) : RunK dr P ops (⟨some d, .makeInterface t x, ty, pos, aft, gd⟩ :: rest) ⟨env, bs⟩ K :=
  .plainK rfl hw (fun a w hs => by
    have h1 := hs.v x _ (by simp [Op.operands]) hx
    unfold concB at hc
    cases hu : P.underlying t with
    | none => rw [hu] at hc; cases hc
    | some dsc =>
      rw [hu] at hc
      cases dsc <;> first | (simp [execOp, Instr.makeInterface, h1, run_underlying hu]; done) | cases hc) k
theorem RunK.assertK {t xt : TypeId} {x : Operand} {u : Value} (hw : wantedS ops ⟨env, bs⟩ ⟨some d, .typeAssert x xt t false, ty, pos, aft, gd⟩ = some true) (hx : (St.mk env bs).ev x = .s (.v (.iface t u))) (hc : concB P t = true)
    (k : RunK dr P ops rest ⟨(d, .s (.v u)) :: env, bs⟩ K) : RunK dr P ops (⟨some d, .typeAssert x xt t false, ty, pos, aft, gd⟩ :: rest) ⟨env, bs⟩ K :=
  .plainK rfl hw (fun a w hs => by
    have h1 := hs.v x _ (by simp [Op.operands]) hx
    unfold concB at hc
    cases hu : P.underlying t with
    | none => rw [hu] at hc; cases hc
    | some dsc =>
      rw [hu] at hc
      cases dsc <;> first | (simp [execOp, Instr.typeAssert, h1, run_underlying hu]; done) | cases hc) k
end
end Go.Proofs.Ytfokjpmcifkoeaa.Pv
