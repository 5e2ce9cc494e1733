/- The machine of values, more of its rules. No condition. -/
import Derived.Test.YtfacimebfdeaeaaPv
namespace Go.Proofs.Ytfacimebfdeaeaa.Pv
open Go Go.RowKit
/-! ### back from a closure -/
theorem PVLe.fact {p q : PV} (h : PVLe p q) : PVLe p.fact q.fact := by
  cases h with
  | refl => exact .refl _
  | any => exact .any _
  | s h => exact .refl _
  | hd v h => exact .hd v h
  | tup hl h => exact .refl _
theorem PVLt.fact {p q : PV} (h : PVLt p q) : PVLt p.fact q.fact := by
  cases h with
  | le h => exact .le h.fact
  | nilB id off k => exact .le (.refl _)
theorem LeBox.of_box {s s' : St} (h : s'.boxes = s.boxes) : ∀ {l : List (Nat × List Value)}, LeBox s l → LeBox s' l
  | [], _ => trivial
  | _ :: _, hl => ⟨hl.1.imp (fun h1 => by show boxOf s'.boxes _ = _; rw [h]; exact h1) (fun h => h), LeBox.of_box h hl.2⟩
theorem Le.back {s s0 : St} (h : Le s s0) {d : Nat} {res : PV} (_hd : Nat.blt d 1000000 = true) (hk : (backE s0.env).all (fun p => !Nat.beq p.1 d) = true) : Le ⟨(d, res) :: backE s.env, s.boxes⟩ ⟨(d, res) :: backE s0.env, s0.boxes⟩ := by
  refine ⟨⟨?_, ?_⟩, (LeBox.of_box (s := s) (s' := ⟨(d, res) :: backE s.env, s.boxes⟩) rfl h.2 : LeBox ⟨(d, res) :: backE s.env, s.boxes⟩ s0.boxes)⟩
  · show PVLt (look ((d, res) :: backE s.env) d) res
    rw [look_put, if_pos rfl]; exact .le (.refl _)
  · have key : ∀ (l : List (Nat × PV)), LeEnv s l → (backE l).all (fun p => !Nat.beq p.1 d) = true → LeEnv ⟨(d, res) :: backE s.env, s.boxes⟩ (backE l) := by
      intro l
      induction l with
      | nil => intro _ _; trivial
      | cons p l ih =>
        obtain ⟨t, p⟩ := p
        rintro ⟨h1, h2⟩ hk
        rw [backE] at hk ⊢
        rcases Nat.lt_or_ge t 1000000 with ht | ht
        · rw [blt_t ht, cond_true] at hk ⊢
          exact ih h2 hk
        · rw [blt_f ht, cond_false] at hk ⊢
          rcases Nat.lt_or_ge t 2000000 with ht2 | ht2
          · rw [blt_t ht2, cond_true] at hk ⊢
            rw [List.all_cons, Bool.and_eq_true] at hk
            refine ⟨?_, ih h2 hk.2⟩
            have hne : d ≠ t - 1000000 := fun e => by have := hk.1; rw [← e, Nat.beq_refl] at this; cases this
            show PVLt (look ((d, res) :: backE s.env) (t - 1000000)) p
            rw [look_put, if_neg hne, look_back (by omega), show 1000000 + (t - 1000000) = t by omega]
            exact h1
          · rw [blt_f ht2, cond_false] at hk ⊢
            rw [List.all_cons, Bool.and_eq_true] at hk
            refine ⟨?_, ih h2 hk.2⟩
            have hne : d ≠ t := fun e => by have := hk.1; rw [← e, Nat.beq_refl] at this; cases this
            show PVLt (look ((d, res) :: backE s.env) t) p.fact
            rw [look_put, if_neg hne, look_back_high ht2]
            exact h1.fact
    exact key _ h.1 hk
theorem RunK.backTo {P : Program} {ops : Array Oper} {rest : List Oper} {env : List (Nat × PV)} {bs : List (Nat × List Value)} {K : St → Prop} {d : Nat} {res : PV} (S0 S5 : St) (h : Le ⟨env, bs⟩ S0) (hd : Nat.blt d 1000000 = true) (hk : (backE S0.env).all (fun p => !Nat.beq p.1 d) = true) (e : St.mk ((d, res) :: backE S0.env) S0.boxes = S5) (k : RunK false P ops rest S5 K) : RunK false P ops rest ⟨(d, res) :: backE env, bs⟩ K :=
  .leK ⟨(d, res) :: backE S0.env, S0.boxes⟩ (Le.back (s := ⟨env, bs⟩) h hd hk) (e ▸ k)
theorem RunK.allocAs {dr : Bool} {P : Program} {ops : Array Oper} {rest : List Oper} {env : List (Nat × PV)} {bs : List (Nat × List Value)} {K : St → Prop} {d : Nat} {ty : TypeId} {pos : String} {aft : Array Edge} {g : Option (Nat × Bool)} (id : Nat) {e : TypeId} {z : Value} [hz : TyZero P e z] {cs : List Value} (hw : wantedS ops ⟨env, bs⟩ ⟨some d, .alloc e, ty, pos, aft, g⟩ = some true) (hc : z.cells.toList = cs) (hf : freshB ⟨env, bs⟩ (some (id, cs)) = true)
    (k : RunK dr P ops rest ⟨(d, .box id 0) :: env, (id, cs) :: bs⟩ K) : RunK dr P ops (⟨some d, .alloc e, ty, pos, aft, g⟩ :: rest) ⟨env, bs⟩ K := by subst hc; exact .new rfl (by simp [ptrOk, boxIn]) hw (.ofB fun _ => Val.alloc id) hf k
theorem RunK.boxAs {dr : Bool} {P : Program} {ops : Array Oper} {rest : List Oper} {env : List (Nat × PV)} {bs : List (Nat × List Value)} {K : St → Prop} {d : Nat} {ty : TypeId} {pos : String} {aft : Array Edge} {g : Option (Nat × Bool)} (id : Nat) {e : TypeId} {x : Operand} {u : Value} {cs : List Value} (hw : wantedS ops ⟨env, bs⟩ ⟨some d, .box e x, ty, pos, aft, g⟩ = some true) (hx : (St.mk env bs).ev x = .s (.v u)) (hc : u.cells.toList = cs) (hf : freshB ⟨env, bs⟩ (some (id, cs)) = true)
    (k : RunK dr P ops rest ⟨(d, .box id 0) :: env, (id, cs) :: bs⟩ K) : RunK dr P ops (⟨some d, .box e x, ty, pos, aft, g⟩ :: rest) ⟨env, bs⟩ K := by subst hc; exact .new rfl (by simp [ptrOk, boxIn]) hw (.ofB fun σs => Val.box id (unE_v σs hx)) hf k
end Go.Proofs.Ytfacimebfdeaeaa.Pv
