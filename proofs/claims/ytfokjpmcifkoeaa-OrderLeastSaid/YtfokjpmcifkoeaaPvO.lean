/- The machine of values: nil in a slice of slices. No condition. -/
import Derived.Test.YtfokjpmcifkoeaaPvL
namespace Go.Proofs.Ytfokjpmcifkoeaa.Pv
open Go Go.RowKit
section
variable {P : Program} {ops : Array Oper} {rest : List Oper} {env : List (Nat × PV)} {bs : List (Nat × List Value)} {K : St → Prop} {d : Nat} {op : Op} {ty : TypeId} {pos : String} {aft : Array Edge} {gd : Option (Nat × Bool)}
/-- Is it a slice? -/
def SV.isSl : SV → Bool
  | .v _ => false
  | _ => true
/-- The header of a slice comes in sight, and is known to read as it did. -/
theorem Turns.asHdS (t h : Nat) {x : SV} (hl : look env t = .s x) (hx : x.isSl = true) : Turns ⟨env, bs⟩ (fun s1 => ∃ A n c, s1 = ⟨(t, .s (.v (.slice A n c))) :: (h, .hd (.slice A n c) x) :: env, bs⟩) := by
  rintro w0 m a w ⟨T, F, ρ, hr⟩
  have h1 : RepS T F w x (vl a w0.fr t) := by have := hr.env t; rw [show (St.mk env bs).look t = look env t from rfl, hl] at this; exact this
  obtain ⟨A, k, c, hv⟩ : ∃ A n c, vl a w0.fr t = .slice A n c := by
    cases x with
    | v u => cases hx
    | nil => exact ⟨_, _, _, h1⟩
    | sl tag app k els => obtain ⟨A, n, c, h, _⟩ := h1; exact ⟨A, n, c, h⟩
    | nsl tag rts uq k els => obtain ⟨_, A, n, c, h, _⟩ := h1; exact ⟨A, n, c, h⟩
  refine ⟨_, ⟨A, k, c, rfl⟩, T, F, ρ, hr.defers, hr.size, hr.small, hr.below, hr.ext, fun u => ?_, hr.boxes⟩
  show RepP T F ρ w (look ((t, _) :: (h, _) :: env) u) _
  rw [look_put]
  split
  · rename_i e; subst e; exact hv
  · rw [look_put]
    split
    · show RepS T F w x _
      rw [← hv]; exact h1
    · exact hr.env u
end
section
variable {dr : Bool} {P : Program} {ops : Array Oper} {rest : List Oper} {env : List (Nat × PV)} {bs : List (Nat × List Value)} {K : St → Prop} {d : Nat} {op : Op} {ty : TypeId} {pos : String} {aft : Array Edge} {gd : Option (Nat × Bool)}
end
end Go.Proofs.Ytfokjpmcifkoeaa.Pv
