/- The machine of values: slices without room. No condition. -/
import Derived.Test.YtfokjpmcifkoeaaPvJ
namespace Go.Proofs.Ytfokjpmcifkoeaa.Pv
open Go Go.RowKit
/-! ### slices without room: of these nothing is known but their headers -/
section
variable {P : Program} {ev : Operand → PV} {bx : Nat → Option (List Value)} {d : Option Nat} {ty : TypeId} {pos : String} {aft : Array Edge} {g : Option (Nat × Bool)}
theorem Val.appendZ {t e k0 bytes : Nat} [hT : TySl P t e k0 bytes] {x y : Operand} {τ c2 : Nat} {app : App} {els : List (List Value)} {A2 : Option Addr} (hx : ev x = .s (.sl (some τ) app k0 els)) (hy : ev y = .s (.v (.slice A2 0 c2))) :
    Val P ⟨d, .call ⟨.builtin .append, #[x, y], #[t, t]⟩, ty, pos, aft, g⟩ ev bx (.s (.sl (some τ) app k0 els)) none :=
  .same fun B T F ρ a w h => by
    obtain ⟨A, n, c, hu, hs⟩ := (h x (by simp [Op.operands, Call.operands])).1.sl_of hx
    have hu2 : a.eval y = .slice A2 0 c2 := by
      have := (h y (by simp [Op.operands, Call.operands])).1
      rw [hy] at this; exact this
    obtain ⟨i, z, hi, hz, hsz, hby, hzs⟩ := hT.info
    have h2 := hs.2.1
    have hf : (Builtin.firstCells k0 0 (.slice A2 0 c2)).run P w = .ok #[] w := by
      cases A2 <;> simp [Builtin.firstCells, loadCells, loadCellsFrom]
    have hrun : (Builtin.append_ #[t, t] ty #[.slice A n c, .slice A2 0 c2]).run P w = .ok (.slice A n c) w := by
      cases A <;> simp [Builtin.append_, run_underlying hT.und, Go.sizeOf, typeInfo, hi, hsz, Builtin.lenOf, h2, hf, storeCells]
    have hex : (execOp a.eval ⟨d, .call ⟨.builtin .append, #[x, y], #[t, t]⟩, ty, pos, aft, g⟩).run P w = ((Builtin.append_ #[t, t] ty #[.slice A n c, .slice A2 0 c2]).run P w).andThen fun v w' => .ok (.value v) w' := by
      simp [execOp, resolve, invoke, builtin, hu, hu2]
    refine ⟨.slice A n c, ?_, A, n, c, rfl, hs⟩
    rw [hex, hrun]; rfl
theorem Hu.appendZ {t e k0 bytes : Nat} [hT : TySl P t e k0 bytes] {x y : Operand} {τ c2 : Nat} {app : App} {els : List (List Value)} {A2 : Option Addr} (hx : ev x = .s (.sl (some τ) app k0 els)) (hy : ev y = .s (.v (.slice A2 0 c2))) :
    Hu P ⟨d, .call ⟨.builtin .append, #[x, y], #[t, t]⟩, ty, pos, aft, g⟩ ev bx (.s (.sl (some τ) app k0 els)) none := fun σs => by
  rw [unL_sl]
  refine ⟨Val.appendZ (unE_s σs hx) (unE_v σs hy), fun σ h _ => ?_⟩
  have h1 := h x (by simp [Op.operands, Call.operands])
  rw [unE_s σs hx] at h1
  exact h1
end
section
variable {dr : Bool} {P : Program} {ops : Array Oper} {rest : List Oper} {env : List (Nat × PV)} {bs : List (Nat × List Value)} {K : St → Prop} {d : Nat} {ty : TypeId} {pos : String} {aft : Array Edge} {g : Option (Nat × Bool)}
theorem RunK.appendZ {t e k0 bytes : Nat} [hT : TySl P t e k0 bytes] {x y : Operand} {τ c2 : Nat} {app : App} {els : List (List Value)} {A2 : Option Addr} (hw : wantedS ops ⟨env, bs⟩ ⟨some d, .call ⟨.builtin .append, #[x, y], #[t, t]⟩, ty, pos, aft, g⟩ = some true) (he : isEff ops ⟨some d, .call ⟨.builtin .append, #[x, y], #[t, t]⟩, ty, pos, aft, g⟩ = false)
    (hx : (St.mk env bs).ev x = .s (.sl (some τ) app k0 els)) (hy : (St.mk env bs).ev y = .s (.v (.slice A2 0 c2)))
    (k : RunK dr P ops rest ⟨(d, .s (.sl (some τ) app k0 els)) :: env, bs⟩ K) : RunK dr P ops (⟨some d, .call ⟨.builtin .append, #[x, y], #[t, t]⟩, ty, pos, aft, g⟩ :: rest) ⟨env, bs⟩ K :=
  .val he rfl hw (Hu.appendZ hx hy) k
theorem RunK.sliceToZ {t e0 k0 by0 : Nat} [hT : TySl P t e0 k0 by0] {x y : Operand} {ad : Addr} {kd : IntKind} {i : Int} (hw : wantedS ops ⟨env, bs⟩ ⟨some d, .slice t x none (some y) none, ty, pos, aft, g⟩ = some true) (hx : (St.mk env bs).ev x = .s (.v (.slice (some ad) 0 0))) (hy : (St.mk env bs).ev y = .s (.v (.int kd i))) (hij : i = ((0 : Nat) : Int))
    (k : RunK dr P ops rest ⟨(d, .s (.v (.slice (some ad) 0 0))) :: env, bs⟩ K) : RunK dr P ops (⟨some d, .slice t x none (some y) none, ty, pos, aft, g⟩ :: rest) ⟨env, bs⟩ K :=
  .plainK rfl hw (fun a w hs => by
    have h3 := hs.v x _ (by simp [Op.operands]) hx
    have h4 := hs.v y _ (by simp [Op.operands]) hy
    obtain ⟨inf, z, hi, _, hsz, _⟩ := hT.info
    have hb := opt_bound (s := ⟨env, bs⟩) (dflt := 0) hy hij h4 (w := w) (P := P) 0 (Nat.le_refl _) .sliceAcap
    simp only [execOp, Instr.sliceAt, Sem.run_bind, run_underlying hT.und, Result.andThen_ok, Instr.slice, h3, Instr.sliceBounds, Option.map_some, Option.map_none, Sem.run_pure, Option.isSome_none, if_true, hb, Go.sizeOf, typeInfo, run_program, hi, hsz]) k
end
end Go.Proofs.Ytfokjpmcifkoeaa.Pv
