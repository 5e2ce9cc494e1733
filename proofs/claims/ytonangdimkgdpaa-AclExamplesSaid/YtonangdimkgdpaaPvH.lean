/- The machine of values: objects by number, functions that turn them. No condition. -/
import Derived.Test.YtonangdimkgdpaaPvG
namespace Go.Proofs.Ytonangdimkgdpaa.Pv
open Go Go.RowKit
/-! ### objects by number: raw pointers to them, functions that read and turn them -/
/-- What an operation sees of values and of objects. -/
structure Sees (s : St) (op : Op) (a : Act) (w : World) : Prop where
  v : ∀ x u, x ∈ op.operands → s.ev x = .s (.v u) → a.eval x = u
  k : ∀ t b o, 1000000 ≤ t → look s.env t = .kept b o → w.heap[b]? = some o
  n : ∀ t g k rows, 1000000 ≤ t → look s.env t = .nest g k rows → ∃ T, NestOk T w g k rows
theorem unL_kept : ∀ (σs : List Nat) (b : Nat) (o : Obj), unL σs (.kept b o) = .kept b o
  | [], _, _ => rfl
  | _ :: σs, b, o => unL_kept σs b o
theorem ev_kept {s : St} {t b : Nat} {o : Obj} (ht : 1000000 ≤ t) (hk : look s.env t = .kept b o) : s.ev (.tmp t) = .kept b o := by
  show (bif Nat.blt t 1000000 then s.look t else (s.look t).fact) = _
  rw [blt_f ht, cond_false, show s.look t = look s.env t from rfl, hk]; rfl
theorem isV_tmp {t : Nat} (ht : 1000000 ≤ t) : isV (.tmp t) = true := by show Nat.ble 1000000 t = true; rw [Nat.ble_eq]; exact ht
theorem ev_fact {s : St} {t : Nat} {p : PV} (ht : 1000000 ≤ t) (hk : look s.env t = p) (hp : p.fact = p) : s.ev (.tmp t) = p := by
  show (bif Nat.blt t 1000000 then s.look t else (s.look t).fact) = _
  rw [show Nat.blt t 1000000 = false from blt_f ht, show s.look t = p from hk, hp]; rfl
theorem sees_of {s : St} {σs : List Nat} {B : Nat} {T : Nat → BTag} {F : Nat → Nat} {ρ : Nat → Nat × Nat} {op : Op} {a : Act} {w : World} {bx : Nat → Option (List Value)} (h : Opnds B T F ρ (unE σs s.ev) bx op a w) : Sees s op a w :=
  ⟨fun x u hm hx => rep_v (h x (.inl hm)).1 (unE_v σs hx), fun t b o ht hk => by
    have h1 := (h (.tmp t) (.inr (isV_tmp ht))).1
    unfold unE at h1
    rw [ev_kept ht hk, unL_kept] at h1
    exact h1.2.2, fun t g k rows ht hk => by
    have h1 := (h (.tmp t) (.inr (isV_tmp ht))).1
    unfold unE at h1
    rw [ev_fact ht hk rfl, unL_nest] at h1
    exact ⟨T, h1⟩⟩
theorem sees_rs {s : St} {w0 : Base} {n : Nat} {T : Nat → BTag} {F : Nat → Nat} {ρ : Nat → Nat × Nat} {op : Op} {a : Act} {w : World} (h : RSx w0 n T F ρ s a w) : Sees s op a w :=
  ⟨fun _ _ _ hx => ev_v h hx, fun t b o _ hk => by
    have h1 := h.env t
    rw [show s.look t = look s.env t from rfl, hk] at h1
    exact h1.2.2, fun t g k rows _ hk => by
    have h1 := h.env t
    rw [show s.look t = look s.env t from rfl, hk] at h1
    exact ⟨T, h1⟩⟩
section
variable {dr : Bool} {P : Program} {ops : Array Oper} {rest : List Oper} {env : List (Nat × PV)} {bs : List (Nat × List Value)} {K : St → Prop} {d : Nat} {op : Op} {ty : TypeId} {pos : String} {aft : Array Edge} {g : Option (Nat × Bool)}
theorem RunK.plainK {v : Value} (he : isEff ops ⟨some d, op, ty, pos, aft, g⟩ = false) (hw : wantedS ops ⟨env, bs⟩ ⟨some d, op, ty, pos, aft, g⟩ = some true) (h : ∀ (a : Act) (w : World), Sees ⟨env, bs⟩ op a w → (execOp a.eval ⟨some d, op, ty, pos, aft, g⟩).run P w = .ok (.value v) w)
    (k : RunK dr P ops rest ⟨(d, .s (.v v)) :: env, bs⟩ K) : RunK dr P ops (⟨some d, op, ty, pos, aft, g⟩ :: rest) ⟨env, bs⟩ K :=
  .val he rfl hw (.ofV fun _ => .same fun _ _ _ _ a w h0 => ⟨v, h a w (sees_of h0), rfl⟩) k
theorem rep_tup {T : Nat → BTag} {F : Nat → Nat} {ρ : Nat → Nat × Nat} {w : World} (l : List Value) : RepP T F ρ w (.tup (l.map SV.v)) (.tuple l.toArray) :=
  ⟨l.toArray, rfl, by simp, fun i x y hx hy => by
    rw [List.getElem?_map] at hx
    rw [List.getElem?_toArray] at hy
    rw [hy] at hx
    injection hx with hx
    subst hx
    rfl⟩
theorem RunK.plainT {l : List Value} (he : isEff ops ⟨some d, op, ty, pos, aft, g⟩ = false) (hw : wantedS ops ⟨env, bs⟩ ⟨some d, op, ty, pos, aft, g⟩ = some true) (h : ∀ (a : Act) (w : World), Sees ⟨env, bs⟩ op a w → (execOp a.eval ⟨some d, op, ty, pos, aft, g⟩).run P w = .ok (.value (.tuple l.toArray)) w)
    (k : RunK dr P ops rest ⟨(d, .tup (l.map SV.v)) :: env, bs⟩ K) : RunK dr P ops (⟨some d, op, ty, pos, aft, g⟩ :: rest) ⟨env, bs⟩ K :=
  .val he rfl hw (.ofNew (fun _ => .same fun _ _ _ _ a w h0 => ⟨_, h a w (sees_of h0), rep_tup l⟩) (fun σ _ => by simp [PV.un, SV.un])) k
theorem RunK.fieldP {t f off : Nat} [hT : TyField P t f off] {x : Operand} {b o : Nat} (hw : wantedS ops ⟨env, bs⟩ ⟨some d, .fieldAddr t x f, ty, pos, aft, g⟩ = some true) (hx : (St.mk env bs).ev x = .s (.v (.pointer (some ⟨b, o, none⟩))))
    (k : RunK dr P ops rest ⟨(d, .s (.v (.pointer (some ⟨b, o + off, none⟩)))) :: env, bs⟩ K) : RunK dr P ops (⟨some d, .fieldAddr t x f, ty, pos, aft, g⟩ :: rest) ⟨env, bs⟩ K :=
  .plainK rfl hw (fun a w h => by
    have h1 := h.v x _ (by simp [Op.operands]) hx
    simp [execOp, h1, run_fieldAt]) k
theorem RunK.nilCheckP {x : Operand} {ad : Addr} (hw : wantedS ops ⟨env, bs⟩ ⟨some d, .nilCheck x, ty, pos, aft, g⟩ = some true) (hx : (St.mk env bs).ev x = .s (.v (.pointer (some ad))))
    (k : RunK dr P ops rest ⟨(d, .s (.v (.pointer (some ad)))) :: env, bs⟩ K) : RunK dr P ops (⟨some d, .nilCheck x, ty, pos, aft, g⟩ :: rest) ⟨env, bs⟩ K :=
  .plainK rfl hw (fun a w h => by
    have h1 := h.v x _ (by simp [Op.operands]) hx
    simp [execOp, h1]) k
theorem eqIn_p1 (w : World) (n : Nat) (t e : TypeId) (ad : Addr) (hu : P.underlying t = some (.pointer e)) : (Op.equalIn (n + 1) t (.pointer (some ad)) (.pointer none)).run P w = .ok false w := by
  simp [Op.equalIn, run_underlying hu]
theorem eqIn_p0 (w : World) (n : Nat) (t e : TypeId) (p : Option Addr) (hu : P.underlying t = some (.pointer e)) : (Op.equalIn (n + 1) t (.pointer none) (.pointer p)).run P w = .ok p.isNone w := by
  simp [Op.equalIn, run_underlying hu]
theorem eqIn_m1 (w : World) (n : Nat) (t k e : TypeId) (b : Nat) (hu : P.underlying t = some (.map k e)) : (Op.equalIn (n + 1) t (.map (some b)) (.map none)).run P w = .ok false w := by
  simp [Op.equalIn, run_underlying hu]
theorem eq_p1 (w : World) (t e : TypeId) (ad : Addr) (hu : P.underlying t = some (.pointer e)) : (Op.equal t (.pointer (some ad)) (.pointer none)).run P w = .ok false w := eqIn_p1 w 9999 t e ad hu
theorem eq_p0 (w : World) (t e : TypeId) (p : Option Addr) (hu : P.underlying t = some (.pointer e)) : (Op.equal t (.pointer none) (.pointer p)).run P w = .ok p.isNone w := eqIn_p0 w 9999 t e p hu
theorem eq_m1 (w : World) (t k e : TypeId) (b : Nat) (hu : P.underlying t = some (.map k e)) : (Op.equal t (.map (some b)) (.map none)).run P w = .ok false w := eqIn_m1 w 9999 t k e b hu
theorem BinRun.ofEq {t : TypeId} {x y : Operand} {u v : Value} {r : Bool} (hg : ∀ w, (eqGuard .eql t x y u v).run P w = .ok () w) (hb : binOp .eql t u v = (do pure (.bool (← Op.equal t u v)))) (h : ∀ w, (Op.equal t u v).run P w = .ok r w) : BinRun P .eql t x y u v (.bool r) := fun w => by
  rw [Sem.run_bind, hg w, hb, Result.andThen_ok, Sem.run_bind, h w, Result.andThen_ok, Sem.run_pure]
theorem BinRun.eqlP1 {t : TypeId} {x y : Operand} {ad : Addr} (hu : ∃ e, P.underlying t = some (.pointer e)) : BinRun P .eql t x y (.pointer (some ad)) (.pointer none) (.bool false) :=
  let ⟨_, hu⟩ := hu; .ofEq (fun _ => rfl) rfl fun w => eq_p1 w _ _ _ hu
theorem BinRun.eqlP0 {t : TypeId} {x y : Operand} {p : Option Addr} (hu : ∃ e, P.underlying t = some (.pointer e)) : BinRun P .eql t x y (.pointer none) (.pointer p) (.bool p.isNone) :=
  let ⟨_, hu⟩ := hu; .ofEq (fun _ => rfl) rfl fun w => eq_p0 w _ _ _ hu
theorem BinRun.eqlM1 {t : TypeId} {x y : Operand} {b : Nat} (hu : ∃ k e, P.underlying t = some (.map k e)) : BinRun P .eql t x y (.map (some b)) (.map none) (.bool false) :=
  let ⟨_, _, hu⟩ := hu; .ofEq (fun _ => rfl) rfl fun w => eq_m1 w _ _ _ _ hu
theorem RunK.loadP {t : TypeId} [h1 : TyOne P t] {x : Operand} {b j : Nat} {C : Array Value} {e : TypeId} {fz : Nat × Nat} {u : Value} (h : Nat) (hw : wantedS ops ⟨env, bs⟩ ⟨some d, .load t x, ty, pos, aft, g⟩ = some true) (hx : (St.mk env bs).ev x = .s (.v (.pointer (some ⟨b, j, none⟩)))) (hh : Nat.ble 1000000 h = true) (hk : look env h = .kept b (.cells C e fz)) (hu : C[j]? = some u)
    (k : RunK dr P ops rest ⟨(d, .s (.v u)) :: env, bs⟩ K) : RunK dr P ops (⟨some d, .load t x, ty, pos, aft, g⟩ :: rest) ⟨env, bs⟩ K :=
  .plainK rfl hw (fun a w hs => by
    have h2 := hs.v x _ (by simp [Op.operands]) hx
    have h3 := hs.k h b _ (Nat.ble_eq ▸ hh) hk
    have hc : w.cell? ⟨b, j, none⟩ = some u := by rw [cell_of_row w b j C e fz h3]; exact hu
    simp [execOp, h2, Instr.loadAt, Instr.sureAddr, run_loadVar_one h1 hc]) k
theorem RunK.loadPR {t m : Nat} [h1 : TyRow P t m] {x : Operand} {b j : Nat} {C : List Value} {e : TypeId} {fz : Nat × Nat} {l : List Value} (h : Nat) (hw : wantedS ops ⟨env, bs⟩ ⟨some d, .load t x, ty, pos, aft, g⟩ = some true) (hx : (St.mk env bs).ev x = .s (.v (.pointer (some ⟨b, j, none⟩)))) (hh : Nat.ble 1000000 h = true) (hk : look env h = .kept b (.cells C.toArray e fz)) (hm : j + m ≤ C.length) (hl : (C.drop j).take m = l)
    (k : RunK dr P ops rest ⟨(d, .s (.v (.agg l.toArray))) :: env, bs⟩ K) : RunK dr P ops (⟨some d, .load t x, ty, pos, aft, g⟩ :: rest) ⟨env, bs⟩ K :=
  .plainK rfl hw (fun a w hs => by
    have h2 := hs.v x _ (by simp [Op.operands]) hx
    have h3 := hs.k h b _ (Nat.ble_eq ▸ hh) hk
    have hc := run_loadV (P := P) (w := w) (b := b) (o := 0) (t := t) (LoadV.row h1 hm) (fun i v hv => by rw [Nat.zero_add, cell_of_row w b i _ e fz h3]; simpa using hv)
    rw [Nat.zero_add, hl] at hc
    simp [execOp, h2, Instr.loadAt, Instr.sureAddr, hc]) k
theorem Hu.loadHP {ev : Operand → PV} {bx : Nat → Option (List Value)} {t : TypeId} [h1 : TyOne P t] {x : Operand} {b j : Nat} {C : Array Value} {e : TypeId} {fz : Nat × Nat} {hdr : Value} {tag : Option Nat} {app : App} {k : Nat} {els : List (List Value)} (h h2 : Nat) (hx : ev x = .s (.v (.pointer (some ⟨b, j, none⟩)))) (hh : 1000000 ≤ h) (hk : ev (.tmp h) = .kept b (.cells C e fz)) (hu : C[j]? = some hdr) (hh2 : 1000000 ≤ h2) (hf : ev (.tmp h2) = .hd hdr (.sl tag app k els)) :
    Hu P ⟨some d, .load t x, ty, pos, aft, g⟩ ev bx (.s (.sl tag app k els)) none := fun σs => by
  rw [unL_sl]
  refine ⟨.same fun B T F ρ a w h0 => ⟨hdr, ?_, ?_⟩, fun σ hσ _ => ?_⟩
  · have e1 := rep_v (h0 x (.inl (by simp [Op.operands]))).1 (unE_v σs hx)
    have e2 := (h0 (.tmp h) (.inr (isV_tmp hh))).1
    unfold unE at e2
    rw [hk, unL_kept] at e2
    have hc : w.cell? ⟨b, j, none⟩ = some hdr := by rw [cell_of_row w b j C e fz e2.2.2]; exact hu
    simp [execOp, e1, Instr.loadAt, Instr.sureAddr, run_loadVar_one h1 hc]
  · have e2 := (h0 (.tmp h2) (.inr (isV_tmp hh2))).1
    rw [unE_hd σs hf] at e2
    exact e2
  · have h3 := hσ (.tmp h2) (.inr (isV_tmp hh2))
    rw [unE_hd σs hf] at h3
    have h4 : (SV.sl tag (unA σs tag app) k els).un (some σ) = .sl tag (unA σs tag app) k els := by injection h3
    exact congrArg PV.s h4
theorem ev_hd {s : St} {t : Nat} {v : Value} {x : SV} (ht : 1000000 ≤ t) (hk : look s.env t = .hd v x) : s.ev (.tmp t) = .hd v x := by
  show (bif Nat.blt t 1000000 then s.look t else (s.look t).fact) = _
  rw [blt_f ht, cond_false, show s.look t = look s.env t from rfl, hk]; rfl
/-- A slice's header, read out of a held block. -/
theorem RunK.loadHP {t : TypeId} [h1 : TyOne P t] {x : Operand} {b j : Nat} {C : Array Value} {e : TypeId} {fz : Nat × Nat} {hdr : Value} {tag : Option Nat} {app : App} {k0 : Nat} {els : List (List Value)} (h h2 : Nat) (hw : wantedS ops ⟨env, bs⟩ ⟨some d, .load t x, ty, pos, aft, g⟩ = some true) (hx : (St.mk env bs).ev x = .s (.v (.pointer (some ⟨b, j, none⟩)))) (hh : Nat.ble 1000000 h = true) (hk : look env h = .kept b (.cells C e fz)) (hu : C[j]? = some hdr) (hh2 : Nat.ble 1000000 h2 = true) (hf : look env h2 = .hd hdr (.sl tag app k0 els))
    (k : RunK dr P ops rest ⟨(d, .s (.sl tag app k0 els)) :: env, bs⟩ K) : RunK dr P ops (⟨some d, .load t x, ty, pos, aft, g⟩ :: rest) ⟨env, bs⟩ K :=
  .val rfl rfl hw (Hu.loadHP h h2 hx (Nat.ble_eq ▸ hh) (ev_kept (Nat.ble_eq ▸ hh) hk) hu (Nat.ble_eq ▸ hh2) (ev_hd (Nat.ble_eq ▸ hh2) hf)) k
theorem RunK.makeFuncV {f : FuncId} {xs : List Operand} (vs : List Value) (hw : wantedS ops ⟨env, bs⟩ ⟨some d, .makeFunc (.func f) #[] xs.toArray, ty, pos, aft, g⟩ = some true) (hv : xs.map (St.mk env bs).ev = vs.map fun v => PV.s (.v v))
    (k : RunK dr P ops rest ⟨(d, .s (.v (.func (.func f) #[] vs.toArray))) :: env, bs⟩ K) : RunK dr P ops (⟨some d, .makeFunc (.func f) #[] xs.toArray, ty, pos, aft, g⟩ :: rest) ⟨env, bs⟩ K :=
  .plainK rfl hw (fun a w hs => by
    have key : ∀ (ys : List Operand) (us : List Value), (∀ y ∈ ys, y ∈ xs) → ys.map (St.mk env bs).ev = us.map (fun v => PV.s (.v v)) → ys.map a.eval = us := by
      intro ys
      induction ys with
      | nil => intro us _ h; cases us with
        | nil => rfl
        | cons u us => cases h
      | cons y ys ih =>
        intro us hm h
        cases us with
        | nil => cases h
        | cons u us =>
          rw [List.map_cons, List.map_cons] at h
          injection h with h1 h2
          rw [List.map_cons, ih us (fun z hz => hm z (List.mem_cons_of_mem _ hz)) h2, hs.v y u (by simp [Op.operands, hm y (List.mem_cons_self ..)]) h1]
    have h1 := key xs vs (fun _ h => h) hv
    simp [execOp, Instr.makeFunc, h1]) k
end
/-! ### objects are turned -/
def keptNe (ws : List Nat) : PV → Prop
  | .kept b _ => b ∉ ws
  | _ => True
/-- No nest of these groups. -/
def noNest (gs : List Nat) (env : List (Nat × PV)) : Bool := env.all fun p => nestNe gs p.2
theorem nestNe_nil (p : PV) : nestNe [] p = true := by cases p <;> rfl
theorem noNest_nil : ∀ (l : List (Nat × PV)), noNest [] l = true
  | [] => rfl
  | (_, p) :: l => by
    show (nestNe [] p && noNest [] l) = true
    rw [noNest_nil l]
    cases p <;> rfl
theorem noNest_look {gs : List Nat} : ∀ {env : List (Nat × PV)}, noNest gs env = true → ∀ t, nestNe gs (look env t) = true
  | [], _, t => rfl
  | (u, p) :: l, h, t => by
    have h : (nestNe gs p && noNest gs l) = true := h
    rw [Bool.and_eq_true] at h
    rw [look_put]
    split
    · exact h.1
    · exact noNest_look h.2 t
section
variable {P : Program} {w0 : Base} {n : Nat} {T : Nat → BTag} {F : Nat → Nat} {ρ : Nat → Nat × Nat} {s : St} {a : Act} {w : World}
theorem RSx.turnK (hr : RSx w0 n T F ρ s a w) {ws gs us : List Nat} {T' : Nat → BTag} {F' : Nat → Nat} {w' : World} (hws : ∀ b ∈ us, (T b = .obj 0 ∧ b ∈ ws) ∨ ∃ g ∈ gs, T b = .obj (g + 1)) (hsz : w.heap.size ≤ w'.heap.size) (hos : w'.os = w.os) (htape : w'.tape = w.tape) (hout : w'.output = w.output)
    (ho : ∀ b, b < w.heap.size → b ∉ us → w'.heap[b]? = w.heap[b]?) (hT : ∀ b, b < w.heap.size → b ∉ us → T' b = T b ∧ F' b = F b) {env' : List (Nat × PV)} {a' : Act} (hd : a'.defers = a.defers) (hs : a'.tmps.size = a.tmps.size)
    (he : ∀ t, RepP T' F' ρ w' (look env' t) (vl a' w0.fr t) ∨ (look env' t = s.look t ∧ vl a' w0.fr t = vl a w0.fr t ∧ keptNe ws (s.look t) ∧ nestNe gs (s.look t) = true)) : RSx w0 n T' F' ρ ⟨env', s.boxes⟩ a' w' := by
  have hnot : ∀ b, (∀ g, T b ≠ .obj g) → b ∉ us := fun b h hb => (hws b hb).elim (fun h' => h _ h'.1) fun ⟨g, _, h'⟩ => h _ h'
  have hFu : ∀ b, b < w.heap.size → (if b ∈ us then F b else F' b) = F b := fun b hb => by
    split
    · rfl
    · rename_i hm; exact (hT b hb hm).2
  have hg : Goes (fun b => if b ∈ us then .free else T b) F w (fun b => if b ∈ us then .free else T' b) (fun b => if b ∈ us then F b else F' b) w' := by
    refine ⟨hsz, fun b hb => ?_, fun b hb => Nat.le_of_eq (hFu b hb).symm, fun b cur e hb hf hc => ?_, fun b o hb ht => World.cell?_of_block (w := w) (a := ⟨b, o, none⟩) (ho b hb fun hm => ?_), fun b _ hb ht => ho b hb fun hm => ?_, fun b hb ht => ho b hb fun hm => ?_⟩
    · show (if b ∈ us then _ else T' b) = if b ∈ us then _ else T b
      split
      · rfl
      · rename_i hm; exact (hT b hb hm).1
    · have : b ∉ us := fun hm => hf (if_pos hm)
      exact ⟨cur, by rw [ho b hb this]; exact hc, rfl⟩
    · simp only [if_pos hm] at ht
      rcases ht with ht | ⟨τ, ht, _⟩ <;> cases ht
    · simp only [if_pos hm] at ht
      cases ht
    · simp only [if_pos hm] at ht
      cases ht
  have hE : Ends (fun b => if b ∈ us then .free else T b) F w (fun b => if b ∈ us then F b else F' b) w' none := fun b τ hb ht _ => ⟨hFu b hb, ho b hb fun hm => by simp only [if_pos hm] at ht; cases ht⟩
  refine ⟨by rw [hd]; exact hr.defers, by rw [hs]; exact hr.size, hr.small, hr.below.trans ⟨hos, htape, hout, hsz, fun k hk => ho k (Nat.lt_of_lt_of_le hk hr.below.size) (hnot k (fun g => by rw [hr.ext k hk]; intro h; cases h))⟩, fun b hb => by rw [(hT b (Nat.lt_of_lt_of_le hb hr.below.size) (hnot b (fun g => by rw [hr.ext b hb]; intro h; cases h))).1]; exact hr.ext b hb, fun t => ?_, fun id cs hid => ?_⟩
  · rcases he t with h | ⟨h1, h2, h3, h3'⟩
    · exact h
    · show RepP T' F' ρ w' (look env' t) _
      rw [h1, h2]
      have ht := hr.env t
      generalize s.look t = p at ht h3 h3'
      by_cases hko : ∃ W B, p = .old W B
      · obtain ⟨W, B, rfl⟩ := hko
        exact ⟨fun c hc hB => let ⟨q1, q2, q3⟩ := ht.1 c hc hB; ⟨(hT c q2 (hnot c fun g => by rw [q1]; intro h; cases h)).1.trans q1, Nat.lt_of_lt_of_le q2 hsz, (ho c q2 (hnot c fun g => by rw [q1]; intro h; cases h)).trans q3⟩, Nat.le_trans ht.2 hsz⟩
      have hown : ∀ b g, p.owns b g → T b = .obj g → b ∉ us := fun b g ho hb hm => by
        cases p with
        | kept b' o =>
          obtain ⟨rfl, rfl⟩ := ho
          rcases hws b hm with h | ⟨g, _, h⟩
          · exact h3 h.2
          · rw [hb] at h; cases h
        | old W B => exact hko ⟨W, B, rfl⟩
        | nest g' k rows =>
          have ho : g = g' + 1 := ho
          subst ho
          rcases hws b hm with h | ⟨g, hg', h⟩
          · rw [hb] at h; cases h.1
          · rw [hb] at h
            injection h with h
            obtain rfl : g' = g := by omega
            exact nestNe_of h3' hg'
        | _ => exact ho
      have h5 : RepP (fun b => if b ∈ us then .free else T b) F ρ w p (vl a w0.fr t) := by
        refine ht.turn (fun tg _ x hx => ⟨if_neg (hnot x (fun g => by rw [hx]; cases tg <;> intro h <;> cases h)), rfl⟩) (fun id' _ => ⟨rfl, fun x hx => if_neg (hnot x (fun g => by rw [hx]; intro h; cases h))⟩) (fun b g ho hb => (if_neg (hown b g ho hb)).trans hb) (fun x hx => (if_neg (hnot x (fun g => by rw [hx]; intro h; cases h))).trans hx)
      have h6 := h5.goes0 hg hE (ρ' := ρ) (fun _ _ => rfl)
      have back : ∀ x, (if x ∈ us then BTag.free else T' x) ≠ .free → T' x = if x ∈ us then BTag.free else T' x := fun x hx => by
        by_cases hm : x ∈ us
        · rw [if_pos hm] at hx; exact absurd rfl hx
        · rw [if_neg hm]
      refine RepP.turn (T' := T') (F' := F') (ρ' := ρ) h6 (fun tg _ x hx => ⟨back x (by rw [hx]; cases tg <;> intro h <;> cases h), (if_neg (fun hm => by simp only [if_pos hm] at hx; cases tg <;> cases hx)).symm⟩) (fun id' _ => ⟨rfl, fun x hx => back x (by rw [hx]; intro h; cases h)⟩) (fun b g _ hb => (back b (by rw [hb]; intro h; cases h)).trans hb) (fun x hx => (back x (by rw [hx]; intro h; cases h)).trans hx)
  · intro hne
    obtain ⟨b1, b2, b3, b4⟩ := hr.boxes id cs hid hne
    exact ⟨b1, Nat.lt_of_lt_of_le b2 hsz, (hT _ b2 (hnot _ (fun g => by rw [b3]; intro h; cases h))).1.trans b3, by rw [ho _ b2 (hnot _ (fun g => by rw [b3]; intro h; cases h))]; exact b4⟩
end
/-! ### functions that read and turn objects -/
/-- The blocks that facts hold for themselves, with their groups. -/
def ownOf : List PV → List (Nat × Nat)
  | [] => []
  | .kept b _ :: l => (b, 0) :: ownOf l
  | .nest g _ rows :: l => (rows.filterMap NRow.blk).map (fun b => (b, g + 1)) ++ ownOf l
  | _ :: l => ownOf l
abbrev keptOf (fs : List PV) : List Nat := (ownOf fs).map (·.1)
def nestOf : List PV → List Nat
  | [] => []
  | .nest _ _ rows :: l => rows.filterMap NRow.blk ++ nestOf l
  | _ :: l => nestOf l
def groupsOf : List PV → List Nat
  | [] => []
  | .nest g _ _ :: l => g :: groupsOf l
  | _ :: l => groupsOf l
def tag0 (B : List (Nat × Nat)) (b : Nat) : BTag := match B.lookup b with
  | some g => .obj g
  | none => .ext
theorem lookup_in {b : Nat} : ∀ {B : List (Nat × Nat)} {g : Nat}, B.lookup b = some g → (b, g) ∈ B
  | [], _, h => by cases h
  | (c, e) :: B, g, h => by
    rw [List.lookup_cons] at h
    split at h
    · rename_i hb
      injection h with h
      obtain rfl : b = c := by simpa using hb
      subst h
      exact List.mem_cons_self ..
    · exact List.mem_cons_of_mem _ (lookup_in h)
theorem lookup_out {b : Nat} : ∀ {B : List (Nat × Nat)}, B.lookup b = none → b ∉ B.map (·.1)
  | [], _ => List.not_mem_nil
  | (c, e) :: B, h => by
    rw [List.lookup_cons] at h
    split at h
    · cases h
    · rename_i hb
      rw [List.map_cons, List.mem_cons]
      rintro (e | e)
      · simp only at e; subst e; simp at hb
      · exact lookup_out h e
theorem tag0_row {B : List (Nat × Nat)} {b τ : Nat} : tag0 B b ≠ .row τ := by unfold tag0; split <;> intro h <;> cases h
theorem tag0_obj {B : List (Nat × Nat)} {b g : Nat} (h : tag0 B b = .obj g) : (b, g) ∈ B := by
  unfold tag0 at h
  split at h
  · rename_i hl; injection h with h; subst h; exact lookup_in hl
  · cases h
theorem tag0_in {B : List (Nat × Nat)} {T : Nat → BTag} (hT : ∀ b g, (b, g) ∈ B → T b = .obj g) {b g : Nat} (h : (b, g) ∈ B) : tag0 B b = .obj g := by
  unfold tag0
  split
  · rename_i g' hl
    have h1 := hT _ _ (lookup_in hl)
    rw [hT _ _ h] at h1
    exact h1.symm
  · rename_i hl
    exact absurd (List.mem_map.2 ⟨_, h, rfl⟩) (lookup_out hl)
theorem tag0_out {B : List (Nat × Nat)} {b : Nat} (h : b ∉ B.map (·.1)) : tag0 B b = .ext := by
  unfold tag0
  split
  · rename_i g' hl
    exact absurd (List.mem_map.2 ⟨_, lookup_in hl, rfl⟩) h
  · rfl
theorem own_mem {b g : Nat} : ∀ {fs : List PV}, (b, g) ∈ ownOf fs ↔ (g = 0 ∧ ∃ o, PV.kept b o ∈ fs) ∨ ∃ g' k rows, g = g' + 1 ∧ PV.nest g' k rows ∈ fs ∧ b ∈ rows.filterMap NRow.blk
  | [] => ⟨fun h => (by cases h), fun h => h.elim (fun ⟨_, o, h⟩ => (by cases h)) fun ⟨_, _, _, _, h, _⟩ => (by cases h)⟩
  | p :: l => by
    have ih := own_mem (b := b) (g := g) (fs := l)
    cases p with
    | kept b' o' =>
      show (b, g) ∈ (b', 0) :: ownOf l ↔ _
      rw [List.mem_cons, ih]
      constructor
      · rintro (h | ⟨h, o, h'⟩ | ⟨g', k, rows, h1, h2, h3⟩)
        · injection h with h1 h2; subst h1 h2; exact .inl ⟨rfl, o', List.mem_cons_self ..⟩
        · exact .inl ⟨h, o, List.mem_cons_of_mem _ h'⟩
        · exact .inr ⟨g', k, rows, h1, List.mem_cons_of_mem _ h2, h3⟩
      · rintro (⟨h, o, h'⟩ | ⟨g', k, rows, h1, h2, h3⟩)
        · rcases List.mem_cons.1 h' with h' | h'
          · injection h' with h1 h2; subst h h1; exact .inl rfl
          · exact .inr (.inl ⟨h, o, h'⟩)
        · rcases List.mem_cons.1 h2 with h2 | h2
          · cases h2
          · exact .inr (.inr ⟨g', k, rows, h1, h2, h3⟩)
    | nest g2 k2 rows2 =>
      show (b, g) ∈ (rows2.filterMap NRow.blk).map (fun b => (b, g2 + 1)) ++ ownOf l ↔ _
      rw [List.mem_append, ih]
      constructor
      · rintro (h | ⟨h, o, h'⟩ | ⟨g', k, rows, h1, h2, h3⟩)
        · obtain ⟨c, hc, h⟩ := List.mem_map.1 h
          injection h with h1 h2
          subst h1 h2
          exact .inr ⟨g2, k2, rows2, rfl, List.mem_cons_self .., hc⟩
        · exact .inl ⟨h, o, List.mem_cons_of_mem _ h'⟩
        · exact .inr ⟨g', k, rows, h1, List.mem_cons_of_mem _ h2, h3⟩
      · rintro (⟨h, o, h'⟩ | ⟨g', k, rows, h1, h2, h3⟩)
        · rcases List.mem_cons.1 h' with h' | h'
          · cases h'
          · exact .inr (.inl ⟨h, o, h'⟩)
        · rcases List.mem_cons.1 h2 with h2 | h2
          · injection h2 with e1 e2 e3
            subst e1 e2 e3 h1
            exact .inl (List.mem_map.2 ⟨b, h3, rfl⟩)
          · exact .inr (.inr ⟨g', k, rows, h1, h2, h3⟩)
    | _ =>
      show (b, g) ∈ ownOf l ↔ _
      rw [ih]
      constructor
      · rintro (⟨h, o, h'⟩ | ⟨g', k, rows, h1, h2, h3⟩)
        · exact .inl ⟨h, o, List.mem_cons_of_mem _ h'⟩
        · exact .inr ⟨g', k, rows, h1, List.mem_cons_of_mem _ h2, h3⟩
      · rintro (⟨h, o, h'⟩ | ⟨g', k, rows, h1, h2, h3⟩)
        · rcases List.mem_cons.1 h' with h' | h'
          · cases h'
          · exact .inl ⟨h, o, h'⟩
        · rcases List.mem_cons.1 h2 with h2 | h2
          · cases h2
          · exact .inr ⟨g', k, rows, h1, h2, h3⟩
theorem nest_mem {b : Nat} : ∀ {fs : List PV}, b ∈ nestOf fs ↔ ∃ g k rows, PV.nest g k rows ∈ fs ∧ b ∈ rows.filterMap NRow.blk
  | [] => ⟨fun h => (by cases h), fun ⟨_, _, _, h, _⟩ => (by cases h)⟩
  | p :: l => by
    have ih := nest_mem (b := b) (fs := l)
    cases p with
    | nest g2 k2 rows2 =>
      show b ∈ rows2.filterMap NRow.blk ++ nestOf l ↔ _
      rw [List.mem_append, ih]
      constructor
      · rintro (h | ⟨g, k, rows, h1, h2⟩)
        · exact ⟨g2, k2, rows2, List.mem_cons_self .., h⟩
        · exact ⟨g, k, rows, List.mem_cons_of_mem _ h1, h2⟩
      · rintro ⟨g, k, rows, h1, h2⟩
        rcases List.mem_cons.1 h1 with h1 | h1
        · injection h1 with e1 e2 e3; subst e3; exact .inl h2
        · exact .inr ⟨g, k, rows, h1, h2⟩
    | _ =>
      show b ∈ nestOf l ↔ _
      rw [ih]
      constructor
      · rintro ⟨g, k, rows, h1, h2⟩; exact ⟨g, k, rows, List.mem_cons_of_mem _ h1, h2⟩
      · rintro ⟨g, k, rows, h1, h2⟩
        rcases List.mem_cons.1 h1 with h1 | h1
        · cases h1
        · exact ⟨g, k, rows, h1, h2⟩
theorem groups_mem {g : Nat} : ∀ {fs : List PV}, g ∈ groupsOf fs ↔ ∃ k rows, PV.nest g k rows ∈ fs
  | [] => ⟨fun h => (by cases h), fun ⟨_, _, h⟩ => (by cases h)⟩
  | p :: l => by
    have ih := groups_mem (g := g) (fs := l)
    cases p with
    | nest g2 k2 rows2 =>
      show g ∈ g2 :: groupsOf l ↔ _
      rw [List.mem_cons, ih]
      constructor
      · rintro (rfl | ⟨k, rows, h1⟩)
        · exact ⟨k2, rows2, List.mem_cons_self ..⟩
        · exact ⟨k, rows, List.mem_cons_of_mem _ h1⟩
      · rintro ⟨k, rows, h1⟩
        rcases List.mem_cons.1 h1 with h1 | h1
        · injection h1 with e1; exact .inl e1
        · exact .inr ⟨k, rows, h1⟩
    | _ =>
      show g ∈ groupsOf l ↔ _
      rw [ih]
      constructor
      · rintro ⟨k, rows, h1⟩; exact ⟨k, rows, List.mem_cons_of_mem _ h1⟩
      · rintro ⟨k, rows, h1⟩
        rcases List.mem_cons.1 h1 with h1 | h1
        · cases h1
        · exact ⟨k, rows, h1⟩
def ArgsAt (T : Nat → BTag) (w : World) : List SV → List Value → Prop
  | [], [] => True
  | x :: xs, u :: us => RepS T (fun _ => 0) w x u ∧ ArgsAt T w xs us
  | _, _ => False
theorem ArgsAt.append {T : Nat → BTag} {w : World} : ∀ {xs : List SV} {us : List Value}, ArgsAt T w xs us → ∀ {ys : List SV} {vs : List Value}, ArgsAt T w ys vs → ArgsAt T w (xs ++ ys) (us ++ vs)
  | [], [], _, _, _, h => h
  | _ :: _, _ :: _, ⟨h1, h2⟩, _, _, h => ⟨h1, h2.append h⟩
  | [], _ :: _, h, _, _, _ => h.elim
  | _ :: _, [], h, _, _, _ => h.elim
theorem ArgsAt.caps {T : Nat → BTag} {w : World} : ∀ (l : List Value), ArgsAt T w (l.map SV.v) l
  | [] => trivial
  | _ :: l => ⟨rfl, ArgsAt.caps l⟩
theorem ArgsAt.len {T : Nat → BTag} {w : World} : ∀ {xs : List SV} {us : List Value}, ArgsAt T w xs us → us.length = xs.length
  | [], [], _ => rfl
  | _ :: _, _ :: _, ⟨_, h⟩ => by simp [h.len]
  | [], _ :: _, h => h.elim
  | _ :: _, [], h => h.elim
theorem ArgsAt.get {T : Nat → BTag} {w : World} {ρ : Nat → Nat × Nat} : ∀ {xs : List SV} {us : List Value}, ArgsAt T w xs us → ∀ i, RepP T (fun _ => 0) ρ w ((xs.map PV.s).getD i .any) (us.getD i undef)
  | [], [], _, i => by simp; trivial
  | _ :: _, _ :: _, ⟨h, _⟩, 0 => h
  | _ :: _, _ :: _, ⟨_, h⟩, i + 1 => h.get i
  | [], _ :: _, h, _ => h.elim
  | _ :: _, [], h, _ => h.elim
def okFact : PV → Bool
  | .kept _ _ => true
  | .hd _ x => x.isNew
  | .hds tag _ _ => tag.isSome
  | .nest _ _ _ => true
  | _ => false
def inFact : PV → Bool
  | .kept _ _ => true
  | .hd _ _ => true
  | .hds _ _ _ => true
  | .nest _ _ _ => true
  | _ => false
theorem rep_inFact {T : Nat → BTag} {F : Nat → Nat} {ρ ρ' : Nat → Nat × Nat} {w : World} {p : PV} {u v : Value} (hp : inFact p = true) (h : RepP T F ρ w p u) : RepP T F ρ' w p v := by
  cases p <;> first | exact h | cases hp
/-- f reads the objects of fs, turns no others than those of ws and the nests, and gives a result and facts that K tells of. -/
def Acts (P : Program) (f : FuncId) (as : List SV) (fs : List PV) (ws : List Nat) (K : PV → List PV → Prop) : Prop :=
  Callable P f ∧ (∀ b ∈ ws, (b, 0) ∈ ownOf fs) ∧ ∀ (vs : List Value) (w : World), ArgsAt (tag0 (ownOf fs)) w as vs → (∀ p ∈ fs, RepP (tag0 (ownOf fs)) (fun _ => 0) (fun _ => (0, 0)) w p undef) →
    Calls P f vs.toArray w fun e w' => ∃ v T' F' res fs', K res fs' ∧ e = .returned v ∧ Below 0 w w' ∧ (∀ b, b < w.heap.size → b ∉ ws → b ∉ nestOf fs → w'.heap[b]? = w.heap[b]?) ∧ (∀ b, b < w.heap.size → b ∉ nestOf fs → T' b = tag0 (ownOf fs) b) ∧
      RepP T' F' (fun _ => (0, 0)) w' res v ∧ res.isNew = true ∧ ∀ p ∈ fs', okFact p = true ∧ RepP T' F' (fun _ => (0, 0)) w' p undef
theorem Acts.mono {P : Program} {f : FuncId} {as : List SV} {fs : List PV} {ws : List Nat} {K K' : PV → List PV → Prop} (h : Acts P f as fs ws K) (hK : ∀ r l, K r l → K' r l) : Acts P f as fs ws K' :=
  ⟨h.1, h.2.1, fun vs w h1 h2 => (h.2.2 vs w h1 h2).mono fun _ _ ⟨v, T', F', res, fs', q, r⟩ => ⟨v, T', F', res, fs', hK _ _ q, r⟩⟩
/-- What is known of the objects that a function is handed; gs: the nests that it may turn. -/
inductive FactsOk (env : List (Nat × PV)) (gs : List Nat) : List PV → Prop
  | nil : FactsOk env gs []
  | kept {b : Nat} {o : Obj} {l : List PV} (t : Nat) (h : look env t = .kept b o) (ht : Nat.ble 1000000 t = true) (r : FactsOk env gs l) : FactsOk env gs (.kept b o :: l)
  | hd {v : Value} {tag : Option Nat} {app : App} {k : Nat} {els : List (List Value)} {l : List PV} (t : Nat) (h : look env t = .hd v (.sl tag app k els)) (ht : Nat.ble 1000000 t = true) (r : FactsOk env gs l) : FactsOk env gs (.hd v (.sl none .no k els) :: l)
  | hdn {v : Value} {tag : Option Nat} {rts : List (Option Nat)} {uq : Bool} {k : Nat} {els : List (List EV)} {l : List PV} (t : Nat) (h : look env t = .hd v (.nsl tag rts uq k els)) (ht : Nat.ble 1000000 t = true) (r : FactsOk env gs l) : FactsOk env gs (.hd v (.nsl none [none] false k els) :: l)
  | hds {tag : Option Nat} {k : Nat} {m : List (Value × List (List Value))} {l : List PV} (t : Nat) (h : look env t = .hds tag k m) (ht : Nat.ble 1000000 t = true) (r : FactsOk env gs l) : FactsOk env gs (.hds none k m :: l)
  | nst {g k : Nat} {rows : List NRow} {l : List PV} (t : Nat) (h : look env t = .nest g k rows) (ht : Nat.ble 1000000 t = true) (hg : nestNe gs (.nest g k []) = true) (r : FactsOk env gs l) : FactsOk env gs (.hds none k (rows.map fun r => (r.hdr, r.els)) :: l)
  | nest {g k : Nat} {rows : List NRow} {l : List PV} (t : Nat) (h : look env t = .nest g k rows) (ht : Nat.ble 1000000 t = true) (hg : Nat.blt g 1000 = true) (r : FactsOk env gs l) : FactsOk env gs (.nest g k rows :: l)
def place : List Nat → List PV → List (Nat × PV) → List (Nat × PV)
  | t :: ts, p :: ps, g => (t, p) :: place ts ps g
  | _, _, g => g
def rmS (hs : List Nat) : List (Nat × PV) → List (Nat × PV)
  | [] => []
  | (t, p) :: l => bif hs.any (Nat.beq t) then rmS hs l else (t, p) :: rmS hs l
theorem look_place : ∀ (ts : List Nat) (ps : List PV) (g : List (Nat × PV)) (t : Nat), look (place ts ps g) t = look g t ∨ look (place ts ps g) t ∈ ps
  | [], ps, g, t => .inl (by cases ps <;> rfl)
  | _ :: _, [], g, t => .inl rfl
  | t' :: ts, p :: ps, g, t => by
    rw [place, look_put]
    split
    · exact .inr (List.mem_cons_self ..)
    · exact (look_place ts ps g t).imp id (List.mem_cons_of_mem _)
theorem look_rmS (hs : List Nat) : ∀ (env : List (Nat × PV)) (t : Nat), look (rmS hs env) t = .any ∨ look (rmS hs env) t = look env t
  | [], t => .inl rfl
  | (u, p) :: l, t => by
    have ih := look_rmS hs l t
    rw [rmS]
    cases h : hs.any (Nat.beq u) with
    | false =>
      rw [cond_false, look_put, look_put]
      split
      · exact .inr rfl
      · exact ih
    | true =>
      rw [cond_true, look_put]
      split
      · rename_i e
        subst e
        have key : ∀ m : List (Nat × PV), look (rmS hs m) u = .any := fun m => by
          induction m with
          | nil => rfl
          | cons q m ihm =>
            obtain ⟨u', p'⟩ := q
            rw [rmS]
            cases h' : hs.any (Nat.beq u') with
            | true => rw [cond_true]; exact ihm
            | false =>
              rw [cond_false, look_put, if_neg (fun e => by rw [e, h] at h'; cases h')]
              exact ihm
        exact .inl (key l)
      · exact ih
def ApartE (ws : List Nat) : List (Nat × PV) → Prop
  | [] => True
  | (_, p) :: l => keptNe ws p ∧ ApartE ws l
theorem ApartE.look {ws : List Nat} : ∀ {l : List (Nat × PV)}, ApartE ws l → ∀ t, keptNe ws (look l t)
  | [], _, t => trivial
  | (u, p) :: l, h, t => by
    rw [look_put]
    split
    · exact h.1
    · exact ApartE.look h.2 t
theorem SlOk.call2 {Tc T' : Nat → BTag} {Fc F' : Nat → Nat} {w' : World} {τ : Nat} {N : Nat → Prop} (hx : ∀ b σ, Tc b = .row σ → N b) (hT : ∀ b, N b → T' b = (Tc b).retag τ ∧ F' b = Fc b) {tag : Option Nat} (hn : tag.isSome = true) {app : App} {k : Nat} {els : List (List Value)} {A : Option Addr} {n c : Nat} (h : SlOk Tc Fc w' tag app k els A n c) : SlOk T' F' w' (tag.map fun _ => τ) app k els A n c := by
  obtain ⟨h1, h2, h2', h3, h4, h5, h6, h7⟩ := h
  rcases tag with _ | σ
  · cases hn
  · have old : ∀ ad, A = some ad → N ad.block := fun ad hA => by
      obtain ⟨q1, q2, q3, q4, q5⟩ := h5 ad hA
      exact hx _ _ q3
    refine ⟨h1, h2, h2', h3, h4, fun ad hA => ?_, ?_, h7.elim (fun h => by cases h) .inr⟩
    · obtain ⟨q1, q2, q3, q4, q5⟩ := h5 ad hA
      obtain ⟨e1, e2⟩ := hT _ (old ad hA)
      refine ⟨q1, q2, by rw [e1, q3]; rfl, ?_, q5⟩
      rcases q4 with q4 | q4
      · cases q4
      · exact .inr (by rw [e2]; exact q4)
    · cases app with
      | no => trivial
      | full => exact ⟨h6.1, .inl (by simp)⟩
      | front e =>
        refine ⟨.inl (by simp), ?_⟩
        rcases h6.2 with h8 | ⟨b, o, cur, e', hA, hF, r⟩
        · exact .inl h8
        · exact .inr ⟨b, o, cur, e', hA, by rw [(hT _ (old _ hA)).2]; exact hF, r⟩
theorem RepS.call2 {Tc T' : Nat → BTag} {Fc F' : Nat → Nat} {w' : World} {τ : Nat} {N : Nat → Prop} (hx : ∀ b σ, Tc b = .row σ → N b) (hT : ∀ b, N b → T' b = (Tc b).retag τ ∧ F' b = Fc b) {x : SV} (hn : x.isNew = true) {u : Value} (h : RepS Tc Fc w' x u) : RepS T' F' w' (x.retag τ) u := by
  cases x with
  | v x => exact h
  | nil => exact h
  | sl tag app k els =>
    obtain ⟨A, n, c, hu, h1⟩ := h
    rcases tag with _ | σ
    · simp [SV.isNew] at hn
    · exact ⟨A, n, c, hu, h1.call2 hx hT rfl⟩
  | nsl tag rts uq k els =>
    obtain ⟨hs, A, n, c, hu, h1, h2, h3⟩ := h
    have hn' : (tag.isSome && rts.all (·.isSome)) = true := hn
    rw [Bool.and_eq_true] at hn'
    exact ⟨hs, A, n, c, hu, h1.call2 hx hT hn'.1, h2.map (fun t => t.map fun _ => τ) (fun t ht => List.mem_map_of_mem ht) (fun tag k els A n c ht h => h.call2 hx hT (List.all_eq_true.1 hn'.2 tag ht)), h3⟩
  | ag rts e =>
    obtain ⟨hs, hu, h2⟩ := h
    exact ⟨hs, hu, h2.map (fun t => t.map fun _ => τ) (fun t ht => List.mem_map_of_mem ht) (fun tag k els A n c ht h => h.call2 hx hT (List.all_eq_true.1 hn tag ht))⟩
theorem RepP.call2 {Tc T' : Nat → BTag} {Fc F' : Nat → Nat} {ρ ρ' : Nat → Nat × Nat} {w' : World} {τ : Nat} {N : Nat → Prop} (hx : ∀ b σ, Tc b = .row σ → N b) (hT : ∀ b, N b → T' b = (Tc b).retag τ ∧ F' b = Fc b) {p : PV} (hn : p.isNew = true) {u : Value} (h : RepP Tc Fc ρ w' p u) : RepP T' F' ρ' w' (p.retag τ) u := by
  cases p with
  | s x => exact RepS.call2 hx hT hn h
  | tup ys =>
    obtain ⟨vs, hu, hl, hr⟩ := h
    refine ⟨vs, hu, by simpa using hl, fun i x y hx' hy => ?_⟩
    rw [List.getElem?_map] at hx'
    cases hxi : ys[i]? with
    | none => rw [hxi] at hx'; cases hx'
    | some x0 =>
      rw [hxi] at hx'
      injection hx' with hx'
      subst hx'
      exact RepS.call2 hx hT (List.all_eq_true.1 hn _ (List.mem_of_getElem? hxi)) (hr i x0 y hxi hy)
  | _ => cases hn
/-- An argument, seen by a function that holds some objects for itself. -/
theorem SlOk.toAt {T T' : Nat → BTag} {F : Nat → Nat} {w : World} {tag : Option Nat} {app : App} {k : Nat} {els : List (List Value)} {A : Option Addr} {n c : Nat} (h : SlOk T F w tag app k els A n c) (hT : ∀ b, T b = ofTag tag → T' b = .ext) : SlOk T' (fun _ => 0) w none .no k els A n c := by
  obtain ⟨h1, h2, h2', h3, h4, h5, h6, h7⟩ := h
  refine ⟨h1, h2, h2', h3, h4, fun ad hA => ?_, trivial, .inl rfl⟩
  obtain ⟨q1, q2, q3, q4, q5⟩ := h5 ad hA
  exact ⟨q1, q2, hT _ q3, .inl rfl, q5⟩
theorem ArgLe.repAt {B : Nat} {bx : Nat → Option (List Value)} {T T' : Nat → BTag} {F : Nat → Nat} {ρ : Nat → Nat × Nat} {w : World} {p : PV} {x : SV} (hT : ∀ b, (∀ g, T b ≠ .obj g) → T' b = .ext) (h : ArgLe bx p x) (hbx : ∀ id, p.isBox id = true → ∀ cs, bx id = some cs → BoxOk B T ρ w id cs) {u : Value} (hr : RepP T F ρ w p u) : RepS T' (fun _ => 0) w x u := by
  cases h with
  | v x => exact hr
  | sl tag app k els =>
    obtain ⟨A, n, c, hu, h⟩ := hr
    exact ⟨A, n, c, hu, h.toAt fun b hb => hT b (fun g => by rw [hb]; cases tag <;> intro h <;> cases h)⟩
  | nsl tag rts uq k els =>
    obtain ⟨hs, A, n, c, hu, h1, h2, h3⟩ := hr
    exact ⟨hs, A, n, c, hu, h1.toAt fun b hb => hT b (fun g => by rw [hb]; cases tag <;> intro h <;> cases h), h2.map (fun _ => none) (fun _ _ => List.mem_singleton_self _) (fun tg k els A n c _ h => h.toAt fun b hb => hT b (fun g => by rw [hb]; cases tg <;> intro h <;> cases h)), fun h => by cases h⟩
  | nsn k => exact ⟨[], none, 0, 0, hr, SlOk.toNil _ _ _, ⟨rfl, fun i e h he => by simp at he⟩, fun h => by cases h⟩
  | nil k => exact ⟨none, 0, 0, hr, SlOk.toNil _ _ _⟩
  | nil' => exact hr
  | @bsl id k n els hb hn hk =>
    rcases hr with ⟨hu, h0⟩ | ⟨c, cur, e, h1, h2, h3, h4, h5, _⟩
    · have : els = [] := List.eq_nil_of_length_eq_zero (by omega)
      subst this
      exact ⟨none, 0, 0, hu, SlOk.toNil _ _ _⟩
    · refine ⟨_, n, c, h3, hn, h1, h2, hk, (fun h => by cases h), fun ad hA => ?_, trivial, .inl rfl⟩
      injection hA with hA
      subst hA
      refine ⟨rfl, h4, hT _ (fun g => by rw [h5]; intro h; cases h), .inl rfl, fun i j e' u he hu' => ?_⟩
      have := (hbx id (Nat.beq_refl _) _ hb).cell (flatten_at hk he hu')
      simp only [Nat.add_zero, Nat.add_assoc]
      exact this
theorem ArgsLe.okAt {ev : Operand → PV} {bx : Nat → Option (List Value)} {B : Nat} {T T' : Nat → BTag} {F : Nat → Nat} {ρ : Nat → Nat × Nat} {w : World} {a : Act} {gs : List Nat} (hT : ∀ b, (∀ g, T b ≠ .obj g) → T' b = .ext) (hT2 : ∀ b g, g ∉ gs → T b = .obj (g + 1) → T' b = .ext) : ∀ {xs : List Operand} {ys : List SV}, ArgsLe ev bx gs xs ys → (∀ x, (x ∈ xs ∨ isV x = true) → RepP T F ρ w (ev x) (a.eval x) ∧ ∀ id, (ev x).isBox id = true → ∀ cs, bx id = some cs → BoxOk B T ρ w id cs) → ArgsAt T' w ys (xs.map a.eval)
  | _, _, .nil, _ => trivial
  | _, _, .cons h t, hr => ⟨h.repAt hT (hr _ (.inl (List.mem_cons_self ..))).2 (hr _ (.inl (List.mem_cons_self ..))).1, t.okAt hT hT2 fun x hx => hr x (hx.imp (List.mem_cons_of_mem _) id)⟩
  | _, _, .hd (x := x) (tag := tag) (app := app) (k := k) (els := els) t hx ht hf r, hr => by
    refine ⟨?_, r.okAt hT hT2 fun x hx => hr x (hx.imp (List.mem_cons_of_mem _) id)⟩
    have h1 := (hr x (.inl (List.mem_cons_self ..))).1
    rw [hx] at h1
    have h2 := (hr (.tmp t) (.inr ht)).1
    rw [hf] at h2
    rw [show a.eval x = _ from h1]
    exact (ArgLe.sl (bx := bx) tag app k els).repAt (T := T) (F := F) (ρ := ρ) (B := B) hT (fun _ h => by cases h) h2
  | _, _, .hdn (x := x) (tag := tag) (rts := rts) (uq := uq) (k := k) (els := els) t hx ht hf r, hr => by
    refine ⟨?_, r.okAt hT hT2 fun x hx => hr x (hx.imp (List.mem_cons_of_mem _) (fun h => h))⟩
    have h1 := (hr x (.inl (List.mem_cons_self ..))).1
    rw [hx] at h1
    have h2 := (hr (.tmp t) (.inr ht)).1
    rw [hf] at h2
    rw [show a.eval x = _ from h1]
    exact (ArgLe.nsl (bx := bx) tag rts uq k els).repAt (T := T) (F := F) (ρ := ρ) (B := B) hT (fun _ h => by cases h) h2
  | _, _, .hs (x := x) (id := id) (k := k) (n := n) (els := els) t hx ht hf hb hn hk r, hr => by
    refine ⟨?_, r.okAt hT hT2 fun x hx => hr x (hx.imp (List.mem_cons_of_mem _) (fun h => h))⟩
    have h1 := (hr x (.inl (List.mem_cons_self ..))).1
    rw [hx] at h1
    have h2 := hr (.tmp t) (.inr ht)
    rw [hf] at h2
    rw [show a.eval x = _ from h1]
    exact (ArgLe.bsl hb hn hk).repAt (T := T) (F := F) (ρ := ρ) (B := B) hT (fun id' h => h2.2 id' h) h2.1
  | _, _, .nst (x := x) (g := g) (rows := rows) (r := r) t hx ht hf hg hm q, hr => by
    refine ⟨?_, q.okAt hT hT2 fun x hx => hr x (hx.imp (List.mem_cons_of_mem _) (fun h => h))⟩
    have h1 := (hr x (.inl (List.mem_cons_self ..))).1
    rw [hx] at h1
    have h2 := (hr (.tmp t) (.inr ht)).1
    rw [hf] at h2
    rw [show a.eval x = _ from h1]
    exact (h2.2 r hm).rep (fun b hb => hT2 b g (nestNe_of hg) hb)
  | _, _, .nsf (x := x) (g := g) (rows := rows) (r := r) t hx ht hf hg hm hl q, hr => by
    refine ⟨?_, q.okAt hT hT2 fun x hx => hr x (hx.imp (List.mem_cons_of_mem _) (fun h => h))⟩
    have h1 := (hr x (.inl (List.mem_cons_self ..))).1
    rw [hx] at h1
    have h2 := (hr (.tmp t) (.inr ht)).1
    rw [hf] at h2
    rw [show a.eval x = _ from h1]
    exact (h2.2 r hm).repF hl (fun b hb => hT2 b g (nestNe_of hg) hb)
theorem NRow.blk_some {r : NRow} {b o : Nat} (h : r.A = some (b, o)) : r.blk = some b := by unfold NRow.blk; rw [h]; rfl
theorem NestOk.obj {T : Nat → BTag} {w : World} {g k : Nat} {rows : List NRow} (h : NestOk T w g k rows) {b : Nat} (hb : b ∈ rows.filterMap NRow.blk) : T b = .obj (g + 1) ∧ b < w.heap.size := by
  obtain ⟨r, hr, hrb⟩ := List.mem_filterMap.1 hb
  obtain ⟨_, _, _, h4⟩ := h.2 r hr
  rcases h4 with ⟨h4, _⟩ | ⟨b', o, cur, e, hA, hT, hh, _⟩
  · unfold NRow.blk at hrb; rw [h4] at hrb; cases hrb
  · rw [NRow.blk_some hA] at hrb
    injection hrb with hrb
    subst hrb
    exact ⟨hT, (Array.getElem?_eq_some_iff.1 hh).1⟩
theorem NestOk.own {T T' : Nat → BTag} {w : World} {g g' k : Nat} {rows : List NRow} (h : NestOk T w g k rows) (hT : ∀ b ∈ rows.filterMap NRow.blk, T' b = .obj (g' + 1)) : NestOk T' w g' k rows := by
  refine ⟨h.1, fun r hr => ?_⟩
  obtain ⟨h1, h2, h3, h4⟩ := h.2 r hr
  exact ⟨h1, h2, h3, h4.imp id fun ⟨b, o, cur, e, q1, q2, q3⟩ => ⟨b, o, cur, e, q1, hT b (List.mem_filterMap.2 ⟨r, hr, NRow.blk_some q1⟩), q3⟩⟩
theorem NestOk.hds {T T' : Nat → BTag} {w : World} {g k : Nat} {rows : List NRow} (h : NestOk T w g k rows) (hT : ∀ b, T b = .obj (g + 1) → T' b = .ext) : ∀ p ∈ rows.map (fun r => (r.hdr, r.els)), RepS T' (fun _ => 0) w (.sl none .no k p.2) p.1 := by
  intro p hp
  obtain ⟨r, hr, rfl⟩ := List.mem_map.1 hp
  exact (h.2 r hr).rep hT
theorem FactsOk.obj {w0 : Base} {n : Nat} {T : Nat → BTag} {F : Nat → Nat} {ρ : Nat → Nat × Nat} {env : List (Nat × PV)} {bs : List (Nat × List Value)} {a : Act} {w : World} (hr : RSx w0 n T F ρ ⟨env, bs⟩ a w) {gs : List Nat} {fs : List PV} (h : FactsOk env gs fs) : ∀ b g, (b, g) ∈ ownOf fs → T b = .obj g ∧ g < 1001 := by
  induction h with
  | nil => intro b g hb; cases hb
  | kept t h _ _ ih =>
    intro b' g hb
    rcases List.mem_cons.1 hb with hb | hb
    · have h1 := hr.env t
      rw [show (St.mk env bs).look t = look env t from rfl, h] at h1
      injection hb with e1 e2
      subst e1 e2
      exact ⟨h1.1, by omega⟩
    · exact ih b' g hb
  | hd t h _ _ ih => exact ih
  | hdn t h _ _ ih => exact ih
  | hds t h _ _ ih => exact ih
  | nst t h _ _ _ ih => exact ih
  | @nest g' k rows l t h _ hg _ ih =>
    intro b g hb
    rcases List.mem_append.1 hb with hb | hb
    · obtain ⟨c, hc, e⟩ := List.mem_map.1 hb
      injection e with e1 e2
      subst e1 e2
      have h1 := hr.env t
      rw [show (St.mk env bs).look t = look env t from rfl, h] at h1
      exact ⟨(NestOk.obj h1 hc).1, by have := Nat.blt_eq ▸ hg; omega⟩
    · exact ih b g hb
theorem FactsOk.rep {w0 : Base} {n : Nat} {T T' : Nat → BTag} {F : Nat → Nat} {ρ ρ' : Nat → Nat × Nat} {env : List (Nat × PV)} {bs : List (Nat × List Value)} {a : Act} {w : World} (hr : RSx w0 n T F ρ ⟨env, bs⟩ a w) {gs : List Nat} (hT : ∀ b, (∀ g, T b ≠ .obj g) → T' b = .ext) (hT2 : ∀ b g, g ∉ gs → T b = .obj (g + 1) → T' b = .ext) {fs : List PV} (h : FactsOk env gs fs) : (∀ b g, (b, g) ∈ ownOf fs → T' b = .obj g) → ∀ p ∈ fs, RepP T' (fun _ => 0) ρ' w p undef := by
  induction h with
  | nil => intro _ p hp; cases hp
  | kept t h _ _ ih =>
    intro hk p hp
    rcases List.mem_cons.1 hp with rfl | hp
    · have h1 := hr.env t
      rw [show (St.mk env bs).look t = look env t from rfl, h] at h1
      exact ⟨hk _ _ (List.mem_cons_self ..), h1.2⟩
    · exact ih (fun b g hb => hk b g (List.mem_cons_of_mem _ hb)) p hp
  | @hd v tag app k els l t h _ _ ih =>
    intro hk p hp
    rcases List.mem_cons.1 hp with rfl | hp
    · have h1 := hr.env t
      rw [show (St.mk env bs).look t = look env t from rfl, h] at h1
      obtain ⟨A, n, c, hu, h1⟩ := h1
      exact ⟨A, n, c, hu, h1.toAt fun b hb => hT b (fun g => by rw [hb]; cases tag <;> intro h <;> cases h)⟩
    · exact ih hk p hp
  | @hdn v tag rts uq k els l t h _ _ ih =>
    intro hk p hp
    rcases List.mem_cons.1 hp with rfl | hp
    · have h1 := hr.env t
      rw [show (St.mk env bs).look t = look env t from rfl, h] at h1
      obtain ⟨hs, A, n, c, hu, h1, h2, h3⟩ := h1
      exact ⟨hs, A, n, c, hu, h1.toAt fun b hb => hT b (fun g => by rw [hb]; cases tag <;> intro h <;> cases h), h2.map (fun _ => none) (fun _ _ => List.mem_singleton_self _) (fun tg k els A n c _ h => h.toAt fun b hb => hT b (fun g => by rw [hb]; cases tg <;> intro h <;> cases h)), fun h => by cases h⟩
    · exact ih hk p hp
  | @hds tag k m l t h _ _ ih =>
    intro hk p hp
    rcases List.mem_cons.1 hp with rfl | hp
    · have h1 := hr.env t
      rw [show (St.mk env bs).look t = look env t from rfl, h] at h1
      intro q hq
      obtain ⟨A, n, c, hu, h1⟩ := h1 q hq
      exact ⟨A, n, c, hu, h1.toAt fun b hb => hT b (fun g => by rw [hb]; cases tag <;> intro h <;> cases h)⟩
    · exact ih hk p hp
  | @nst g k rows l t h _ hg _ ih =>
    intro hk p hp
    rcases List.mem_cons.1 hp with rfl | hp
    · have h1 := hr.env t
      rw [show (St.mk env bs).look t = look env t from rfl, h] at h1
      exact NestOk.hds h1 fun b hb => hT2 b g (nestNe_of hg) hb
    · exact ih hk p hp
  | @nest g k rows l t h _ hg _ ih =>
    intro hk p hp
    rcases List.mem_cons.1 hp with rfl | hp
    · have h1 := hr.env t
      rw [show (St.mk env bs).look t = look env t from rfl, h] at h1
      exact NestOk.own h1 fun b hb => hk b _ (List.mem_append_left _ (List.mem_map.2 ⟨b, hb, rfl⟩))
    · exact ih (fun b g hb => hk b g (List.mem_append_right _ hb)) p hp
section
variable {P : Program} {ops : Array Oper} {rest : List Oper} {env : List (Nat × PV)} {bs : List (Nat × List Value)} {K : St → Prop} {d : Nat} {op : Op} {ty : TypeId} {pos : String} {aft : Array Edge} {g : Option (Nat × Bool)}
/-- Such a function is called: pre and post are put around the arguments. -/
theorem Eff.actsE {f : FuncId} {xs : List Operand} {as : List SV} {pre post : List Value} {fs : List PV} {ws : List Nat} {Kf : PV → List PV → Prop} {dd : Option Nat} (hs : List Nat) (τ : Nat) (hp : Acts P f (pre.map SV.v ++ (as ++ post.map SV.v)) fs ws Kf)
    (hex : ∀ (w0 : Base) (n : Nat) (T : Nat → BTag) (F : Nat → Nat) (ρ : Nat → Nat × Nat) (a : Act) (w : World), RSx w0 n T F ρ ⟨env, bs⟩ a w → (∃ fn, P.funcs[f]? = some fn ∧ (fn.name == "runtime.NumGoroutine") = false ∧ fn.body ≠ none) → (execOp a.eval ⟨dd, op, ty, pos, aft, g⟩).run P w = .ok (.enter f (pre ++ (xs.map a.eval ++ post)).toArray) w)
    (ha : ArgsLe (St.mk env bs).ev (St.mk env bs).box (groupsOf fs) xs as) (hf : FactsOk env (groupsOf fs) fs) (hap : ApartE ws (rmS hs env)) (hng : noNest (groupsOf fs) (rmS hs env) = true) :
    Eff P ⟨dd, op, ty, pos, aft, g⟩ ⟨env, bs⟩ (fun s1 => ∃ res fs', Kf res fs' ∧ (∀ t b' o', look env t = .kept b' o' → ∀ b o, PV.kept b o ∈ fs' → b ∈ keptOf fs ∨ b' ≠ b) ∧ (res.isNew = true ∧ ∀ p ∈ fs', okFact p = true) ∧ s1 = (St.mk (place hs (fs'.map (·.retag τ)) (rmS hs env)) bs).putO dd (res.retag τ)) := by
  rintro w0 n a w ⟨T, F, ρ, hr⟩ hd next Q hK
  obtain ⟨⟨fn, q1, q2, q3⟩, hws, hc⟩ := hp
  have hobj0 := hf.obj hr
  have hobj : ∀ b g, (b, g) ∈ ownOf fs → T b = .obj g := fun b g h => (hobj0 b g h).1
  have hT0 : ∀ b, (∀ g, T b ≠ .obj g) → tag0 (ownOf fs) b = .ext := fun b hb => tag0_out fun hm => by
    obtain ⟨q, hq, e⟩ := List.mem_map.1 hm
    subst e
    exact hb q.2 (hobj q.1 q.2 hq)
  have hT2 : ∀ b g, g ∉ groupsOf fs → T b = .obj (g + 1) → tag0 (ownOf fs) b = .ext := fun b g hg hb => tag0_out fun hm => by
    obtain ⟨⟨c, g2⟩, hq, e⟩ := List.mem_map.1 hm
    simp only at e
    subst e
    have h1 := hobj _ _ hq
    rw [hb] at h1
    injection h1 with h1
    rcases own_mem.1 hq with ⟨h2, _⟩ | ⟨g', k, rows, h2, h3, _⟩
    · omega
    · exact hg (groups_mem.2 ⟨k, rows, by rw [show g = g' by omega]; exact h3⟩)
  have hargs := (ArgsAt.caps (T := tag0 (ownOf fs)) (w := w) pre).append ((ha.okAt (B := w0.w.heap.size) (a := a) (T := T) (T' := tag0 (ownOf fs)) (F := F) (ρ := ρ) (w := w) hT0 hT2 (fun x _ => ⟨hr.ev x, fun id _ cs hid => hr.boxes id cs hid⟩)).append (ArgsAt.caps post))
  have hfacts := hf.rep (ρ' := fun _ => (0, 0)) hr hT0 hT2 (fun b g hb => tag0_in hobj hb)
  have hrun := hex w0 n T F ρ a w hr ⟨fn, q1, by simpa using q2, by cases hb : fn.body <;> simp_all⟩
  unfold Oper.wp
  rw [hrun]
  refine (hc _ w hargs hfacts).mono fun e w' ⟨v, Tc, Fc, res, fs', hk, he, hb, hsame, htc, hres, hnew, hfs⟩ => ?_
  subst he
  have hrow : ∀ b σ, Tc b = .row σ → ¬(b < w.heap.size ∧ b ∉ nestOf fs) := fun b σ hb' hn => by rw [htc b hn.1 hn.2] at hb'; exact tag0_row hb'
  have hT : ∀ b, ¬(b < w.heap.size ∧ b ∉ nestOf fs) → (if b < w.heap.size ∧ b ∉ nestOf fs then T b else (Tc b).retag τ) = (Tc b).retag τ ∧ (if b < w.heap.size ∧ b ∉ nestOf fs then F b else Fc b) = Fc b := fun b hb' => ⟨if_neg hb', if_neg hb'⟩
  have hgrp : ∀ b g, Tc b = .obj g → (if b < w.heap.size ∧ b ∉ nestOf fs then T b else (Tc b).retag τ) = .obj (gsh τ g) := fun b g h => by
    split
    · rename_i hb'
      rw [htc b hb'.1 hb'.2] at h
      obtain ⟨h1, h2⟩ := hobj0 b g (tag0_obj h)
      rw [h1]
      cases g with
      | zero => rfl
      | succ g =>
        show _ = BTag.obj (gsn τ g + 1)
        unfold gsn
        rw [blt_t (show g < 1000 by omega)]
        rfl
    · rw [h]; rfl
  have hfact : ∀ p ∈ fs', ∀ u, RepP (fun b => if b < w.heap.size ∧ b ∉ nestOf fs then T b else (Tc b).retag τ) (fun b => if b < w.heap.size ∧ b ∉ nestOf fs then F b else Fc b) ρ w' (p.retag τ) u := fun p hp u => by
    obtain ⟨h1, h2⟩ := hfs p hp
    cases p with
    | kept b o => exact ⟨hgrp b 0 h2.1, h2.2⟩
    | hd v x => exact RepS.call2 hrow hT h1 h2
    | hds tag k l =>
      cases tag with
      | none => cases h1
      | some σ => exact fun q hq => RepS.call2 hrow hT (x := .sl (some σ) .no k q.2) rfl (h2 q hq)
    | nest g k rows => exact NestOk.tags h2 fun b hb => hgrp b _ hb
    | _ => cases h1
  refine hK _ ⟨res, fs', hk, fun t b' o' ht b o hm => ?_, ⟨hnew, fun p hp => (hfs p hp).1⟩, rfl⟩ _ _ ⟨fun b => if b < w.heap.size ∧ b ∉ nestOf fs then T b else (Tc b).retag τ, fun b => if b < w.heap.size ∧ b ∉ nestOf fs then F b else Fc b, ρ, ?_⟩
  · by_cases hbk : b ∈ keptOf fs
    · exact .inl hbk
    · refine .inr fun e => hbk ?_
      subst e
      have h1 := hr.env t
      rw [show (St.mk env bs).look t = look env t from rfl, ht] at h1
      have h3 := (hfs _ hm).2.1
      by_cases hbn : b' ∈ nestOf fs
      · obtain ⟨g, k, rows, h4, h5⟩ := nest_mem.1 hbn
        have h6 := hobj b' _ (own_mem.2 (.inr ⟨g, k, rows, rfl, h4, h5⟩))
        rw [h1.1] at h6
        cases h6
      · rw [htc _ h1.2.1 hbn] at h3
        exact List.mem_map.2 ⟨_, tag0_obj h3, rfl⟩
  · have hnew' : ∀ t, RepP (fun b => if b < w.heap.size ∧ b ∉ nestOf fs then T b else (Tc b).retag τ) (fun b => if b < w.heap.size ∧ b ∉ nestOf fs then F b else Fc b) ρ w' (look ((St.mk (place hs (fs'.map (·.retag τ)) (rmS hs env)) bs).putO dd (res.retag τ)).env t) (vl (a.put dd v) w0.fr t) ∨ (look ((St.mk (place hs (fs'.map (·.retag τ)) (rmS hs env)) bs).putO dd (res.retag τ)).env t = look env t ∧ vl (a.put dd v) w0.fr t = vl a w0.fr t ∧ keptNe ws (look env t) ∧ nestNe (groupsOf fs) (look env t) = true) := fun t => by
      have e1 : look ((St.mk (place hs (fs'.map (·.retag τ)) (rmS hs env)) bs).putO dd (res.retag τ)).env t = if dd = some t then res.retag τ else look (place hs (fs'.map (·.retag τ)) (rmS hs env)) t := look_putO ..
      rw [e1, vl_put hr.size hr.small hd]
      by_cases hdt : dd = some t
      · rw [if_pos hdt, if_pos hdt]
        exact .inl (RepP.call2 hrow hT hnew hres)
      · rw [if_neg hdt, if_neg hdt]
        rcases look_place hs (fs'.map (·.retag τ)) (rmS hs env) t with h | h
        · rw [h]
          rcases look_rmS hs env t with h' | h'
          · rw [h']; exact .inl trivial
          · rw [h']
            refine .inr ⟨rfl, rfl, ?_⟩
            rw [← h']
            exact ⟨hap.look t, noNest_look hng t⟩
        · obtain ⟨p, hp, e⟩ := List.mem_map.1 h
          rw [← e]
          exact .inl (hfact p hp _)
    have := hr.turnK (ws := ws) (gs := groupsOf fs) (us := ws ++ nestOf fs) (a' := a.put dd v) (w' := w') (T' := fun b => if b < w.heap.size ∧ b ∉ nestOf fs then T b else (Tc b).retag τ) (F' := fun b => if b < w.heap.size ∧ b ∉ nestOf fs then F b else Fc b) (fun b hb' => by
      rcases List.mem_append.1 hb' with hb' | hb'
      · exact .inl ⟨hobj b 0 (hws b hb'), hb'⟩
      · obtain ⟨g, k, rows, h1, h2⟩ := nest_mem.1 hb'
        exact .inr ⟨g, groups_mem.2 ⟨k, rows, h1⟩, hobj b _ (own_mem.2 (.inr ⟨g, k, rows, rfl, h1, h2⟩))⟩) hb.size hb.os hb.tape hb.output (fun b hb' hbu => hsame b hb' (fun h => hbu (List.mem_append_left _ h)) (fun h => hbu (List.mem_append_right _ h))) (fun b hb' hbu => ⟨if_pos ⟨hb', fun h => hbu (List.mem_append_right _ h)⟩, if_pos ⟨hb', fun h => hbu (List.mem_append_right _ h)⟩⟩) (defers_put ..) (size_put ..) hnew'
    have e2 : ((St.mk (place hs (fs'.map (·.retag τ)) (rmS hs env)) bs).putO dd (res.retag τ)) = ⟨((St.mk (place hs (fs'.map (·.retag τ)) (rmS hs env)) bs).putO dd (res.retag τ)).env, bs⟩ := by cases dd <;> rfl
    rw [e2]
    exact this
theorem Eff.acts {f : FuncId} {x : Operand} {xs : List Operand} {ats : Array TypeId} {as : List SV} {caps : List Value} {fs : List PV} {ws : List Nat} {Kf : PV → List PV → Prop} {dd : Option Nat} (hs : List Nat) (τ : Nat) (hp : Acts P f (as ++ caps.map SV.v) fs ws Kf) (hx : (St.mk env bs).ev x = .s (.v (.func (.func f) #[] caps.toArray)))
    (ha : ArgsLe (St.mk env bs).ev (St.mk env bs).box (groupsOf fs) xs as) (hf : FactsOk env (groupsOf fs) fs) (hap : ApartE ws (rmS hs env)) (hng : noNest (groupsOf fs) (rmS hs env) = true) :
    Eff P ⟨dd, .call ⟨.value x, xs.toArray, ats⟩, ty, pos, aft, g⟩ ⟨env, bs⟩ (fun s1 => ∃ res fs', Kf res fs' ∧ (∀ t b' o', look env t = .kept b' o' → ∀ b o, PV.kept b o ∈ fs' → b ∈ keptOf fs ∨ b' ≠ b) ∧ (res.isNew = true ∧ ∀ p ∈ fs', okFact p = true) ∧ s1 = (St.mk (place hs (fs'.map (·.retag τ)) (rmS hs env)) bs).putO dd (res.retag τ)) :=
  Eff.actsE (pre := []) hs τ hp (fun w0 n T F ρ a w hr ⟨fn, q1, q2, q3⟩ => by
    have hx' := ev_v hr hx
    have q2' : ¬fn.name = "runtime.NumGoroutine" := by simpa using q2
    simp [execOp, resolve, hx', Deferred.ofValue, invoke, callFunc, q1, q2', q3]) ha hf hap hng
theorem RunK.acts {f : FuncId} {x : Operand} {xs : List Operand} {ats : Array TypeId} {as : List SV} {caps : List Value} {fs : List PV} {ws : List Nat} {Kf : PV → List PV → Prop} (hs : List Nat) (τ : Nat) (hw : wantedS ops ⟨env, bs⟩ ⟨some d, .call ⟨.value x, xs.toArray, ats⟩, ty, pos, aft, g⟩ = some true) (hp : Acts P f (as ++ caps.map SV.v) fs ws Kf) (hx : (St.mk env bs).ev x = .s (.v (.func (.func f) #[] caps.toArray)))
    (ha : ArgsLe (St.mk env bs).ev (St.mk env bs).box (groupsOf fs) xs as) (hf : FactsOk env (groupsOf fs) fs) (hap : ApartE ws (rmS hs env)) (hng : noNest (groupsOf fs) (rmS hs env) = true)
    (k : ∀ res fs', Kf res fs' → (∀ t b' o', look env t = .kept b' o' → ∀ b o, PV.kept b o ∈ fs' → b ∈ keptOf fs ∨ b' ≠ b) → RunK false P ops rest ⟨(d, res.retag τ) :: place hs (fs'.map (·.retag τ)) (rmS hs env), bs⟩ K) :
    RunK false P ops (⟨some d, .call ⟨.value x, xs.toArray, ats⟩, ty, pos, aft, g⟩ :: rest) ⟨env, bs⟩ K :=
  Run.eff hw (Eff.acts hs τ hp hx ha hf hap hng) (fun h => by cases h) (fun _ ⟨res, fs', h1, h2, _, e⟩ => e ▸ k res fs' h1 h2)
theorem RunK.acts0 {f : FuncId} {x : Operand} {xs : List Operand} {ats : Array TypeId} {as : List SV} {caps : List Value} {fs : List PV} {ws : List Nat} {Kf : PV → List PV → Prop} (hs : List Nat) (τ : Nat) (hw : wantedS ops ⟨env, bs⟩ ⟨none, .call ⟨.value x, xs.toArray, ats⟩, ty, pos, aft, g⟩ = some true) (hp : Acts P f (as ++ caps.map SV.v) fs ws Kf) (hx : (St.mk env bs).ev x = .s (.v (.func (.func f) #[] caps.toArray)))
    (ha : ArgsLe (St.mk env bs).ev (St.mk env bs).box (groupsOf fs) xs as) (hf : FactsOk env (groupsOf fs) fs) (hap : ApartE ws (rmS hs env)) (hng : noNest (groupsOf fs) (rmS hs env) = true)
    (k : ∀ res fs', Kf res fs' → (∀ t b' o', look env t = .kept b' o' → ∀ b o, PV.kept b o ∈ fs' → b ∈ keptOf fs ∨ b' ≠ b) → RunK false P ops rest ⟨place hs (fs'.map (·.retag τ)) (rmS hs env), bs⟩ K) :
    RunK false P ops (⟨none, .call ⟨.value x, xs.toArray, ats⟩, ty, pos, aft, g⟩ :: rest) ⟨env, bs⟩ K :=
  Run.eff hw (Eff.acts hs τ hp hx ha hf hap hng) (fun h => by cases h) (fun _ ⟨res, fs', h1, h2, _, e⟩ => e ▸ k res fs' h1 h2)
theorem wf_place {hs : List Nat} {res : PV} {fs' : List PV} {τ : Nat} {dd : Option Nat} (hn : res.isNew = true) (hf : ∀ p ∈ fs', okFact p = true) (hw : Wf ⟨env, bs⟩) : Wf ((St.mk (place hs (fs'.map (·.retag τ)) (rmS hs env)) bs).putO dd (res.retag τ)) := fun t id ht => by
  have e1 : (St.putO ⟨place hs (fs'.map (·.retag τ)) (rmS hs env), bs⟩ dd (res.retag τ)).look t = if dd = some t then res.retag τ else look (place hs (fs'.map (·.retag τ)) (rmS hs env)) t := look_putO ..
  have e2 : ∀ id, (St.putO ⟨place hs (fs'.map (·.retag τ)) (rmS hs env), bs⟩ dd (res.retag τ)).box id = boxOf bs id := fun id => by cases dd <;> rfl
  rw [e2]
  rw [e1] at ht
  split at ht
  · cases res <;> first | cases ht | cases hn
  · rcases look_place hs (fs'.map (·.retag τ)) (rmS hs env) t with h | h
    · rw [h] at ht
      rcases look_rmS hs env t with h' | h'
      · rw [h'] at ht; cases ht
      · rw [h'] at ht; exact hw t id ht
    · obtain ⟨p, hp, e⟩ := List.mem_map.1 h
      have h3 := hf p hp
      rw [← e] at ht
      cases p with
      | hds tag k l => cases tag <;> cases ht
      | _ => first | cases ht | cases h3
theorem look_place_ne {t : Nat} : ∀ (ts : List Nat) (ps : List PV) (g : List (Nat × PV)), t ∉ ts → look (place ts ps g) t = look g t
  | [], ps, g, _ => by cases ps <;> rfl
  | _ :: _, [], g, _ => rfl
  | u :: ts, p :: ps, g, h => by
    rw [place, look_put, if_neg (fun e => h (by rw [e]; exact List.mem_cons_self ..))]
    exact look_place_ne ts ps g fun hm => h (List.mem_cons_of_mem _ hm)
theorem look_rmS_ne {hs : List Nat} {t : Nat} (h : t ∉ hs) : ∀ (env : List (Nat × PV)), look (rmS hs env) t = look env t
  | [] => rfl
  | (u, p) :: l => by
    rw [rmS]
    cases hb : hs.any (Nat.beq u) with
    | true =>
      rw [cond_true, look_put, if_neg, look_rmS_ne h l]
      intro e
      obtain ⟨v, hv, hv2⟩ := List.any_eq_true.1 hb
      rw [Nat.beq_eq] at hv2
      exact h (by rw [← e, hv2]; exact hv)
    | false => rw [cond_false, look_put, look_put, look_rmS_ne h l]
theorem tame_place {hs : List Nat} {fs' : List PV} {pv : PV} {dd : Nat} {xo : Op} {x1 : TypeId} {x2 : String} {x3 : Array Edge} {x4 : Option (Nat × Bool)} (h : (hs.all fun t => Nat.ble 1000000 t && Nat.blt t 3000000) = true) : Tame ⟨some dd, xo, x1, x2, x3, x4⟩ ⟨env, bs⟩ ((St.mk (place hs fs' (rmS hs env)) bs).putO (some dd) pv) := fun t ht hne _ => by
  have hm : t ∉ hs := fun hm => by
    have := List.all_eq_true.1 h t hm
    rw [Bool.and_eq_true, Nat.ble_eq, Nat.blt_eq] at this
    omega
  show look ((dd, pv) :: place hs fs' (rmS hs env)) t = look env t
  rw [look_put, if_neg (fun e => hne (by rw [e])), look_place_ne _ _ _ hm, look_rmS_ne hm]
theorem RunK.actF {dr : Bool} {f : FuncId} {x : Operand} {xs : List Operand} {ats : Array TypeId} {as : List SV} {fs : List PV} {ws : List Nat} {Kf : PV → List PV → Prop} (hs : List Nat) (τ : Nat) (hp : Acts P f as fs ws Kf) (hw : wantedS ops ⟨env, bs⟩ ⟨some d, .call ⟨.value x, xs.toArray, ats⟩, ty, pos, aft, g⟩ = some true) (he : dr = true → (isEff ops ⟨some d, .call ⟨.value x, xs.toArray, ats⟩, ty, pos, aft, g⟩ && hs.all fun t => Nat.ble 1000000 t && Nat.blt t 3000000) = true) (hx : (St.mk env bs).ev x = .s (.v (.func (.func f) #[] #[])))
    (ha : ArgsLe (St.mk env bs).ev (St.mk env bs).box (groupsOf fs) xs as) (hf : FactsOk env (groupsOf fs) fs) (hap : ApartE ws (rmS hs env)) (hng : noNest (groupsOf fs) (rmS hs env) = true)
    (k : ∀ res fs', Kf res fs' → (∀ t b' o', look env t = .kept b' o' → ∀ b o, PV.kept b o ∈ fs' → b ∈ keptOf fs ∨ b' ≠ b) → RunK dr P ops rest ⟨(d, res.retag τ) :: place hs (fs'.map (·.retag τ)) (rmS hs env), bs⟩ K) :
    RunK dr P ops (⟨some d, .call ⟨.value x, xs.toArray, ats⟩, ty, pos, aft, g⟩ :: rest) ⟨env, bs⟩ K :=
  Run.eff hw (Eff.acts (caps := []) hs τ (by rw [List.map_nil, List.append_nil]; exact hp) hx ha hf hap hng) (fun h => ⟨(Bool.and_eq_true _ _ ▸ he h : _ ∧ _).1, fun _ ⟨_, _, _, _, ⟨q1, q2⟩, e⟩ => e ▸ ⟨fun hwf => wf_place q1 q2 hwf, tame_place (Bool.and_eq_true _ _ ▸ he h : _ ∧ _).2⟩⟩) (fun _ ⟨res, fs', h1, h2, _, e⟩ => e ▸ k res fs' h1 h2)
theorem ApartE.nil : ∀ l : List (Nat × PV), ApartE [] l
  | [] => trivial
  | (_, p) :: l => ⟨by cases p <;> first | trivial | exact List.not_mem_nil, ApartE.nil l⟩
theorem rmS_nil : ∀ l : List (Nat × PV), rmS [] l = l
  | [] => rfl
  | (t, p) :: l => by rw [rmS, show ([] : List Nat).any (Nat.beq t) = false from rfl, cond_false, rmS_nil l]
inductive FactsEv (ev : Operand → PV) : List PV → Prop
  | nil : FactsEv ev []
  | kept {b : Nat} {o : Obj} {l : List PV} (t : Nat) (h : ev (.tmp t) = .kept b o) (ht : Nat.ble 1000000 t = true) (r : FactsEv ev l) : FactsEv ev (.kept b o :: l)
  | hd {v : Value} {tag : Option Nat} {app : App} {k : Nat} {els : List (List Value)} {l : List PV} (t : Nat) (h : ev (.tmp t) = .hd v (.sl tag app k els)) (ht : Nat.ble 1000000 t = true) (r : FactsEv ev l) : FactsEv ev (.hd v (.sl none .no k els) :: l)
  | hdn {v : Value} {tag : Option Nat} {rts : List (Option Nat)} {uq : Bool} {k : Nat} {els : List (List EV)} {l : List PV} (t : Nat) (h : ev (.tmp t) = .hd v (.nsl tag rts uq k els)) (ht : Nat.ble 1000000 t = true) (r : FactsEv ev l) : FactsEv ev (.hd v (.nsl none [none] false k els) :: l)
  | hds {tag : Option Nat} {k : Nat} {m : List (Value × List (List Value))} {l : List PV} (t : Nat) (h : ev (.tmp t) = .hds tag k m) (ht : Nat.ble 1000000 t = true) (r : FactsEv ev l) : FactsEv ev (.hds none k m :: l)
  | nst {g k : Nat} {rows : List NRow} {l : List PV} (t : Nat) (h : ev (.tmp t) = .nest g k rows) (ht : Nat.ble 1000000 t = true) (r : FactsEv ev l) : FactsEv ev (.hds none k (rows.map fun r => (r.hdr, r.els)) :: l)
theorem FactsOk.toEv {env : List (Nat × PV)} {bs : List (Nat × List Value)} {gs : List Nat} {fs : List PV} (h : FactsOk env gs fs) : groupsOf fs = [] → FactsEv (St.mk env bs).ev fs := by
  induction h with
  | nil => exact fun _ => .nil
  | kept t h ht _ ih => exact fun hg => .kept t (ev_kept (Nat.ble_eq ▸ ht) h) ht (ih hg)
  | hd t h ht _ ih => exact fun hg => .hd t (ev_hd (Nat.ble_eq ▸ ht) h) ht (ih hg)
  | hdn t h ht _ ih => exact fun hg => .hdn t (ev_fact (Nat.ble_eq ▸ ht) h rfl) ht (ih hg)
  | hds t h ht _ ih => exact fun hg => .hds t (ev_fact (Nat.ble_eq ▸ ht) h rfl) ht (ih hg)
  | nst t h ht _ _ ih => exact fun hg => .nst t (ev_fact (Nat.ble_eq ▸ ht) h rfl) ht (ih hg)
  | nest t h ht _ _ ih => exact fun hg => by cases hg
theorem FactsEv.un {ev : Operand → PV} {fs : List PV} (σs : List Nat) (h : FactsEv ev fs) : FactsEv (unE σs ev) fs := by
  induction h with
  | nil => exact .nil
  | kept t h ht _ ih => exact .kept t (by unfold unE; rw [h, unL_kept]) ht ih
  | hd t h ht _ ih => exact .hd t (unE_hd σs h) ht ih
  | hdn t h ht _ ih => exact .hdn t (unE_hdn σs h) ht ih
  | hds t h ht _ ih => exact .hds t (by unfold unE; rw [h, unL_hds]) ht ih
  | nst t h ht _ ih => exact .nst t (by unfold unE; rw [h, unL_nest]) ht ih
theorem FactsEv.obj {ev : Operand → PV} {T : Nat → BTag} {F : Nat → Nat} {ρ : Nat → Nat × Nat} {a : Act} {w : World} (hr : ∀ x, isV x = true → RepP T F ρ w (ev x) (a.eval x)) {fs : List PV} (h : FactsEv ev fs) : ∀ b g, (b, g) ∈ ownOf fs → T b = .obj 0 ∧ g = 0 := by
  induction h with
  | nil => intro b g hb; cases hb
  | kept t h ht _ ih =>
    intro b' g hb
    rcases List.mem_cons.1 hb with hb | hb
    · have h1 := hr (.tmp t) ht
      rw [h] at h1
      injection hb with e1 e2
      subst e1 e2
      exact ⟨h1.1, rfl⟩
    · exact ih b' g hb
  | hd t h _ _ ih => exact ih
  | hdn t h _ _ ih => exact ih
  | hds t h _ _ ih => exact ih
  | nst t h _ _ ih => exact ih
theorem FactsEv.rep {ev : Operand → PV} {T T' : Nat → BTag} {F : Nat → Nat} {ρ ρ' : Nat → Nat × Nat} {a : Act} {w : World} (hr : ∀ x, isV x = true → RepP T F ρ w (ev x) (a.eval x)) (hT : ∀ b, T b ≠ .obj 0 → T' b = .ext) {fs : List PV} (h : FactsEv ev fs) : (∀ b g, (b, g) ∈ ownOf fs → T' b = .obj g) → ∀ p ∈ fs, RepP T' (fun _ => 0) ρ' w p undef := by
  induction h with
  | nil => intro _ p hp; cases hp
  | kept t h ht _ ih =>
    intro hk p hp
    rcases List.mem_cons.1 hp with rfl | hp
    · have h1 := hr (.tmp t) ht
      rw [h] at h1
      exact ⟨hk _ _ (List.mem_cons_self ..), h1.2⟩
    · exact ih (fun b g hb => hk b g (List.mem_cons_of_mem _ hb)) p hp
  | @hd v tag app k els l t h ht _ ih =>
    intro hk p hp
    rcases List.mem_cons.1 hp with rfl | hp
    · have h1 := hr (.tmp t) ht
      rw [h] at h1
      obtain ⟨A, n, c, hu, h1⟩ := h1
      exact ⟨A, n, c, hu, h1.toAt fun b hb => hT b (by rw [hb]; cases tag <;> intro h <;> cases h)⟩
    · exact ih hk p hp
  | @hdn v tag rts uq k els l t h ht _ ih =>
    intro hk p hp
    rcases List.mem_cons.1 hp with rfl | hp
    · have h1 := hr (.tmp t) ht
      rw [h] at h1
      obtain ⟨hs, A, n, c, hu, h1, h2, h3⟩ := h1
      exact ⟨hs, A, n, c, hu, h1.toAt fun b hb => hT b (by rw [hb]; cases tag <;> intro h <;> cases h), h2.map (fun _ => none) (fun _ _ => List.mem_singleton_self _) (fun tg k els A n c _ h => h.toAt fun b hb => hT b (by rw [hb]; cases tg <;> intro h <;> cases h)), fun h => by cases h⟩
    · exact ih hk p hp
  | @hds tag k m l t h ht _ ih =>
    intro hk p hp
    rcases List.mem_cons.1 hp with rfl | hp
    · have h1 := hr (.tmp t) ht
      rw [h] at h1
      intro q hq
      obtain ⟨A, n, c, hu, h1⟩ := h1 q hq
      exact ⟨A, n, c, hu, h1.toAt fun b hb => hT b (by rw [hb]; cases tag <;> intro h <;> cases h)⟩
    · exact ih hk p hp
  | @nst g k rows l t h ht _ ih =>
    intro hk p hp
    rcases List.mem_cons.1 hp with rfl | hp
    · have h1 := hr (.tmp t) ht
      rw [h] at h1
      exact NestOk.hds h1 fun b hb => hT b (by rw [hb]; intro h; cases h)
    · exact ih hk p hp
theorem nestOf_nil : ∀ {fs : List PV}, groupsOf fs = [] → nestOf fs = []
  | [], _ => rfl
  | p :: l, h => by
    cases p with
    | nest g k rows => cases h
    | _ => exact nestOf_nil (fs := l) h
theorem Val.actR {ev : Operand → PV} {bx : Nat → Option (List Value)} {dd : Option Nat} {f : FuncId} {x : Operand} {xs : List Operand} {ats : Array TypeId} {as : List SV} {fs : List PV} {Kf : PV → List PV → Prop} (τ : Nat) {res : PV} (hp : Acts P f as fs [] Kf) (hgs : groupsOf fs = []) (hr : ∀ r l, Kf r l → r = res) (hx : ev x = .s (.v (.func (.func f) #[] #[]))) (ha : ArgsLe ev bx [] xs as) (hf : FactsEv ev fs) :
    Val P ⟨dd, .call ⟨.value x, xs.toArray, ats⟩, ty, pos, aft, g⟩ ev bx (res.retag τ) none := by
  intro B T F ρ a w hB hop next Q hK
  obtain ⟨⟨fn, q1, q2, q3⟩, _, hc⟩ := hp
  have hv : ∀ x, isV x = true → RepP T F ρ w (ev x) (a.eval x) := fun x h => (hop x (.inr h)).1
  have hobj := hf.obj hv
  have hT0 : ∀ b, T b ≠ .obj 0 → tag0 (ownOf fs) b = .ext := fun b hb => tag0_out fun hm => by
    obtain ⟨q, hq, e⟩ := List.mem_map.1 hm
    subst e
    exact hb (hobj q.1 q.2 hq).1
  have hargs := ha.okAt (B := B) (a := a) (T := T) (T' := tag0 (ownOf fs)) (F := F) (ρ := ρ) (w := w) (fun b hb => hT0 b (hb 0)) (fun b g _ hb => hT0 b (by rw [hb]; intro h; cases h)) (fun x hx => hop x (hx.imp (fun hx => by simp [Op.operands, Call.operands, hx]) (fun h => h)))
  have hfacts := hf.rep (ρ' := fun _ => (0, 0)) hv hT0 (fun b g hb => tag0_in (T := T) (fun b g hb => by rw [(hobj b g hb).2]; exact (hobj b g hb).1) hb)
  have hx' : a.eval x = .func (.func f) #[] #[] := rep_v (hop x (.inl (by simp [Op.operands, Call.operands]))).1 hx
  have hrun : (execOp a.eval ⟨dd, .call ⟨.value x, xs.toArray, ats⟩, ty, pos, aft, g⟩).run P w = .ok (.enter f (xs.map a.eval).toArray) w := by
    have q3' : fn.body ≠ none := by cases hb : fn.body <;> simp_all
    simp [execOp, resolve, hx', Deferred.ofValue, invoke, callFunc, q1, q2, q3']
  unfold Oper.wp
  rw [hrun]
  refine (hc _ w hargs hfacts).mono fun e w' ⟨v, Tc, Fc, res', fs', hk, he, hb, hsame, htc, hres, hnew, _⟩ => ?_
  subst he
  obtain rfl := hr _ _ hk
  have hrow : ∀ b σ, Tc b = .row σ → ¬b < w.heap.size := fun b σ hb' hn => by rw [htc b hn (by rw [nestOf_nil hgs]; exact List.not_mem_nil)] at hb'; exact tag0_row hb'
  refine hK v w' (fun b => if b < w.heap.size then T b else (Tc b).retag τ) (fun b => if b < w.heap.size then F b else Fc b) ρ ⟨hb.os, hb.tape, hb.output, hb.size, fun b hb' => hsame b hb' List.not_mem_nil (by rw [nestOf_nil hgs]; exact List.not_mem_nil)⟩ (fun b hb' => ⟨if_pos hb', if_pos hb'⟩) (fun _ _ => rfl) ?_ (fun p hp => by cases hp)
  exact RepP.call2 hrow (fun b hb' => ⟨if_neg hb', if_neg hb'⟩) hnew hres
/-- Its result alone is kept. -/
theorem RunK.actR {dr : Bool} {f : FuncId} {x : Operand} {xs : List Operand} {ats : Array TypeId} {as : List SV} {fs : List PV} {Kf : PV → List PV → Prop} (res : PV) (hp : Acts P f as fs [] Kf) (hr : ∀ r l, Kf r l → r = res) (hgs : groupsOf fs = []) (hn : res.isNew = true) (hw : wantedS ops ⟨env, bs⟩ ⟨some d, .call ⟨.value x, xs.toArray, ats⟩, ty, pos, aft, g⟩ = some true) (he : isEff ops ⟨some d, .call ⟨.value x, xs.toArray, ats⟩, ty, pos, aft, g⟩ = false) (hx : (St.mk env bs).ev x = .s (.v (.func (.func f) #[] #[])))
    (ha : ArgsLe (St.mk env bs).ev (St.mk env bs).box [] xs as) (hf : FactsOk env [] fs)
    (k : RunK dr P ops rest ⟨(d, res.retag d) :: env, bs⟩ K) : RunK dr P ops (⟨some d, .call ⟨.value x, xs.toArray, ats⟩, ty, pos, aft, g⟩ :: rest) ⟨env, bs⟩ K := by
  refine .val he ?_ hw (.ofNew (fun σs => Val.actR d hp hgs hr (unE_v σs hx) (ha.un σs) ((hf.toEv (bs := bs) hgs).un σs)) ?_) k
  · cases res <;> first | rfl | cases hn
  · intro σ hσ
    cases res with
    | s y => exact un_retag hσ
    | tup ys => exact un_retagT hσ
    | _ => cases hn
theorem RunK.actC {f : FuncId} {x : Operand} {xs : List Operand} {ats : Array TypeId} {as : List SV} {caps : List Value} {fs : List PV} {Kf : PV → List PV → Prop} (τ : Nat) (res : PV) (hp : Acts P f (as ++ caps.map SV.v) fs [] Kf) (hr : ∀ r l, Kf r l → r = res) (hgs : groupsOf fs = []) (hw : wantedS ops ⟨env, bs⟩ ⟨some d, .call ⟨.value x, xs.toArray, ats⟩, ty, pos, aft, g⟩ = some true) (hx : (St.mk env bs).ev x = .s (.v (.func (.func f) #[] caps.toArray)))
    (ha : ArgsLe (St.mk env bs).ev (St.mk env bs).box [] xs as) (hf : FactsOk env [] fs)
    (k : RunK false P ops rest ⟨(d, res.retag τ) :: env, bs⟩ K) : RunK false P ops (⟨some d, .call ⟨.value x, xs.toArray, ats⟩, ty, pos, aft, g⟩ :: rest) ⟨env, bs⟩ K := by
  refine .acts [] τ hw hp hx (hgs.symm ▸ ha) (hgs.symm ▸ hf) (ApartE.nil _) (by rw [hgs]; exact noNest_nil _) fun r l hK _ => ?_
  rw [hr r l hK, rmS_nil, show place [] (l.map (·.retag τ)) env = env from by cases l <;> rfl]
  exact k
end

/-! ### from a walk to such a function -/
def factsE : Nat → List PV → List (Nat × PV) → List (Nat × PV)
  | _, [], g => g
  | i, p :: ps, g => (i, p) :: factsE (i + 1) ps g
theorem look_factsE : ∀ {ps : List PV} {g : List (Nat × PV)} {i t : Nat}, look (factsE i ps g) t = look g t ∨ (i ≤ t ∧ look (factsE i ps g) t ∈ ps)
  | [], g, i, t => .inl rfl
  | p :: ps, g, i, t => by
    rw [factsE, look_put]
    split
    · rename_i h; exact .inr ⟨Nat.le_of_eq h, List.mem_cons_self ..⟩
    · exact (look_factsE (ps := ps) (g := g) (i := i + 1) (t := t)).imp id fun ⟨h1, h2⟩ => ⟨by omega, List.mem_cons_of_mem _ h2⟩
/-- What the last state tells. -/
inductive TellF (env : List (Nat × PV)) : List PV → Prop
  | nil : TellF env []
  | kept {b : Nat} {o : Obj} {l : List PV} (t : Nat) (h : look env t = .kept b o) (r : TellF env l) : TellF env (.kept b o :: l)
  | hd {v : Value} {τ : Nat} {app : App} {k : Nat} {els : List (List Value)} {l : List PV} (t : Nat) (h : look env t = .hd v (.sl (some τ) app k els)) (r : TellF env l) : TellF env (.hd v (.sl (some 0) .no k els) :: l)
  | nl {k : Nat} {l : List PV} (r : TellF env l) : TellF env (.hd (.slice none 0 0) (.sl (some 0) .no k []) :: l)
  | hds {τ k : Nat} {m : List (Value × List (List Value))} {l : List PV} (t : Nat) (h : look env t = .hds (some τ) k m) (r : TellF env l) : TellF env (.hds (some 0) k m :: l)
  | nest {g k : Nat} {rows : List NRow} {l : List PV} (t : Nat) (h : look env t = .nest g k rows) (r : TellF env l) : TellF env (.nest g k rows :: l)
inductive KeptOk (env : List (Nat × PV)) (ws : List Nat) : List PV → Prop
  | nil : KeptOk env ws []
  | hd {v : Value} {x : SV} {l : List PV} (r : KeptOk env ws l) : KeptOk env ws (.hd v x :: l)
  | hds {tag : Option Nat} {k : Nat} {m : List (Value × List (List Value))} {l : List PV} (r : KeptOk env ws l) : KeptOk env ws (.hds tag k m :: l)
  | nest {g k : Nat} {rows : List NRow} {l : List PV} (r : KeptOk env ws l) : KeptOk env ws (.nest g k rows :: l)
  | same {b : Nat} {o : Obj} {l : List PV} (t : Nat) (h : look env t = .kept b o) (r : KeptOk env ws l) : KeptOk env ws (.kept b o :: l)
  | turn {b : Nat} {o o' : Obj} {l : List PV} (t : Nat) (h : look env t = .kept b o') (hw : b ∈ ws) (r : KeptOk env ws l) : KeptOk env ws (.kept b o :: l)
theorem gsn0 (g : Nat) : gsn 0 g = g := by unfold gsn; cases Nat.blt g 1000 <;> rfl
theorem gsh0 : ∀ g : Nat, gsh 0 g = g
  | 0 => rfl
  | g + 1 => congrArg (· + 1) (gsn0 g)
theorem TellF.rep {w0 : Base} {n : Nat} {T : Nat → BTag} {F : Nat → Nat} {ρ ρ' : Nat → Nat × Nat} {env : List (Nat × PV)} {bs : List (Nat × List Value)} {a : Act} {w : World} (hr : RSx w0 n T F ρ ⟨env, bs⟩ a w) {fs : List PV} (h : TellF env fs) : ∀ p ∈ fs, okFact p = true ∧ RepP (fun b => (T b).retag 0) F ρ' w p undef := by
  induction h with
  | nil => intro p hp; cases hp
  | @kept b o l t h _ ih =>
    intro p hp
    rcases List.mem_cons.1 hp with rfl | hp
    · have h1 := hr.env t
      rw [show (St.mk env bs).look t = look env t from rfl, h] at h1
      exact ⟨rfl, by show (T b).retag 0 = _; rw [h1.1]; rfl, h1.2⟩
    · exact ih p hp
  | @hd v τ app k els l t h _ ih =>
    intro p hp
    rcases List.mem_cons.1 hp with rfl | hp
    · have h1 := hr.env t
      rw [show (St.mk env bs).look t = look env t from rfl, h] at h1
      have h2 : RepS T F w (.sl (some τ) app k els) v := h1
      obtain ⟨A, n, c, hu, h3⟩ := h2.retag 0
      exact ⟨rfl, A, n, c, hu, h3.toNo⟩
    · exact ih p hp
  | nl _ ih =>
    intro p hp
    rcases List.mem_cons.1 hp with rfl | hp
    · exact ⟨rfl, none, 0, 0, rfl, SlOk.toNil _ _ _⟩
    · exact ih p hp
  | @hds τ k m l t h _ ih =>
    intro p hp
    rcases List.mem_cons.1 hp with rfl | hp
    · have h1 := hr.env t
      rw [show (St.mk env bs).look t = look env t from rfl, h] at h1
      exact ⟨rfl, fun q hq => (show RepS T F w (.sl (some τ) .no k q.2) q.1 from h1 q hq).retag 0⟩
    · exact ih p hp
  | @nest g k rows l t h _ ih =>
    intro p hp
    rcases List.mem_cons.1 hp with rfl | hp
    · have h1 := hr.env t
      rw [show (St.mk env bs).look t = look env t from rfl, h] at h1
      refine ⟨rfl, NestOk.tags h1 fun b hb => ?_⟩
      show (T b).retag 0 = _
      rw [hb]
      exact congrArg BTag.obj (gsh0 _)
    · exact ih p hp
theorem KeptOk.rep {w0 : Base} {n : Nat} {T : Nat → BTag} {F : Nat → Nat} {ρ : Nat → Nat × Nat} {env : List (Nat × PV)} {bs : List (Nat × List Value)} {a : Act} {w : World} (hr : RSx w0 n T F ρ ⟨env, bs⟩ a w) {fs : List PV} {ws : List Nat} (h : KeptOk env ws fs) : ∀ b o, PV.kept b o ∈ fs → T b = .obj 0 ∧ b < w.heap.size ∧ (b ∉ ws → w.heap[b]? = some o) := by
  have key : ∀ t b o, look env t = .kept b o → T b = .obj 0 ∧ b < w.heap.size ∧ w.heap[b]? = some o := fun t b o h => by
    have h1 := hr.env t
    rw [show (St.mk env bs).look t = look env t from rfl, h] at h1
    exact h1
  induction h with
  | nil => intro b o hp; cases hp
  | hd _ ih =>
    intro b o hp
    rcases List.mem_cons.1 hp with h | hp
    · cases h
    · exact ih b o hp
  | hds _ ih =>
    intro b o hp
    rcases List.mem_cons.1 hp with h | hp
    · cases h
    · exact ih b o hp
  | nest _ ih =>
    intro b o hp
    rcases List.mem_cons.1 hp with h | hp
    · cases h
    · exact ih b o hp
  | same t h _ ih =>
    intro b o hp
    rcases List.mem_cons.1 hp with h' | hp
    · injection h' with h1 h2
      subst h1 h2
      obtain ⟨q1, q2, q3⟩ := key t _ _ h
      exact ⟨q1, q2, fun _ => q3⟩
    · exact ih b o hp
  | turn t h hw _ ih =>
    intro b o hp
    rcases List.mem_cons.1 hp with h' | hp
    · injection h' with h1 h2
      subst h1 h2
      obtain ⟨q1, q2, q3⟩ := key t _ _ h
      exact ⟨q1, q2, fun hn => absurd hw hn⟩
    · exact ih b o hp
/-- The walk's end: what it gives, what it tells, what it has kept. -/
inductive ActEnd (P : Program) (W : World) (fs : List PV) (ws : List Nat) (K : PV → List PV → Prop) (l : List ResultVar) (s : St) : Prop
  | mk (res : PV) (fs' : List PV) (hK : K res fs') (hr : ResOk P s l res) (hn : res.isNew = true) (ho : look s.env 2999999 = .old W (keptOf fs)) (ht : TellF s.env fs') (hk : KeptOk s.env ws fs)
theorem acts_of_wt {P : Program} {f : FuncId} {fn : Func} {c : Code} {l : List ResultVar} {as : List SV} {fs : List PV} {ws : List Nat} {K : PV → List PV → Prop} (hf : P.funcs[f]? = some fn) (hb : fn.body = some c) (hname : (fn.name == "runtime.NumGoroutine") = false)
    (n : Nat) (hnt : fn.ntmps = n) (hn : (Nat.ble as.length n && Nat.ble n 1000000) = true) (hl : fn.results = l.toArray) (hfs : fs.all inFact = true) (hws : ∀ b ∈ ws, (b, 0) ∈ ownOf fs)
    (h : ∀ (w0 : Base) (W : World), Wt P w0 n c ⟨entryP 0 (as.map PV.s) (factsE 2000000 fs [(2999999, .old W (keptOf fs))]), []⟩ (ActEnd P W fs ws K l) (ActEnd P W fs ws K l) (fun _ _ => False)) : Acts P f as fs ws K := by
  subst hnt
  refine ⟨⟨fn, hf, by simpa using hname, by rw [hb]; rfl⟩, hws, fun vs w hvs hfacts => ?_⟩
  have hlen := hvs.len
  have hn0 := (Bool.and_eq_true _ _ ▸ hn : _ ∧ _)
  have hn' : as.length ≤ fn.ntmps := Nat.ble_eq ▸ hn0.1
  have hn2 : fn.ntmps ≤ 1000000 := Nat.ble_eq ▸ hn0.2
  refine calls_of_wp hf hb ?_
  have hr : RSx ⟨{ w with heap := #[] }, fun _ => undef, [], fun _ _ => False⟩ fn.ntmps (tag0 (ownOf fs)) (fun _ => 0) (fun _ => (0, 0)) ⟨entryP 0 (as.map PV.s) (factsE 2000000 fs [(2999999, .old w (keptOf fs))]), []⟩ { tmps := vs.toArray ++ Array.replicate (fn.ntmps - vs.toArray.size) undef, defers := [] } w := by
    refine ⟨rfl, by simp; omega, hn2, ⟨rfl, rfl, rfl, Nat.zero_le _, fun k hk => absurd hk (Nat.not_lt_zero k)⟩, fun b hb' => absurd hb' (Nat.not_lt_zero b), fun t => ?_, fun id cs hc => (by cases hc)⟩
    show RepP _ _ _ w (look (entryP 0 (as.map PV.s) _) t) _
    rw [look_entryP, Nat.zero_add, List.length_map]
    split
    · rename_i ht
      have htn : Nat.blt t 1000000 = true := blt_t (by omega)
      unfold vl
      rw [htn, cond_true]
      have e : (vs.toArray ++ Array.replicate (fn.ntmps - vs.toArray.size) undef).getD t undef = vs.getD t undef := by
        rw [Array.getD_eq_getD_getElem?, List.getD_eq_getElem?_getD, Array.getElem?_append]
        split
        · simp
        · rename_i hlt
          rw [List.getElem?_eq_none (by simpa using hlt), Array.getElem?_replicate]
          split <;> rfl
      rw [e]
      exact hvs.get t
    · have hold : ∀ u, RepP (tag0 (ownOf fs)) (fun _ => 0) (fun _ => (0, 0)) w (.old w (keptOf fs)) u := fun u => ⟨fun c hc hB => ⟨tag0_out hB, hc, rfl⟩, Nat.le_refl _⟩
      rcases look_factsE (ps := fs) (g := [(2999999, .old w (keptOf fs))]) (i := 2000000) (t := t) with h1 | ⟨_, h1⟩
      · rw [h1, look_put]
        split
        · exact hold _
        · trivial
      · generalize look (factsE 2000000 fs [(2999999, .old w (keptOf fs))]) t = p at h1
        exact rep_inFact (List.all_eq_true.1 hfs p h1) (hfacts p h1)
  have fin : ∀ s a' w', ActEnd P w fs ws K l s → RS ⟨{ w with heap := #[] }, fun _ => undef, [], fun _ _ => False⟩ fn.ntmps s a' w' → a'.defers = [] ∧ ∃ v, (results fn a'.tmps).run P w' = .ok v w' ∧ ∃ v' T' F' res fs', K res fs' ∧ Ending.returned v = .returned v' ∧ Below 0 w w' ∧ (∀ b, b < w.heap.size → b ∉ ws → b ∉ nestOf fs → w'.heap[b]? = w.heap[b]?) ∧ (∀ b, b < w.heap.size → b ∉ nestOf fs → T' b = tag0 (ownOf fs) b) ∧
      RepP T' F' (fun _ => (0, 0)) w' res v' ∧ res.isNew = true ∧ ∀ p ∈ fs', okFact p = true ∧ RepP T' F' (fun _ => (0, 0)) w' p undef := by
    rintro ⟨env, bs⟩ a' w' ⟨res, fs', hK, ho, hnew, hold, ht, hk⟩ ⟨T, F, ρ, hx⟩
    obtain ⟨u, h1, h2⟩ := run_resOk hx hl ho
    have h3 := hx.env 2999999
    rw [show (St.mk env bs).look 2999999 = look env 2999999 from rfl, hold] at h3
    have h4 := hk.rep hx
    refine ⟨hx.defers, u, h1, u, fun b => (T b).retag 0, F, res, fs', hK, rfl, ⟨hx.below.os, hx.below.tape, hx.below.output, h3.2, fun k hk => absurd hk (Nat.not_lt_zero k)⟩, fun b hb' hnw hnn => ?_, fun b hb' hnn => ?_, h2, hnew, ht.rep hx⟩
    · by_cases hm : b ∈ keptOf fs
      · obtain ⟨⟨c, g⟩, hmo, e⟩ := List.mem_map.1 hm
        simp only at e
        subst e
        rcases own_mem.1 hmo with ⟨rfl, o, hm'⟩ | ⟨g', k, rows, rfl, hm', hm2⟩
        · have h5 := hfacts _ hm'
          rw [(h4 c o hm').2.2 hnw, h5.2.2]
        · exact absurd (nest_mem.2 ⟨g', k, rows, hm', hm2⟩) hnn
      · exact (h3.1 b hb' hm).2.2
    · show (T b).retag 0 = _
      by_cases hm : b ∈ keptOf fs
      · obtain ⟨⟨c, g⟩, hmo, e⟩ := List.mem_map.1 hm
        simp only at e
        subst e
        rcases own_mem.1 hmo with ⟨rfl, o, hm'⟩ | ⟨g', k, rows, rfl, hm', hm2⟩
        · rw [(h4 c o hm').1, ← (hfacts _ hm').1]
          show (tag0 (ownOf fs) c).retag 0 = _
          rw [(hfacts _ hm').1]; rfl
        · exact absurd (nest_mem.2 ⟨g', k, rows, hm', hm2⟩) hnn
      · rw [tag0_out hm, (h3.1 b hb' hm).1]; rfl
  refine wp_mono (h _ w _ w ⟨_, _, _, hr⟩) fun e a' w' hq => ?_
  cases e with
  | normal => obtain ⟨s, h1, h2⟩ := hq; exact fin s a' w' h1 h2
  | ret =>
    rcases hq with ⟨s, h1, h2⟩ | hq
    · exact fin s a' w' h1 h2
    · exact hq.elim
  | exit j => obtain ⟨s, h1, h2⟩ := hq; exact h1.elim
  | goto l => exact hq.elim
  | panic c => exact hq.elim
  | outgrown => exact hq.elim
/-! ### objects made and written -/
structure Put1 (w : World) (b : Nat) (o' : Obj) (w' : World) : Prop where
  os : w'.os = w.os
  tape : w'.tape = w.tape
  output : w'.output = w.output
  size : w'.heap.size = w.heap.size
  other : ∀ k, k ≠ b → w'.heap[k]? = w.heap[k]?
  same : b < w.heap.size → w'.heap[b]? = some o'
theorem Put1.put (w : World) (b : Nat) (o' : Obj) : Put1 w b o' (w.putObj b o') := ⟨rfl, rfl, rfl, by simp, fun _ hk => World.putObj_heap_other hk, fun h => World.putObj_heap_same h⟩
theorem Put1.drew {w w' : World} {b : Nat} {o' : Obj} (h : Put1 w.drew b o' w') : Put1 w b o' w' := ⟨h.os, h.tape, h.output, h.size, h.other, h.same⟩
theorem Put1.refl {w : World} {b : Nat} {o : Obj} (h : w.heap[b]? = some o) : Put1 w b o w := ⟨rfl, rfl, rfl, rfl, fun _ _ => rfl, fun _ => h⟩
theorem run_setObj_put {P : Program} {w : World} {b : Nat} {o o' : Obj} (h : w.heap[b]? = some o) (hc : ∀ c e f, o ≠ .cells c e f) : (setObj b o').run P w = .ok () (w.putObj b o') := by
  simp only [setObj, Sem.run, h]
  cases o with
  | cells c e f => exact absurd rfl (hc c e f)
  | _ => rfl
section
variable {P : Program} {ops : Array Oper} {rest : List Oper} {env : List (Nat × PV)} {bs : List (Nat × List Value)} {K : St → Prop} {d : Nat} {op : Op} {ty : TypeId} {pos : String} {aft : Array Edge} {g : Option (Nat × Bool)}
/-- An object is made. -/
theorem Eff.mkObj {o : Obj} {mv : Nat → Value} (h : Nat) (hrun : ∀ (a : Act) (w : World), Sees ⟨env, bs⟩ op a w → (execOp a.eval ⟨some d, op, ty, pos, aft, g⟩).run P w = .ok (.value (mv w.heap.size)) (w.alloc o)) :
    Eff P ⟨some d, op, ty, pos, aft, g⟩ ⟨env, bs⟩ (fun s1 => ∃ b : Nat, (∀ t b' o', look env t = .kept b' o' → b' ≠ b) ∧ s1 = ⟨(h, .kept b o) :: (d, .s (.v (mv b))) :: env, bs⟩) := by
  rintro w0 n a w ⟨T, F, ρ, hr⟩ hd next Q hK
  unfold Oper.wp
  rw [hrun a w (sees_rs hr)]
  have hbel : Below w.heap.size w (w.alloc o) := (Below.refl _ w).alloc (Nat.le_refl _) _
  have hr1 := hr.goes (w' := w.alloc o) (T' := fun b => if w.heap.size ≤ b then .obj 0 else T b) (F' := F) (ρ' := ρ) (v := mv w.heap.size) (d := some d) (pv := .s (.v (mv w.heap.size))) (nb := none) hd hbel (fun b hb => ⟨if_neg (by omega), rfl⟩) (fun _ _ => rfl) (fun _ hp => by cases hp) rfl (fun _ hp => by cases hp) rfl
  have hr2 := RSx.addFact (env := (d, _) :: env) (bs := bs) hr1 h (p := .kept w.heap.size o) (fun v => ⟨if_pos (Nat.le_refl _), by simp, heap_alloc_new w o⟩)
  refine hK _ ⟨w.heap.size, fun t b' o' ht e => ?_, rfl⟩ _ _ ⟨_, _, _, hr2⟩
  have h1 := hr.env t
  rw [show (St.mk env bs).look t = look env t from rfl, ht] at h1
  exact absurd h1.2.1 (by omega)
theorem RunK.mkObj {o : Obj} (mv : Nat → Value) (h : Nat) (hw : wantedS ops ⟨env, bs⟩ ⟨some d, op, ty, pos, aft, g⟩ = some true) (hrun : ∀ (a : Act) (w : World), Sees ⟨env, bs⟩ op a w → (execOp a.eval ⟨some d, op, ty, pos, aft, g⟩).run P w = .ok (.value (mv w.heap.size)) (w.alloc o))
    (k : ∀ b : Nat, (∀ t b' o', look env t = .kept b' o' → b' ≠ b) → RunK false P ops rest ⟨(h, .kept b o) :: (d, .s (.v (mv b))) :: env, bs⟩ K) : RunK false P ops (⟨some d, op, ty, pos, aft, g⟩ :: rest) ⟨env, bs⟩ K :=
  Run.eff hw (Eff.mkObj h hrun) (fun h => by cases h) (fun _ ⟨b, h1, e⟩ => e ▸ k b h1)
theorem RunK.makeMap {t : TypeId} (h : Nat) (hw : wantedS ops ⟨env, bs⟩ ⟨some d, .makeMap t none, ty, pos, aft, g⟩ = some true)
    (k : ∀ b : Nat, (∀ t b' o', look env t = .kept b' o' → b' ≠ b) → RunK false P ops rest ⟨(h, .kept b (.map #[] 0)) :: (d, .s (.v (.map (some b)))) :: env, bs⟩ K) : RunK false P ops (⟨some d, .makeMap t none, ty, pos, aft, g⟩ :: rest) ⟨env, bs⟩ K :=
  .mkObj (fun b => .map (some b)) h hw (fun a w _ => by simp [execOp, Instr.makeMap]) k
theorem RunK.boxK {t : TypeId} {x : Operand} {u : Value} (h : Nat) (hw : wantedS ops ⟨env, bs⟩ ⟨some d, .box t x, ty, pos, aft, g⟩ = some true) (hx : (St.mk env bs).ev x = .s (.v u))
    (k : ∀ b : Nat, (∀ t b' o', look env t = .kept b' o' → b' ≠ b) → RunK false P ops rest ⟨(h, .kept b (.cells u.cells t (0, 0))) :: (d, .s (.v (.pointer (some ⟨b, 0, none⟩)))) :: env, bs⟩ K) : RunK false P ops (⟨some d, .box t x, ty, pos, aft, g⟩ :: rest) ⟨env, bs⟩ K :=
  .mkObj (fun b => .pointer (some ⟨b, 0, none⟩)) h hw (fun a w hs => by
    have h1 := hs.v x _ (by simp [Op.operands]) hx
    simp [execOp, h1, Instr.box, newVar, newRow]) k
/-- An object is turned. -/
theorem Eff.turnObj {b : Nat} {o : Obj} {dd : Option Nat} (h : Nat) (S : PV → Obj → Prop) (hk : look env h = .kept b o) (hap : ApartE [b] (rmS [h] env))
    (hrun : ∀ (a : Act) (w : World), Sees ⟨env, bs⟩ op a w → w.heap[b]? = some o → ∃ v pv o' w', S pv o' ∧ (∀ T F ρ w, RepP T F ρ w pv v) ∧ Put1 w b o' w' ∧ ((execOp a.eval ⟨dd, op, ty, pos, aft, g⟩).run P w = .ok (.value v) w' ∨ (dd = none ∧ (execOp a.eval ⟨dd, op, ty, pos, aft, g⟩).run P w = .ok .skip w'))) :
    Eff P ⟨dd, op, ty, pos, aft, g⟩ ⟨env, bs⟩ (fun s1 => ∃ pv o', S pv o' ∧ s1 = (St.mk ((h, .kept b o') :: rmS [h] env) bs).putO dd pv) := by
  rintro w0 n a w ⟨T, F, ρ, hr⟩ hd next Q hK
  have hkr := hr.env h
  rw [show (St.mk env bs).look h = look env h from rfl, hk] at hkr
  obtain ⟨v, pv, o', w', hS, hv, hput, hrun⟩ := hrun a w (sees_rs hr) hkr.2.2
  have key : RS w0 n ((St.mk ((h, .kept b o') :: rmS [h] env) bs).putO dd pv) (a.put dd v) w' := by
    refine ⟨T, F, ρ, ?_⟩
    have he : ∀ t, RepP T F ρ w' (look ((St.mk ((h, .kept b o') :: rmS [h] env) bs).putO dd pv).env t) (vl (a.put dd v) w0.fr t) ∨ (look ((St.mk ((h, .kept b o') :: rmS [h] env) bs).putO dd pv).env t = look env t ∧ vl (a.put dd v) w0.fr t = vl a w0.fr t ∧ keptNe [b] (look env t) ∧ nestNe [] (look env t) = true) := fun t => by
      have e1 : look ((St.mk ((h, .kept b o') :: rmS [h] env) bs).putO dd pv).env t = if dd = some t then pv else look ((h, .kept b o') :: rmS [h] env) t := look_putO ..
      rw [e1, vl_put hr.size hr.small hd]
      by_cases hdt : dd = some t
      · rw [if_pos hdt, if_pos hdt]
        exact .inl (hv ..)
      · rw [if_neg hdt, if_neg hdt, look_put]
        split
        · exact .inl ⟨hkr.1, by rw [hput.size]; exact hkr.2.1, hput.same hkr.2.1⟩
        · rcases look_rmS [h] env t with h' | h'
          · rw [h']; exact .inl trivial
          · rw [h']
            refine .inr ⟨rfl, rfl, ?_, nestNe_nil _⟩
            rw [← h']
            exact hap.look t
    have := hr.turnK (ws := [b]) (gs := []) (us := [b]) (a' := a.put dd v) (w' := w') (T' := T) (F' := F) (fun b' hb' => .inl ⟨by rw [List.mem_singleton.1 hb']; exact hkr.1, hb'⟩) (Nat.le_of_eq hput.size.symm) hput.os hput.tape hput.output (fun k _ hk => hput.other k fun e => hk (by rw [e]; exact List.mem_singleton_self _)) (fun _ _ _ => ⟨rfl, rfl⟩) (defers_put ..) (size_put ..) he
    have e2 : ((St.mk ((h, .kept b o') :: rmS [h] env) bs).putO dd pv) = ⟨((St.mk ((h, .kept b o') :: rmS [h] env) bs).putO dd pv).env, bs⟩ := by cases dd <;> rfl
    rw [e2]
    exact this
  unfold Oper.wp
  rcases hrun with h1 | ⟨h0, h1⟩
  · rw [h1]
    exact hK _ ⟨pv, o', hS, rfl⟩ _ _ key
  · subst h0
    rw [h1]
    exact hK _ ⟨pv, o', hS, rfl⟩ _ _ key
/-- A cell of a held block is written. -/
theorem RunK.storeP {t : TypeId} [hT : TySize P t 1] {x y : Operand} {b j : Nat} {C : Array Value} {e : TypeId} {u : Value} (h : Nat) (hw : wantedS ops ⟨env, bs⟩ ⟨none, .store t x y, ty, pos, aft, g⟩ = some true) (hx : (St.mk env bs).ev x = .s (.v (.pointer (some ⟨b, j, none⟩)))) (hy : (St.mk env bs).ev y = .s (.v u)) (hk : look env h = .kept b (.cells C e (0, 0))) (hj : j < C.size)
    (hc : u.cells.toList = [u]) (ho : u.oneCell' = true) (hap : ApartE [b] (rmS [h] env)) (k : RunK false P ops rest ⟨(h, .kept b (.cells (C.setIfInBounds j u) e (0, 0))) :: rmS [h] env, bs⟩ K) : RunK false P ops (⟨none, .store t x y, ty, pos, aft, g⟩ :: rest) ⟨env, bs⟩ K := by
  refine Run.eff hw (Eff.turnObj h (fun _ o' => o' = .cells (C.setIfInBounds j u) e (0, 0)) hk hap fun a w hs hb => ?_) (fun h => by cases h) (fun _ ⟨pv, o', h1, h2⟩ => ?_)
  · have h1 := hs.v x _ (by simp [Op.operands]) hx
    have h2 := hs.v y _ (by simp [Op.operands]) hy
    have hcell : w.cell? ⟨b, j, none⟩ = some C[j] := by rw [cell_of_row w b j C e (0, 0) hb]; simp [hj]
    have hfr : w.frozen? ⟨b, j, none⟩ = false := by unfold World.frozen?; rw [hb]; simp
    have hst := run_storeCells_cells (P := P) b j [u] 0 w (fun i hi => by simp at hi; subst hi; simp [hcell]) (fun i hi => by simp at hi; subst hi; simpa using hfr) (fun v hv => by rw [List.mem_singleton.1 hv]; exact ho)
    have hsz : u.cells.size = 1 := by rw [← Array.length_toList, hc]; rfl
    refine ⟨.tuple #[], .any, _, w.putObj b (.cells (C.setIfInBounds j u) e (0, 0)), rfl, fun _ _ _ _ => trivial, .put .., .inr ⟨rfl, ?_⟩⟩
    have hs := hT.size
    cases hi : P.info? t with
    | none => rw [hi] at hs; cases hs
    | some inf =>
      have hsz2 : inf.size = 1 := by rw [hi] at hs; simpa using hs
      simp only [Nat.add_zero, World.setCells] at hst
      simp [execOp, h1, h2, Instr.storeAt, Instr.sureAddr, storeVar, Go.sizeOf, typeInfo, hi, hsz2, hsz, hc, hst, setCell_put hb]
  · subst h1 h2
    exact k
/-- Two facts of one object are of one mind. -/
theorem Turns.kne {t1 t2 b1 b2 : Nat} {o1 o2 : Obj} (h1 : look env t1 = .kept b1 o1) (h2 : look env t2 = .kept b2 o2) (ho : o1 ≠ o2) : Turns ⟨env, bs⟩ (fun s1 => b1 ≠ b2 ∧ s1 = ⟨env, bs⟩) := by
  rintro w0 n a w ⟨T, F, ρ, hr⟩
  refine ⟨_, ⟨fun e => ho ?_, rfl⟩, T, F, ρ, hr⟩
  have e1 := hr.env t1
  rw [show (St.mk env bs).look t1 = look env t1 from rfl, h1] at e1
  have e2 := hr.env t2
  rw [show (St.mk env bs).look t2 = look env t2 from rfl, h2] at e2
  have e3 := e1.2.2
  rw [e, e2.2.2] at e3
  injection e3 with e3
  exact e3.symm
theorem RunK.kne {l : List Oper} {t1 t2 b1 b2 : Nat} {o1 o2 : Obj} (h1 : look env t1 = .kept b1 o1) (h2 : look env t2 = .kept b2 o2) (ho : o1 ≠ o2) (k : b1 ≠ b2 → RunK false P ops l ⟨env, bs⟩ K) : RunK false P ops l ⟨env, bs⟩ K := Run.weak rfl (Turns.kne h1 h2 ho) (fun _ ⟨h, e⟩ => e ▸ k h)
end
theorem Wt.kne {P : Program} {w0 : Base} {n : Nat} {N R : St → Prop} {X : Nat → St → Prop} {env : List (Nat × PV)} {bs : List (Nat × List Value)} {c : Code} {t1 t2 b1 b2 : Nat} {o1 o2 : Obj} (h1 : look env t1 = .kept b1 o1) (h2 : look env t2 = .kept b2 o2) (ho : o1 ≠ o2) (k : b1 ≠ b2 → Wt P w0 n c ⟨env, bs⟩ N R X) : Wt P w0 n c ⟨env, bs⟩ N R X := .weakS (Turns.kne h1 h2 ho) (fun _ ⟨h, e⟩ => e ▸ k h)
end Go.Proofs.Ytonangdimkgdpaa.Pv
