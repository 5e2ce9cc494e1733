/- The machine of values: loops over functions. No condition. -/
import Derived.Test.YtfacimebfdeaeaaPvM
import Derived.RangeFuncRecord
import Derived.RangeFuncCalls
namespace Go.Proofs.Ytfacimebfdeaeaa.Pv
open Go Go.RowKit
section
variable {dr : Bool} {P : Program} {ops : Array Oper} {rest : List Oper} {env : List (Nat × PV)} {bs : List (Nat × List Value)} {K : St → Prop} {d : Nat} {op : Op} {ty : TypeId} {pos : String} {aft : Array Edge} {g : Option (Nat × Bool)}
/-- A slice is stored into a cell: its header gets a name, and what it reads as is kept beside. -/
theorem RunK.storeHF {t : TypeId} [hT : TySize P t 1] {x : Operand} {id off yt : Nat} {cs : List Value} {tag : Option Nat} {app : App} {k0 : Nat} {els : List (List Value)} (h : Nat) (hw : wantedS ops ⟨env, bs⟩ ⟨none, .store t x (.tmp yt), ty, pos, aft, g⟩ = some true) (hy : look env yt = .s (.sl tag app k0 els)) (hyt : Nat.blt yt 1000000 = true) (hh : (Nat.ble 2000000 h && Nat.blt h 3000000) = true)
    (hx : ∀ hdr, (St.mk ((yt, .s (.v hdr)) :: (h, .hd hdr (.sl tag app k0 els)) :: env) bs).ev x = .box id off) (hb : boxOf bs id = some cs) (hle : Nat.ble (off + 1) cs.length = true)
    (k : ∀ hdr : Value, hdr.cells.toList = [hdr] → hdr.oneCell' = true → RunK dr P ops rest ⟨(yt, .s (.v hdr)) :: (h, .hd hdr (.sl tag app k0 els)) :: env, (id, cs.take off ++ [hdr] ++ cs.drop (off + 1)) :: bs⟩ K) : RunK dr P ops (⟨none, .store t x (.tmp yt), ty, pos, aft, g⟩ :: rest) ⟨env, bs⟩ K := by
  refine Run.eff (S := fun s1 => ∃ hdr : Value, hdr.cells.toList = [hdr] ∧ hdr.oneCell' = true ∧ s1 = ⟨(yt, .s (.v hdr)) :: (h, .hd hdr (.sl tag app k0 els)) :: env, (id, cs.take off ++ [hdr] ++ cs.drop (off + 1)) :: bs⟩) hw ?_ (fun _ => ⟨rfl, ?_⟩) ?_
  · refine Eff.pre (Turns.openS yt h hy hyt (by rw [Bool.and_eq_true] at hh; exact hh.1)) ?_
    rintro s1 ⟨hdr, h1, h2, rfl⟩
    refine (Eff.store (s := ⟨(yt, .s (.v hdr)) :: (h, .hd hdr (.sl tag app k0 els)) :: env, bs⟩) (u := hdr) (m := 1) (hx hdr) hb ?_ (by rw [h1]; rfl) (by rw [h1]; simp [h2]) (Nat.ble_eq ▸ hle)).post ?_
    · show (bif Nat.blt yt 1000000 then look ((yt, _) :: _) yt else _) = _
      rw [hyt, cond_true, look_put, if_pos rfl]
    · rintro s2 rfl
      exact ⟨hdr, h1, h2, by rw [h1]⟩
  · rintro s1 ⟨hdr, _, _, rfl⟩
    refine ⟨fun hwf u id' hu => ?_, tame_fact hy hh⟩
    have hu' : (look ((yt, PV.s (.v hdr)) :: (h, .hd hdr (.sl tag app k0 els)) :: env) u).isBox id' = true := hu
    rw [look_put, look_put] at hu'
    split at hu'
    · cases hu'
    · split at hu'
      · cases hu'
      · have h1 : (boxOf bs id').isSome = true := hwf u id' hu'
        show (boxOf ((id, _) :: bs) id').isSome = true
        rw [boxOf_put]
        split
        · rfl
        · exact h1
  · rintro s1 ⟨hdr, h1, h2, rfl⟩
    exact k hdr h1 h2
end
section
variable {P : Program} {ops : Array Oper} {K : St → Prop}
/-- A slice in a slot: its header gets a name. -/
theorem RunK.openS {l : List Oper} {env : List (Nat × PV)} {bs : List (Nat × List Value)} (t h : Nat) {tag : Option Nat} {app : App} {k0 : Nat} {els : List (List Value)} (hl : look env t = .s (.sl tag app k0 els)) (ht : Nat.blt t 1000000 = true) (hh : Nat.ble 2000000 h = true)
    (k : ∀ hdr : Value, hdr.cells.toList = [hdr] → hdr.oneCell' = true → RunK false P ops l ⟨(t, .s (.v hdr)) :: (h, .hd hdr (.sl tag app k0 els)) :: env, bs⟩ K) : RunK false P ops l ⟨env, bs⟩ K :=
  Run.weak rfl (Turns.openS t h hl ht hh) (fun _ ⟨hdr, h1, h2, e⟩ => e ▸ k hdr h1 h2)
end
section
variable {P : Program} {ev : Operand → PV} {bx : Nat → Option (List Value)} {d : Option Nat} {ty : TypeId} {pos : String} {aft : Array Edge} {g : Option (Nat × Bool)}

theorem Eff.storeG {s : St} {t m : Nat} [hT : TySize P t m] {x y : Operand} {id off : Nat} {cs : List Value} {u : Value} (hx : s.ev x = .box id off) (hb : s.box id = some cs) (hy : ∀ T F ρ w (a : Act), RepP T F ρ w (s.ev y) (a.eval y) → a.eval y = u)
    (hm : u.cells.toList.length = m) (hone : u.cells.toList.all (·.oneCell') = true) (hle : off + m ≤ cs.length) : Eff P ⟨none, .store t x y, ty, pos, aft, g⟩ s (Eq ⟨s.env, (id, cs.take off ++ u.cells.toList ++ cs.drop (off + m)) :: s.boxes⟩) := by
  rintro w0 n a w ⟨T, F, ρ, hr⟩ hd next Q hK
  have h1 := (hr.ev x).box_of hx
  have h2 := hy T F ρ w a (hr.ev y)
  rcases Nat.eq_zero_or_pos m with hm0 | hm0
  · subst hm0
    have hu0 : u.cells.toList = [] := List.eq_nil_of_length_eq_zero hm
    have hs := hT.size
    have hrun : (execOp a.eval ⟨none, .store t x y, ty, pos, aft, g⟩).run P w = .ok .skip w := by
      cases hi : P.info? t with
      | none => rw [hi] at hs; cases hs
      | some inf =>
        have hsz : inf.size = 0 := by rw [hi] at hs; simpa using hs
        have hm' : u.cells.size = 0 := by simpa using hm
        have hu1 : u.cells = #[] := Array.eq_empty_of_size_eq_zero hm'
        simp [execOp, h1, h2, Instr.storeAt, Instr.sureAddr, storeVar, Go.sizeOf, typeInfo, hi, hsz, hu1, storeCells]
    unfold Oper.wp
    rw [hrun]
    refine hK _ rfl _ _ ⟨T, F, ρ, hr.defers, hr.size, hr.small, hr.below, hr.ext, hr.env, fun id' cs' hid => ?_⟩
    have hid' : boxOf ((id, cs.take off ++ u.cells.toList ++ cs.drop (off + 0)) :: s.boxes) id' = some cs' := hid
    rw [boxOf_put, hu0, List.append_nil, Nat.add_zero, List.take_append_drop] at hid'
    split at hid'
    · rename_i he
      subst he
      injection hid' with hid'
      subst hid'
      exact hr.boxes _ _ hb
    · exact hr.boxes _ _ hid'
  obtain ⟨b1, b2, b3, pre, post, e, bl, b4⟩ := hr.boxes id cs hb (fun h => by rw [h] at hle; simp at hle; omega)
  rw [← bl] at h1
  have hone' : ∀ v ∈ u.cells.toList, v.oneCell' = true := fun v hv => List.all_eq_true.1 hone v hv
  have hst := run_storeCells_at P (ρ id).1 (pre.length + off) e u.cells.toList 0 (pre ++ cs ++ post).toArray w b4 (by simp only [Nat.add_zero, List.size_toArray, List.length_append]; omega) hone'
  simp only [Nat.add_zero, hm, splice hle] at hst
  have hs := hT.size
  have hrun : (execOp a.eval ⟨none, .store t x y, ty, pos, aft, g⟩).run P w = .ok .skip (w.setRow (ρ id).1 (pre ++ (cs.take off ++ u.cells.toList ++ cs.drop (off + m)) ++ post).toArray) := by
    cases hi : P.info? t with
    | none => rw [hi] at hs; cases hs
    | some inf =>
      have hsz : inf.size = m := by rw [hi] at hs; simpa using hs
      have hm' : u.cells.size = m := by simpa using hm
      simp [execOp, h1, h2, Instr.storeAt, Instr.sureAddr, storeVar, Go.sizeOf, typeInfo, hi, hsz, hm', hst]
  unfold Oper.wp
  rw [hrun]
  refine hK _ rfl _ _ ⟨T, F, ρ, ?_⟩
  have hsize : (w.setRow (ρ id).1 (pre ++ (cs.take off ++ u.cells.toList ++ cs.drop (off + m)) ++ post).toArray).heap.size = w.heap.size := by simp
  have hother : ∀ k, k ≠ (ρ id).1 → (w.setRow (ρ id).1 (pre ++ (cs.take off ++ u.cells.toList ++ cs.drop (off + m)) ++ post).toArray).heap[k]? = w.heap[k]? := fun k hk => setRow_other w _ k _ hk
  have hg : Goes T F w T F (w.setRow (ρ id).1 (pre ++ (cs.take off ++ u.cells.toList ++ cs.drop (off + m)) ++ post).toArray) := by
    refine ⟨by omega, fun _ _ => rfl, fun _ _ => Nat.le_refl _, fun b cur e' hb' _ hh => ?_, fun b o hb' ht => World.cell?_of_block (w := w) (a := ⟨b, o, none⟩) (hother b fun hbe => ?_), fun b _ hb' ht => hother b fun hbe => (by rw [hbe, b3] at ht; cases ht), fun b hb' ht => hother b fun hbe => by rw [hbe, b3] at ht; cases ht⟩
    · by_cases hbe : b = (ρ id).1
      · subst hbe
        rw [b4] at hh
        injection hh with hh
        injection hh with e1 e2
        subst e1 e2
        have hul : u.cells.toList.length = m := hm
        refine ⟨_, setRow_heap w _ _ _ e _ b4, ?_⟩
        simp only [List.size_toArray, List.length_append, List.length_take, List.length_drop, hul]
        omega
      · exact ⟨cur, by rw [hother b hbe]; exact hh, rfl⟩
    · subst hbe
      rw [b3] at ht
      rcases ht with ht | ⟨τ, ht, _⟩ <;> cases ht
  have hE : Ends T F w F (w.setRow (ρ id).1 (pre ++ (cs.take off ++ u.cells.toList ++ cs.drop (off + m)) ++ post).toArray) none := fun b τ hb' ht _ => ⟨rfl, hother b fun hbe => by subst hbe; rw [b3] at ht; cases ht⟩
  refine ⟨hr.defers, hr.size, hr.small, hr.below.trans ⟨rfl, rfl, rfl, by omega, fun k hk => hother k (by omega)⟩, hr.ext, fun t => (hr.env t).goes0 hg hE (fun _ _ => rfl), fun id' cs' hid => ?_⟩
  have hid' : boxOf ((id, cs.take off ++ u.cells.toList ++ cs.drop (off + m)) :: s.boxes) id' = some cs' := hid
  rw [boxOf_put] at hid'
  split at hid'
  · rename_i he
    subst he
    injection hid' with hid'
    subst hid'
    exact fun _ => ⟨b1, by omega, b3, pre, post, e, bl, setRow_heap w _ _ _ e _ b4⟩
  · rename_i he
    intro hne
    have hbo := hr.boxes id' cs' hid'
    refine hbo.goes (by omega) (fun _ => rfl) rfl (fun _ => hother _ fun hbe => he ?_) hne
    have := (hbo hne).2.2.1
    rw [hbe, b3] at this
    injection this
end
section
variable {dr : Bool} {P : Program} {ops : Array Oper} {rest : List Oper} {env : List (Nat × PV)} {bs : List (Nat × List Value)} {K : St → Prop} {d : Nat} {op : Op} {ty : TypeId} {pos : String} {aft : Array Edge} {g : Option (Nat × Bool)}
/-- nil is stored into a cell. -/
theorem RunK.storeN {t : TypeId} [hT : TySize P t 1] {x y : Operand} {id off : Nat} {cs l : List Value} (hw : wantedS ops ⟨env, bs⟩ ⟨none, .store t x y, ty, pos, aft, g⟩ = some true) (hx : (St.mk env bs).ev x = .box id off) (hb : (St.mk env bs).box id = some cs) (hy : (St.mk env bs).ev y = .s .nil)
    (hle : Nat.ble (off + 1) cs.length = true) (hl : cs.take off ++ [.slice none 0 0] ++ cs.drop (off + 1) = l) (k : RunK dr P ops rest ⟨env, (id, l) :: bs⟩ K) : RunK dr P ops (⟨none, .store t x y, ty, pos, aft, g⟩ :: rest) ⟨env, bs⟩ K :=
  .eff (fun _ => rfl) wf_store (fun _ _ _ _ => rfl) hw (hl ▸ Eff.storeG (u := .slice none 0 0) (m := 1) hx hb (fun _ _ _ _ _ h => by rw [hy] at h; exact h) rfl rfl (Nat.ble_eq ▸ hle)) k
end
/-! ### a loop over a function -/
section
variable {P : Program} {w0 : Base} {n : Nat} {T : Nat → BTag} {F : Nat → Nat} {ρ : Nat → Nat × Nat} {a : Act} {w : World}
/-- An object is written. -/
def notLoop (h : Nat) (env : List (Nat × PV)) : Bool := env.all fun p => Nat.beq p.1 h || match p.2 with | .kept _ (.loop _) => false | _ => true
theorem look_notLoop {h : Nat} : ∀ {env : List (Nat × PV)}, notLoop h env = true → ∀ t b r, t ≠ h → look env t ≠ .kept b (.loop r)
  | [], _, t, b, r, _, h => by cases h
  | (d, p) :: l, hn, t, b, r, ht, h => by
    simp only [notLoop, List.all_cons, Bool.and_eq_true] at hn
    rw [look_put] at h
    split at h
    · rename_i hd
      subst hd h
      have := hn.1
      simp only [Bool.or_eq_true] at this
      rcases this with h1 | h1
      · exact ht (Nat.eq_of_beq_eq_true h1)
      · cases h1
    · exact look_notLoop (env := l) hn.2 t b r ht h
theorem RSx.putK {env : List (Nat × PV)} {bs : List (Nat × List Value)} (hr : RSx w0 n T F ρ ⟨env, bs⟩ a w) {h L : Nat} {r r' : Obj} (hk : look env h = .kept L r) (hcell : ∀ cur e, r ≠ .cells cur e (0, 0)) (hn : ∀ t b o, t ≠ h → look env t = .kept b o → b ≠ L) :
    RSx w0 n T F ρ ⟨(h, .kept L r') :: env, bs⟩ a (w.putObj L r') := by
  have he := hr.env h
  rw [show (St.mk env bs).look h = .kept L r from hk] at he
  obtain ⟨h1, h2, h3⟩ := he
  have hL : w0.w.heap.size ≤ L := hr.size_of (by rw [h1]; intro h; cases h)
  have hother : ∀ k, k ≠ L → (w.putObj L r').heap[k]? = w.heap[k]? := fun k hk => World.putObj_heap_other hk
  -- the tags are turned for a moment: the object is nobody's
  have hg : Goes (fun b => if b = L then .free else T b) F w (fun b => if b = L then .free else T b) F (w.putObj L r') := by
    refine ⟨by simp, fun _ _ => rfl, fun _ _ => Nat.le_refl _, fun b cur e hb _ hc => ?_, fun b o hb ht => World.cell?_of_block (w := w) (a := ⟨b, o, none⟩) (hother b fun hbe => ?_), fun b _ hb ht => hother b fun hbe => ?_, fun b hb ht => hother b fun hbe => ?_⟩
    · have hbe : b ≠ L := fun hbe => by rw [hbe, h3] at hc; injection hc with hc; exact hcell _ _ hc
      exact ⟨cur, by rw [hother b hbe]; exact hc, rfl⟩
    · subst hbe; simp at ht
    · subst hbe; simp at ht
    · subst hbe; simp at ht
  have hE : Ends (fun b => if b = L then .free else T b) F w F (w.putObj L r') none := fun b τ hb ht _ => ⟨rfl, hother b fun hbe => by subst hbe; simp at ht⟩
  have hT : ∀ b, T b ≠ .obj 0 → (if b = L then .free else T b) = T b := fun b hb => if_neg fun hbe => hb (by rw [hbe]; exact h1)
  have hT2 : ∀ b t, T b = ofTag t → (if b = L then .free else T b) = T b := fun b t hb => hT b (by rw [hb]; cases t <;> intro h <;> cases h)
  refine ⟨hr.defers, hr.size, hr.small, hr.below.trans ⟨rfl, rfl, rfl, by simp, fun k hk => hother k (by omega)⟩, hr.ext, fun t => ?_, fun id cs hid => ?_⟩
  · show RepP T F ρ _ (look ((h, _) :: env) t) _
    rw [look_put]
    split
    · exact ⟨h1, by simpa using h2, World.putObj_heap_same h2⟩
    · rename_i hth
      have ht := hr.env t
      generalize hp : (St.mk env bs).look t = p at ht
      have hp' : look env t = p := hp
      rw [hp']
      by_cases hkp : ∃ b o, p = .kept b o
      · obtain ⟨b, o, rfl⟩ := hkp
        obtain ⟨k1, k2, k3⟩ := ht
        have hbL : b ≠ L := hn t b o (Ne.symm hth) hp'
        exact ⟨k1, by simpa using k2, by rw [hother b hbL]; exact k3⟩
      · by_cases hko : ∃ W B, p = .old W B
        · obtain ⟨W, B, rfl⟩ := hko
          exact ⟨fun c hc hB => let ⟨q1, q2, q3⟩ := ht.1 c hc hB; ⟨q1, by simpa using q2, (hother c fun e => by rw [e, h1] at q1; cases q1).trans q3⟩, by simpa using ht.2⟩
        have hown : ∀ b g, p.owns b g → g ≠ 0 := fun b g ho => by
          cases p with
          | kept b' o => exact absurd ⟨b', o, rfl⟩ hkp
          | old W B => exact absurd ⟨W, B, rfl⟩ hko
          | nest g' k rows => have ho : g = g' + 1 := ho; omega
          | _ => exact ho.elim
        have h5 : RepP (fun b => if b = L then .free else T b) F ρ w p (vl a w0.fr t) := by
          refine ht.turn (fun tg _ x hx => ⟨hT2 x tg hx, rfl⟩) (fun id' _ => ⟨rfl, fun x hx => hT x (by rw [hx]; intro h; cases h)⟩) (fun b g ho he => (hT b (by rw [he]; intro h; injection h with h; exact hown b g ho h)).trans he) (fun x hx => by rw [hT x (by rw [hx]; intro h; cases h)]; exact hx)
        have h6 := h5.goes0 hg hE (ρ' := ρ) (fun _ _ => rfl)
        refine RepP.turn (T' := T) (F' := F) (ρ' := ρ) h6 (fun tg htg x hx => ?_) (fun id' hid => ⟨rfl, fun x hx => ?_⟩) (fun b g ho he => Eq.trans (if_neg (fun e => by have hx' : (if b = L then BTag.free else T b) = .obj g := he; rw [if_pos e] at hx'; cases hx')).symm he) (fun x hx => Eq.trans (if_neg (fun e => by have hx' : (if x = L then BTag.free else T x) = .ext := hx; rw [if_pos e] at hx'; cases hx')).symm hx)
        · have hxL : x ≠ L := fun e => by rw [if_pos e] at hx; cases tg <;> cases hx
          exact ⟨(if_neg hxL).symm, rfl⟩
        · have hxL : x ≠ L := fun e => by rw [if_pos e] at hx; cases hx
          exact (if_neg hxL).symm
  · have hbo := hr.boxes id cs hid
    intro hne
    obtain ⟨b1, b2, b3, pre, post, e, bl, b4⟩ := hbo hne
    exact ⟨b1, by simpa using b2, b3, pre, post, e, bl, by rw [hother _ (fun hbe => by rw [hbe, h3] at b4; injection b4 with b4; exact hcell _ _ b4)]; exact b4⟩
theorem RSx.putLoop {env : List (Nat × PV)} {bs : List (Nat × List Value)} (hr : RSx w0 n T F ρ ⟨env, bs⟩ a w) {h L : Nat} {r r' : Loop} (hk : look env h = .kept L (.loop r)) (hn : notLoop h env = true) (_hh : Nat.ble 2000000 h = true) :
    RSx w0 n T F ρ ⟨(h, .kept L (.loop r')) :: env, bs⟩ a (w.putObj L (.loop r')) :=
  hr.putK hk (fun _ _ h => by cases h) fun t b o ht hp' hbe => by
    have he := hr.env h
    rw [show (St.mk env bs).look h = .kept L (.loop r) from hk] at he
    have k3 := hr.env t
    rw [show (St.mk env bs).look t = .kept b o from hp'] at k3
    have k4 := k3.2.2
    rw [hbe, he.2.2] at k4
    injection k4 with k4
    subst k4
    exact look_notLoop hn t b r ht hp'
end

section
variable {P : Program} {w0 : Base} {n : Nat} {T : Nat → BTag} {F : Nat → Nat} {ρ : Nat → Nat × Nat} {a : Act} {w : World} {s : St}
theorem RSx.frame (hr : RSx w0 n T F ρ s a w) {fr' : Nat → Value} {m' : List Deferred} {fin' : Act → World → Prop} {n' : Nat} {a' : Act} {env' : List (Nat × PV)} (hd : a'.defers = m') (hs : a'.tmps.size = n') (hn : n' ≤ 1000000) (he : ∀ t, RepP T F ρ w (look env' t) (vl a' fr' t)) : RSx ⟨w0.w, fr', m', fin'⟩ n' T F ρ ⟨env', s.boxes⟩ a' w :=
  ⟨hd, hs, hn, hr.below, hr.ext, he, hr.boxes⟩
/-- What is known of values. -/
def factE : List (Nat × PV) → List (Nat × PV)
  | [] => []
  | (t, p) :: l => bif Nat.blt t 2000000 then factE l else (t, p.fact) :: factE l
theorem look_factE : ∀ {l : List (Nat × PV)} {t : Nat}, 2000000 ≤ t → look (factE l) t = (look l t).fact
  | [], _, _ => rfl
  | (u, p) :: l, t, ht => by
    have ih := look_factE (l := l) ht
    rw [look_put, factE]
    rcases Nat.lt_or_ge u 2000000 with hu | hu
    · rw [blt_t hu, cond_true, if_neg (by omega)]; exact ih
    · rw [blt_f hu, cond_false, look_put]
      by_cases e : u = t
      · rw [if_pos e, if_pos e]
      · rw [if_neg e, if_neg e]; exact ih
theorem look_factE_low : ∀ {l : List (Nat × PV)} {t : Nat}, t < 2000000 → look (factE l) t = .any
  | [], _, _ => rfl
  | (u, p) :: l, t, ht => by
    have ih := look_factE_low (l := l) ht
    rw [factE]
    rcases Nat.lt_or_ge u 2000000 with hu | hu
    · rw [blt_t hu, cond_true]; exact ih
    · rw [blt_f hu, cond_false, look_put, if_neg (by omega)]; exact ih
theorem RSx.factE {env : List (Nat × PV)} {bs : List (Nat × List Value)} (hr : RSx w0 n T F ρ ⟨env, bs⟩ a w) (t : Nat) (v : Value) : RepP T F ρ w (look (Pv.factE env) t) v := by
  rcases Nat.lt_or_ge t 2000000 with ht | ht
  · rw [look_factE_low ht]; trivial
  · rw [look_factE ht]; exact (hr.env t).fact

/-- Code in a round of a loop over a function, left at its end. -/
def PostN (w0 : Base) (n : Nat) (N : St → Prop) : Exit → Act → World → Prop
  | .normal, a', w' => ∃ s', N s' ∧ RS w0 n s' a' w'
  | _, _, _ => False
def WtR (P : Program) (ro : Option Nat) (w0 : Base) (n : Nat) (c : Code) (s : St) (N : St → Prop) : Prop := ∀ a w m, RS w0 n s a w → c.wpIn (wideR ro) m P (PostN w0 n N) a w
theorem WtR.seq {ro : Option Nat} {x y : Code} {N : St → Prop} (h : WtR P ro w0 n x s (fun s' => WtR P ro w0 n y s' N)) : WtR P ro w0 n (.seq x y) s N := fun a w m hr => by
  refine wpIn_seq (wpIn_mono (h a w m hr) fun e a' w' hq => ?_)
  cases e with
  | normal => obtain ⟨s', h1, h2⟩ := hq; exact h1 a' w' m h2
  | _ => exact hq.elim
theorem WtR.block {ro : Option Nat} {i : Nat} {c : Code} {N : St → Prop} (h : WtR P ro w0 n c s N) : WtR P ro w0 n (.block i c) s N := fun a w m hr => by
  refine wpIn_block (wpIn_mono (h a w m hr) fun e a' w' hq => ?_)
  cases e with
  | normal => exact hq
  | _ => exact hq.elim
theorem WtR.region {ro : Option Nat} {i : Nat} {l : List Oper} {N : St → Prop} (hd : dstsOk n l = true) (h : RunK false P l.toArray l s N) : WtR P ro w0 n (.region i l.toArray false) s N := fun a w m hr =>
  wpIn_region_lit (wpListIn_of_run ro m h hd (fun s' hN _ _ hr' => ⟨s', hN, hr'⟩) a w hr)
theorem WtR.skip {ro : Option Nat} {N : St → Prop} (h : N s) : WtR P ro w0 n .skip s N := fun _ _ _ hr => wpIn_skip ⟨s, h, hr⟩

/-- The record of such a loop. -/
def recL (fn : FuncId) (tm : Array Value) (ps : Array Tmp) (assign body : Code) (D : Nat) (st : LoopState) : Loop := { state := st, pending := none, fn := fn, tmps := tm, params := ps, assign := assign, body := body, defers := D }
inductive CapsF (env : List (Nat × PV)) (tm : Array Value) : List (Nat × Nat × Nat × Nat) → Prop
  | nil : CapsF env tm []
  | cons {t h id off : Nat} {l : List (Nat × Nat × Nat × Nat)} (hl : look env h = .hb (tm.getD t undef) id off) (k : CapsF env tm l) : CapsF env tm ((t, h, id, off) :: l)
def capsB (n p1 p2 : Nat) (l : List (Nat × Nat × Nat × Nat)) : Bool := l.all fun c => Nat.blt c.1 n && !Nat.beq c.1 p1 && !Nat.beq c.1 p2
def capE : List (Nat × Nat × Nat × Nat) → List (Nat × PV) → List (Nat × PV)
  | [], g => g
  | (t, _, id, off) :: l, g => (t, .box id off) :: capE l g

theorem CapsF.ptr {env : List (Nat × PV)} {bs : List (Nat × List Value)} (hr : RSx w0 n T F ρ ⟨env, bs⟩ a w) {tm : Array Value} : ∀ {l : List (Nat × Nat × Nat × Nat)}, CapsF env tm l → ∀ c ∈ l, tm.getD c.1 undef = .pointer (some ⟨(ρ c.2.2.1).1, (ρ c.2.2.1).2 + c.2.2.2, none⟩)
  | _, .nil, c, hc => by cases hc
  | _, .cons (h := h) hl k, c, hc => by
    rcases List.mem_cons.1 hc with rfl | hc
    · have h1 := hr.env h
      rw [show (St.mk env bs).look h = _ from hl] at h1
      exact h1
    · exact k.ptr hr c hc
theorem look_capE {T : Nat → BTag} {F : Nat → Nat} {ρ : Nat → Nat × Nat} {w : World} {val : Nat → Value} {g : List (Nat × PV)} {tm : Array Value} : ∀ {l : List (Nat × Nat × Nat × Nat)}, (∀ c ∈ l, tm.getD c.1 undef = .pointer (some ⟨(ρ c.2.2.1).1, (ρ c.2.2.1).2 + c.2.2.2, none⟩)) → (∀ c ∈ l, val c.1 = tm.getD c.1 undef) → (∀ t, RepP T F ρ w (look g t) (val t)) → ∀ t, RepP T F ρ w (look (capE l g) t) (val t)
  | [], _, _, hg, t => hg t
  | (u, h, id, off) :: l, hf, hv, hg, t => by
    rw [capE, look_put]
    split
    · rename_i e
      subst e
      exact (hv _ (List.mem_cons_self ..)).trans (hf _ (List.mem_cons_self ..))
    · exact look_capE (fun c hc => hf c (List.mem_cons_of_mem _ hc)) (fun c hc => hv c (List.mem_cons_of_mem _ hc)) hg t
theorem getD_set2 {tm : Array Value} {p1 p2 : Nat} {v1 v2 : Value} (h1 : p1 < tm.size) (h2 : p2 < tm.size) (_hne : p1 ≠ p2) (t : Nat) : ((tm.setIfInBounds p1 v1).setIfInBounds p2 v2).getD t undef = if t = p2 then v2 else if t = p1 then v1 else tm.getD t undef := by
  rw [Array.getD_eq_getD_getElem?, Array.getElem?_setIfInBounds]
  by_cases e2 : p2 = t
  · subst e2; simp [h2]
  · rw [if_neg e2, if_neg (fun e => e2 e.symm), Array.getElem?_setIfInBounds]
    by_cases e1 : p1 = t
    · subst e1; simp [h1]
    · rw [if_neg e1, if_neg (fun e => e1 e.symm), Array.getD_eq_getD_getElem?]
/-- A call of yield: a round in the caller's frame, in the same world. -/
theorem EffI.yield {env : List (Nat × PV)} {bs : List (Nat × List Value)} {x y1 y2 : Operand} {ats : Array TypeId} {d : Nat} {ty : TypeId} {pos : String} {aft : Array Edge} {g : Option (Nat × Bool)} {L D h nC p1 p2 : Nat} {fn : FuncId} {tm : Array Value} {assign body : Code} {a1 a2 : PV} {caps : List (Nat × Nat × Nat × Nat)} {K : St → Prop}
    (hx : (St.mk env bs).ev x = .s (.v (.func (.yield L) #[] #[]))) (hk : look env h = .kept L (.loop (recL fn tm #[p1, p2] assign body D .ready))) (_hn : notLoop h env = true) (hh : Nat.ble 2000000 h = true)
    (hy1 : (St.mk env bs).ev y1 = a1) (hy2 : (St.mk env bs).ev y2 = a2) (htm : tm.size = nC) (hp : (Nat.blt p1 nC && Nat.blt p2 nC && !Nat.beq p1 p2 && Nat.ble nC 1000000) = true) (hcap : CapsF env tm caps) (hcb : capsB nC p1 p2 caps = true) (hng : noGhost env = true)
    (hA : ∀ w0 ro, WtR P ro w0 nC assign ⟨(p1, a1) :: (p2, a2) :: capE caps (ghostE env), bs⟩ fun s1 => look s1.env h = .kept L (.loop (recL fn tm #[p1, p2] assign body D .ready)) ∧ notLoop h s1.env = true ∧
      WtR P ro w0 nC body ⟨(h, .kept L (.loop (recL fn tm #[p1, p2] assign body D .busy))) :: s1.env, s1.boxes⟩ fun s2 => look s2.env h = .kept L (.loop (recL fn tm #[p1, p2] assign body D .busy)) ∧ notLoop h s2.env = true ∧
        K ⟨(d, .s (.v (.bool true))) :: backE ((h, .kept L (.loop (recL fn tm #[p1, p2] assign body D .ready))) :: s2.env), s2.boxes⟩) :
    EffI P ⟨some d, .call ⟨.value x, #[y1, y2], ats⟩, ty, pos, aft, g⟩ ⟨env, bs⟩ K := by
  rintro w0 n a w ⟨T, F, ρ, hr⟩ hd next Q hK ro m
  simp only [Bool.and_eq_true, Bool.not_eq_true'] at hp
  obtain ⟨⟨⟨q1, q2⟩, q3⟩, q4⟩ := hp
  have hp1 : p1 < nC := Nat.blt_eq ▸ q1
  have hp2 : p2 < nC := Nat.blt_eq ▸ q2
  have hpne : p1 ≠ p2 := fun e => by rw [e, Nat.beq_refl] at q3; cases q3
  have hnC : nC ≤ 1000000 := Nat.ble_eq ▸ q4
  have h1 : a.eval x = .func (.yield L) #[] #[] := by have := hr.ev x; rw [hx] at this; exact this
  have hkk := hr.env h
  rw [show (St.mk env bs).look h = _ from hk] at hkk
  obtain ⟨hk1, hk2, hk3⟩ := hkk
  have hrun : (execOp a.eval ⟨some d, .call ⟨.value x, #[y1, y2], ats⟩, ty, pos, aft, g⟩).run P w = .ok (.round L fn ((tm.setIfInBounds p1 (a.eval y1)).setIfInBounds p2 (a.eval y2)) assign body) w := by
    have hy := run_yield (P := P) (args := #[a.eval y1, a.eval y2]) hk3 rfl
    simp [execOp, resolve, h1, Deferred.ofValue, invoke, hy, recL]
  refine ⟨fun _ _ => trivial, ?_⟩
  rw [show (Oper.semAt (wideR ro).round a.eval ⟨some d, .call ⟨.value x, #[y1, y2], ats⟩, ty, pos, aft, g⟩) = execOp a.eval ⟨some d, .call ⟨.value x, #[y1, y2], ats⟩, ty, pos, aft, g⟩ from Oper.semAt_eq _ _ _ fun c hc => by cases hc]
  rw [hrun]
  refine ⟨fun h => (by cases h), roundIn_of_wpIn trivial ?_⟩
  show assign.wpIn (wideR (some L)) _ P _ _ _
  have hsz : ((tm.setIfInBounds p1 (a.eval y1)).setIfInBounds p2 (a.eval y2)).size = nC := by simpa using htm
  have hget := getD_set2 (v1 := a.eval y1) (v2 := a.eval y2) (htm ▸ hp1) (htm ▸ hp2) hpne
  obtain ⟨tms, htms⟩ : ∃ tms, tms = (tm.setIfInBounds p1 (a.eval y1)).setIfInBounds p2 (a.eval y2) := ⟨_, rfl⟩
  rw [← htms] at hsz hget ⊢
  have hvl : ∀ t, t < 1000000 → vl { tmps := tms, defers := [] } (frC a) t = tms.getD t undef := fun t ht => by unfold vl; rw [blt_t ht, cond_true]
  have hr1 : RSx ⟨w0.w, frC a, [], fun _ _ => False⟩ nC T F ρ ⟨(p1, a1) :: (p2, a2) :: capE caps (ghostE env), bs⟩ { tmps := tms, defers := [] } w := by
    refine hr.frame rfl hsz hnC fun t => ?_
    rw [look_put, look_put]
    split
    · rename_i e; subst e
      rw [hvl _ (by omega), hget, if_neg hpne, if_pos rfl, ← hy1]
      exact hr.ev y1
    · split
      · rename_i _ e; subst e
        rw [hvl _ (by omega), hget, if_pos rfl, ← hy2]
        exact hr.ev y2
      · refine look_capE (tm := tm) (hcap.ptr hr) (fun c hc => ?_) (fun t => ?_) t
        · have := List.all_eq_true.1 hcb c hc
          simp only [Bool.and_eq_true, Bool.not_eq_true'] at this
          obtain ⟨⟨c1, c2⟩, c3⟩ := this
          have c1 : c.1 < nC := Nat.blt_eq ▸ c1
          rw [hvl _ (by omega), hget, if_neg (fun e => by rw [e, Nat.beq_refl] at c3; cases c3), if_neg (fun e => by rw [e, Nat.beq_refl] at c2; cases c2)]
        · unfold vl
          rcases Nat.lt_or_ge t 1000000 with ht | ht
          · rw [look_ghost_low hng ht]; trivial
          · rw [blt_f ht, cond_false]
            rcases Nat.lt_or_ge t 2000000 with h2 | h2
            · rw [frC_lo h2]
              have := hr.env (dn t)
              unfold vl at this
              rw [blt_t (dn_lt h2), cond_true] at this
              have e := look_ghost (l := env) (t := dn t) hng (dn_lt h2)
              rw [add_dn ht] at e
              rw [e]
              exact this
            · rw [look_ghost_high hng h2]
              generalize frC a t = v
              exact (hr.env t).fact
  refine wpIn_mono (hA ⟨w0.w, frC a, [], fun _ _ => False⟩ (some L) _ w (m - 1) ⟨T, F, ρ, hr1⟩) fun e a2 w2 hq => ?_
  cases e with
  | normal =>
    obtain ⟨s1, ⟨g1, g2, g3⟩, T2, F2, ρ2, hr2⟩ := hq
    have g4 := hr2.env h
    rw [show s1.look h = _ from g1] at g4
    refine ⟨_, run_beginRound g4.2.2 rfl, ?_⟩
    have hr3 : RSx ⟨w0.w, frC a, [], fun _ _ => False⟩ nC T2 F2 ρ2 ⟨(h, .kept L (.loop (recL fn tm #[p1, p2] assign body D .busy))) :: s1.env, s1.boxes⟩ a2 (w2.putObj L (.loop (recL fn tm #[p1, p2] assign body D .busy))) := RSx.putLoop (env := s1.env) (bs := s1.boxes) hr2 g1 g2 hh
    refine wpIn_mono (g3 a2 _ (m - 1) ⟨T2, F2, ρ2, hr3⟩) fun e a3 w3 hq => ?_
    cases e with
    | normal =>
      obtain ⟨s2, ⟨f1, f2, f3⟩, T3, F3, ρ3, hr4⟩ := hq
      have f4 := hr4.env h
      rw [show s2.look h = _ from f1] at f4
      refine ⟨_, _, run_endRound none f4.2.2, ?_⟩
      have hr5 : RSx ⟨w0.w, frC a, [], fun _ _ => False⟩ nC T3 F3 ρ3 ⟨(h, .kept L (.loop (recL fn tm #[p1, p2] assign body D .ready))) :: s2.env, s2.boxes⟩ a3 (w3.putObj L (.loop (recL fn tm #[p1, p2] assign body D .ready))) := RSx.putLoop (env := s2.env) (bs := s2.boxes) hr4 f1 f2 hh
      refine hK _ f3 _ _ ⟨T3, F3, ρ3, RSx.frame hr5 (by rw [defers_put]; exact hr.defers) (by rw [size_put]; exact hr.size) hr.small fun t => ?_⟩
      rw [look_put, vl_put hr.size hr.small hd]
      by_cases e : d = t
      · subst e
        rw [if_pos rfl, if_pos rfl]
        rfl
      · rw [if_neg e, if_neg (by simpa using e)]
        have he := hr5.env
        unfold vl at he ⊢
        rcases Nat.lt_or_ge t 1000000 with ht | ht
        · rw [blt_t ht, cond_true, look_back ht]
          have := he (1000000 + t)
          rw [blt_f (by omega), cond_false] at this
          replace this : RepP T3 F3 ρ3 _ _ (frC a (1000000 + t)) := this
          rw [frC_up a t ht] at this
          exact this
        · rcases Nat.lt_or_ge t 2000000 with h2' | h2'
          · rw [look_back_mid ht h2']; trivial
          · rw [look_back_high h2']
            exact (he t).fact
    | _ => exact hq.elim
  | _ => exact hq.elim

def factC (tm : Array Value) : List (Nat × Nat × Nat × Nat) → List (Nat × PV) → List (Nat × PV)
  | [], g => g
  | (t, h, id, off) :: l, g => (h, .hb (tm.getD t undef) id off) :: factC tm l g
def capsH (env : List (Nat × PV)) : List (Nat × Nat × Nat × Nat) → Prop
  | [] => True
  | (t, h, id, off) :: l => look env t = .box id off ∧ Nat.blt t 1000000 = true ∧ Nat.ble 2000000 h = true ∧ capsH env l
theorem look_factC_low {env : List (Nat × PV)} {tm : Array Value} {g : List (Nat × PV)} {t : Nat} (ht : t < 2000000) (hg : look g t = .any) : ∀ {l : List (Nat × Nat × Nat × Nat)}, capsH env l → look (factC tm l g) t = .any
  | [], _ => hg
  | (u, h, id, off) :: l, hc => by
    have h3 : 2000000 ≤ h := Nat.ble_eq ▸ hc.2.2.1
    rw [factC, look_put, if_neg (by omega)]
    exact look_factC_low ht hg hc.2.2.2
theorem rep_factC {env : List (Nat × PV)} {bs : List (Nat × List Value)} (hr : RSx w0 n T F ρ ⟨env, bs⟩ a w) {T' : Nat → BTag} {F' : Nat → Nat} {w' : World} {g : List (Nat × PV)} (hg : ∀ t v, RepP T' F' ρ w' (look g t) v) : ∀ {l : List (Nat × Nat × Nat × Nat)}, capsH env l → ∀ t v, RepP T' F' ρ w' (look (factC a.tmps l g) t) v
  | [], _, t, v => hg t v
  | (u, h, id, off) :: l, hc, t, v => by
    rw [factC, look_put]
    split
    · have h1 := hr.env u
      rw [show (St.mk env bs).look u = _ from hc.1] at h1
      unfold vl at h1
      rw [hc.2.1, cond_true] at h1
      exact h1
    · exact rep_factC hr hg hc.2.2.2 t v
def markOf (D : Nat) : Deferred := { target := .collected D, args := #[] }
/-- What is asked where a loop over a function begins. -/
def RangeOk (P : Program) (n : Nat) (g : Operand) (p1 p2 : Nat) (assign body rest : Code) (R' : Nat → St → Prop) (s1 : St) : Prop :=
  ∃ (gf : FuncId) (gcaps : List (Nat × Nat)) (fnI : Func) (cI : Code) (nI : Nat) (caps : List (Nat × Nat × Nat × Nat)) (hL hD : Nat), s1.ev g = .clo gf gcaps ∧ P.funcs[gf]? = some fnI ∧ fnI.body = some cI ∧ (fnI.name == "runtime.NumGoroutine") = false ∧ fnI.ntmps = nI ∧ fnI.results = #[] ∧
    (Nat.ble (gcaps.length + 1) nI && Nat.ble nI 1000000 && Nat.ble 2000000 hL && Nat.ble 2000000 hD && !Nat.beq hL hD) = true ∧ capsH s1.env caps ∧
    ∀ (w1 : Base) (fn L D : Nat) (tm : Array Value), tm.size = n → Wt P w1 nI cI ⟨entryP 0 (.s (.v (.func (.yield L) #[] #[])) :: gcaps.map fun c => .box c.1 c.2) ((hL, .kept L (.loop (recL fn tm #[p1, p2] assign body D .ready))) :: (hD, .kept D (.deferred (some []))) :: factC tm caps (factE s1.env)), s1.boxes⟩
      (fun s2 => look s2.env hL = .kept L (.loop (recL fn tm #[p1, p2] assign body D .ready)) ∧ notLoop hL s2.env = true ∧ CapsF s2.env tm caps ∧ capsB 1000000 1000000 1000000 caps = true ∧
        ∀ w2 : Base, Wt P w2 n rest ⟨capE caps (factE ((hL, .kept L (.loop { recL fn tm #[p1, p2] assign body D .ready with state := .exhausted })) :: s2.env)), s2.boxes⟩ (fun _ => False) (R' D) (fun _ _ => False))
      (fun s2 => look s2.env hL = .kept L (.loop (recL fn tm #[p1, p2] assign body D .ready)) ∧ notLoop hL s2.env = true ∧ CapsF s2.env tm caps ∧ capsB 1000000 1000000 1000000 caps = true ∧
        ∀ w2 : Base, Wt P w2 n rest ⟨capE caps (factE ((hL, .kept L (.loop { recL fn tm #[p1, p2] assign body D .ready with state := .exhausted })) :: s2.env)), s2.boxes⟩ (fun _ => False) (R' D) (fun _ _ => False)) (fun _ _ => False)
/-- The loop over a function, and all that stands behind it up to the return. -/
theorem Wt.ranges {x rest : Code} {i : Nat} {g : Operand} {p1 p2 : Nat} {assign body : Code} {N R : St → Prop} {X : Nat → St → Prop} (R' : Nat → St → Prop) (hm : w0.marks = []) (hfin : ∀ D s a w, R' D s → w0.w.heap.size ≤ D → RS ⟨w0.w, w0.fr, [markOf D], fun _ _ => False⟩ n s a w → w0.fin a w)
    (hx : Wt P w0 n x s (fun s1 => ∃ S, Le s1 S ∧ RangeOk P n g p1 p2 assign body rest R' S) R X) : Wt P w0 n (.seq (.seq x (.block i (.rangeFunc g #[p1, p2] assign body))) rest) s N R X := fun a w hr => by
  refine wp_seq (wp_seq (wp_mono (hx a w hr) fun e a w hq => ?_))
  cases e with
  | normal =>
    obtain ⟨s0, ⟨s1, hle, gf, gcaps, fnI, cI, nI, caps, hL, hD, hg, hf, hb, hname, hnt, hres, hnum, hcaps, hI⟩, hr0⟩ := hq
    obtain ⟨T, F, ρ, hr⟩ := hr0.le hle
    subst hnt
    simp only [Bool.and_eq_true, Bool.not_eq_true'] at hnum
    obtain ⟨⟨⟨⟨u1, u2⟩, u3⟩, u4⟩, u5⟩ := hnum
    have u1 : gcaps.length + 1 ≤ fnI.ntmps := Nat.ble_eq ▸ u1
    have u2 : fnI.ntmps ≤ 1000000 := Nat.ble_eq ▸ u2
    have u3' : 2000000 ≤ hL := Nat.ble_eq ▸ u3
    have u4' : 2000000 ≤ hD := Nat.ble_eq ▸ u4
    refine wp_block ((wpIn_wide (n := 1)).1 (wpIn_rangeFunc fun fn _ => ?_))
    have h1 := hr.ev g
    rw [hg] at h1
    have h1' : a.eval g = .func (.func gf) #[] (gcaps.map fun c => Value.pointer (some ⟨(ρ c.1).1, (ρ c.1).2 + c.2, none⟩)).toArray := h1
    obtain ⟨lb, hlb⟩ : ∃ lb : List Value, lb = gcaps.map fun c => Value.pointer (some ⟨(ρ c.1).1, (ρ c.1).2 + c.2, none⟩) := ⟨_, rfl⟩
    rw [← hlb] at h1'
    obtain ⟨W1, hW1⟩ : ∃ W1, W1 = (w.alloc (.deferred (some []))).alloc (.loop (recL fn a.tmps #[p1, p2] assign body w.heap.size .ready)) := ⟨_, rfl⟩
    refine ⟨w.heap.size + 1, [markOf w.heap.size], W1, { target := .fn (.func gf) lb.toArray, args := #[.func (.yield (w.heap.size + 1)) #[] #[]] }, W1, gf, #[.func (.yield (w.heap.size + 1)) #[] #[]] ++ lb.toArray, W1, ?_, ?_, fun _ _ => trivial, ?_, fun h => (by cases h), ?_⟩
    · rw [hW1]; exact run_enterLoop_outer _ _ _ _ _
    · simp only [resolve, h1']
      simp [go_sem]
    · have hbb : fnI.body ≠ none := by rw [hb]; simp
      have hname' : fnI.name ≠ "runtime.NumGoroutine" := by simpa using hname
      simp [invoke, callFunc, hf, hbb, hname']
    · have hbel : Below w.heap.size w W1 := by rw [hW1]; exact ((Below.refl _ w).alloc (Nat.le_refl _) _).alloc (by simp) _
      have hr1 : RSx w0 n (fun b => if w.heap.size ≤ b then .obj 0 else T b) F ρ s1 a W1 := by
        have := hr.goes (w' := W1) (T' := fun b => if w.heap.size ≤ b then .obj 0 else T b) (F' := F) (ρ' := ρ) (s' := s1) (v := undef) (d := none) (pv := .any) (nb := none) (fun e h => by cases h) hbel (fun b hb => ⟨if_neg (by omega), rfl⟩) (fun _ _ => rfl) (fun _ hp => by cases hp) trivial (fun _ hp => by cases hp) rfl
        exact this
      have hLn : W1.heap[w.heap.size + 1]? = some (.loop (recL fn a.tmps #[p1, p2] assign body w.heap.size .ready)) := by
        rw [hW1]; have := World.alloc_heap_new (w.alloc (.deferred (some []))) (.loop (recL fn a.tmps #[p1, p2] assign body w.heap.size .ready)); rwa [World.size_alloc] at this
      have hDn : W1.heap[w.heap.size]? = some (.deferred (some [])) := by
        rw [hW1]; exact (Below.heap_alloc _ _ _ (by simp)).trans (World.alloc_heap_new w _)
      have hs1 : W1.heap.size = w.heap.size + 2 := by rw [hW1]; simp
      obtain ⟨T1, hT1⟩ : ∃ T1 : Nat → BTag, T1 = fun b => if w.heap.size ≤ b then .obj 0 else T b := ⟨_, rfl⟩
      rw [← hT1] at hr1
      have hgE : ∀ t v, RepP T1 F ρ W1 (look ((hL, .kept (w.heap.size + 1) (.loop (recL fn a.tmps #[p1, p2] assign body w.heap.size .ready))) :: (hD, .kept w.heap.size (.deferred (some []))) :: factC a.tmps caps (factE s1.env)) t) v := fun t v => by
        rw [look_put, look_put]
        split
        · exact ⟨by rw [hT1]; exact if_pos (by omega), by omega, hLn⟩
        · split
          · exact ⟨by rw [hT1]; exact if_pos (Nat.le_refl _), by omega, hDn⟩
          · exact rep_factC (env := s1.env) (bs := s1.boxes) hr1 (fun t v => RSx.factE (env := s1.env) (bs := s1.boxes) hr1 t v) hcaps t v
      have hgl : ∀ t, t < 2000000 → look ((hL, .kept (w.heap.size + 1) (.loop (recL fn a.tmps #[p1, p2] assign body w.heap.size .ready))) :: (hD, .kept w.heap.size (.deferred (some []))) :: factC a.tmps caps (factE s1.env)) t = .any := fun t ht => by
        rw [look_put, if_neg (by omega), look_put, if_neg (by omega)]
        exact look_factC_low ht (look_factE_low ht) hcaps
      have hl : lb.length = gcaps.length := by rw [hlb]; simp
      have hI' := hI ⟨w0.w, fun _ => undef, [], fun _ _ => False⟩ fn (w.heap.size + 1) w.heap.size a.tmps hr1.size
      obtain ⟨gE, hgEd⟩ : ∃ gE, gE = (hL, PV.kept (w.heap.size + 1) (.loop (recL fn a.tmps #[p1, p2] assign body w.heap.size .ready))) :: (hD, .kept w.heap.size (.deferred (some []))) :: factC a.tmps caps (factE s1.env) := ⟨_, rfl⟩
      rw [← hgEd] at hgE hgl hI'
      have hrI : RSx ⟨w0.w, fun _ => undef, [], fun _ _ => False⟩ fnI.ntmps T1 F ρ ⟨entryP 0 (.s (.v (.func (.yield (w.heap.size + 1)) #[] #[])) :: gcaps.map fun c => .box c.1 c.2) gE, s1.boxes⟩ { tmps := (#[Value.func (.yield (w.heap.size + 1)) #[] #[]] ++ lb.toArray) ++ Array.replicate (fnI.ntmps - (#[Value.func (.yield (w.heap.size + 1)) #[] #[]] ++ lb.toArray).size) undef, defers := [] } W1 := by
        refine hr1.frame rfl (by simp [hl]; omega) u2 fun t => ?_
        rw [look_entryP]
        split
        · rename_i hlt
          have ht : t < 1000000 := by simp at hlt; omega
          unfold vl
          rw [blt_t ht, cond_true, Array.getD_eq_getD_getElem?, Array.getElem?_append_left (by simp [hl]; simpa using hlt)]
          cases t with
          | zero => simp; rfl
          | succ k =>
            have hk : k < gcaps.length := by simpa using hlt
            rw [Array.getElem?_append_right (by simp)]
            simp only [Nat.add_sub_cancel, List.getD_eq_getElem?_getD, Nat.sub_zero, List.getElem?_cons_succ, List.getElem?_map, List.size_toArray, List.length_cons, List.length_nil, Nat.zero_add, List.getElem?_toArray, hlb]
            rw [List.getElem?_eq_getElem hk]
            rfl
        · exact hgE t _
      refine callsIn_wide.2 (calls_of_wp hf hb (wp_mono (hI' _ _ ⟨T1, F, ρ, hrI⟩) fun e a2 w2 hq => ?_))
      have fin : ∀ (a2 : Act) (w2 : World) (s2 : St), (look s2.env hL = .kept (w.heap.size + 1) (.loop (recL fn a.tmps #[p1, p2] assign body w.heap.size .ready)) ∧ notLoop hL s2.env = true ∧ CapsF s2.env a.tmps caps ∧ capsB 1000000 1000000 1000000 caps = true ∧
          ∀ w2 : Base, Wt P w2 n rest ⟨capE caps (factE ((hL, .kept (w.heap.size + 1) (.loop { recL fn a.tmps #[p1, p2] assign body w.heap.size .ready with state := .exhausted })) :: s2.env)), s2.boxes⟩ (fun _ => False) (R' w.heap.size) (fun _ _ => False)) → RS ⟨w0.w, fun _ => undef, [], fun _ _ => False⟩ fnI.ntmps s2 a2 w2 →
          a2.defers = [] ∧ ∃ v, (results fnI a2.tmps).run P w2 = .ok v w2 ∧ rangePost Fence.wide 1 P (w.heap.size + 1) (Exit.inBlock i (Exit.then (rest.wp P (Post w0 n N R X)) (Post w0 n N R X))) { a with defers := [markOf w.heap.size] ++ a.defers } (.returned v) w2 := by
        rintro a2 w2 s2 ⟨e1, e2, e3, e4, e5⟩ ⟨T2, F2, ρ2, hr2⟩
        refine ⟨hr2.defers, .tuple #[], by simp [results_eq, hres], ?_⟩
        have e6 := hr2.env hL
        rw [show s2.look hL = _ from e1] at e6
        refine ⟨none, _, run_endLoop e6.2.2 (by intro h; cases h), ?_⟩
        have hr3 : RSx ⟨w0.w, fun _ => undef, [], fun _ _ => False⟩ fnI.ntmps T2 F2 ρ2 ⟨(hL, .kept (w.heap.size + 1) (.loop { recL fn a.tmps #[p1, p2] assign body w.heap.size .ready with state := .exhausted })) :: s2.env, s2.boxes⟩ a2 (w2.putObj (w.heap.size + 1) (.loop { recL fn a.tmps #[p1, p2] assign body w.heap.size .ready with state := .exhausted })) := RSx.putLoop (env := s2.env) (bs := s2.boxes) hr2 e1 e2 u3
        show rest.wp P (Post w0 n N R X) _ _
        have hr4 : RSx ⟨w0.w, w0.fr, [markOf w.heap.size], fun _ _ => False⟩ n T2 F2 ρ2 ⟨capE caps (factE ((hL, .kept (w.heap.size + 1) (.loop { recL fn a.tmps #[p1, p2] assign body w.heap.size .ready with state := .exhausted })) :: s2.env)), s2.boxes⟩ { a with defers := [markOf w.heap.size] ++ a.defers } (w2.putObj (w.heap.size + 1) (.loop { recL fn a.tmps #[p1, p2] assign body w.heap.size .ready with state := .exhausted })) := by
          refine RSx.frame hr3 (by simp [hr.defers, hm]) hr.size hr.small fun t => ?_
          refine look_capE (tm := a.tmps) (CapsF.ptr (env := s2.env) (bs := s2.boxes) hr2 e3) (fun c hc => ?_) (fun t => RSx.factE hr3 t _) t
          · have := List.all_eq_true.1 e4 c hc
            simp only [Bool.and_eq_true] at this
            unfold vl
            rw [this.1.1, cond_true]
        refine wp_mono (e5 ⟨w0.w, w0.fr, [markOf w.heap.size], fun _ _ => False⟩ _ _ ⟨T2, F2, ρ2, hr4⟩) fun e a5 w5 hq => ?_
        cases e with
        | normal => obtain ⟨_, h, _⟩ := hq; exact h.elim
        | exit j => obtain ⟨_, h, _⟩ := hq; exact h.elim
        | ret =>
          rcases hq with ⟨s5, h5, h6⟩ | hq
          · exact .inr (hfin _ _ _ _ h5 hr.below.size h6)
          · exact hq.elim
        | _ => exact hq.elim
      cases e with
      | normal => obtain ⟨s2, h1, h2⟩ := hq; exact fin _ _ _ h1 h2
      | ret =>
        rcases hq with ⟨s2, h1, h2⟩ | hq
        · exact fin _ _ _ h1 h2
        · exact hq.elim
      | exit j => obtain ⟨_, h, _⟩ := hq; exact h.elim
      | _ => exact hq.elim
  | exit j => exact hq
  | ret => exact hq
  | _ => exact hq.elim
end
def notDef (h : Nat) (env : List (Nat × PV)) : Bool := env.all fun p => Nat.beq p.1 h || match p.2 with | .kept _ (.deferred _) => false | _ => true
theorem look_notDef {h : Nat} : ∀ {env : List (Nat × PV)}, notDef h env = true → ∀ t b r, t ≠ h → look env t ≠ .kept b (.deferred r)
  | [], _, t, b, r, _, h => by cases h
  | (d, p) :: l, hn, t, b, r, ht, h => by
    simp only [notDef, List.all_cons, Bool.and_eq_true] at hn
    rw [look_put] at h
    split at h
    · rename_i hd
      subst hd h
      have := hn.1
      simp only [Bool.or_eq_true] at this
      rcases this with h1 | h1
      · exact ht (Nat.eq_of_beq_eq_true h1)
      · cases h1
    · exact look_notDef (env := l) hn.2 t b r ht h
/-- A call of yield, in a region. -/
theorem RunK.yield {P : Program} {ops : Array Oper} {rest : List Oper} {env : List (Nat × PV)} {bs : List (Nat × List Value)} {x y1 y2 : Operand} {ats : Array TypeId} {d : Nat} {ty : TypeId} {pos : String} {aft : Array Edge} {g : Option (Nat × Bool)} {L D nC p1 p2 : Nat} {fn : FuncId} {tm : Array Value} {assign body : Code} {a1 a2 : PV} (caps : List (Nat × Nat × Nat × Nat)) {K : St → Prop}
    (hw : wantedS ops ⟨env, bs⟩ ⟨some d, .call ⟨.value x, #[y1, y2], ats⟩, ty, pos, aft, g⟩ = some true) (hx : (St.mk env bs).ev x = .s (.v (.func (.yield L) #[] #[]))) (h : Nat) (hk : look env h = .kept L (.loop (recL fn tm #[p1, p2] assign body D .ready))) (hn : notLoop h env = true) (hh : Nat.ble 2000000 h = true)
    (hy1 : (St.mk env bs).ev y1 = a1) (hy2 : (St.mk env bs).ev y2 = a2) (htm : tm.size = nC) (hp : (Nat.blt p1 nC && Nat.blt p2 nC && !Nat.beq p1 p2 && Nat.ble nC 1000000) = true) (hcap : CapsF env tm caps) (hcb : capsB nC p1 p2 caps = true) (hng : noGhost env = true)
    (hA : ∀ w0 ro, WtR P ro w0 nC assign ⟨(p1, a1) :: (p2, a2) :: capE caps (ghostE env), bs⟩ fun s1 => look s1.env h = .kept L (.loop (recL fn tm #[p1, p2] assign body D .ready)) ∧ notLoop h s1.env = true ∧
      WtR P ro w0 nC body ⟨(h, .kept L (.loop (recL fn tm #[p1, p2] assign body D .busy))) :: s1.env, s1.boxes⟩ fun s2 => look s2.env h = .kept L (.loop (recL fn tm #[p1, p2] assign body D .busy)) ∧ notLoop h s2.env = true ∧
        RunK false P ops rest ⟨(d, .s (.v (.bool true))) :: backE ((h, .kept L (.loop (recL fn tm #[p1, p2] assign body D .ready))) :: s2.env), s2.boxes⟩ K) :
    RunK false P ops (⟨some d, .call ⟨.value x, #[y1, y2], ats⟩, ty, pos, aft, g⟩ :: rest) ⟨env, bs⟩ K :=
  Run.effI rfl hw (EffI.yield (K := fun s => RunK false P ops rest s K) hx hk hn hh hy1 hy2 htm hp hcap hcb hng hA) (fun _ h => h)
/-- The same, the records under names. -/
theorem RunK.yieldR {P : Program} {ops : Array Oper} {rest : List Oper} {env : List (Nat × PV)} {bs : List (Nat × List Value)} {x y1 y2 : Operand} {ats : Array TypeId} {d : Nat} {ty : TypeId} {pos : String} {aft : Array Edge} {g : Option (Nat × Bool)} {L D nC p1 p2 : Nat} {fn : FuncId} {tm : Array Value} {assign body : Code} {a1 a2 : PV} (caps : List (Nat × Nat × Nat × Nat)) {K : St → Prop}
    (hw : wantedS ops ⟨env, bs⟩ ⟨some d, .call ⟨.value x, #[y1, y2], ats⟩, ty, pos, aft, g⟩ = some true) (hx : (St.mk env bs).ev x = .s (.v (.func (.yield L) #[] #[]))) (h : Nat) {Rd Bs : Loop} (hRd : Rd = recL fn tm #[p1, p2] assign body D .ready) (hBs : Bs = recL fn tm #[p1, p2] assign body D .busy) (hk : look env h = .kept L (.loop Rd)) (hn : notLoop h env = true) (hh : Nat.ble 2000000 h = true)
    (hy1 : (St.mk env bs).ev y1 = a1) (hy2 : (St.mk env bs).ev y2 = a2) (htm : tm.size = nC) (hp : (Nat.blt p1 nC && Nat.blt p2 nC && !Nat.beq p1 p2 && Nat.ble nC 1000000) = true) (hcap : CapsF env tm caps) (hcb : capsB nC p1 p2 caps = true) (hng : noGhost env = true)
    (hA : ∀ w0 ro, WtR P ro w0 nC assign ⟨(p1, a1) :: (p2, a2) :: capE caps (ghostE env), bs⟩ fun s1 => look s1.env h = .kept L (.loop Rd) ∧ notLoop h s1.env = true ∧
      WtR P ro w0 nC body ⟨(h, .kept L (.loop Bs)) :: s1.env, s1.boxes⟩ fun s2 => look s2.env h = .kept L (.loop Bs) ∧ notLoop h s2.env = true ∧
        RunK false P ops rest ⟨(d, .s (.v (.bool true))) :: backE ((h, .kept L (.loop Rd)) :: s2.env), s2.boxes⟩ K) :
    RunK false P ops (⟨some d, .call ⟨.value x, #[y1, y2], ats⟩, ty, pos, aft, g⟩ :: rest) ⟨env, bs⟩ K := by
  subst hRd hBs
  exact RunK.yield caps hw hx h hk hn hh hy1 hy2 htm hp hcap hcb hng hA
/-- A loop over a function begins: the record under names. -/
theorem RangeOk.mk' {P : Program} {n : Nat} {g : Operand} {p1 p2 : Nat} {assign body rest : Code} {R' : Nat → St → Prop} {s1 : St} (gf : FuncId) (gcaps : List (Nat × Nat)) {fnI : Func} {cI : Code} (nI : Nat) (caps : List (Nat × Nat × Nat × Nat)) (hL hD : Nat) (h1 : s1.ev g = .clo gf gcaps) (h2 : P.funcs[gf]? = some fnI) (h3 : fnI.body = some cI) (h4 : (fnI.name == "runtime.NumGoroutine") = false) (h5 : fnI.ntmps = nI) (h6 : fnI.results = #[])
    (h7 : (Nat.ble (gcaps.length + 1) nI && Nat.ble nI 1000000 && Nat.ble 2000000 hL && Nat.ble 2000000 hD && !Nat.beq hL hD) = true) (h8 : capsH s1.env caps) (h9 : capsB 1000000 1000000 1000000 caps = true)
    (h : ∀ (w1 : Base) (fn L D : Nat) (tm : Array Value) (Rd Bs Ex : Loop), tm.size = n → Rd = recL fn tm #[p1, p2] assign body D .ready → Bs = recL fn tm #[p1, p2] assign body D .busy → Wt P w1 nI cI ⟨entryP 0 (.s (.v (.func (.yield L) #[] #[])) :: gcaps.map fun c => .box c.1 c.2) ((hL, .kept L (.loop Rd)) :: (hD, .kept D (.deferred (some []))) :: factC tm caps (factE s1.env)), s1.boxes⟩
      (fun s2 => look s2.env hL = .kept L (.loop Rd) ∧ notLoop hL s2.env = true ∧ CapsF s2.env tm caps ∧ ∀ w2 : Base, Wt P w2 n rest ⟨capE caps (factE ((hL, .kept L (.loop Ex)) :: s2.env)), s2.boxes⟩ (fun _ => False) (R' D) (fun _ _ => False))
      (fun s2 => look s2.env hL = .kept L (.loop Rd) ∧ notLoop hL s2.env = true ∧ CapsF s2.env tm caps ∧ ∀ w2 : Base, Wt P w2 n rest ⟨capE caps (factE ((hL, .kept L (.loop Ex)) :: s2.env)), s2.boxes⟩ (fun _ => False) (R' D) (fun _ _ => False)) (fun _ _ => False)) :
    RangeOk P n g p1 p2 assign body rest R' s1 :=
  ⟨gf, gcaps, fnI, cI, nI, caps, hL, hD, h1, h2, h3, h4, h5, h6, h7, h8, fun w1 fn L D tm htm => Wt.mono (h w1 fn L D tm _ _ { recL fn tm #[p1, p2] assign body D .ready with state := .exhausted } htm rfl rfl) (fun _ ⟨a, b, c, d⟩ => ⟨a, b, c, h9, d⟩) (fun _ ⟨a, b, c, d⟩ => ⟨a, b, c, h9, d⟩) (fun _ _ h => h)⟩
/-- A function that holds a loop over a function: a mark stands among its deferred calls when it returns. -/
theorem pure_of_wtM {P : Program} {f : FuncId} {fn : Func} {c : Code} {l : List ResultVar} {args : List SV} {res : PV} (hD : Nat) (hf : P.funcs[f]? = some fn) (hb : fn.body = some c) (hname : (fn.name == "runtime.NumGoroutine") = false)
    (n : Nat) (hnt : fn.ntmps = n) (hn : (Nat.ble args.length n && Nat.ble n 1000000) = true) (hl : fn.results = l.toArray)
    (h : ∀ w0 : Base, w0.marks = [] → (∀ D s a w, (look s.env hD = .kept D (.deferred (some [])) ∧ notDef hD s.env = true ∧ ResOk P ⟨(hD, .kept D (.deferred none)) :: s.env, s.boxes⟩ l res) → w0.w.heap.size ≤ D → RS ⟨w0.w, w0.fr, [markOf D], fun _ _ => False⟩ n s a w → w0.fin a w) →
      Wt P w0 n c ⟨entryEnv 0 args, []⟩ (fun s => ResOk P s l res) (fun s => ResOk P s l res) (fun _ _ => False)) : Pure P f args res := by
  subst hnt
  refine ⟨⟨fn, hf, by simpa using hname, by rw [hb]; rfl⟩, fun vs w hvs => ?_⟩
  have hlen := argsOk_len hvs
  have hn0 := (Bool.and_eq_true _ _ ▸ hn : _ ∧ _)
  have hn' : args.length ≤ fn.ntmps := Nat.ble_eq ▸ hn0.1
  have hn2 : fn.ntmps ≤ 1000000 := Nat.ble_eq ▸ hn0.2
  obtain ⟨Q, hQ⟩ : ∃ Q : Ending → World → Prop, Q = fun e w' => ∃ v T F, e = .returned v ∧ Below w.heap.size w w' ∧ (∀ b, b < w.heap.size → T b = .ext) ∧ RepP T F (fun _ => (0, 0)) w' res v := ⟨_, rfl⟩
  rw [← hQ]
  refine (callsIn_wide (n := 0)).1 (callsIn_of_wp_marks hf hb trivial (wpIn_wide.2 ?_))
  obtain ⟨fin, hfin⟩ : ∃ fin : Act → World → Prop, fin = fun a' w' => LeavesInM Fence.wide 0 P fn a'.tmps Q a'.defers .returning w' := ⟨_, rfl⟩
  have hr : RSx ⟨w, fun _ => undef, [], fin⟩ fn.ntmps (fun _ => .ext) (fun _ => 0) (fun _ => (0, 0)) ⟨entryEnv 0 args, []⟩ { tmps := vs.toArray ++ Array.replicate (fn.ntmps - vs.toArray.size) undef, defers := [] } w := by
    refine ⟨rfl, by simp; omega, hn2, Below.refl _ _, fun _ _ => rfl, fun t => ?_, fun id cs hc => by cases hc⟩
    have := look_entry (w := w) 0 t hvs
    rw [Nat.zero_add] at this
    have e : (vs.toArray ++ Array.replicate (fn.ntmps - vs.toArray.size) undef).getD t undef = vs.getD t undef := by
      rw [Array.getD_eq_getD_getElem?, List.getD_eq_getElem?_getD, Array.getElem?_append]
      split
      · simp
      · rename_i hlt
        rw [List.getElem?_eq_none (by simpa using hlt), Array.getElem?_replicate]
        split <;> rfl
    unfold vl
    cases hb : Nat.blt t 1000000 with
    | true => rw [cond_true, e]; exact this
    | false =>
      have hout : vs.getD t undef = undef := by
        rw [List.getD_eq_getElem?_getD, List.getElem?_eq_none]
        · rfl
        · have : ¬ t < 1000000 := fun h => by rw [← Nat.blt_eq, hb] at h; cases h
          omega
      rw [hout] at this
      exact this
  have fin0 : ∀ s a' w', ResOk P s l res → RS ⟨w, fun _ => undef, [], fin⟩ fn.ntmps s a' w' → LeavesInM Fence.wide 0 P fn a'.tmps Q a'.defers .returning w' := by
    rintro s a' w' ho ⟨T, F, ρ, hx⟩
    obtain ⟨u, h1, h2⟩ := run_resOk hx hl ho
    rw [hx.defers, hQ]
    exact ⟨u, h1, u, _, F, rfl, hx.below, fun b hb' => by simp only [hx.ext b hb']; rfl, h2⟩
  refine wp_mono (h ⟨w, fun _ => undef, [], fin⟩ rfl ?_ _ w ⟨_, _, _, hr⟩) fun e a' w' hq => ?_
  · rintro D s a' w' ⟨h1, h2, h3⟩ hDl ⟨T, F, ρ, hx⟩
    have he := hx.env hD
    rw [show s.look hD = _ from h1] at he
    have hx2 : RSx ⟨w, fun _ => undef, [markOf D], fun _ _ => False⟩ fn.ntmps T F ρ ⟨(hD, .kept D (.deferred none)) :: s.env, s.boxes⟩ a' (w'.putObj D (.deferred none)) :=
      RSx.putK (env := s.env) (bs := s.boxes) hx h1 (fun _ _ h => by cases h) fun t b o ht hp' hbe => by
        have k3 := hx.env t
        rw [show s.look t = .kept b o from hp'] at k3
        have k4 := k3.2.2
        rw [hbe, he.2.2] at k4
        injection k4 with k4
        subst k4
        exact look_notDef h2 t b _ ht hp'
    obtain ⟨u, q1, q2⟩ := run_resOk hx2 hl h3
    rw [hfin]
    show LeavesInM Fence.wide 0 P fn a'.tmps Q a'.defers .returning w'
    rw [hx.defers]
    refine ⟨(fun h => by cases h), .inl ⟨D, _, rfl, run_takeDeferred he.2.2, ?_⟩⟩
    rw [hQ]
    exact ⟨u, q1, u, _, F, rfl, hx2.below, fun b hb' => by simp only [hx2.ext b hb']; rfl, q2⟩
  cases e with
  | normal => obtain ⟨s, h1, h2⟩ := hq; exact fin0 s a' w' h1 h2
  | ret =>
    rcases hq with ⟨s, h1, h2⟩ | hq
    · exact fin0 s a' w' h1 h2
    · rw [hfin] at hq; exact hq
  | exit j => obtain ⟨s, h1, h2⟩ := hq; exact h1.elim
  | goto l => exact hq.elim
  | panic c => exact hq.elim
  | outgrown => exact hq.elim
theorem WtR.le {P : Program} {ro : Option Nat} {w0 : Base} {n : Nat} {c : Code} {s : St} {N : St → Prop} (s' : St) (hl : Le s s') (h : WtR P ro w0 n c s' N) : WtR P ro w0 n c s N := fun a w m hr => h a w m (hr.le hl)
end Go.Proofs.Ytfacimebfdeaeaa.Pv
