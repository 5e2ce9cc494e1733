/- The machine of values: strings and bytes. No condition. -/
import Derived.Test.YtfokjpmcifkoeaaPvE
import Derived.Laws.IdiomStrings
import Derived.Laws.RangeString
namespace Go.Proofs.Ytfokjpmcifkoeaa.Pv
open Go Go.RowKit
/-! ### strings; bytes; objects -/
section
variable {P : Program} {ops : Array Oper} {rest : List Oper} {env : List (Nat × PV)} {bs : List (Nat × List Value)} {K : St → Prop} {d : Nat} {op : Op} {ty : TypeId} {pos : String} {aft : Array Edge} {g : Option (Nat × Bool)}
/-- An operation that gives a plain value and leaves the world as it is. -/
theorem Eff.plain {o : Oper} {s : St} {v : Value} (h : ∀ (w0 : Base) n T F ρ a w, RSx w0 n T F ρ s a w → (execOp a.eval o).run P w = .ok (.value v) w) : Eff P o s (Eq (s.putO o.dst (.s (.v v)))) := by
  rintro w0 n a w ⟨T, F, ρ, hr⟩ hd next Q hK
  unfold Oper.wp
  rw [h w0 n T F ρ a w hr]
  exact hK _ rfl _ _ ⟨T, F, ρ, hr.goes (pv := .s (.v v)) (nb := none) hd (Below.refl _ _) (fun _ _ => ⟨rfl, rfl⟩) (fun _ _ => rfl) (fun _ hp => by cases hp) rfl (fun _ hp => by cases hp) rfl⟩
theorem RunK.plain {v : Value} (hw : wantedS ops ⟨env, bs⟩ ⟨some d, op, ty, pos, aft, g⟩ = some true) (h : ∀ (w0 : Base) n T F ρ a w, RSx w0 n T F ρ ⟨env, bs⟩ a w → (execOp a.eval ⟨some d, op, ty, pos, aft, g⟩).run P w = .ok (.value v) w)
    (k : RunK false P ops rest ⟨(d, .s (.v v)) :: env, bs⟩ K) : RunK false P ops (⟨some d, op, ty, pos, aft, g⟩ :: rest) ⟨env, bs⟩ K :=
  Run.eff hw (Eff.plain h) (fun h => by cases h) (fun _ e => e ▸ k)
theorem ev_v {w0 : Base} {n : Nat} {T : Nat → BTag} {F : Nat → Nat} {ρ : Nat → Nat × Nat} {s : St} {a : Act} {w : World} (hr : RSx w0 n T F ρ s a w) {x : Operand} {u : Value} (hx : s.ev x = .s (.v u)) : a.eval x = u := by
  have := hr.ev x
  rw [hx] at this
  exact this
theorem RunK.lenStr {t : TypeId} (hu : P.underlying t = some .string) {x : Operand} {s : ByteArray} (hw : wantedS ops ⟨env, bs⟩ ⟨some d, .call ⟨.builtin .len, #[x], #[t]⟩, ty, pos, aft, g⟩ = some true) (hx : (St.mk env bs).ev x = .s (.v (.string s)))
    (k : RunK false P ops rest ⟨(d, .s (.v (.int .i64 s.size))) :: env, bs⟩ K) : RunK false P ops (⟨some d, .call ⟨.builtin .len, #[x], #[t]⟩, ty, pos, aft, g⟩ :: rest) ⟨env, bs⟩ K :=
  .plain hw (fun w0 n T F ρ a w hr => by
    have h1 := ev_v hr hx
    simp [execOp, resolve, invoke, builtin, Builtin.len_, run_underlying hu, h1, goInt]) k
theorem RunK.lenV {t e : TypeId} (hu : P.underlying t = some (.slice e)) {x : Operand} {A : Option Addr} {m c : Nat} (hw : wantedS ops ⟨env, bs⟩ ⟨some d, .call ⟨.builtin .len, #[x], #[t]⟩, ty, pos, aft, g⟩ = some true) (hx : (St.mk env bs).ev x = .s (.v (.slice A m c)))
    (k : RunK false P ops rest ⟨(d, .s (.v (.int .i64 m))) :: env, bs⟩ K) : RunK false P ops (⟨some d, .call ⟨.builtin .len, #[x], #[t]⟩, ty, pos, aft, g⟩ :: rest) ⟨env, bs⟩ K :=
  .plain hw (fun w0 n T F ρ a w hr => by
    have h1 := ev_v hr hx
    simp [execOp, resolve, invoke, builtin, Builtin.len_, run_underlying hu, h1, goInt]) k
theorem RunK.idxStr {t : TypeId} (hu : P.underlying t = some .string) {x y : Operand} {s : ByteArray} {kd : IntKind} {i : Int} {b : UInt8} (j : Nat) (hw : wantedS ops ⟨env, bs⟩ ⟨some d, .index t x y, ty, pos, aft, g⟩ = some true) (hx : (St.mk env bs).ev x = .s (.v (.string s))) (hy : (St.mk env bs).ev y = .s (.v (.int kd i))) (hij : i = (j : Int)) (hb : s[j]? = some b)
    (k : RunK false P ops rest ⟨(d, .s (.v (.int .u8 (b.toNat : Int)))) :: env, bs⟩ K) : RunK false P ops (⟨some d, .index t x y, ty, pos, aft, g⟩ :: rest) ⟨env, bs⟩ K :=
  .plain hw (fun w0 n T F ρ a w hr => by
    subst hij
    have h1 := ev_v hr hx
    have h2 := ev_v hr hy
    simp [execOp, Instr.index, asIntOf, run_underlying hu, h1, h2, hb]) k
theorem RunK.idxAddrV {t e : TypeId} (hu : P.underlying t = some (.slice e)) (hs : (P.info? e).map (·.size) = some 1) {x y : Operand} {b m c : Nat} {kd : IntKind} {i : Int} (j : Nat) (hw : wantedS ops ⟨env, bs⟩ ⟨some d, .indexAddr t x y, ty, pos, aft, g⟩ = some true) (hx : (St.mk env bs).ev x = .s (.v (.slice (some ⟨b, 0, none⟩) m c))) (hy : (St.mk env bs).ev y = .s (.v (.int kd i))) (hij : i = (j : Int)) (hj : j < m)
    (k : RunK false P ops rest ⟨(d, .s (.v (.pointer (some ⟨b, j, none⟩)))) :: env, bs⟩ K) : RunK false P ops (⟨some d, .indexAddr t x y, ty, pos, aft, g⟩ :: rest) ⟨env, bs⟩ K :=
  .plain hw (fun w0 n T F ρ a w hr => by
    subst hij
    have h1 := ev_v hr hx
    have h2 := ev_v hr hy
    obtain ⟨inf, hi, hs'⟩ := Option.map_eq_some_iff.1 hs
    have hin : (0 : Int) ≤ j ∧ (j : Int) < m := by omega
    simp [execOp, h1, h2, Instr.indexAt, asIntOf, run_underlying hu, Go.sizeOf, typeInfo, hi, hs', hin, Addr.add_mid]
    omega) k
/-- A byte is read out of an object. -/
theorem RunK.loadK {t : TypeId} [h1 : TyOne P t] {x : Operand} {b j : Nat} {C : Array Value} {e : TypeId} {fz : Nat × Nat} {u : Value} (h : Nat) (hw : wantedS ops ⟨env, bs⟩ ⟨some d, .load t x, ty, pos, aft, g⟩ = some true) (hx : (St.mk env bs).ev x = .s (.v (.pointer (some ⟨b, j, none⟩)))) (hk : look env h = .kept b (.cells C e fz)) (hu : C[j]? = some u)
    (k : RunK false P ops rest ⟨(d, .s (.v u)) :: env, bs⟩ K) : RunK false P ops (⟨some d, .load t x, ty, pos, aft, g⟩ :: rest) ⟨env, bs⟩ K :=
  .plain hw (fun w0 n T F ρ a w hr => by
    have h2 := ev_v hr hx
    have h3 := hr.env h
    rw [show (St.mk env bs).look h = _ from hk] at h3
    have hc : w.cell? ⟨b, j, none⟩ = some u := by rw [cell_of_row w b j C e fz h3.2.2]; exact hu
    simp [execOp, h2, Instr.loadAt, Instr.sureAddr, run_loadVar_one h1 hc]) k
/-- No other fact is of a row of cells. -/
def notCells (h : Nat) (env : List (Nat × PV)) : Bool := env.all fun p => Nat.beq p.1 h || match p.2 with | .kept _ (.cells _ _ _) => false | _ => true
theorem look_notCells {h : Nat} : ∀ {env : List (Nat × PV)}, notCells h env = true → ∀ t b C e fz, t ≠ h → look env t ≠ .kept b (.cells C e fz)
  | [], _, t, b, _, _, _, _, h => by cases h
  | (d, p) :: l, hn, t, b, C, e, fz, ht, h => by
    simp only [notCells, List.all_cons, Bool.and_eq_true] at hn
    rw [look_put] at h
    split at h
    · rename_i hd
      subst hd h
      have := hn.1
      simp only [Bool.or_eq_true] at this
      rcases this with h1 | h1
      · exact ht (Nat.eq_of_beq_eq_true h1)
      · cases h1
    · exact look_notCells (env := l) hn.2 t b C e fz ht h
def notIter (h : Nat) (env : List (Nat × PV)) : Bool := env.all fun p => Nat.beq p.1 h || match p.2 with | .kept _ (.stringIter _ _) => false | _ => true
theorem look_notIter {h : Nat} : ∀ {env : List (Nat × PV)}, notIter h env = true → ∀ t b s p, t ≠ h → look env t ≠ .kept b (.stringIter s p)
  | [], _, t, b, _, _, _, h => by cases h
  | (d, p) :: l, hn, t, b, s, q, ht, h => by
    simp only [notIter, List.all_cons, Bool.and_eq_true] at hn
    rw [look_put] at h
    split at h
    · rename_i hd
      subst hd h
      have := hn.1
      simp only [Bool.or_eq_true] at this
      rcases this with h1 | h1
      · exact ht (Nat.eq_of_beq_eq_true h1)
      · cases h1
    · exact look_notIter (env := l) hn.2 t b s q ht h
theorem setCell_put {w : World} {b j : Nat} {C : Array Value} {e : TypeId} {fz : Nat × Nat} {u : Value} (hh : w.heap[b]? = some (.cells C e fz)) : w.setCell ⟨b, j, none⟩ u = w.putObj b (.cells (C.setIfInBounds j u) e fz) := by
  have hlt : b < w.heap.size := (Array.getElem?_eq_some_iff.1 hh).1
  unfold World.setCell World.putObj
  congr 1
  apply Array.ext
  · simp
  · intro i h1 h2
    simp only [Array.getElem_modify]
    by_cases hi : b = i
    · subst hi
      have : w.heap[b] = .cells C e fz := (Array.getElem?_eq_some_iff.1 hh).2
      simp [this]
    · rw [if_neg hi]
      rw [Array.getElem_setIfInBounds_ne]
      exact hi
theorem Eff.storeK {t : TypeId} [hT : TySize P t 1] {x y : Operand} {b j : Nat} {C : Array Value} {e : TypeId} {fz : Nat × Nat} {u : Value} (h : Nat) (hx : (St.mk env bs).ev x = .s (.v (.pointer (some ⟨b, j, none⟩)))) (hy : (St.mk env bs).ev y = .s (.v u)) (hk : look env h = .kept b (.cells C e fz)) (hj : j < C.size) (hfz : j < fz.1)
    (hc : u.cells.toList = [u]) (ho : u.oneCell' = true) (hn : notCells h env = true) : Eff P ⟨none, .store t x y, ty, pos, aft, g⟩ ⟨env, bs⟩ (Eq ⟨(h, .kept b (.cells (C.setIfInBounds j u) e fz)) :: env, bs⟩) := by
  rintro w0 n a w ⟨T, F, ρ, hr⟩ hd next Q hK
  have h1 := ev_v hr hx
  have h2 := ev_v hr hy
  have h3 := hr.env h
  rw [show (St.mk env bs).look h = _ from hk] at h3
  have hcell : w.cell? ⟨b, j, none⟩ = some C[j] := by rw [cell_of_row w b j C e fz h3.2.2]; simp [hj]
  have hfr : w.frozen? ⟨b, j, none⟩ = false := by unfold World.frozen?; rw [h3.2.2]; simp; omega
  have hst := run_storeCells_cells (P := P) b j [u] 0 w (fun i hi => by simp at hi; subst hi; simp [hcell]) (fun i hi => by simp at hi; subst hi; simpa using hfr) (fun v hv => by rw [List.mem_singleton.1 hv]; exact ho)
  have hsz : u.cells.size = 1 := by rw [← Array.length_toList, hc]; rfl
  have hrun : (execOp a.eval ⟨none, .store t x y, ty, pos, aft, g⟩).run P w = .ok .skip (w.putObj b (.cells (C.setIfInBounds j u) e fz)) := by
    have hs := hT.size
    cases hi : P.info? t with
    | none => rw [hi] at hs; cases hs
    | some inf =>
      have hsz2 : inf.size = 1 := by rw [hi] at hs; simpa using hs
      simp only [Nat.add_zero, World.setCells] at hst
      simp [execOp, h1, h2, Instr.storeAt, Instr.sureAddr, storeVar, Go.sizeOf, typeInfo, hi, hsz2, hsz, hc, hst, setCell_put h3.2.2]
  unfold Oper.wp
  rw [hrun]
  refine hK _ rfl _ _ ⟨T, F, ρ, hr.putK hk (fun cur e' he => ?_) (fun t' b' o ht hp hbe => ?_)⟩
  · injection he with e1 e2 e3
    rw [e3] at hfz
    simp at hfz
  · have k3 := hr.env t'
    rw [show (St.mk env bs).look t' = _ from hp] at k3
    have k4 := k3.2.2
    rw [hbe, h3.2.2] at k4
    injection k4 with k4
    subst k4
    exact look_notCells hn t' b' C e fz ht hp
theorem RunK.storeK {t : TypeId} [hT : TySize P t 1] {x y : Operand} {b j : Nat} {C : Array Value} {e : TypeId} {fz : Nat × Nat} {u : Value} (h : Nat) (hw : wantedS ops ⟨env, bs⟩ ⟨none, .store t x y, ty, pos, aft, g⟩ = some true) (hx : (St.mk env bs).ev x = .s (.v (.pointer (some ⟨b, j, none⟩)))) (hy : (St.mk env bs).ev y = .s (.v u)) (hk : look env h = .kept b (.cells C e fz)) (hj : j < C.size) (hfz : j < fz.1)
    (hc : u.cells.toList = [u]) (ho : u.oneCell' = true) (hn : notCells h env = true) (k : RunK false P ops rest ⟨(h, .kept b (.cells (C.setIfInBounds j u) e fz)) :: env, bs⟩ K) : RunK false P ops (⟨none, .store t x y, ty, pos, aft, g⟩ :: rest) ⟨env, bs⟩ K :=
  Run.eff hw (Eff.storeK h hx hy hk hj hfz hc ho hn) (fun h => by cases h) (fun _ e => e ▸ k)
/-- The bytes of a string as a row. -/
def byteV (b : UInt8) : Value := .int .u8 (b.toNat : Int)
theorem Eff.bytes {src dst e : TypeId} (hs : P.underlying src = some .string) (hdst : P.underlying dst = some (.slice e)) (he : P.underlying e = some (.int .u8)) {x : Operand} {s : ByteArray} (h : Nat) (_hh : Nat.ble 2000000 h = true) (hx : (St.mk env bs).ev x = .s (.v (.string s))) :
    Eff P ⟨some d, .convert src dst x, ty, pos, aft, g⟩ ⟨env, bs⟩ (fun s1 => ∃ (b cap : Nat) (tl : List Value), s1 = ⟨(h, .kept b (.cells (s.data.toList.map byteV ++ tl).toArray e ((s.data.toList.map byteV ++ tl).length, (s.data.toList.map byteV ++ tl).length + 1))) :: (d, .s (.v (.slice (some ⟨b, 0, none⟩) s.size cap))) :: env, bs⟩) := by
  rintro w0 n a w ⟨T, F, ρ, hr⟩ hd next Q hK
  have h1 := ev_v hr hx
  have hrow : bytesRow s (grownCap w s.size 0 e) = (s.data.toList.map byteV ++ List.replicate (grownCap w s.size 0 e - s.size) (Value.int .u8 0)).toArray := by
    apply Array.toList_inj.1
    simp [bytesRow, byteV]
  have hrun := run_bytes_of_string w src dst e s hs hdst he
  rw [hrow] at hrun
  generalize hcells : s.data.toList.map byteV ++ List.replicate (grownCap w s.size 0 e - s.size) (Value.int .u8 0) = cs at hrun
  unfold Oper.wp
  rw [show (execOp a.eval ⟨some d, .convert src dst x, ty, pos, aft, g⟩).run P w = .ok (.value (.slice (some ⟨w.heap.size, 0, none⟩) s.size (grownCap w s.size 0 e))) (w.drew.alloc (.cells cs.toArray e (cs.length, cs.length + 1))) by
    simp only [execOp, h1]
    rw [Sem.run_bind, hrun]
    simp]
  have hbel : Below w.heap.size w (w.drew.alloc (.cells cs.toArray e (cs.length, cs.length + 1))) := ((Below.refl _ w).drew).alloc (Nat.le_refl _) _
  have hr1 := hr.goes (w' := w.drew.alloc (.cells cs.toArray e (cs.length, cs.length + 1))) (T' := fun b => if w.heap.size ≤ b then .obj 0 else T b) (F' := F) (ρ' := ρ) (v := .slice (some ⟨w.heap.size, 0, none⟩) s.size (grownCap w s.size 0 e)) (d := some d) (pv := .s (.v (.slice (some ⟨w.heap.size, 0, none⟩) s.size (grownCap w s.size 0 e)))) (nb := none) hd hbel (fun b hb => ⟨if_neg (by omega), rfl⟩) (fun _ _ => rfl) (fun _ hp => by cases hp) rfl (fun _ hp => by cases hp) rfl
  have hr2 := RSx.addFact (env := (d, _) :: env) (bs := bs) hr1 h (p := .kept w.heap.size (.cells cs.toArray e (cs.length, cs.length + 1))) (fun v => ⟨if_pos (Nat.le_refl _), by simp, by
    show (w.heap.push _)[w.heap.size]? = _
    simp⟩)
  exact hK _ ⟨w.heap.size, grownCap w s.size 0 e, _, by rw [hcells]⟩ _ _ ⟨_, _, _, hr2⟩
theorem RunK.bytes {src dst e : TypeId} (hs : P.underlying src = some .string) (hdst : P.underlying dst = some (.slice e)) (he : P.underlying e = some (.int .u8)) {x : Operand} {s : ByteArray} (h : Nat) (hh : Nat.ble 2000000 h = true) (hw : wantedS ops ⟨env, bs⟩ ⟨some d, .convert src dst x, ty, pos, aft, g⟩ = some true) (hx : (St.mk env bs).ev x = .s (.v (.string s)))
    (k : ∀ (b cap : Nat) (tl : List Value), RunK false P ops rest ⟨(h, .kept b (.cells (s.data.toList.map byteV ++ tl).toArray e ((s.data.toList.map byteV ++ tl).length, (s.data.toList.map byteV ++ tl).length + 1))) :: (d, .s (.v (.slice (some ⟨b, 0, none⟩) s.size cap))) :: env, bs⟩ K) : RunK false P ops (⟨some d, .convert src dst x, ty, pos, aft, g⟩ :: rest) ⟨env, bs⟩ K :=
  Run.eff hw (Eff.bytes hs hdst he h hh hx) (fun h => by cases h) (fun _ ⟨b, cap, tl, e⟩ => e ▸ k b cap tl)
theorem RunK.strOf {src dst e : TypeId} (hs : P.underlying src = some (.slice e)) (he : P.underlying e = some (.int .u8)) (hdst : P.underlying dst = some .string) {x : Operand} {b cap m : Nat} {l : List UInt8} {tl : List Value} {e2 : TypeId} {fz : Nat × Nat} (h : Nat) (hw : wantedS ops ⟨env, bs⟩ ⟨some d, .convert src dst x, ty, pos, aft, g⟩ = some true) (hx : (St.mk env bs).ev x = .s (.v (.slice (some ⟨b, 0, none⟩) m cap))) (hk : look env h = .kept b (.cells (l.map byteV ++ tl).toArray e2 fz)) (hm : m = l.length)
    (k : RunK false P ops rest ⟨(d, .s (.v (.string ⟨l.toArray⟩))) :: env, bs⟩ K) : RunK false P ops (⟨some d, .convert src dst x, ty, pos, aft, g⟩ :: rest) ⟨env, bs⟩ K :=
  .plain hw (fun w0 n T F ρ a w hr => by
    subst hm
    have h1 := ev_v hr hx
    have h3 := hr.env h
    rw [show (St.mk env bs).look h = _ from hk] at h3
    have hc := run_convert_bytes_back (P := P) w src dst e ⟨b, 0, none⟩ cap l hs he hdst (fun j hj => by
      rw [show (⟨b, 0, none⟩ : Addr).add j = ⟨b, j, none⟩ by rw [Addr.add_mid, Nat.zero_add], cell_of_row w b j _ e2 fz h3.2.2]
      simp only [List.getElem?_toArray]
      rw [List.getElem?_append_left (by simpa using hj), List.getElem?_map, List.getElem?_eq_getElem hj]
      rfl)
    simp only [execOp, h1]
    rw [Sem.run_bind, hc]
    simp) k
/-- A walk over a string begins. -/
theorem Eff.rangeS {t : TypeId} (hu : P.underlying t = some .string) {x : Operand} {s : ByteArray} (h : Nat) (hx : (St.mk env bs).ev x = .s (.v (.string s))) :
    Eff P ⟨some d, .range t x, ty, pos, aft, g⟩ ⟨env, bs⟩ (fun s1 => ∃ b : Nat, s1 = ⟨(h, .kept b (.stringIter s 0)) :: (d, .s (.v (.pointer (some ⟨b, 0, none⟩)))) :: env, bs⟩) := by
  rintro w0 n a w ⟨T, F, ρ, hr⟩ hd next Q hK
  have h1 := ev_v hr hx
  unfold Oper.wp
  rw [show (execOp a.eval ⟨some d, .range t x, ty, pos, aft, g⟩).run P w = .ok (.value (.pointer (some ⟨w.heap.size, 0, none⟩))) (w.iter s 0) by
    simp only [execOp, h1]
    rw [Sem.run_bind, run_range_string w t s hu]
    simp]
  have hbel : Below w.heap.size w (w.iter s 0) := (Below.refl _ w).alloc (Nat.le_refl _) _
  have hr1 := hr.goes (w' := w.iter s 0) (T' := fun b => if w.heap.size ≤ b then .obj 0 else T b) (F' := F) (ρ' := ρ) (v := .pointer (some ⟨w.heap.size, 0, none⟩)) (d := some d) (pv := .s (.v (.pointer (some ⟨w.heap.size, 0, none⟩)))) (nb := none) hd hbel (fun b hb => ⟨if_neg (by omega), rfl⟩) (fun _ _ => rfl) (fun _ hp => by cases hp) rfl (fun _ hp => by cases hp) rfl
  have hr2 := RSx.addFact (env := (d, _) :: env) (bs := bs) hr1 h (p := .kept w.heap.size (.stringIter s 0)) (fun v => ⟨if_pos (Nat.le_refl _), by simp [World.iter], World.iter_heap w s 0⟩)
  exact hK _ ⟨w.heap.size, rfl⟩ _ _ ⟨_, _, _, hr2⟩
theorem RunK.rangeS {t : TypeId} (hu : P.underlying t = some .string) {x : Operand} {s : ByteArray} (h : Nat) (hw : wantedS ops ⟨env, bs⟩ ⟨some d, .range t x, ty, pos, aft, g⟩ = some true) (hx : (St.mk env bs).ev x = .s (.v (.string s)))
    (k : ∀ b : Nat, RunK false P ops rest ⟨(h, .kept b (.stringIter s 0)) :: (d, .s (.v (.pointer (some ⟨b, 0, none⟩)))) :: env, bs⟩ K) : RunK false P ops (⟨some d, .range t x, ty, pos, aft, g⟩ :: rest) ⟨env, bs⟩ K :=
  Run.eff hw (Eff.rangeS hu h hx) (fun h => by cases h) (fun _ ⟨b, e⟩ => e ▸ k b)
/-- One step of a walk over a string of small bytes. -/
theorem Eff.nextS {x : Operand} {s : ByteArray} {b j : Nat} {c : UInt8} (h : Nat) (hh : Nat.ble 2000000 h = true) (hdl : Nat.blt d 2000000 = true) (hx : (St.mk env bs).ev x = .s (.v (.pointer (some ⟨b, 0, none⟩)))) (hk : look env h = .kept b (.stringIter s j)) (hc : s.data.toList[j]? = some c) (hlt : c.toNat < 128) (hn : notIter h env = true) :
    Eff P ⟨some d, .next x true, ty, pos, aft, g⟩ ⟨env, bs⟩ (Eq ⟨(h, .kept b (.stringIter s (j + 1))) :: (d, .tup [.v (.bool true), .v (.int .i64 (j : Int)), .v (.int .i32 (c.toNat : Int))]) :: env, bs⟩) := by
  rintro w0 n a w ⟨T, F, ρ, hr⟩ hd next Q hK
  have h1 := ev_v hr hx
  have h3 := hr.env h
  rw [show (St.mk env bs).look h = _ from hk] at h3
  have hlt2 : j < s.size := by
    have := (List.getElem?_eq_some_iff.1 hc).1
    simpa using this
  have hcj : s[j] = c := by
    have h9 := (List.getElem?_eq_some_iff.1 hc).2
    rw [Array.getElem_toList] at h9
    exact h9
  have hdec := decode_ascii s j hlt2 (by rw [hcj]; exact hlt)
  have hdn : d < 2000000 := Nat.blt_eq ▸ hdl
  have hhn : 2000000 ≤ h := Nat.ble_eq ▸ hh
  unfold Oper.wp
  rw [show (execOp a.eval ⟨some d, .next x true, ty, pos, aft, g⟩).run P w = .ok (.value (.tuple #[.bool true, .int .i64 (j : Int), .int .i32 (c.toNat : Int)])) (w.putObj b (.stringIter s (j + 1))) by
    simp only [execOp, h1, Instr.next, getObj, setObj, Sem.run_bind, Sem.run, h3.2.2, Result.andThen, hlt2, if_true, hdec, hcj]
    simp [goInt, World.putObj]]
  have hr1 := hr.goes (w' := w) (T' := T) (F' := F) (ρ' := ρ) (v := .tuple #[.bool true, .int .i64 (j : Int), .int .i32 (c.toNat : Int)]) (d := some d) (pv := .tup [.v (.bool true), .v (.int .i64 (j : Int)), .v (.int .i32 (c.toNat : Int))]) (nb := none) hd (Below.refl _ _) (fun _ _ => ⟨rfl, rfl⟩) (fun _ _ => rfl) (fun _ hp => by cases hp)
    ⟨#[.bool true, .int .i64 (j : Int), .int .i32 (c.toNat : Int)], rfl, rfl, fun i x y hx hy => by
      match i, hx, hy with
      | 0, hx, hy => simp at hx hy; subst hx hy; rfl
      | 1, hx, hy => simp at hx hy; subst hx hy; rfl
      | 2, hx, hy => simp at hx hy; subst hx hy; rfl
      | (i + 3), hx, hy => simp at hx⟩ (fun _ hp => by cases hp) rfl
  have hr1' : RSx w0 n T F ρ ⟨(d, .tup [.v (.bool true), .v (.int .i64 (j : Int)), .v (.int .i32 (c.toNat : Int))]) :: env, bs⟩ (a.put (some d) (.tuple #[.bool true, .int .i64 (j : Int), .int .i32 (c.toNat : Int)])) w := hr1
  have hk' : look ((d, PV.tup [.v (.bool true), .v (.int .i64 (j : Int)), .v (.int .i32 (c.toNat : Int))]) :: env) h = .kept b (.stringIter s j) := by rw [look_put, if_neg (by omega)]; exact hk
  refine hK _ rfl _ _ ⟨T, F, ρ, hr1'.putK hk' (fun _ _ he => by cases he) (fun t' b' o ht hp hbe => ?_)⟩
  have k3 := hr1'.env t'
  rw [show (St.mk _ bs).look t' = _ from hp] at k3
  have k4 := k3.2.2
  rw [hbe, h3.2.2] at k4
  injection k4 with k4
  subst k4
  refine look_notIter (env := (d, PV.tup [.v (.bool true), .v (.int .i64 (j : Int)), .v (.int .i32 (c.toNat : Int))]) :: env) ?_ t' b' s j ht hp
  simp only [notIter, List.all_cons, Bool.or_true, Bool.true_and]
  exact hn
theorem RunK.nextS {x : Operand} {s : ByteArray} {b j : Nat} {c : UInt8} (h : Nat) (hw : wantedS ops ⟨env, bs⟩ ⟨some d, .next x true, ty, pos, aft, g⟩ = some true) (hh : Nat.ble 2000000 h = true) (hdl : Nat.blt d 2000000 = true) (hx : (St.mk env bs).ev x = .s (.v (.pointer (some ⟨b, 0, none⟩)))) (hk : look env h = .kept b (.stringIter s j)) (hc : s.data.toList[j]? = some c) (hlt : c.toNat < 128) (hn : notIter h env = true)
    (k : RunK false P ops rest ⟨(h, .kept b (.stringIter s (j + 1))) :: (d, .tup [.v (.bool true), .v (.int .i64 (j : Int)), .v (.int .i32 (c.toNat : Int))]) :: env, bs⟩ K) : RunK false P ops (⟨some d, .next x true, ty, pos, aft, g⟩ :: rest) ⟨env, bs⟩ K :=
  Run.eff hw (Eff.nextS h hh hdl hx hk hc hlt hn) (fun h => by cases h) (fun _ e => e ▸ k)
/-- The walk is over. -/
theorem RunK.nextE {x : Operand} {s : ByteArray} {b j : Nat} (h : Nat) (hw : wantedS ops ⟨env, bs⟩ ⟨some d, .next x true, ty, pos, aft, g⟩ = some true) (hx : (St.mk env bs).ev x = .s (.v (.pointer (some ⟨b, 0, none⟩)))) (hk : look env h = .kept b (.stringIter s j)) (hj : ¬j < s.size)
    (k : RunK false P ops rest ⟨(d, .tup [.v (.bool false)]) :: env, bs⟩ K) : RunK false P ops (⟨some d, .next x true, ty, pos, aft, g⟩ :: rest) ⟨env, bs⟩ K := by
  refine Run.eff (S := Eq ⟨(d, .tup [.v (.bool false)]) :: env, bs⟩) hw ?_ (fun h => by cases h) (fun _ e => e ▸ k)
  rintro w0 n a w ⟨T, F, ρ, hr⟩ hd next Q hK
  have h1 := ev_v hr hx
  have h3 := hr.env h
  rw [show (St.mk env bs).look h = _ from hk] at h3
  unfold Oper.wp
  rw [show (execOp a.eval ⟨some d, .next x true, ty, pos, aft, g⟩).run P w = .ok (.value (.tuple #[.bool false])) w by
    simp [execOp, h1, Instr.next, getObj, Sem.run, h3.2.2, hj]]
  exact hK _ rfl _ _ ⟨T, F, ρ, hr.goes (pv := .tup [.v (.bool false)]) (nb := none) hd (Below.refl _ _) (fun _ _ => ⟨rfl, rfl⟩) (fun _ _ => rfl) (fun _ hp => by cases hp) ⟨#[.bool false], rfl, rfl, fun i x y hx hy => by
    match i, hx, hy with
    | 0, hx, hy => simp at hx hy; subst hx hy; rfl
    | (i + 1), hx, hy => simp at hx⟩ (fun _ hp => by cases hp) rfl⟩
end
end Go.Proofs.Ytfokjpmcifkoeaa.Pv
