/- The machine of values: nil in a slice of slices. No condition. -/
import Derived.Test.YtfacimebfdeaeaaPvL
namespace Go.Proofs.Ytfacimebfdeaeaa.Pv
open Go Go.RowKit
section
variable {P : Program} {ops : Array Oper} {rest : List Oper} {env : List (Nat × PV)} {bs : List (Nat × List Value)} {K : St → Prop} {d : Nat} {op : Op} {ty : TypeId} {pos : String} {aft : Array Edge} {gd : Option (Nat × Bool)}
end
section
variable {dr : Bool} {P : Program} {ops : Array Oper} {rest : List Oper} {env : List (Nat × PV)} {bs : List (Nat × List Value)} {K : St → Prop} {d : Nat} {op : Op} {ty : TypeId} {pos : String} {aft : Array Edge} {gd : Option (Nat × Bool)}
end

/-! ### structs that hold slices, and tables of them -/
/-- The fields of a struct, a cell each. τ: the tag that nil is said to have. -/
inductive PartsF (τ : Nat) (ev : Operand → PV) : List (Nat × Operand) → List EV → List (Option Nat) → Prop
  | nil : PartsF τ ev [] [] []
  | v {i : Nat} {x : Operand} {u : Value} {ps : List (Nat × Operand)} {es : List EV} {ts : List (Option Nat)} (h : ev x = .s (.v u)) (hc : u.cells.toList = [u]) (r : PartsF τ ev ps es ts) : PartsF τ ev ((i, x) :: ps) (.v u :: es) ts
  | sl {i : Nat} {x : Operand} {tag : Option Nat} {app : App} {k : Nat} {els : List (List Value)} {ps : List (Nat × Operand)} {es : List EV} {ts : List (Option Nat)} (h : ev x = .s (.sl tag app k els)) (r : PartsF τ ev ps es ts) : PartsF τ ev ((i, x) :: ps) (.sl k els :: es) (tag :: ts)
  | nl {i : Nat} {x : Operand} (k : Nat) {ps : List (Nat × Operand)} {es : List EV} {ts : List (Option Nat)} (h : ev x = .s .nil) (r : PartsF τ ev ps es ts) : PartsF τ ev ((i, x) :: ps) (.sl k [] :: es) (some τ :: ts)
theorem PartsF.un {τ : Nat} {ev : Operand → PV} (σs : List Nat) : ∀ {ps : List (Nat × Operand)} {es : List EV} {ts : List (Option Nat)}, PartsF τ ev ps es ts → PartsF τ (unE σs ev) ps es ts
  | _, _, _, .nil => .nil
  | _, _, _, .v h hc r => .v (unE_v σs h) hc (r.un σs)
  | _, _, _, .sl h r => .sl (unE_s σs h) (r.un σs)
  | _, _, _, .nl k h r => .nl k (unE_n σs h) (r.un σs)
theorem PartsF.len {τ : Nat} {ev : Operand → PV} : ∀ {ps : List (Nat × Operand)} {es : List EV} {ts : List (Option Nat)}, PartsF τ ev ps es ts → es.length = ps.length
  | _, _, _, .nil => rfl
  | _, _, _, .v _ _ r => by simp [r.len]
  | _, _, _, .sl _ r => by simp [r.len]
  | _, _, _, .nl _ _ r => by simp [r.len]
theorem PartsF.rep {τ : Nat} {ev : Operand → PV} {T : Nat → BTag} {F : Nat → Nat} {ρ : Nat → Nat × Nat} {w : World} {a : Act} : ∀ {ps : List (Nat × Operand)} {es : List EV} {ts : List (Option Nat)}, PartsF τ ev ps es ts → (∀ p ∈ ps, RepP T F ρ w (ev p.2) (a.eval p.2)) →
    (∀ p ∈ ps, (a.eval p.2).cells.toList = [a.eval p.2]) ∧ ∀ (i : Nat) (e : EV) (p : Nat × Operand), es[i]? = some e → ps[i]? = some p → EVRep T F w ts e (a.eval p.2)
  | _, _, _, .nil, _ => ⟨fun p hp => (by cases hp), fun i e p he => (by simp at he)⟩
  | _, _, _, .v (x := x) (u := u) h hc r, hr => by
    obtain ⟨q1, q2⟩ := r.rep fun p hp => hr p (List.mem_cons_of_mem _ hp)
    have h0 := hr _ (List.mem_cons_self ..)
    simp only [h] at h0
    have hu : a.eval x = u := h0
    refine ⟨fun p hp => ?_, fun i e p he hp => ?_⟩
    · rcases List.mem_cons.1 hp with rfl | hp
      · show (a.eval x).cells.toList = [a.eval x]
        rw [hu]; exact hc
      · exact q1 p hp
    · cases i with
      | zero =>
        simp only [List.getElem?_cons_zero, Option.some.injEq] at he hp
        subst he hp
        exact hu
      | succ i => exact q2 i e p (by simpa using he) (by simpa using hp)
  | _, _, _, .sl (x := x) (tag := tag) h r, hr => by
    obtain ⟨q1, q2⟩ := r.rep fun p hp => hr p (List.mem_cons_of_mem _ hp)
    have h0 := hr _ (List.mem_cons_self ..)
    simp only [h] at h0
    obtain ⟨A, n, c, hu, hs⟩ := h0
    refine ⟨fun p hp => ?_, fun i e p he hp => ?_⟩
    · rcases List.mem_cons.1 hp with rfl | hp
      · show (a.eval x).cells.toList = [a.eval x]
        rw [hu]; rfl
      · exact q1 p hp
    · cases i with
      | zero =>
        simp only [List.getElem?_cons_zero, Option.some.injEq] at he hp
        subst he hp
        exact ⟨tag, List.mem_cons_self .., A, n, c, hu, hs.toNo⟩
      | succ i => exact (q2 i e p (by simpa using he) (by simpa using hp)).sub fun t ht => List.mem_cons_of_mem _ ht
  | _, _, _, .nl (x := x) k h r, hr => by
    obtain ⟨q1, q2⟩ := r.rep fun p hp => hr p (List.mem_cons_of_mem _ hp)
    have h0 := hr _ (List.mem_cons_self ..)
    simp only [h] at h0
    have hu : a.eval x = .slice none 0 0 := h0
    refine ⟨fun p hp => ?_, fun i e p he hp => ?_⟩
    · rcases List.mem_cons.1 hp with rfl | hp
      · show (a.eval x).cells.toList = [a.eval x]
        rw [hu]; rfl
      · exact q1 p hp
    · cases i with
      | zero =>
        simp only [List.getElem?_cons_zero, Option.some.injEq] at he hp
        subst he hp
        exact ⟨some τ, List.mem_cons_self .., none, 0, 0, hu, SlOk.toNil _ _ _⟩
      | succ i => exact (q2 i e p (by simpa using he) (by simpa using hp)).sub fun t ht => List.mem_cons_of_mem _ ht
theorem fillL_congr {f g : Nat → Option (Nat × Nat)} : ∀ {vs : List (Nat × Value)} {cells : List Value}, (∀ p ∈ vs, f p.1 = g p.1) → fillL f cells vs = fillL g cells vs
  | [], _, _ => rfl
  | (i, v) :: vs, cells, h => by
    simp only [fillL]
    rw [h (i, v) (List.mem_cons_self ..)]
    cases g i with
    | none => rfl
    | some p =>
      simp only
      split
      · rfl
      · exact fillL_congr fun p hp => h p (List.mem_cons_of_mem _ hp)
theorem idxB_lt : ∀ {ps : List (Nat × Operand)} {i : Nat}, idxB i ps = true → ∀ j ∈ ps.map (·.1), i ≤ j ∧ j < i + ps.length
  | [], _, _, _, h => by cases h
  | (j, x) :: ps, i, hi, q, hq => by
    have hi' : (Nat.beq j i && idxB (i + 1) ps) = true := hi
    rw [Bool.and_eq_true, Nat.beq_eq] at hi'
    obtain ⟨rfl, h2⟩ := hi'
    rcases List.mem_cons.1 hq with rfl | hq
    · simp
    · have := idxB_lt h2 q hq
      rw [List.length_cons]; omega
section
variable {P : Program} {ev : Operand → PV} {bx : Nat → Option (List Value)} {d : Option Nat} {ty : TypeId} {pos : String} {aft : Array Edge} {g : Option (Nat × Bool)}
theorem Val.buildAg {t : TypeId} {zero : List Value} {places : List (Nat × Nat)} [hT : TyStruct P t zero places] (τ : Nat) {ps : List (Nat × Operand)} {es : List EV} {ts : List (Option Nat)} (hp : PartsF τ ev ps es ts) (hpl : places = (List.range ps.length).map fun i => (i, 1)) (hz : zero.length = ps.length) (hi : idxB 0 ps = true) :
    Val P ⟨d, .build t ps.toArray, ty, pos, aft, g⟩ ev bx (.s (.ag ts es)) none := by
  intro B T F ρ a w hB hop next Q hK
  obtain ⟨q1, q2⟩ := hp.rep (T := T) (F := F) (ρ := ρ) (w := w) (a := a) (fun p hp' => (hop p.2 (.inl (by simp [Op.operands]; exact ⟨p.1, hp'⟩))).1)
  have hl : ps.length = (ps.map fun p => a.eval p.2).length := by simp
  have hr := rows_zip (us := ps.map fun p => a.eval p.2) hl hi (fun u hu => by obtain ⟨p, hp', rfl⟩ := List.mem_map.1 hu; exact q1 p hp')
  have hzl : ((ps.map (·.1)).zip (ps.map fun p => a.eval p.2)).length = ps.length := by rw [List.length_zip, List.length_map, List.length_map, Nat.min_self]
  have h1 := hr.fill (cs := []) (zs := zero) (by simp) (by rw [hzl, hz, Nat.mul_one])
  have hfl : ((ps.map fun p => a.eval p.2).map fun u => [u]).flatten = ps.map fun p => a.eval p.2 := by
    generalize ps.map (fun p => a.eval p.2) = us
    induction us with
    | nil => rfl
    | cons u us ih => simp [ih]
  rw [List.nil_append, List.nil_append, hfl] at h1
  rw [fillL_congr (g := (places[·]?)) fun p hp' => by
    have hm := (List.of_mem_zip hp').1
    have := (idxB_lt hi p.1 hm).2
    rw [hpl, List.getElem?_map, List.getElem?_range (by omega)]; simp] at h1
  have hpo : PartsOk (fun x => PV.s (.v (a.eval x))) ps ((ps.map (·.1)).zip (ps.map fun p => a.eval p.2)) := PartsOk.of hl fun j i x u hj hu => .inl (by
    rw [List.getElem?_map, hj] at hu
    injection hu with hu
    subst hu
    rfl)
  have hV := Val.build (P := P) (d := d) (ty := ty) (pos := pos) (aft := aft) (g := g) (bx := bx) (t := t) hpo h1
  refine hV B T F ρ a w hB (fun x _ => ⟨rfl, fun id h => by cases h⟩) next Q fun v w' T' F' ρ' hb hTF hρ hrep hnb => hK v w' T' F' ρ' hb hTF hρ ?_ hnb
  have hg := Goes.of_below (T := T) (T' := T') (F := F) (F' := F') hb hTF
  refine ⟨_, hrep, rfl, fun i e' h he hh => ?_⟩
  cases i with
  | succ i => simp at he
  | zero =>
    simp only [List.getElem?_cons_zero, Option.some.injEq] at he hh
    subst he hh
    refine ⟨by rw [hp.len]; simp, fun j y u hy hu => ?_⟩
    rw [List.getElem?_map] at hu
    cases hpj : ps[j]? with
    | none => rw [hpj] at hu; cases hu
    | some p =>
      rw [hpj] at hu
      injection hu with hu
      subst hu
      exact (q2 j _ p hy hpj).goes hg.1 hg.2
theorem made_len (cs : Array Value) (m : Nat) : (madeCells cs m).toList.length = m := by simp [madeCells]
/-- make([]T, n), elements of some cells. -/
theorem Val.makeSlC {t e k by0 : Nat} {z : Value} [hT : TySl P t e k by0] [hz : TyZero P e z] (τ : Nat) {x y : Operand} {kd kd2 : IntKind} {n : Nat} (hx : ev x = .s (.v (.int kd (n : Int)))) (hy : ev y = .s (.v (.int kd2 (n : Int)))) (hb : n * by0 ≤ 140737488355328) :
    Val P ⟨d, .makeSlice t x y, ty, pos, aft, g⟩ ev bx (.s (.sl (some τ) (.front e) k (chop k n (madeCells z.cells (n * k)).toList))) none := by
  intro B T F ρ a w hB hop next Q hK
  have h1 := rep_v (hop x (.inl (by simp [Op.operands]))).1 hx
  have h2 := rep_v (hop y (.inl (by simp [Op.operands]))).1 hy
  obtain ⟨inf, z', hi, hz', hsz, hby, hzs⟩ := hT.info
  have hzz : z' = z := by
    obtain ⟨q1, q2, q3⟩ := hz
    rw [hi] at q2; injection q2 with q2; subst q2
    rw [hz'] at q3; injection q3
  subst hzz
  have hby0 := hT.by_
  have hnb : n ≤ 140737488355328 := Nat.le_trans (Nat.le_mul_of_pos_right _ hby0) hb
  have hbi : (inf.bytes : Int) * (n : Int) ≤ 281474976710656 := by
    rw [hby]
    have : ((by0 * n : Nat) : Int) ≤ 281474976710656 := by rw [Nat.mul_comm]; omega
    rwa [Int.natCast_mul] at this
  have hmk := run_make (P := P) w t e inf z' hT.und hi hz' kd kd2 n n (by omega) (Int.le_refl _) hbi (by omega)
  simp only [Int.toNat_natCast] at hmk
  rw [hsz] at hmk
  have hrun : (execOp a.eval ⟨d, .makeSlice t x y, ty, pos, aft, g⟩).run P w = .ok (.value (.slice (some ⟨w.heap.size, 0, none⟩) n n)) (w.alloc (.cells (madeCells z'.cells (n * k)) e)) := by
    simp [execOp, h1, h2, hmk]
  unfold Oper.wp
  rw [hrun]
  refine hK _ (w.alloc (.cells (madeCells z'.cells (n * k)) e)) (fun b => if b = w.heap.size then .row τ else T b) (fun b => if b = w.heap.size then n * k else F b) ρ ((Below.refl _ _).alloc (Nat.le_refl _) _) (fun b hb => ⟨if_neg (by omega), if_neg (by omega)⟩) (fun _ _ => rfl) ?_ (fun p hp => by cases hp)
  have hlen := made_len z'.cells (n * k)
  refine ⟨_, _, _, rfl, slOk_new (heap_alloc_new w _) (if_pos rfl) (if_pos rfl) (chop_len k n _).symm (Nat.le_refl _) (by unfold maxLen; omega) (chop_mem hlen) (by rw [← Array.length_toList]; exact hlen) ?_⟩
  refine RowAt.chop fun j v hj => ?_
  rw [Nat.zero_add, World.cell?_alloc_new]
  simpa using hj
/-- The elements of a table. -/
inductive PartsG (ev : Operand → PV) : List (Nat × Operand) → List (List EV) → List (Option Nat) → Prop
  | nil : PartsG ev [] [] []
  | cons {i : Nat} {x : Operand} {ts tts : List (Option Nat)} {es : List EV} {ps : List (Nat × Operand)} {ess : List (List EV)} (h : ev x = .s (.ag ts es)) (r : PartsG ev ps ess tts) : PartsG ev ((i, x) :: ps) (es :: ess) (ts ++ tts)
theorem PartsG.un {ev : Operand → PV} (σs : List Nat) : ∀ {ps : List (Nat × Operand)} {ess : List (List EV)} {ts : List (Option Nat)}, PartsG ev ps ess ts → PartsG (unE σs ev) ps ess ts
  | _, _, _, .nil => .nil
  | _, _, _, .cons h r => .cons (unE_ag σs h) (r.un σs)
theorem PartsG.len {ev : Operand → PV} : ∀ {ps : List (Nat × Operand)} {ess : List (List EV)} {ts : List (Option Nat)}, PartsG ev ps ess ts → ess.length = ps.length
  | _, _, _, .nil => rfl
  | _, _, _, .cons _ r => by simp [r.len]
theorem PartsG.rep {ev : Operand → PV} {T : Nat → BTag} {F : Nat → Nat} {ρ : Nat → Nat × Nat} {w : World} {a : Act} {k : Nat} : ∀ {ps : List (Nat × Operand)} {ess : List (List EV)} {ts : List (Option Nat)} {i : Nat}, PartsG ev ps ess ts → (∀ p ∈ ps, RepP T F ρ w (ev p.2) (a.eval p.2)) → ess.all (fun e => Nat.beq e.length k) = true → idxB i ps = true →
    ∃ hs : List (List Value), Rows k i ((ps.map (·.1)).zip (ps.map fun p => a.eval p.2)) hs ∧ EVsOk T F w ts ess hs
  | _, _, _, i, .nil, _, _, _ => ⟨[], .nil _, rfl, fun i e h he => by simp at he⟩
  | _, _, _, i, .cons (i := j) (x := x) (ts := ts) (es := es) (ps := ps) (ess := ess) h r, hr, hk, hi => by
    have hi' : (Nat.beq j i && idxB (i + 1) ps) = true := hi
    rw [Bool.and_eq_true, Nat.beq_eq] at hi'
    obtain ⟨rfl, h2⟩ := hi'
    have hk' : (Nat.beq es.length k && ess.all fun e => Nat.beq e.length k) = true := hk
    rw [Bool.and_eq_true, Nat.beq_eq] at hk'
    obtain ⟨hs, q1, q2⟩ := r.rep (k := k) (fun p hp => hr p (List.mem_cons_of_mem _ hp)) hk'.2 h2
    have h0 := hr _ (List.mem_cons_self ..)
    simp only [h] at h0
    obtain ⟨h1, hu, hev⟩ := h0
    have hlen := (hev.2 0 es h1 rfl rfl).1
    refine ⟨h1 :: hs, ?_, ?_, fun m e h' he hh => ?_⟩
    · rw [List.map_cons, List.map_cons, List.zip_cons_cons]
      refine .cons ?_ (by omega) q1
      show Cells (a.eval x) h1
      rw [hu]; exact Cells.agg _
    · simp [q2.1]
    · cases m with
      | zero =>
        simp only [List.getElem?_cons_zero, Option.some.injEq] at he hh
        subst he hh
        obtain ⟨z1, z2⟩ := hev.2 0 es h1 rfl rfl
        exact ⟨z1, fun m2 y u hy hu2 => (z2 m2 y u hy hu2).sub fun t ht => List.mem_append_left _ ht⟩
      | succ m =>
        obtain ⟨z1, z2⟩ := q2.2 m e h' (by simpa using he) (by simpa using hh)
        exact ⟨z1, fun m2 y u hy hu2 => (z2 m2 y u hy hu2).sub fun t ht => List.mem_append_right _ ht⟩
theorem Val.buildNag {t e k by0 : Nat} {z : Value} [hT : TySl P t e k by0] [hz : TyZero P e z] (τ : Nat) {n : Nat} {ps : List (Nat × Operand)} {ess : List (List EV)} {ts : List (Option Nat)} (hp : PartsG ev ps ess ts) (hk : ess.all (fun e => Nat.beq e.length k) = true) (hn : Nat.beq ps.length n = true) (hi : idxB 0 ps = true) (hm : Nat.ble (n * k) 16777216 = true) :
    Val P ⟨d, .buildSlice t n ps.toArray, ty, pos, aft, g⟩ ev bx (.s (.nsl (some τ) ts false k ess)) none := by
  intro B T F ρ a w hB hop next Q hK
  have hn' : ps.length = n := Nat.eq_of_beq_eq_true hn
  obtain ⟨hs, hr, hev⟩ := hp.rep (T := T) (F := F) (ρ := ρ) (w := w) (a := a) (k := k) (fun p hp' => (hop p.2 (.inl (by simp [Op.operands]; exact ⟨p.1, hp'⟩))).1) hk hi
  have hl : ps.length = (ps.map fun p => a.eval p.2).length := by simp
  have hzl : ((ps.map (·.1)).zip (ps.map fun p => a.eval p.2)).length = n := by rw [List.length_zip, List.length_map, List.length_map, Nat.min_self, hn']
  subst hzl
  have h1 := hr.fill (cs := []) (zs := ((Array.range (((ps.map (·.1)).zip (ps.map fun p => a.eval p.2)).length * k)).map (z.cells[· % z.cells.size]!)).toList) (by simp) (by simp)
  have hpo : PartsOk (fun x => PV.s (.v (a.eval x))) ps ((ps.map (·.1)).zip (ps.map fun p => a.eval p.2)) := PartsOk.of hl fun j i x u hj hu => .inl (by
    rw [List.getElem?_map, hj] at hu
    injection hu with hu
    subst hu
    rfl)
  have hV := Val.buildSlice (P := P) (d := d) (ty := ty) (pos := pos) (aft := aft) (g := g) (bx := bx) (t := t) τ hpo hm (by simpa using h1) hr.chop.2
  rw [hr.chop.1] at hV
  refine hV B T F ρ a w hB (fun x _ => ⟨rfl, fun id h => by cases h⟩) next Q fun v w' T' F' ρ' hb hTF hρ hrep hnb => hK v w' T' F' ρ' hb hTF hρ ?_ hnb
  obtain ⟨A, n', c, hu, hsl⟩ := hrep
  have hg := Goes.of_below (T := T) (T' := T') (F := F) (F' := F') hb hTF
  exact ⟨hs, A, n', c, hu, hsl.toNo, hev.goes hg.1 hg.2, fun h => by cases h⟩
end
section
variable {dr : Bool} {P : Program} {ops : Array Oper} {rest : List Oper} {env : List (Nat × PV)} {bs : List (Nat × List Value)} {K : St → Prop} {d : Nat} {op : Op} {ty : TypeId} {pos : String} {aft : Array Edge} {g : Option (Nat × Bool)}
theorem RunK.buildAg {t : TypeId} {zero : List Value} {places : List (Nat × Nat)} [hT : TyStruct P t zero places] {ps : List (Nat × Operand)} {es : List EV} {ts : List (Option Nat)} (hw : wantedS ops ⟨env, bs⟩ ⟨some d, .build t ps.toArray, ty, pos, aft, g⟩ = some true) (hp : PartsF d (St.mk env bs).ev ps es ts) (hpl : places = (List.range ps.length).map fun i => (i, 1)) (hz : zero.length = ps.length) (hi : idxB 0 ps = true)
    (k : RunK dr P ops rest ⟨(d, .s (.ag ts es)) :: env, bs⟩ K) : RunK dr P ops (⟨some d, .build t ps.toArray, ty, pos, aft, g⟩ :: rest) ⟨env, bs⟩ K :=
  .val rfl rfl hw (.ofFix (fun _ => rfl) fun σs => Val.buildAg d (hp.un σs) hpl hz hi) k
theorem RunK.buildNag {t e k0 by0 : Nat} {z : Value} [hT : TySl P t e k0 by0] [hz : TyZero P e z] {n : Nat} {ps : List (Nat × Operand)} {ess : List (List EV)} {ts : List (Option Nat)} (hw : wantedS ops ⟨env, bs⟩ ⟨some d, .buildSlice t n ps.toArray, ty, pos, aft, g⟩ = some true) (he : isEff ops ⟨some d, .buildSlice t n ps.toArray, ty, pos, aft, g⟩ = false) (hp : PartsG (St.mk env bs).ev ps ess ts) (hk : ess.all (fun e => Nat.beq e.length k0) = true) (hn : Nat.beq ps.length n = true) (hi : idxB 0 ps = true) (hm : Nat.ble (n * k0) 16777216 = true)
    (k : RunK dr P ops rest ⟨(d, .s (.nsl (some d) ts false k0 ess)) :: env, bs⟩ K) : RunK dr P ops (⟨some d, .buildSlice t n ps.toArray, ty, pos, aft, g⟩ :: rest) ⟨env, bs⟩ K :=
  .val he rfl hw (.ofFix (fun _ => rfl) fun σs => Val.buildNag d (hp.un σs) hk hn hi hm) k
theorem RunK.makeSlC {t e k0 by0 : Nat} {z : Value} [hT : TySl P t e k0 by0] [hz : TyZero P e z] {x y : Operand} {kd kd2 : IntKind} {i j : Int} {n : Nat} (hw : wantedS ops ⟨env, bs⟩ ⟨some d, .makeSlice t x y, ty, pos, aft, g⟩ = some true) (hx : (St.mk env bs).ev x = .s (.v (.int kd i))) (hy : (St.mk env bs).ev y = .s (.v (.int kd2 j))) (hi : i = (n : Int)) (hj : j = (n : Int)) (hb : n * by0 ≤ 140737488355328) {els : List (List Value)} (hc : chop k0 n (madeCells z.cells (n * k0)).toList = els)
    (k : RunK dr P ops rest ⟨(d, .s (.sl (some d) (.front e) k0 els)) :: env, bs⟩ K) : RunK dr P ops (⟨some d, .makeSlice t x y, ty, pos, aft, g⟩ :: rest) ⟨env, bs⟩ K := by
  subst hi hj hc
  exact .val rfl rfl hw (.ofNew (fun σs => Val.makeSlC d (unE_v σs hx) (unE_v σs hy) hb) fun _ hσ => un_front hσ) k
end
end Go.Proofs.Ytfacimebfdeaeaa.Pv
