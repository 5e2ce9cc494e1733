/- The machine of values: the sort of slices of slices. No condition. -/
import Derived.Test.YtfokjpmcifkoeaaPvJ
import Derived.Shelf.SlSortCmp.Whole1
namespace Go.Proofs.Ytfokjpmcifkoeaa.Pv
open Go Go.RowKit
/-! ### the library's SortFunc at slices, by their first numbers -/
theorem put_listH {pre old post new : List Value} (h : new.length = old.length) : Go.Sort.putCells id pre.length new.toArray (pre ++ old ++ post).toArray = (pre ++ new ++ post).toArray := by
  apply Array.toList_inj.1
  unfold Go.Sort.putCells
  apply List.ext_getElem?
  intro j
  rw [Array.getElem?_toList, Array.getElem?_mapIdx]
  simp only [List.getElem?_toArray, List.size_toArray]
  rcases Nat.lt_or_ge j pre.length with hj | hj
  · have e : ¬ (pre.length ≤ j ∧ j < pre.length + new.length) := by omega
    rw [List.append_assoc, List.getElem?_append_left hj, List.append_assoc, List.getElem?_append_left hj]
    cases pre[j]? with
    | none => rfl
    | some x => simp only [Option.map_some, if_neg e]
  · rcases Nat.lt_or_ge j (pre.length + new.length) with hj2 | hj2
    · rw [List.append_assoc, List.getElem?_append_right hj, List.getElem?_append_left (by omega), List.append_assoc, List.getElem?_append_right hj, List.getElem?_append_left (by omega)]
      have h1 : j - pre.length < old.length := by omega
      have h2 : j - pre.length < new.length := by omega
      rw [List.getElem?_eq_getElem h1, List.getElem?_eq_getElem h2, Option.map_some, if_pos ⟨hj, hj2⟩, getElem!_pos (new.toArray) (j - pre.length) (by simpa using h2)]
      simp
    · rw [List.append_assoc, List.getElem?_append_right hj, List.getElem?_append_right (by omega), List.append_assoc, List.getElem?_append_right hj, List.getElem?_append_right (by omega), h]
      cases post[j - pre.length - old.length]? with
      | none => rfl
      | some x => rw [Option.map_some, if_neg (by omega)]
theorem putCells_enc {α : Type} [Inhabited α] (enc : α → Value) (off : Nat) (d : Array α) (c : Array Value) : Go.Sort.putCells enc off d c = Go.Sort.putCells id off (d.map enc) c := by
  unfold Go.Sort.putCells
  congr 1
  funext k x
  rw [Array.size_map]
  split
  · rename_i h
    rw [getElem!_pos d (k - off) (by omega), getElem!_pos (d.map enc) (k - off) (by rw [Array.size_map]; omega)]
    simp
  · rfl
theorem extract_all {α : Type} (a : Array α) (n : Nat) (h : n = a.size) : a.extract 0 n = a := by subst h; simp
/-- What SortFunc does at slices of integers that are told apart by their first numbers. -/
def SortsH (P : Program) (f : FuncId) (v : Value) : Prop := ∀ (ps : List (Value × Int)) (blk off cap : Nat) (w : World), ps ≠ [] → (∀ p ∈ ps, ∃ b o n c, p.1 = .slice (some ⟨b, o, none⟩) n c ∧ b ≠ blk ∧ b < w.heap.size ∧ 0 < n ∧ w.cell? ⟨b, o, none⟩ = some (.int .i64 p.2) ∧ 0 ≤ p.2 ∧ p.2 < 4611686018427387904) →
  (∀ (j : Nat) (p : Value × Int), ps[j]? = some p → w.cell? ⟨blk, off + j, none⟩ = some p.1 ∧ w.frozen? ⟨blk, off + j, none⟩ = false) → blk < w.heap.size → ps.length < 4611686018427387904 →
  Calls P f #[.slice (some ⟨blk, off, none⟩) ps.length cap, v] w fun e w' => e = .returned (.tuple #[]) ∧ ∃ ps' : List (Value × Int), ps'.Perm ps ∧ ps'.Pairwise (fun a b => a.2 ≤ b.2) ∧ w'.os = w.os ∧ w'.tape = w.tape ∧ w'.output = w.output ∧ w.heap.size ≤ w'.heap.size ∧ (∀ b, b < w.heap.size → b ≠ blk → w'.heap[b]? = w.heap[b]?) ∧
    ∀ (pre old post : List Value) (e : TypeId), pre.length = off → old.length = ps.length → w.heap[blk]? = some (.cells (pre ++ old ++ post).toArray e (0, 0)) → w'.heap[blk]? = some (.cells (pre ++ ps'.map (·.1) ++ post).toArray e (0, 0))
theorem SortsH.mk {P : Program} {ρ : Go.Shelf.Ren} (L : Go.Proofs.SlLaysF.n6 P ρ) (g : Nat) (hg : ∀ args w, (callFunc g args).run P w = .ok (.enter g args) w)
    (hcmp : ∀ (b1 o1 n1 c1 b2 o2 n2 c2 : Nat) (z1 z2 : Int) (W : World), 0 < n1 → 0 < n2 → W.cell? ⟨b1, o1, none⟩ = some (.int .i64 z1) → W.cell? ⟨b2, o2, none⟩ = some (.int .i64 z2) → 0 ≤ z1 → z1 < 4611686018427387904 → 0 ≤ z2 → z2 < 4611686018427387904 →
      Calls P g #[.slice (some ⟨b1, o1, none⟩) n1 c1, .slice (some ⟨b2, o2, none⟩) n2 c2] W fun e w' => e = .returned (.int .i64 (z1 - z2)) ∧ ∃ q os', w' = Go.Sort.grow (W.drewN q) os') : SortsH P (ρ.f 6) (.func (.func g) #[] #[]) := by
  intro ps blk off cap w hne hps hcell hblk hsz
  have hpos : 0 < ps.length := List.length_pos_iff.2 hne
  letI : Inhabited (Fin ps.length) := ⟨⟨0, hpos⟩⟩
  let enc : Fin ps.length → Value := fun i => ps[i].1
  let cf : Fin ps.length → Fin ps.length → Int := fun i j => ps[i].2 - ps[j].2
  let d : Array (Fin ps.length) := (List.finRange ps.length).toArray
  have hd : d.size = ps.length := by simp [d]
  have hsO : Go.Sort.SWO (Go.Proofs.ltOf cf) := by
    refine ⟨fun x => ?_, fun x y z h1 h2 => ?_, fun x y z h1 h2 => ?_⟩
    · simp [Go.Proofs.ltOf, cf]
    · simp only [Go.Proofs.ltOf, cf, decide_eq_true_eq] at *; omega
    · simp only [Go.Proofs.ltOf, cf, decide_eq_false_iff_not] at *; omega
  have hdj : ∀ j (hj : j < d.size), d[j]! = ⟨j, hd ▸ hj⟩ := fun j hj => by
    rw [getElem!_pos d j hj]
    simp [d]
  have hcall := Go.Proofs.Any.slices_SortFunc L enc (fun i => by
      obtain ⟨b, o, n, c, e, _⟩ := hps ps[i] (List.getElem_mem ..)
      show (ps[i].1).oneCell' = true
      rw [e]; rfl) cf hsO g #[] blk off cap d w hg (fun m os dk hs x y => ?_) (fun j hj => ?_) hblk (by omega)
  · rw [hd] at hcall
    refine hcall.mono ?_
    rintro e w' ⟨rfl, d', m, os, ⟨p1, p2, p3⟩, hs, rfl⟩
    have hd'l : d'.toList.length = ps.length := by rw [Array.length_toList, p1]; exact hd
    have hfin : (List.finRange ps.length).map (fun i => ps[i]) = ps := by
      apply List.ext_getElem
      · simp
      · intro i h1 h2; simp
    have hperm : d'.toList.Perm (List.finRange ps.length) := by
      have e1 := extract_all d' ps.length (hd'l.symm.trans Array.length_toList)
      have e2 := extract_all d ps.length hd.symm
      rw [e1, e2] at p3
      simpa [d] using p3
    have hmap : (d'.map enc) = ((d'.toList.map fun i => ps[i]).map (·.1)).toArray := by
      rw [List.map_map, ← List.map_toArray, Array.toArray_toList]; rfl
    refine ⟨rfl, d'.toList.map fun i => ps[i], ?_, ?_, rfl, rfl, rfl, ?_, fun b hb hbb => ?_, fun pre old post e hp ho hh => ?_⟩
    · have := hperm.map fun i => ps[i]
      rwa [hfin] at this
    · rw [List.pairwise_map, List.pairwise_iff_getElem]
      intro i j hi hj hij
      have := hs i j (Nat.zero_le _) hij (by omega)
      have hi' : i < d'.size := by simpa using hi
      have hj' : j < d'.size := by simpa using hj
      rw [getElem!_pos d' i hi', getElem!_pos d' j hj'] at this
      simp only [Go.Proofs.ltOf, cf, decide_eq_false_iff_not] at this
      simp only [Array.getElem_toList]
      omega
    · simp [Go.Proofs.sortWorld, Go.Sort.putRow, Go.Sort.mapBlock]
    · unfold Go.Proofs.sortWorld
      rw [Go.Sort.heap_grow_old _ _ (by simpa [Go.Sort.putRow, Go.Sort.mapBlock] using hb)]
      show ((w.heap.modify blk _))[b]? = _
      rw [Array.getElem?_modify, if_neg (Ne.symm hbb)]
    · have hlt : blk < w.heap.size := hblk
      unfold Go.Proofs.sortWorld
      rw [Go.Sort.heap_grow_old _ _ (by simpa [Go.Sort.putRow, Go.Sort.mapBlock] using hlt)]
      show ((w.heap.modify blk (Go.Sort.onCells (Go.Sort.putCells enc off d'))))[blk]? = _
      rw [Array.getElem?_modify, if_pos rfl, hh, Option.map_some, Go.Sort.onCells, putCells_enc, hmap, ← hp, put_listH (by simp [hd'l, ho])]
  · obtain ⟨b1, o1, n1, c1, e1, hb1, hl1, hn1, hc1, hz1, hz1'⟩ := hps ps[x] (List.getElem_mem ..)
    obtain ⟨b2, o2, n2, c2, e2, hb2, hl2, hn2, hc2, hz2, hz2'⟩ := hps ps[y] (List.getElem_mem ..)
    have key : ∀ b o u, b ≠ blk → b < w.heap.size → w.cell? ⟨b, o, none⟩ = some u → (Go.Proofs.sortWorld enc w blk off m dk os).cell? ⟨b, o, none⟩ = some u := fun b o u hbb hb hc => by
      rw [← hc]
      refine World.cell?_of_block (a := ⟨b, o, none⟩) ?_
      unfold Go.Proofs.sortWorld
      rw [Go.Sort.heap_grow_old _ _ (by simpa [Go.Sort.putRow, Go.Sort.mapBlock] using hb)]
      show ((w.heap.modify blk _))[b]? = _
      rw [Array.getElem?_modify, if_neg (Ne.symm hbb)]
    have := hcmp b1 o1 n1 c1 b2 o2 n2 c2 ps[x].2 ps[y].2 _ hn1 hn2 (key _ _ _ hb1 hl1 hc1) (key _ _ _ hb2 hl2 hc2) hz1 hz1' hz2 hz2'
    rw [← e1, ← e2] at this
    exact this
  · rw [hdj j hj]
    have hjl : j < ps.length := hd ▸ hj
    exact hcell j ps[j] (List.getElem?_eq_getElem hjl)
theorem perm_map_inv {α β : Type} {f : α → β} {m k : List β} (h : m.Perm k) : ∀ l : List α, k = l.map f → ∃ l' : List α, l'.Perm l ∧ m = l'.map f := by
  induction h with
  | nil => intro l hl; exact ⟨[], by cases l with | nil => exact .refl _ | cons => simp at hl, rfl⟩
  | cons x _ ih =>
    intro l hl
    cases l with
    | nil => simp at hl
    | cons a l =>
      rw [List.map_cons] at hl
      injection hl with h1 h2
      obtain ⟨l', hp, e⟩ := ih l h2
      exact ⟨a :: l', hp.cons a, by rw [List.map_cons, e, h1]⟩
  | swap x y l0 =>
    intro l hl
    match l, hl with
    | a :: b :: l, hl =>
      rw [List.map_cons, List.map_cons] at hl
      injection hl with h1 h2
      injection h2 with h2 h3
      exact ⟨b :: a :: l, .swap .., by rw [List.map_cons, List.map_cons, h1, h2, h3]⟩
    | [_], hl => simp at hl
    | [], hl => simp at hl
  | trans _ _ ih1 ih2 =>
    intro l hl
    obtain ⟨l2, hp2, e2⟩ := ih2 l hl
    obtain ⟨l1, hp1, e1⟩ := ih1 l2 e2
    exact ⟨l1, hp1.trans hp2, e1⟩
section
variable {P : Program} {ops : Array Oper} {rest : List Oper} {env : List (Nat × PV)} {bs : List (Nat × List Value)} {K : St → Prop} {d : Nat} {ty : TypeId} {pos : String} {aft : Array Edge} {gd : Option (Nat × Bool)}
theorem Eff.sortH {f : FuncId} {v : Value} (hP : Callable P f) (hS : SortsH P f v) (h : Nat) {x y : Operand} {ats : Array TypeId} {id n g : Nat} {rows : List NRow} (zs : NRow → Int) (hx : (St.mk env bs).ev x = .bsl id 0 1 n) (hy : (St.mk env bs).ev y = .s (.v v)) (hb : boxOf bs id = some (rows.map fun r => [r.hdr]).flatten) (hn : n = rows.length) (hne : rows ≠ []) (hk : look env h = .nest g 1 rows)
    (hz : ∀ r ∈ rows, r.els[0]? = some [.int .i64 (zs r)] ∧ 0 ≤ zs r ∧ zs r < 4611686018427387904) (hsz : rows.length < 4611686018427387904) :
    Eff P ⟨some d, .call ⟨.value (.func f), #[x, y], ats⟩, ty, pos, aft, gd⟩ ⟨env, bs⟩ (fun s1 => ∃ rows' : List NRow, rows'.Perm rows ∧ rows'.Pairwise (fun a b => zs a ≤ zs b) ∧ s1 = ⟨(d, .s (.v (.tuple #[]))) :: env, (id, (rows'.map fun r => [r.hdr]).flatten) :: bs⟩) := by
  subst hn
  rintro w0 n a w ⟨T, F, ρ, hr⟩ hd next Q hK
  obtain ⟨fn, q1, q2, q3⟩ := hP
  have hbo := hr.boxes id _ hb
  have h1 := hr.ev x
  rw [hx] at h1
  have hyv := ev_v hr hy
  have hnest := nest_of hr hk
  have hpos : 0 < rows.length := List.length_pos_iff.2 hne
  rcases (h1 : BslOk ..) with ⟨_, h0⟩ | ⟨c, cur, e, a1, a2, a3, a4, a5, a6⟩
  · omega
  rw [Nat.add_zero] at a3
  have hfl : ∀ l : List NRow, (l.map fun r => [r.hdr]).flatten = l.map NRow.hdr := fun l => by
    rw [show (l.map fun r => [r.hdr]) = ((l.map NRow.hdr).map fun x => [x]) by rw [List.map_map]; rfl]
    induction l.map NRow.hdr with
    | nil => rfl
    | cons x l ih => rw [List.map_cons, List.flatten_cons, ih]; rfl
  have hneF : ∀ l : List NRow, l.length = rows.length → (l.map fun r => [r.hdr]).flatten ≠ [] := fun l hl h => by
    rw [hfl] at h
    have := congrArg List.length h
    simp at this
    subst this
    simp at hl
    omega
  have hrun : (execOp a.eval ⟨some d, .call ⟨.value (.func f), #[x, y], ats⟩, ty, pos, aft, gd⟩).run P w = .ok (.enter f #[.slice (some ⟨(ρ id).1, (ρ id).2, none⟩) rows.length c, v]) w := by
    have q3' : fn.body ≠ none := fun h => by rw [h] at q3; cases q3
    have hfe : a.eval (.func f) = .func (.func f) #[] #[] := rfl
    simp [execOp, resolve, hfe, a3, hyv, Deferred.ofValue, invoke, callFunc, q1, q2, q3']
  unfold Oper.wp
  rw [hrun]
  obtain ⟨b1, b2, b3, pre, post, e', bl, b4⟩ := hbo (hneF rows rfl)
  have hcall := hS (rows.map fun r => (r.hdr, zs r)) (ρ id).1 (ρ id).2 c w (by simpa using hne) (fun p hp => ?_) (fun j p hj => ?_) a4 (by simpa using hsz)
  · rw [List.length_map] at hcall
    refine hcall.mono ?_
    rintro e w' ⟨rfl, ps', hperm, hsort, ho1, ho2, ho3, hs1, hoth, hblk⟩
    obtain ⟨rows', hp', rfl⟩ := perm_map_inv hperm rows rfl
    rw [List.pairwise_map] at hsort
    have hlen : rows'.length = rows.length := hp'.length_eq
    have hr2 := hr.rebox hb (cs' := (rows'.map fun r => [r.hdr]).flatten) (hneF rows rfl) (by rw [hfl, hfl]; simp [hlen]) (w' := w')
      (fun h => ⟨ho1, ho2, ho3, hs1, h⟩) hs1 hoth (fun pre post e bl hh => by
        rw [hfl] at hh
        have := hblk pre (rows.map NRow.hdr) post e bl (by simp) hh
        rw [hfl, this, List.map_map]; rfl)
    exact hK _ ⟨rows', hp', hsort, rfl⟩ _ _ ⟨T, F, ρ, hr2.goes (d := some d) (pv := .s (.v (.tuple #[]))) (nb := none) (v := .tuple #[]) hd (Below.refl _ _) (fun _ _ => ⟨rfl, rfl⟩) (fun _ _ => rfl) (fun _ hp => by cases hp) rfl (fun _ hp => by cases hp) rfl⟩
  · obtain ⟨r, hr0, rfl⟩ := List.mem_map.1 hp
    obtain ⟨hz1, hz2, hz3⟩ := hz r hr0
    obtain ⟨b, o, cur2, ee, hA, hh, _, hat, hTb⟩ := nest_row (hnest.2 r hr0) hz1
    have hpos2 : 0 < r.els.length := (List.getElem?_eq_some_iff.1 hz1).1
    refine ⟨b, o, r.els.length, r.cap, by show r.hdr = _; unfold NRow.hdr; rw [hA]; rfl, fun e => ?_, (Array.getElem?_eq_some_iff.1 hh).1, hpos2, ?_, hz2, hz3⟩
    · rw [e, b3] at hTb; cases hTb
    · have := hat 0 0 _ _ hz1 rfl
      simpa using this
  · rw [List.getElem?_map] at hj
    cases hq : rows[j]? with
    | none => rw [hq] at hj; cases hj
    | some r =>
      rw [hq] at hj
      injection hj with hj
      subst hj
      refine ⟨hbo.cell (j := j) (v := r.hdr) ?_, by simp [World.frozen?, b4]⟩
      rw [hfl, List.getElem?_map, hq]; rfl
theorem RunK.sortH {f : FuncId} {v : Value} (hP : Callable P f) (hS : SortsH P f v) (h : Nat) {x y : Operand} {ats : Array TypeId} {id n g : Nat} {rows : List NRow} (zs : NRow → Int) (hw : wantedS ops ⟨env, bs⟩ ⟨some d, .call ⟨.value (.func f), #[x, y], ats⟩, ty, pos, aft, gd⟩ = some true) (hx : (St.mk env bs).ev x = .bsl id 0 1 n) (hy : (St.mk env bs).ev y = .s (.v v)) (hb : boxOf bs id = some (rows.map fun r => [r.hdr]).flatten) (hn : n = rows.length) (hne : rows ≠ []) (hk : look env h = .nest g 1 rows)
    (hz : ∀ r ∈ rows, r.els[0]? = some [.int .i64 (zs r)] ∧ 0 ≤ zs r ∧ zs r < 4611686018427387904) (hsz : rows.length < 4611686018427387904)
    (kk : ∀ rows' : List NRow, rows'.Perm rows → rows'.Pairwise (fun a b => zs a ≤ zs b) → RunK false P ops rest ⟨(d, .s (.v (.tuple #[]))) :: env, (id, (rows'.map fun r => [r.hdr]).flatten) :: bs⟩ K) : RunK false P ops (⟨some d, .call ⟨.value (.func f), #[x, y], ats⟩, ty, pos, aft, gd⟩ :: rest) ⟨env, bs⟩ K :=
  Run.eff hw (Eff.sortH hP hS h zs hx hy hb hn hne hk hz hsz) (fun h => by cases h) (fun _ ⟨l', h1, h2, e⟩ => e ▸ kk l' h1 h2)
end
end Go.Proofs.Ytfokjpmcifkoeaa.Pv
