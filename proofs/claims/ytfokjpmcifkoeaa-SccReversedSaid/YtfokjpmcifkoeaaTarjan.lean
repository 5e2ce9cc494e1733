/- Strongly connected components by a depth-first search: what it keeps, and that it finds them. No condition. -/
namespace Go.Proofs.Ytfokjpmcifkoeaa.Scc
abbrev G := List (List Nat)
def edge (g : G) (i k : Nat) : Prop := k ∈ g.getD i []
/-- All numbers are nodes. -/
def GOk (g : G) : Prop := ∀ i k, edge g i k → k < g.length
inductive Reach (g : G) : Nat → Nat → Prop
  | refl (i : Nat) : Reach g i i
  | tail {i j k : Nat} (h : Reach g i j) (e : edge g j k) : Reach g i k
set_option maxRecDepth 100000 in
theorem Reach.trans {g : G} {i j k : Nat} (h : Reach g i j) (h' : Reach g j k) : Reach g i k := by
  induction h' with
  | refl => exact h
  | tail _ e ih => exact ih.tail e
set_option maxRecDepth 100000 in
theorem Reach.edge {g : G} {i k : Nat} (e : Go.Proofs.Ytfokjpmcifkoeaa.Scc.edge g i k) : Reach g i k := (Reach.refl i).tail e

/-- What the search keeps. -/
structure TS where
  num : List Nat
  low : List Nat
  on : List Bool
  stack : List Nat
  out : List (List Nat)
  count : Nat
def TS.N (s : TS) (x : Nat) : Nat := s.num.getD x 0
def TS.L (s : TS) (x : Nat) : Nat := s.low.getD x 0
def TS.O (s : TS) (x : Nat) : Bool := s.on.getD x false
def TS.enter (s : TS) (i : Nat) : TS := ⟨s.num.set i (s.count + 1), s.low.set i (s.count + 1), s.on.set i true, s.stack ++ [i], s.out, s.count + 1⟩
def insN (x : Nat) : List Nat → List Nat
  | [] => [x]
  | y :: l => if x ≤ y then x :: y :: l else y :: insN x l
def sortN : List Nat → List Nat
  | [] => []
  | x :: l => insN x (sortN l)
def offs (l : List Nat) (on : List Bool) : List Bool := l.foldl (fun o k => o.set k false) on
def TS.pop (s : TS) (i : Nat) : TS :=
  let at_ := s.stack.idxOf i
  ⟨s.num, s.low, offs (s.stack.drop at_) s.on, s.stack.take at_, s.out ++ [sortN (s.stack.drop at_)], s.count⟩
def TS.lower (s : TS) (i v : Nat) : TS := { s with low := s.low.set i (min (s.L i) v) }
def visit (rec : Nat → TS → TS) (i k : Nat) (s : TS) : TS :=
  if s.N k = 0 then (rec k s).lower i ((rec k s).L k)
  else if s.O k then s.lower i (s.N k) else s
def visits (rec : Nat → TS → TS) (i : Nat) (l : List Nat) (s : TS) : TS := l.foldl (fun s k => visit rec i k s) s
def TS.close (s : TS) (i : Nat) : TS := if s.L i = s.N i then s.pop i else s
def enterF (g : G) : Nat → Nat → TS → TS
  | 0, _, s => s
  | f + 1, i, s => (visits (enterF g f) i (g.getD i []) (s.enter i)).close i

structure Inv (g : G) (gray : List Nat) (s : TS) : Prop where
  lnum : s.num.length = g.length
  llow : s.low.length = g.length
  lon : s.on.length = g.length
  cnt : ∀ x, s.N x ≤ s.count
  cntw : s.count + s.num.count 0 = g.length
  outc : s.out.length ≤ s.count
  mem : ∀ x ∈ s.stack, x < g.length ∧ s.N x ≠ 0
  on : ∀ x, x < g.length → (s.O x = true ↔ x ∈ s.stack)
  inc : s.stack.Pairwise (fun a b => s.N a < s.N b)
  fwd : s.stack.Pairwise (fun a b => Reach g a b)
  outs : ∀ x, (∃ p ∈ s.out, x ∈ p) ↔ (s.N x ≠ 0 ∧ x ∉ s.stack)
  scc : ∀ p ∈ s.out, p ≠ [] ∧ p.Pairwise (· < ·) ∧ ∀ x ∈ p, ∀ y, y ∈ p ↔ (Reach g x y ∧ Reach g y x)
  disj : s.out.Pairwise (fun p q => ∀ x ∈ p, x ∉ q)
  closed : ∀ x y, s.N x ≠ 0 → x ∉ s.stack → edge g x y → s.N y ≠ 0 ∧ y ∉ s.stack
  black : ∀ x y, s.N x ≠ 0 → x ∉ gray → edge g x y → s.N y ≠ 0
  back : ∀ y ∈ s.stack, ∃ x ∈ gray, s.N x ≤ s.N y ∧ Reach g y x
  gr : ∀ x ∈ gray, x ∈ s.stack

/-- What entering i leaves. -/
structure Post (g : G) (gray : List Nat) (s : TS) (i : Nat) (s' : TS) : Prop where
  inv : Inv g gray s'
  keepN : ∀ x, s.N x ≠ 0 → s'.N x = s.N x
  keepL : ∀ x, s.N x ≠ 0 → s'.L x = s.L x
  app : ∃ t, s'.stack = s.stack ++ t ∧ (∀ x ∈ t, s.N x = 0) ∧ ∀ x ∈ t, ∀ y ∈ s.stack, edge g x y → s'.L i ≤ s.N y
  vis : s'.N i ≠ 0
  cnt : s.count < s'.count
  low : (s'.L i = s'.N i ∧ ∀ y ∈ s.stack, s.N y < s'.L i) ∨ ∃ z ∈ s.stack, s'.L i = s.N z ∧ Reach g i z
  lpos : s'.L i ≤ s'.count ∧ s'.L i ≠ 0
  outl : s'.out.length + s.count ≤ s.out.length + s'.count

set_option maxRecDepth 100000 in
theorem getD_set {α : Type} (l : List α) (i x : Nat) (a d : α) (hi : i < l.length) : (l.set i a).getD x d = if x = i then a else l.getD x d := by
  simp only [List.getD_eq_getElem?_getD]
  rw [List.getElem?_set]
  by_cases h : i = x
  · subst h; simp [hi]
  · simp [h, Ne.symm h]
set_option maxRecDepth 100000 in
theorem getD_ne {α : Type} {l : List α} {x : Nat} {d : α} (h : l.getD x d ≠ d) : x < l.length := by
  apply Nat.lt_of_not_le
  intro hle
  apply h
  simp [List.getD_eq_getElem?_getD, List.getElem?_eq_none hle]
set_option maxRecDepth 100000 in
theorem count_zero_pos {l : List Nat} {i : Nat} (hi : i < l.length) (h : l.getD i 0 = 0) : 0 < l.count 0 := by
  apply List.count_pos_iff.2
  simp only [List.getD_eq_getElem?_getD, List.getElem?_eq_getElem hi, Option.getD_some] at h
  exact h ▸ List.getElem_mem hi
set_option maxRecDepth 100000 in
theorem count_set0 : ∀ (l : List Nat) (i v : Nat), i < l.length → l.getD i 0 = 0 → v ≠ 0 → (l.set i v).count 0 + 1 = l.count 0
  | [], i, v, h, _, _ => by simp at h
  | a :: l, 0, v, _, h0, hv => by
    simp only [List.getD_cons_zero] at h0
    subst h0
    simp [List.set_cons_zero, hv]
  | a :: l, i + 1, v, h, h0, hv => by
    have := count_set0 l i v (by simpa using h) (by simpa using h0) hv
    simp only [List.set_cons_succ, List.count_cons]
    omega
section
variable {g : G} {gray : List Nat} {s : TS} {i : Nat}
set_option maxRecDepth 100000 in
theorem N_lt (hI : Inv g gray s) {x : Nat} (h : s.N x ≠ 0) : x < g.length := hI.lnum ▸ getD_ne h
set_option maxRecDepth 100000 in
theorem enter_N (hI : Inv g gray s) (hi : i < g.length) (x : Nat) : (s.enter i).N x = if x = i then s.count + 1 else s.N x := getD_set _ _ _ _ _ (hI.lnum.symm ▸ hi)
set_option maxRecDepth 100000 in
theorem enter_L (hI : Inv g gray s) (hi : i < g.length) (x : Nat) : (s.enter i).L x = if x = i then s.count + 1 else s.L x := getD_set _ _ _ _ _ (hI.llow.symm ▸ hi)
set_option maxRecDepth 100000 in
theorem enter_O (hI : Inv g gray s) (hi : i < g.length) (x : Nat) : (s.enter i).O x = if x = i then true else s.O x := getD_set _ _ _ _ _ (hI.lon.symm ▸ hi)

set_option maxRecDepth 100000 in
theorem enter_inv (hI : Inv g gray s) (hi : i < g.length) (hw : s.N i = 0) (hg : ∀ x ∈ gray, Reach g x i) : Inv g (i :: gray) (s.enter i) := by
  have hN := enter_N hI hi
  have hns : i ∉ s.stack := fun h => (hI.mem i h).2 hw
  have hne : ∀ {x}, x ∈ s.stack → x ≠ i := fun h e => hns (e ▸ h)
  refine ⟨by simp [TS.enter, hI.lnum], by simp [TS.enter, hI.llow], by simp [TS.enter, hI.lon], ?_, ?_, Nat.le_succ_of_le hI.outc, ?_, ?_, ?_, ?_, ?_, hI.scc, hI.disj, ?_, ?_, ?_, ?_⟩
  · intro x
    rw [hN]
    show _ ≤ s.count + 1
    split
    · omega
    · have := hI.cnt x; omega
  · have := count_set0 s.num i (s.count + 1) (hI.lnum.symm ▸ hi) hw (by omega)
    have := hI.cntw
    show s.count + 1 + (s.num.set i (s.count + 1)).count 0 = _
    omega
  · intro x hx
    rw [hN]
    rcases List.mem_append.1 hx with hx | hx
    · rw [if_neg (hne hx)]; exact hI.mem x hx
    · rw [List.mem_singleton.1 hx, if_pos rfl]; exact ⟨hi, by omega⟩
  · intro x hx
    rw [enter_O hI hi]
    show _ ↔ x ∈ s.stack ++ [i]
    rw [List.mem_append, List.mem_singleton]
    by_cases h : x = i
    · simp [h]
    · simp only [h, if_false, or_false]; exact hI.on x hx
  · show (s.stack ++ [i]).Pairwise _
    rw [List.pairwise_append]
    refine ⟨hI.inc.imp_of_mem fun ha hb h => ?_, List.pairwise_singleton .., fun a ha b hb => ?_⟩
    · rw [hN, hN, if_neg (hne ha), if_neg (hne hb)]; exact h
    · rw [List.mem_singleton.1 hb, hN, hN, if_neg (hne ha), if_pos rfl]; have := hI.cnt a; omega
  · show (s.stack ++ [i]).Pairwise _
    rw [List.pairwise_append]
    refine ⟨hI.fwd, List.pairwise_singleton .., fun a ha b hb => ?_⟩
    rw [List.mem_singleton.1 hb]
    obtain ⟨x, hx, _, hr⟩ := hI.back a ha
    exact hr.trans (hg x hx)
  · intro x
    show (∃ p ∈ s.out, x ∈ p) ↔ _ ∧ x ∉ s.stack ++ [i]
    rw [hI.outs, hN, List.mem_append, List.mem_singleton]
    by_cases h : x = i
    · subst h; simp [hw]
    · simp [h]
  · intro x y hx hxs he
    have hxs : x ∉ s.stack ++ [i] := hxs
    show _ ∧ y ∉ s.stack ++ [i]
    rw [List.mem_append, List.mem_singleton] at hxs ⊢
    rw [hN] at hx ⊢
    rw [if_neg fun h => hxs (.inr h)] at hx
    obtain ⟨h1, h2⟩ := hI.closed x y hx (fun h => hxs (.inl h)) he
    have hyi : y ≠ i := fun h => h1 (h ▸ hw)
    rw [if_neg hyi]
    exact ⟨h1, fun h => h.elim h2 hyi⟩
  · intro x y hx hxg he
    rw [hN] at hx ⊢
    have hxi : x ≠ i := fun h => hxg (h ▸ List.mem_cons_self ..)
    rw [if_neg hxi] at hx
    have := hI.black x y hx (fun h => hxg (List.mem_cons_of_mem _ h)) he
    split
    · omega
    · exact this
  · intro y hy
    rcases List.mem_append.1 hy with hy | hy
    · obtain ⟨x, hx, h1, h2⟩ := hI.back y hy
      refine ⟨x, List.mem_cons_of_mem _ hx, ?_, h2⟩
      rw [hN, hN, if_neg (hne hy), if_neg (hne (hI.gr x hx))]; exact h1
    · rw [List.mem_singleton.1 hy]
      exact ⟨i, List.mem_cons_self .., Nat.le_refl _, .refl _⟩
  · intro x hx
    show x ∈ s.stack ++ [i]
    rcases List.mem_cons.1 hx with rfl | hx
    · simp
    · exact List.mem_append_left _ (hI.gr x hx)

/-- Within i: s0 is the state when i was entered, s the state behind the successors of l. -/
structure Mid (g : G) (gray : List Nat) (s0 : TS) (i : Nat) (l : List Nat) (s : TS) : Prop where
  inv : Inv g (i :: gray) s
  keepN : ∀ x, s0.N x ≠ 0 → s.N x = s0.N x
  keepL : ∀ x, s0.N x ≠ 0 → s.L x = s0.L x
  ni : s.N i = s0.count + 1
  cnt : s0.count < s.count
  app : ∃ t, s.stack = s0.stack ++ i :: t ∧ (∀ x ∈ t, s0.N x = 0) ∧ ∀ x ∈ t, ∀ y ∈ s0.stack, edge g x y → s.L i ≤ s0.N y
  done : ∀ k ∈ l, s.N k ≠ 0 ∧ (k ∈ s0.stack → s.L i ≤ s0.N k)
  low : s.L i = s.N i ∨ ∃ z ∈ s0.stack, s.L i = s0.N z ∧ Reach g i z
  le : s.L i ≤ s.N i
  lpos : s.L i ≠ 0
  outl : s.out.length + s0.count + 1 ≤ s0.out.length + s.count

set_option maxRecDepth 100000 in
theorem lower_inv {gray : List Nat} {v : Nat} (hI : Inv g gray s) : Inv g gray (s.lower i v) :=
  ⟨hI.lnum, (List.length_set ..).trans hI.llow, hI.lon, hI.cnt, hI.cntw, hI.outc, hI.mem, hI.on, hI.inc, hI.fwd, hI.outs, hI.scc, hI.disj, hI.closed, hI.black, hI.back, hI.gr⟩
set_option maxRecDepth 100000 in
theorem lower_L {gray : List Nat} {v : Nat} (hI : Inv g gray s) (hi : i < g.length) (x : Nat) : (s.lower i v).L x = if x = i then min (s.L i) v else s.L x := getD_set _ _ _ _ _ (hI.llow.symm ▸ hi)

set_option maxRecDepth 100000 in
theorem start_mid (hI : Inv g gray s) (hi : i < g.length) (hw : s.N i = 0) (hg : ∀ x ∈ gray, Reach g x i) : Mid g gray s i [] (s.enter i) := by
  have hN := enter_N hI hi
  have hL := enter_L hI hi
  have hne : ∀ {x}, s.N x ≠ 0 → x ≠ i := fun h e => h (e ▸ hw)
  refine ⟨enter_inv hI hi hw hg, fun x hx => by rw [hN, if_neg (hne hx)], fun x hx => by rw [hL, if_neg (hne hx)], by rw [hN, if_pos rfl], Nat.lt_succ_self _, ⟨[], rfl, by simp, by simp⟩, by simp, .inl (by rw [hN, hL, if_pos rfl, if_pos rfl]), by rw [hN, hL, if_pos rfl, if_pos rfl]; omega, by rw [hL, if_pos rfl]; omega, by show s.out.length + s.count + 1 ≤ s.out.length + (s.count + 1); omega⟩

set_option maxRecDepth 100000 in
/-- One successor more. -/
theorem mid_step {f : Nat} {rec : Nat → TS → TS} {s0 : TS} {l : List Nat} {k : Nat}
    (hrec : ∀ gray s k, Inv g gray s → k < g.length → s.N k = 0 → (∀ x ∈ gray, Reach g x k) → g.length ≤ f + s.count → Post g gray s k (rec k s))
    (h0 : Inv g gray s0) (hi : i < g.length) (hw : s0.N i = 0) (hg : ∀ x ∈ gray, Reach g x i) (hf : g.length ≤ f + 1 + s0.count) (hk : edge g i k) (hkn : k < g.length) (hM : Mid g gray s0 i l s) : Mid g gray s0 i (l ++ [k]) (visit rec i k s) := by
  have hgi : ∀ x ∈ i :: gray, Reach g x k := by
    intro x hx
    rcases List.mem_cons.1 hx with rfl | hx
    · exact .edge hk
    · exact (hg x hx).tail hk
  obtain ⟨t, ht, htw, hte⟩ := hM.app
  have hist : i ∈ s.stack := by rw [ht]; simp
  have h0s : ∀ {y}, y ∈ s0.stack → s.N y = s0.N y := fun hy => hM.keepN _ (h0.mem _ hy).2
  unfold visit
  by_cases hkw : s.N k = 0
  · rw [if_pos hkw]
    have hc := hM.cnt
    have hP := hrec (i :: gray) s k hM.inv hkn hkw hgi (by omega)
    generalize rec k s = r at hP ⊢
    have hki : k ≠ i := fun e => by rw [e, hM.ni] at hkw; omega
    have hLr := lower_L (i := i) (v := r.L k) hP.inv hi
    have hNi : s.N i ≠ 0 := by rw [hM.ni]; omega
    obtain ⟨t2, ht2, ht2w, ht2e⟩ := hP.app
    have hLi : (r.lower i (r.L k)).L i = min (s.L i) (r.L k) := by rw [hLr, if_pos rfl, hP.keepL i hNi]
    have hNr : ∀ x, (r.lower i (r.L k)).N x = r.N x := fun _ => rfl
    have k0 : ∀ x, s0.N x ≠ 0 → s.N x ≠ 0 := fun x hx => by rw [hM.keepN x hx]; exact hx
    refine ⟨lower_inv hP.inv, ?_, ?_, ?_, ?_, ?_, ?_, ?_, ?_, ?_, by have h1 := hP.outl; have h2 := hM.outl; show r.out.length + s0.count + 1 ≤ s0.out.length + r.count; omega⟩
    · intro x hx; rw [hNr, hP.keepN x (k0 x hx), hM.keepN x hx]
    · intro x hx
      rw [hLr, if_neg fun (e : x = i) => hx (e ▸ hw), hP.keepL x (k0 x hx), hM.keepL x hx]
    · rw [hNr, hP.keepN i hNi, hM.ni]
    · exact Nat.lt_trans hM.cnt hP.cnt
    · refine ⟨t ++ t2, ?_, ?_, ?_⟩
      · show r.stack = _
        rw [ht2, ht]; simp
      · intro x hx
        rcases List.mem_append.1 hx with hx | hx
        · exact htw x hx
        · exact Classical.byContradiction fun h => k0 x h (ht2w x hx)
      · intro x hx y hy he
        rw [hLi]
        rcases List.mem_append.1 hx with hx | hx
        · exact Nat.le_trans (Nat.min_le_left ..) (hte x hx y hy he)
        · refine Nat.le_trans (Nat.min_le_right ..) ?_
          rw [← h0s hy]
          exact ht2e x hx y (by rw [ht]; exact List.mem_append_left _ hy) he
    · intro x hx
      rw [hNr, hLi]
      rcases List.mem_append.1 hx with hx | hx
      · obtain ⟨h1, h2⟩ := hM.done x hx
        exact ⟨by rw [hP.keepN x h1]; exact h1, fun h => Nat.le_trans (Nat.min_le_left ..) (h2 h)⟩
      · rw [List.mem_singleton.1 hx]
        exact ⟨hP.vis, fun h => absurd hkw (by rw [h0s h]; exact (h0.mem _ h).2)⟩
    · rw [hLi, hNr, hP.keepN i hNi]
      by_cases hm : s.L i ≤ r.L k
      · rw [Nat.min_eq_left hm]
        exact hM.low
      · rw [Nat.min_eq_right (by omega)]
        rcases hP.low with ⟨_, h2⟩ | ⟨z, hz, h1, h2⟩
        · have := h2 i hist
          have := hM.le
          omega
        · rw [ht] at hz
          rcases List.mem_append.1 hz with hz | hz
          · exact .inr ⟨z, hz, by rw [h1, h0s hz], (Reach.edge hk).trans h2⟩
          · rcases List.mem_cons.1 hz with rfl | hz
            · exact .inl h1
            · -- z is above i
              have hp := hM.inv.inc
              rw [ht, List.pairwise_append] at hp
              have := (List.pairwise_cons.1 hp.2.1).1 z hz
              have := hM.le
              omega
    · rw [hLi, hNr, hP.keepN i hNi]; exact Nat.le_trans (Nat.min_le_left ..) hM.le
    · rw [hLi]
      have := hM.lpos
      have := hP.lpos.2
      omega
  · rw [if_neg hkw]
    by_cases hko : s.O k = true
    · rw [if_pos hko]
      have hks : k ∈ s.stack := (hM.inv.on k hkn).1 hko
      have hLr := lower_L (i := i) (v := s.N k) hM.inv hi
      have hLi : (s.lower i (s.N k)).L i = min (s.L i) (s.N k) := by rw [hLr, if_pos rfl]
      have hNr : ∀ x, (s.lower i (s.N k)).N x = s.N x := fun _ => rfl
      refine ⟨lower_inv hM.inv, hM.keepN, ?_, hM.ni, hM.cnt, ⟨t, ht, htw, ?_⟩, ?_, ?_, ?_, ?_, hM.outl⟩
      · intro x hx
        rw [hLr, if_neg fun (e : x = i) => hx (e ▸ hw), hM.keepL x hx]
      · intro x hx y hy he
        rw [hLi]
        exact Nat.le_trans (Nat.min_le_left ..) (hte x hx y hy he)
      · intro x hx
        rw [hNr, hLi]
        rcases List.mem_append.1 hx with hx | hx
        · obtain ⟨h1, h2⟩ := hM.done x hx
          exact ⟨h1, fun h => Nat.le_trans (Nat.min_le_left ..) (h2 h)⟩
        · rw [List.mem_singleton.1 hx]
          exact ⟨hkw, fun h => by rw [h0s h]; exact Nat.min_le_right ..⟩
      · rw [hLi, hNr]
        by_cases hm : s.L i ≤ s.N k
        · rw [Nat.min_eq_left hm]
          exact hM.low
        · rw [Nat.min_eq_right (by omega)]
          have hks' := hks
          rw [ht] at hks'
          rcases List.mem_append.1 hks' with hz | hz
          · exact .inr ⟨k, hz, h0s hz, .edge hk⟩
          · rcases List.mem_cons.1 hz with rfl | hz
            · exact .inl rfl
            · have hp := hM.inv.inc
              rw [ht, List.pairwise_append] at hp
              have := (List.pairwise_cons.1 hp.2.1).1 k hz
              have := hM.le
              omega
      · rw [hLi, hNr]; exact Nat.le_trans (Nat.min_le_left ..) hM.le
      · rw [hLi]
        have := hM.lpos
        omega
    · rw [if_neg hko]
      refine ⟨hM.inv, hM.keepN, hM.keepL, hM.ni, hM.cnt, ⟨t, ht, htw, hte⟩, ?_, hM.low, hM.le, hM.lpos, hM.outl⟩
      intro x hx
      rcases List.mem_append.1 hx with hx | hx
      · exact hM.done x hx
      · rw [List.mem_singleton.1 hx]
        exact ⟨hkw, fun h => absurd ((hM.inv.on k hkn).2 (by rw [ht]; exact List.mem_append_left _ h)) hko⟩

set_option maxRecDepth 100000 in
theorem visits_mid {f : Nat} {rec : Nat → TS → TS} {s0 : TS}
    (hrec : ∀ gray s k, Inv g gray s → k < g.length → s.N k = 0 → (∀ x ∈ gray, Reach g x k) → g.length ≤ f + s.count → Post g gray s k (rec k s))
    (h0 : Inv g gray s0) (hi : i < g.length) (hw : s0.N i = 0) (hg : ∀ x ∈ gray, Reach g x i) (hf : g.length ≤ f + 1 + s0.count) :
    ∀ (l l0 : List Nat) (s : TS), (∀ k ∈ l, edge g i k ∧ k < g.length) → Mid g gray s0 i l0 s → Mid g gray s0 i (l0 ++ l) (visits rec i l s)
  | [], l0, s, _, hM => by simpa [visits] using hM
  | k :: l, l0, s, hl, hM => by
    have h1 := mid_step hrec h0 hi hw hg hf (hl k (List.mem_cons_self ..)).1 (hl k (List.mem_cons_self ..)).2 hM
    have h2 := visits_mid hrec h0 hi hw hg hf l _ _ (fun x hx => hl x (List.mem_cons_of_mem _ hx)) h1
    simpa [visits, List.append_assoc] using h2

/-! ### sorting -/
set_option maxRecDepth 100000 in
theorem insN_perm (x : Nat) : ∀ l : List Nat, (insN x l).Perm (x :: l)
  | [] => .refl _
  | y :: l => by
    unfold insN
    split
    · exact .refl _
    · exact ((insN_perm x l).cons y).trans (.swap ..)
set_option maxRecDepth 100000 in
theorem sortN_perm : ∀ l : List Nat, (sortN l).Perm l
  | [] => .refl _
  | x :: l => (insN_perm x _).trans ((sortN_perm l).cons x)
set_option maxRecDepth 100000 in
theorem insN_le (x : Nat) : ∀ l : List Nat, l.Pairwise (· ≤ ·) → (insN x l).Pairwise (· ≤ ·)
  | [], _ => List.pairwise_singleton ..
  | y :: l, h => by
    unfold insN
    have h' := List.pairwise_cons.1 h
    split
    · rename_i hle
      exact List.pairwise_cons.2 ⟨fun z hz => by
        rcases List.mem_cons.1 hz with rfl | hz
        · exact hle
        · exact Nat.le_trans hle (h'.1 z hz), h⟩
    · exact List.pairwise_cons.2 ⟨fun z hz => by
        rcases List.mem_cons.1 ((insN_perm x l).mem_iff.1 hz) with rfl | hz
        · omega
        · exact h'.1 z hz, insN_le x l h'.2⟩
set_option maxRecDepth 100000 in
theorem sortN_le : ∀ l : List Nat, (sortN l).Pairwise (· ≤ ·)
  | [] => .nil
  | x :: l => insN_le x _ (sortN_le l)
set_option maxRecDepth 100000 in
theorem sortN_lt {l : List Nat} (h : l.Nodup) : (sortN l).Pairwise (· < ·) := by
  have h1 := sortN_le l
  have h2 : (sortN l).Nodup := (sortN_perm l).nodup_iff.2 h
  exact h1.imp₂ (fun _ _ h1 h2 => Nat.lt_of_le_of_ne h1 h2) h2

set_option maxRecDepth 100000 in
theorem offs_get : ∀ (l : List Nat) (on : List Bool) (x : Nat), (offs l on).getD x false = (on.getD x false && !decide (x ∈ l))
  | [], on, x => by simp [offs]
  | k :: l, on, x => by
    have ih := offs_get l (on.set k false) x
    show (offs l (on.set k false)).getD x false = _
    rw [ih]
    by_cases hk : k < on.length
    · rw [getD_set _ _ _ _ _ hk]
      by_cases h : x = k
      · simp [h]
      · simp [h]
    · rw [List.set_eq_of_length_le (by omega)]
      by_cases h : x = k
      · subst h
        have : on.getD x false = false := by simp [List.getD_eq_getElem?_getD, List.getElem?_eq_none (show on.length ≤ x by omega)]
        rw [this]; simp
      · simp [h]
set_option maxRecDepth 100000 in
theorem offs_len : ∀ (l : List Nat) (on : List Bool), (offs l on).length = on.length
  | [], _ => rfl
  | k :: l, on => (offs_len l (on.set k false)).trans (List.length_set ..)
set_option maxRecDepth 100000 in
theorem idxOf_app {i : Nat} {a t : List Nat} (h : i ∉ a) : (a ++ i :: t).idxOf i = a.length := by
  rw [List.idxOf_append, if_neg h]; simp

set_option maxRecDepth 100000 in
theorem nodup_inc {l : List Nat} (f : Nat → Nat) (h : l.Pairwise (fun a b => f a < f b)) : l.Nodup := h.imp fun h e => by subst e; omega
set_option maxRecDepth 100000 in
/-- The nodes from i on go, as a component. -/
theorem close_post {s0 : TS} {l : List Nat} (hl : ∀ k, edge g i k → k ∈ l) (h0 : Inv g gray s0) (hi : i < g.length) (hw : s0.N i = 0) (hM : Mid g gray s0 i l s) : Post g gray s0 i (s.close i) := by
  obtain ⟨t, ht, htw, hte⟩ := hM.app
  have hI := hM.inv
  have hni := hM.ni
  have hNi : s.N i ≠ 0 := by omega
  have h0s : ∀ {y}, y ∈ s0.stack → s.N y = s0.N y := fun hy => hM.keepN _ (h0.mem _ hy).2
  have hins : i ∉ s0.stack := fun h => (h0.mem i h).2 hw
  have hist : i ∈ s.stack := by rw [ht]; simp
  have hlt : ∀ {y}, y ∈ s0.stack → s0.N y < s.N i := fun {y} hy => by rw [hni]; exact Nat.lt_succ_of_le (h0.cnt y)
  have hinc := hI.inc
  rw [ht, List.pairwise_append] at hinc
  have hfwd := hI.fwd
  rw [ht, List.pairwise_append] at hfwd
  have hge : ∀ {y}, y ∈ i :: t → s.N i ≤ s.N y := by
    intro y hy
    rcases List.mem_cons.1 hy with rfl | hy
    · exact Nat.le_refl _
    · exact Nat.le_of_lt ((List.pairwise_cons.1 hinc.2.1).1 y hy)
  -- edges of i to nodes below
  have hei : ∀ y ∈ s0.stack, edge g i y → s.L i ≤ s0.N y := fun y hy he => (hM.done y (hl y he)).2 hy
  have hblack : ∀ x y, s.N x ≠ 0 → x ∉ gray → edge g x y → s.N y ≠ 0 := by
    intro x y hx hxg he
    by_cases hxi : x = i
    · rw [hxi] at he; exact (hM.done y (hl y he)).1
    · exact hI.black x y hx (fun h => (List.mem_cons.1 h).elim hxi hxg) he
  unfold TS.close
  by_cases hlow : s.L i = s.N i
  · rw [if_pos hlow]
    have hat : s.stack.idxOf i = s0.stack.length := by rw [ht]; exact idxOf_app hins
    have hdrop : s.stack.drop (s.stack.idxOf i) = i :: t := by rw [hat, ht, List.drop_left]
    have htake : s.stack.take (s.stack.idxOf i) = s0.stack := by rw [hat, ht, List.take_left]
    have hp : s.pop i = ⟨s.num, s.low, offs (i :: t) s.on, s0.stack, s.out ++ [sortN (i :: t)], s.count⟩ := by
      unfold TS.pop; simp only [hdrop, htake]
    rw [hp]
    have hmemS : ∀ {x}, x ∈ s.stack ↔ x ∈ s0.stack ∨ x ∈ i :: t := by intro x; rw [ht, List.mem_append]
    have hdis : ∀ {x}, x ∈ i :: t → x ∉ s0.stack := by
      intro x hx hx0
      have := hge hx
      have := hlt hx0
      rw [h0s hx0] at *
      omega
    have hnd : (i :: t).Nodup := nodup_inc s.N hinc.2.1
    have hsm : ∀ {x}, x ∈ sortN (i :: t) ↔ x ∈ i :: t := (sortN_perm _).mem_iff
    -- all of the part reach each other
    have hto : ∀ y ∈ i :: t, Reach g i y := by
      intro y hy
      rcases List.mem_cons.1 hy with rfl | hy
      · exact .refl _
      · exact (List.pairwise_cons.1 hfwd.2.1).1 y hy
    have hfrom : ∀ y ∈ i :: t, Reach g y i := by
      intro y hy
      obtain ⟨x, hx, h1, h2⟩ := hI.back y (hmemS.2 (.inr hy))
      have hx' := hI.gr x hx
      rcases List.mem_cons.1 hx with rfl | hxg
      · exact h2
      · exact h2.trans (hfwd.2.2 x (h0.gr x hxg) i (List.mem_cons_self ..))
    -- edges of the part stay in it or lead to what is done
    have hstay : ∀ x y, x ∈ i :: t → edge g x y → y ∈ i :: t ∨ (s.N y ≠ 0 ∧ y ∉ s.stack) := by
      intro x y hx he
      have hxs : s.N x ≠ 0 := (hI.mem x (hmemS.2 (.inr hx))).2
      have hxg : x ∉ gray := fun h => hdis hx (h0.gr x h)
      have hy := hblack x y hxs hxg he
      by_cases hys : y ∈ s.stack
      · rcases hmemS.1 hys with hy0 | hy1
        · exfalso
          have : s.L i ≤ s0.N y := by
            rcases List.mem_cons.1 hx with rfl | hx
            · exact hei y hy0 he
            · exact hte x hx y hy0 he
          have := hlt hy0
          omega
        · exact .inl hy1
      · exact .inr ⟨hy, hys⟩
    have hclosed : ∀ x y, (s.N x ≠ 0 ∧ x ∉ s.stack) → Reach g x y → (s.N y ≠ 0 ∧ y ∉ s.stack) := by
      intro x y hx hr
      induction hr with
      | refl => exact hx
      | tail _ e ih => exact hI.closed _ _ ih.1 ih.2 e
    have hreach : ∀ x y, x ∈ i :: t → Reach g x y → y ∈ i :: t ∨ (s.N y ≠ 0 ∧ y ∉ s.stack) := by
      intro x y hx hr
      induction hr with
      | refl => exact .inl hx
      | tail _ e ih =>
        rcases ih with ih | ih
        · exact hstay _ _ ih e
        · exact .inr (hI.closed _ _ ih.1 ih.2 e)
    have hol : (s.out ++ [sortN (i :: t)]).length = s.out.length + 1 := by simp
    have h0c := h0.outc
    have hMo := hM.outl
    refine ⟨⟨hI.lnum, hI.llow, (offs_len ..).trans hI.lon, hI.cnt, hI.cntw, by show (s.out ++ [sortN (i :: t)]).length ≤ s.count; omega, ?_, ?_, ?_, ?_, ?_, ?_, ?_, ?_, ?_, ?_, ?_⟩, hM.keepN, hM.keepL, ⟨[], (List.append_nil _).symm, by simp, by simp⟩, hNi, hM.cnt, .inl ⟨hlow, fun y hy => ?_⟩, ?_, by show (s.out ++ [sortN (i :: t)]).length + s0.count ≤ s0.out.length + s.count; omega⟩
    · exact fun x hx => hI.mem x (hmemS.2 (.inl hx))
    · intro x hx
      show (offs (i :: t) s.on).getD x false = true ↔ x ∈ s0.stack
      rw [offs_get, Bool.and_eq_true, show (s.on.getD x false = true) = (s.O x = true) from rfl, hI.on x hx, hmemS]
      simp only [Bool.not_eq_true', decide_eq_false_iff_not]
      exact ⟨fun h => h.1.resolve_right h.2, fun h => ⟨.inl h, fun h' => hdis h' h⟩⟩
    · exact hinc.1
    · exact hfwd.1
    · intro x
      show (∃ p ∈ s.out ++ [sortN (i :: t)], x ∈ p) ↔ s.N x ≠ 0 ∧ x ∉ s0.stack
      constructor
      · rintro ⟨p, hp, hx⟩
        rcases List.mem_append.1 hp with hp | hp
        · obtain ⟨h1, h2⟩ := (hI.outs x).1 ⟨p, hp, hx⟩
          exact ⟨h1, fun h => h2 (hmemS.2 (.inl h))⟩
        · rw [List.mem_singleton.1 hp, hsm] at hx
          exact ⟨(hI.mem x (hmemS.2 (.inr hx))).2, hdis hx⟩
      · rintro ⟨h1, h2⟩
        by_cases hx : x ∈ i :: t
        · exact ⟨_, List.mem_append_right _ (List.mem_singleton_self _), hsm.2 hx⟩
        · obtain ⟨p, hp, hxp⟩ := (hI.outs x).2 ⟨h1, fun h => (hmemS.1 h).elim h2 hx⟩
          exact ⟨p, List.mem_append_left _ hp, hxp⟩
    · intro p hp
      rcases List.mem_append.1 hp with hp | hp
      · exact hI.scc p hp
      · rw [List.mem_singleton.1 hp]
        refine ⟨fun e => ?_, sortN_lt hnd, fun x hx y => ?_⟩
        · have := hsm.2 (List.mem_cons_self (a := i) (l := t))
          rw [e] at this; cases this
        · rw [hsm] at hx ⊢
          constructor
          · intro hy
            exact ⟨(hfrom x hx).trans (hto y hy), (hfrom y hy).trans (hto x hx)⟩
          · rintro ⟨h1, h2⟩
            rcases hreach x y hx h1 with h | h
            · exact h
            · exact absurd (hmemS.2 (.inr hx)) (hclosed y x h h2).2
    · show (s.out ++ [sortN (i :: t)]).Pairwise _
      rw [List.pairwise_append]
      refine ⟨hI.disj, List.pairwise_singleton .., fun p hp q hq x hx hxq => ?_⟩
      rw [List.mem_singleton.1 hq, hsm] at hxq
      exact ((hI.outs x).1 ⟨p, hp, hx⟩).2 (hmemS.2 (.inr hxq))
    · intro x y hx hxs he
      show s.N y ≠ 0 ∧ y ∉ s0.stack
      by_cases hxp : x ∈ i :: t
      · rcases hstay x y hxp he with h | h
        · exact ⟨(hI.mem y (hmemS.2 (.inr h))).2, hdis h⟩
        · exact ⟨h.1, fun h' => h.2 (hmemS.2 (.inl h'))⟩
      · obtain ⟨h1, h2⟩ := hI.closed x y hx (fun h => (hmemS.1 h).elim hxs hxp) he
        exact ⟨h1, fun h => h2 (hmemS.2 (.inl h))⟩
    · exact hblack
    · intro y hy
      obtain ⟨x, hx, h1, h2⟩ := hI.back y (hmemS.2 (.inl hy))
      rcases List.mem_cons.1 hx with rfl | hxg
      · have := hlt hy
        rw [h0s hy] at h1
        omega
      · exact ⟨x, hxg, h1, h2⟩
    · exact h0.gr
    · show _ < s.L i
      rw [hlow]; exact hlt hy
    · exact ⟨Nat.le_trans (Nat.le_of_eq hlow) (hI.cnt i), hM.lpos⟩
  · rw [if_neg hlow]
    obtain ⟨z, hz, hz1, hz2⟩ := hM.low.resolve_left hlow
    have hle := hM.le
    refine ⟨⟨hI.lnum, hI.llow, hI.lon, hI.cnt, hI.cntw, hI.outc, hI.mem, hI.on, hI.inc, hI.fwd, hI.outs, hI.scc, hI.disj, hI.closed, hblack, ?_, ?_⟩, hM.keepN, hM.keepL, ⟨i :: t, ht, ?_, ?_⟩, hNi, hM.cnt, .inr ⟨z, hz, hz1, hz2⟩, ?_, by have := hM.outl; omega⟩
    · intro y hy
      obtain ⟨x, hx, h1, h2⟩ := hI.back y hy
      rcases List.mem_cons.1 hx with rfl | hxg
      · obtain ⟨x', hx', h1', h2'⟩ := hI.back z (by rw [ht]; exact List.mem_append_left _ hz)
        rw [h0s hz] at h1'
        rcases List.mem_cons.1 hx' with rfl | hxg'
        · omega
        · exact ⟨x', hxg', by omega, h2.trans (hz2.trans h2')⟩
      · exact ⟨x, hxg, h1, h2⟩
    · exact fun x hx => hI.gr x (List.mem_cons_of_mem _ hx)
    · intro x hx
      rcases List.mem_cons.1 hx with rfl | hx
      · exact hw
      · exact htw x hx
    · intro x hx y hy he
      rcases List.mem_cons.1 hx with rfl | hx
      · exact hei y hy he
      · exact hte x hx y hy he
    · exact ⟨Nat.le_trans hle (hI.cnt i), hM.lpos⟩
set_option maxRecDepth 100000 in
theorem edge_lt {g : G} {i k : Nat} (e : edge g i k) : i < g.length := by
  unfold edge at e
  apply Nat.lt_of_not_le
  intro h
  rw [List.getD_eq_getElem?_getD, List.getElem?_eq_none h] at e
  cases e
set_option maxRecDepth 100000 in
theorem inc_len (f : Nat → Nat) (c : Nat) : ∀ {l : List Nat}, l.Pairwise (fun a b => f a < f b) → (∀ x ∈ l, f x ≠ 0 ∧ f x ≤ c) → l.length ≤ c
  | [], _, _ => Nat.zero_le _
  | [a], _, h => by have := h a (List.mem_singleton_self _); show 1 ≤ c; omega
  | a :: b :: l, hp, h => by
    have hp' := List.pairwise_cons.1 hp
    have ih := inc_len (fun x => f x - f a) (c - f a) (l := b :: l) (hp'.2.imp_of_mem fun {x y} hx _ hxy => by have := hp'.1 x hx; show f x - f a < f y - f a; omega) (fun x hx => by
      have h1 := hp'.1 x hx
      have h2 := h x (List.mem_cons_of_mem _ hx)
      show f x - f a ≠ 0 ∧ f x - f a ≤ c - f a
      omega)
    have h3 := h a (List.mem_cons_self ..)
    have h4 := h b (List.mem_cons_of_mem _ (List.mem_cons_self ..))
    have h5 := hp'.1 b (List.mem_cons_self ..)
    simp only [List.length_cons] at ih ⊢
    omega
set_option maxRecDepth 100000 in
theorem stack_len {gray : List Nat} {s : TS} (hI : Inv g gray s) : s.stack.length ≤ s.count := inc_len s.N s.count hI.inc fun x hx => ⟨(hI.mem x hx).2, hI.cnt x⟩
set_option maxRecDepth 100000 in
theorem count_le {gray : List Nat} {s : TS} (hI : Inv g gray s) : s.count ≤ g.length := by have := hI.cntw; omega
set_option maxRecDepth 100000 in
theorem mem_edge {g : G} {i k : Nat} (h : k ∈ g.getD i []) : edge g i k := h
set_option maxRecDepth 100000 in
theorem enter_spec (hg : GOk g) : ∀ (f : Nat) (gray : List Nat) (s : TS) (i : Nat), Inv g gray s → i < g.length → s.N i = 0 → (∀ x ∈ gray, Reach g x i) → g.length ≤ f + s.count → Post g gray s i (enterF g f i s)
  | 0, gray, s, i, hI, hi, hw, _, hf => by
    have := count_zero_pos (hI.lnum.symm ▸ hi) hw
    have := hI.cntw
    omega
  | f + 1, gray, s, i, hI, hi, hw, hgr, hf => by
    have hM := visits_mid (fun gray s k => enter_spec hg f gray s k) hI hi hw hgr hf (g.getD i []) [] _ (fun k hk => ⟨hk, hg i k hk⟩) (start_mid hI hi hw hgr)
    exact close_post (l := [] ++ g.getD i []) (fun k hk => hk) hI hi hw hM
end
end Go.Proofs.Ytfokjpmcifkoeaa.Scc
