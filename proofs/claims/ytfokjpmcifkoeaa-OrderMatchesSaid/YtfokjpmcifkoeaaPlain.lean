/- Parts of this proof, joined. No condition. -/
namespace Go.Proofs.Ytfokjpmcifkoeaa.Scc
abbrev G := List (List Nat)
def edge (g : G) (i k : Nat) : Prop := k ∈ g.getD i []
/-- All numbers are nodes. -/
def GOk (g : G) : Prop := ∀ i k, edge g i k → k < g.length
inductive Reach (g : G) : Nat → Nat → Prop
  | refl (i : Nat) : Reach g i i
  | tail {i j k : Nat} (h : Reach g i j) (e : edge g j k) : Reach g i k
set_option maxRecDepth 100000 in
theorem Reach.trans {g : G} {i j k : Nat} (h : Reach g i j) (h' : Reach g j k) : Reach g i k := by
  induction h' with
  | refl => exact h
  | tail _ e ih => exact ih.tail e
set_option maxRecDepth 100000 in
theorem Reach.edge {g : G} {i k : Nat} (e : Go.Proofs.Ytfokjpmcifkoeaa.Scc.edge g i k) : Reach g i k := (Reach.refl i).tail e

/-- What the search keeps. -/
structure TS where
  num : List Nat
  low : List Nat
  on : List Bool
  stack : List Nat
  out : List (List Nat)
  count : Nat
def TS.N (s : TS) (x : Nat) : Nat := s.num.getD x 0
def TS.L (s : TS) (x : Nat) : Nat := s.low.getD x 0
def TS.O (s : TS) (x : Nat) : Bool := s.on.getD x false
def TS.enter (s : TS) (i : Nat) : TS := ⟨s.num.set i (s.count + 1), s.low.set i (s.count + 1), s.on.set i true, s.stack ++ [i], s.out, s.count + 1⟩
def insN (x : Nat) : List Nat → List Nat
  | [] => [x]
  | y :: l => if x ≤ y then x :: y :: l else y :: insN x l
def sortN : List Nat → List Nat
  | [] => []
  | x :: l => insN x (sortN l)
def offs (l : List Nat) (on : List Bool) : List Bool := l.foldl (fun o k => o.set k false) on
def TS.pop (s : TS) (i : Nat) : TS :=
  let at_ := s.stack.idxOf i
  ⟨s.num, s.low, offs (s.stack.drop at_) s.on, s.stack.take at_, s.out ++ [sortN (s.stack.drop at_)], s.count⟩
def TS.lower (s : TS) (i v : Nat) : TS := { s with low := s.low.set i (min (s.L i) v) }
def visit (rec : Nat → TS → TS) (i k : Nat) (s : TS) : TS :=
  if s.N k = 0 then (rec k s).lower i ((rec k s).L k)
  else if s.O k then s.lower i (s.N k) else s
def visits (rec : Nat → TS → TS) (i : Nat) (l : List Nat) (s : TS) : TS := l.foldl (fun s k => visit rec i k s) s
def TS.close (s : TS) (i : Nat) : TS := if s.L i = s.N i then s.pop i else s
def enterF (g : G) : Nat → Nat → TS → TS
  | 0, _, s => s
  | f + 1, i, s => (visits (enterF g f) i (g.getD i []) (s.enter i)).close i

structure Inv (g : G) (gray : List Nat) (s : TS) : Prop where
  lnum : s.num.length = g.length
  llow : s.low.length = g.length
  lon : s.on.length = g.length
  cnt : ∀ x, s.N x ≤ s.count
  cntw : s.count + s.num.count 0 = g.length
  outc : s.out.length ≤ s.count
  mem : ∀ x ∈ s.stack, x < g.length ∧ s.N x ≠ 0
  on : ∀ x, x < g.length → (s.O x = true ↔ x ∈ s.stack)
  inc : s.stack.Pairwise (fun a b => s.N a < s.N b)
  fwd : s.stack.Pairwise (fun a b => Reach g a b)
  outs : ∀ x, (∃ p ∈ s.out, x ∈ p) ↔ (s.N x ≠ 0 ∧ x ∉ s.stack)
  scc : ∀ p ∈ s.out, p ≠ [] ∧ p.Pairwise (· < ·) ∧ ∀ x ∈ p, ∀ y, y ∈ p ↔ (Reach g x y ∧ Reach g y x)
  disj : s.out.Pairwise (fun p q => ∀ x ∈ p, x ∉ q)
  closed : ∀ x y, s.N x ≠ 0 → x ∉ s.stack → edge g x y → s.N y ≠ 0 ∧ y ∉ s.stack
  black : ∀ x y, s.N x ≠ 0 → x ∉ gray → edge g x y → s.N y ≠ 0
  back : ∀ y ∈ s.stack, ∃ x ∈ gray, s.N x ≤ s.N y ∧ Reach g y x
  gr : ∀ x ∈ gray, x ∈ s.stack

/-- What entering i leaves. -/
structure Post (g : G) (gray : List Nat) (s : TS) (i : Nat) (s' : TS) : Prop where
  inv : Inv g gray s'
  keepN : ∀ x, s.N x ≠ 0 → s'.N x = s.N x
  keepL : ∀ x, s.N x ≠ 0 → s'.L x = s.L x
  app : ∃ t, s'.stack = s.stack ++ t ∧ (∀ x ∈ t, s.N x = 0) ∧ ∀ x ∈ t, ∀ y ∈ s.stack, edge g x y → s'.L i ≤ s.N y
  vis : s'.N i ≠ 0
  cnt : s.count < s'.count
  low : (s'.L i = s'.N i ∧ ∀ y ∈ s.stack, s.N y < s'.L i) ∨ ∃ z ∈ s.stack, s'.L i = s.N z ∧ Reach g i z
  lpos : s'.L i ≤ s'.count ∧ s'.L i ≠ 0
  outl : s'.out.length + s.count ≤ s.out.length + s'.count

set_option maxRecDepth 100000 in
theorem getD_set {α : Type} (l : List α) (i x : Nat) (a d : α) (hi : i < l.length) : (l.set i a).getD x d = if x = i then a else l.getD x d := by
  simp only [List.getD_eq_getElem?_getD]
  rw [List.getElem?_set]
  by_cases h : i = x
  · subst h; simp [hi]
  · simp [h, Ne.symm h]
set_option maxRecDepth 100000 in
theorem getD_ne {α : Type} {l : List α} {x : Nat} {d : α} (h : l.getD x d ≠ d) : x < l.length := by
  apply Nat.lt_of_not_le
  intro hle
  apply h
  simp [List.getD_eq_getElem?_getD, List.getElem?_eq_none hle]
set_option maxRecDepth 100000 in
theorem count_zero_pos {l : List Nat} {i : Nat} (hi : i < l.length) (h : l.getD i 0 = 0) : 0 < l.count 0 := by
  apply List.count_pos_iff.2
  simp only [List.getD_eq_getElem?_getD, List.getElem?_eq_getElem hi, Option.getD_some] at h
  exact h ▸ List.getElem_mem hi
set_option maxRecDepth 100000 in
theorem count_set0 : ∀ (l : List Nat) (i v : Nat), i < l.length → l.getD i 0 = 0 → v ≠ 0 → (l.set i v).count 0 + 1 = l.count 0
  | [], i, v, h, _, _ => by simp at h
  | a :: l, 0, v, _, h0, hv => by
    simp only [List.getD_cons_zero] at h0
    subst h0
    simp [List.set_cons_zero, hv]
  | a :: l, i + 1, v, h, h0, hv => by
    have := count_set0 l i v (by simpa using h) (by simpa using h0) hv
    simp only [List.set_cons_succ, List.count_cons]
    omega
section
variable {g : G} {gray : List Nat} {s : TS} {i : Nat}
set_option maxRecDepth 100000 in
theorem N_lt (hI : Inv g gray s) {x : Nat} (h : s.N x ≠ 0) : x < g.length := hI.lnum ▸ getD_ne h
set_option maxRecDepth 100000 in
theorem enter_N (hI : Inv g gray s) (hi : i < g.length) (x : Nat) : (s.enter i).N x = if x = i then s.count + 1 else s.N x := getD_set _ _ _ _ _ (hI.lnum.symm ▸ hi)
set_option maxRecDepth 100000 in
theorem enter_L (hI : Inv g gray s) (hi : i < g.length) (x : Nat) : (s.enter i).L x = if x = i then s.count + 1 else s.L x := getD_set _ _ _ _ _ (hI.llow.symm ▸ hi)
set_option maxRecDepth 100000 in
theorem enter_O (hI : Inv g gray s) (hi : i < g.length) (x : Nat) : (s.enter i).O x = if x = i then true else s.O x := getD_set _ _ _ _ _ (hI.lon.symm ▸ hi)

set_option maxRecDepth 100000 in
theorem enter_inv (hI : Inv g gray s) (hi : i < g.length) (hw : s.N i = 0) (hg : ∀ x ∈ gray, Reach g x i) : Inv g (i :: gray) (s.enter i) := by
  have hN := enter_N hI hi
  have hns : i ∉ s.stack := fun h => (hI.mem i h).2 hw
  have hne : ∀ {x}, x ∈ s.stack → x ≠ i := fun h e => hns (e ▸ h)
  refine ⟨by simp [TS.enter, hI.lnum], by simp [TS.enter, hI.llow], by simp [TS.enter, hI.lon], ?_, ?_, Nat.le_succ_of_le hI.outc, ?_, ?_, ?_, ?_, ?_, hI.scc, hI.disj, ?_, ?_, ?_, ?_⟩
  · intro x
    rw [hN]
    show _ ≤ s.count + 1
    split
    · omega
    · have := hI.cnt x; omega
  · have := count_set0 s.num i (s.count + 1) (hI.lnum.symm ▸ hi) hw (by omega)
    have := hI.cntw
    show s.count + 1 + (s.num.set i (s.count + 1)).count 0 = _
    omega
  · intro x hx
    rw [hN]
    rcases List.mem_append.1 hx with hx | hx
    · rw [if_neg (hne hx)]; exact hI.mem x hx
    · rw [List.mem_singleton.1 hx, if_pos rfl]; exact ⟨hi, by omega⟩
  · intro x hx
    rw [enter_O hI hi]
    show _ ↔ x ∈ s.stack ++ [i]
    rw [List.mem_append, List.mem_singleton]
    by_cases h : x = i
    · simp [h]
    · simp only [h, if_false, or_false]; exact hI.on x hx
  · show (s.stack ++ [i]).Pairwise _
    rw [List.pairwise_append]
    refine ⟨hI.inc.imp_of_mem fun ha hb h => ?_, List.pairwise_singleton .., fun a ha b hb => ?_⟩
    · rw [hN, hN, if_neg (hne ha), if_neg (hne hb)]; exact h
    · rw [List.mem_singleton.1 hb, hN, hN, if_neg (hne ha), if_pos rfl]; have := hI.cnt a; omega
  · show (s.stack ++ [i]).Pairwise _
    rw [List.pairwise_append]
    refine ⟨hI.fwd, List.pairwise_singleton .., fun a ha b hb => ?_⟩
    rw [List.mem_singleton.1 hb]
    obtain ⟨x, hx, _, hr⟩ := hI.back a ha
    exact hr.trans (hg x hx)
  · intro x
    show (∃ p ∈ s.out, x ∈ p) ↔ _ ∧ x ∉ s.stack ++ [i]
    rw [hI.outs, hN, List.mem_append, List.mem_singleton]
    by_cases h : x = i
    · subst h; simp [hw]
    · simp [h]
  · intro x y hx hxs he
    have hxs : x ∉ s.stack ++ [i] := hxs
    show _ ∧ y ∉ s.stack ++ [i]
    rw [List.mem_append, List.mem_singleton] at hxs ⊢
    rw [hN] at hx ⊢
    rw [if_neg fun h => hxs (.inr h)] at hx
    obtain ⟨h1, h2⟩ := hI.closed x y hx (fun h => hxs (.inl h)) he
    have hyi : y ≠ i := fun h => h1 (h ▸ hw)
    rw [if_neg hyi]
    exact ⟨h1, fun h => h.elim h2 hyi⟩
  · intro x y hx hxg he
    rw [hN] at hx ⊢
    have hxi : x ≠ i := fun h => hxg (h ▸ List.mem_cons_self ..)
    rw [if_neg hxi] at hx
    have := hI.black x y hx (fun h => hxg (List.mem_cons_of_mem _ h)) he
    split
    · omega
    · exact this
  · intro y hy
    rcases List.mem_append.1 hy with hy | hy
    · obtain ⟨x, hx, h1, h2⟩ := hI.back y hy
      refine ⟨x, List.mem_cons_of_mem _ hx, ?_, h2⟩
      rw [hN, hN, if_neg (hne hy), if_neg (hne (hI.gr x hx))]; exact h1
    · rw [List.mem_singleton.1 hy]
      exact ⟨i, List.mem_cons_self .., Nat.le_refl _, .refl _⟩
  · intro x hx
    show x ∈ s.stack ++ [i]
    rcases List.mem_cons.1 hx with rfl | hx
    · simp
    · exact List.mem_append_left _ (hI.gr x hx)

/-- Within i: s0 is the state when i was entered, s the state behind the successors of l. -/
structure Mid (g : G) (gray : List Nat) (s0 : TS) (i : Nat) (l : List Nat) (s : TS) : Prop where
  inv : Inv g (i :: gray) s
  keepN : ∀ x, s0.N x ≠ 0 → s.N x = s0.N x
  keepL : ∀ x, s0.N x ≠ 0 → s.L x = s0.L x
  ni : s.N i = s0.count + 1
  cnt : s0.count < s.count
  app : ∃ t, s.stack = s0.stack ++ i :: t ∧ (∀ x ∈ t, s0.N x = 0) ∧ ∀ x ∈ t, ∀ y ∈ s0.stack, edge g x y → s.L i ≤ s0.N y
  done : ∀ k ∈ l, s.N k ≠ 0 ∧ (k ∈ s0.stack → s.L i ≤ s0.N k)
  low : s.L i = s.N i ∨ ∃ z ∈ s0.stack, s.L i = s0.N z ∧ Reach g i z
  le : s.L i ≤ s.N i
  lpos : s.L i ≠ 0
  outl : s.out.length + s0.count + 1 ≤ s0.out.length + s.count

set_option maxRecDepth 100000 in
theorem lower_inv {gray : List Nat} {v : Nat} (hI : Inv g gray s) : Inv g gray (s.lower i v) :=
  ⟨hI.lnum, (List.length_set ..).trans hI.llow, hI.lon, hI.cnt, hI.cntw, hI.outc, hI.mem, hI.on, hI.inc, hI.fwd, hI.outs, hI.scc, hI.disj, hI.closed, hI.black, hI.back, hI.gr⟩
set_option maxRecDepth 100000 in
theorem lower_L {gray : List Nat} {v : Nat} (hI : Inv g gray s) (hi : i < g.length) (x : Nat) : (s.lower i v).L x = if x = i then min (s.L i) v else s.L x := getD_set _ _ _ _ _ (hI.llow.symm ▸ hi)

set_option maxRecDepth 100000 in
theorem start_mid (hI : Inv g gray s) (hi : i < g.length) (hw : s.N i = 0) (hg : ∀ x ∈ gray, Reach g x i) : Mid g gray s i [] (s.enter i) := by
  have hN := enter_N hI hi
  have hL := enter_L hI hi
  have hne : ∀ {x}, s.N x ≠ 0 → x ≠ i := fun h e => h (e ▸ hw)
  refine ⟨enter_inv hI hi hw hg, fun x hx => by rw [hN, if_neg (hne hx)], fun x hx => by rw [hL, if_neg (hne hx)], by rw [hN, if_pos rfl], Nat.lt_succ_self _, ⟨[], rfl, by simp, by simp⟩, by simp, .inl (by rw [hN, hL, if_pos rfl, if_pos rfl]), by rw [hN, hL, if_pos rfl, if_pos rfl]; omega, by rw [hL, if_pos rfl]; omega, by show s.out.length + s.count + 1 ≤ s.out.length + (s.count + 1); omega⟩

set_option maxRecDepth 100000 in
/-- One successor more. -/
theorem mid_step {f : Nat} {rec : Nat → TS → TS} {s0 : TS} {l : List Nat} {k : Nat}
    (hrec : ∀ gray s k, Inv g gray s → k < g.length → s.N k = 0 → (∀ x ∈ gray, Reach g x k) → g.length ≤ f + s.count → Post g gray s k (rec k s))
    (h0 : Inv g gray s0) (hi : i < g.length) (hw : s0.N i = 0) (hg : ∀ x ∈ gray, Reach g x i) (hf : g.length ≤ f + 1 + s0.count) (hk : edge g i k) (hkn : k < g.length) (hM : Mid g gray s0 i l s) : Mid g gray s0 i (l ++ [k]) (visit rec i k s) := by
  have hgi : ∀ x ∈ i :: gray, Reach g x k := by
    intro x hx
    rcases List.mem_cons.1 hx with rfl | hx
    · exact .edge hk
    · exact (hg x hx).tail hk
  obtain ⟨t, ht, htw, hte⟩ := hM.app
  have hist : i ∈ s.stack := by rw [ht]; simp
  have h0s : ∀ {y}, y ∈ s0.stack → s.N y = s0.N y := fun hy => hM.keepN _ (h0.mem _ hy).2
  unfold visit
  by_cases hkw : s.N k = 0
  · rw [if_pos hkw]
    have hc := hM.cnt
    have hP := hrec (i :: gray) s k hM.inv hkn hkw hgi (by omega)
    generalize rec k s = r at hP ⊢
    have hki : k ≠ i := fun e => by rw [e, hM.ni] at hkw; omega
    have hLr := lower_L (i := i) (v := r.L k) hP.inv hi
    have hNi : s.N i ≠ 0 := by rw [hM.ni]; omega
    obtain ⟨t2, ht2, ht2w, ht2e⟩ := hP.app
    have hLi : (r.lower i (r.L k)).L i = min (s.L i) (r.L k) := by rw [hLr, if_pos rfl, hP.keepL i hNi]
    have hNr : ∀ x, (r.lower i (r.L k)).N x = r.N x := fun _ => rfl
    have k0 : ∀ x, s0.N x ≠ 0 → s.N x ≠ 0 := fun x hx => by rw [hM.keepN x hx]; exact hx
    refine ⟨lower_inv hP.inv, ?_, ?_, ?_, ?_, ?_, ?_, ?_, ?_, ?_, by have h1 := hP.outl; have h2 := hM.outl; show r.out.length + s0.count + 1 ≤ s0.out.length + r.count; omega⟩
    · intro x hx; rw [hNr, hP.keepN x (k0 x hx), hM.keepN x hx]
    · intro x hx
      rw [hLr, if_neg fun (e : x = i) => hx (e ▸ hw), hP.keepL x (k0 x hx), hM.keepL x hx]
    · rw [hNr, hP.keepN i hNi, hM.ni]
    · exact Nat.lt_trans hM.cnt hP.cnt
    · refine ⟨t ++ t2, ?_, ?_, ?_⟩
      · show r.stack = _
        rw [ht2, ht]; simp
      · intro x hx
        rcases List.mem_append.1 hx with hx | hx
        · exact htw x hx
        · exact Classical.byContradiction fun h => k0 x h (ht2w x hx)
      · intro x hx y hy he
        rw [hLi]
        rcases List.mem_append.1 hx with hx | hx
        · exact Nat.le_trans (Nat.min_le_left ..) (hte x hx y hy he)
        · refine Nat.le_trans (Nat.min_le_right ..) ?_
          rw [← h0s hy]
          exact ht2e x hx y (by rw [ht]; exact List.mem_append_left _ hy) he
    · intro x hx
      rw [hNr, hLi]
      rcases List.mem_append.1 hx with hx | hx
      · obtain ⟨h1, h2⟩ := hM.done x hx
        exact ⟨by rw [hP.keepN x h1]; exact h1, fun h => Nat.le_trans (Nat.min_le_left ..) (h2 h)⟩
      · rw [List.mem_singleton.1 hx]
        exact ⟨hP.vis, fun h => absurd hkw (by rw [h0s h]; exact (h0.mem _ h).2)⟩
    · rw [hLi, hNr, hP.keepN i hNi]
      by_cases hm : s.L i ≤ r.L k
      · rw [Nat.min_eq_left hm]
        exact hM.low
      · rw [Nat.min_eq_right (by omega)]
        rcases hP.low with ⟨_, h2⟩ | ⟨z, hz, h1, h2⟩
        · have := h2 i hist
          have := hM.le
          omega
        · rw [ht] at hz
          rcases List.mem_append.1 hz with hz | hz
          · exact .inr ⟨z, hz, by rw [h1, h0s hz], (Reach.edge hk).trans h2⟩
          · rcases List.mem_cons.1 hz with rfl | hz
            · exact .inl h1
            · -- z is above i
              have hp := hM.inv.inc
              rw [ht, List.pairwise_append] at hp
              have := (List.pairwise_cons.1 hp.2.1).1 z hz
              have := hM.le
              omega
    · rw [hLi, hNr, hP.keepN i hNi]; exact Nat.le_trans (Nat.min_le_left ..) hM.le
    · rw [hLi]
      have := hM.lpos
      have := hP.lpos.2
      omega
  · rw [if_neg hkw]
    by_cases hko : s.O k = true
    · rw [if_pos hko]
      have hks : k ∈ s.stack := (hM.inv.on k hkn).1 hko
      have hLr := lower_L (i := i) (v := s.N k) hM.inv hi
      have hLi : (s.lower i (s.N k)).L i = min (s.L i) (s.N k) := by rw [hLr, if_pos rfl]
      have hNr : ∀ x, (s.lower i (s.N k)).N x = s.N x := fun _ => rfl
      refine ⟨lower_inv hM.inv, hM.keepN, ?_, hM.ni, hM.cnt, ⟨t, ht, htw, ?_⟩, ?_, ?_, ?_, ?_, hM.outl⟩
      · intro x hx
        rw [hLr, if_neg fun (e : x = i) => hx (e ▸ hw), hM.keepL x hx]
      · intro x hx y hy he
        rw [hLi]
        exact Nat.le_trans (Nat.min_le_left ..) (hte x hx y hy he)
      · intro x hx
        rw [hNr, hLi]
        rcases List.mem_append.1 hx with hx | hx
        · obtain ⟨h1, h2⟩ := hM.done x hx
          exact ⟨h1, fun h => Nat.le_trans (Nat.min_le_left ..) (h2 h)⟩
        · rw [List.mem_singleton.1 hx]
          exact ⟨hkw, fun h => by rw [h0s h]; exact Nat.min_le_right ..⟩
      · rw [hLi, hNr]
        by_cases hm : s.L i ≤ s.N k
        · rw [Nat.min_eq_left hm]
          exact hM.low
        · rw [Nat.min_eq_right (by omega)]
          have hks' := hks
          rw [ht] at hks'
          rcases List.mem_append.1 hks' with hz | hz
          · exact .inr ⟨k, hz, h0s hz, .edge hk⟩
          · rcases List.mem_cons.1 hz with rfl | hz
            · exact .inl rfl
            · have hp := hM.inv.inc
              rw [ht, List.pairwise_append] at hp
              have := (List.pairwise_cons.1 hp.2.1).1 k hz
              have := hM.le
              omega
      · rw [hLi, hNr]; exact Nat.le_trans (Nat.min_le_left ..) hM.le
      · rw [hLi]
        have := hM.lpos
        omega
    · rw [if_neg hko]
      refine ⟨hM.inv, hM.keepN, hM.keepL, hM.ni, hM.cnt, ⟨t, ht, htw, hte⟩, ?_, hM.low, hM.le, hM.lpos, hM.outl⟩
      intro x hx
      rcases List.mem_append.1 hx with hx | hx
      · exact hM.done x hx
      · rw [List.mem_singleton.1 hx]
        exact ⟨hkw, fun h => absurd ((hM.inv.on k hkn).2 (by rw [ht]; exact List.mem_append_left _ h)) hko⟩

set_option maxRecDepth 100000 in
theorem visits_mid {f : Nat} {rec : Nat → TS → TS} {s0 : TS}
    (hrec : ∀ gray s k, Inv g gray s → k < g.length → s.N k = 0 → (∀ x ∈ gray, Reach g x k) → g.length ≤ f + s.count → Post g gray s k (rec k s))
    (h0 : Inv g gray s0) (hi : i < g.length) (hw : s0.N i = 0) (hg : ∀ x ∈ gray, Reach g x i) (hf : g.length ≤ f + 1 + s0.count) :
    ∀ (l l0 : List Nat) (s : TS), (∀ k ∈ l, edge g i k ∧ k < g.length) → Mid g gray s0 i l0 s → Mid g gray s0 i (l0 ++ l) (visits rec i l s)
  | [], l0, s, _, hM => by simpa [visits] using hM
  | k :: l, l0, s, hl, hM => by
    have h1 := mid_step hrec h0 hi hw hg hf (hl k (List.mem_cons_self ..)).1 (hl k (List.mem_cons_self ..)).2 hM
    have h2 := visits_mid hrec h0 hi hw hg hf l _ _ (fun x hx => hl x (List.mem_cons_of_mem _ hx)) h1
    simpa [visits, List.append_assoc] using h2

/-! ### sorting -/
set_option maxRecDepth 100000 in
theorem insN_perm (x : Nat) : ∀ l : List Nat, (insN x l).Perm (x :: l)
  | [] => .refl _
  | y :: l => by
    unfold insN
    split
    · exact .refl _
    · exact ((insN_perm x l).cons y).trans (.swap ..)
set_option maxRecDepth 100000 in
theorem sortN_perm : ∀ l : List Nat, (sortN l).Perm l
  | [] => .refl _
  | x :: l => (insN_perm x _).trans ((sortN_perm l).cons x)
set_option maxRecDepth 100000 in
theorem insN_le (x : Nat) : ∀ l : List Nat, l.Pairwise (· ≤ ·) → (insN x l).Pairwise (· ≤ ·)
  | [], _ => List.pairwise_singleton ..
  | y :: l, h => by
    unfold insN
    have h' := List.pairwise_cons.1 h
    split
    · rename_i hle
      exact List.pairwise_cons.2 ⟨fun z hz => by
        rcases List.mem_cons.1 hz with rfl | hz
        · exact hle
        · exact Nat.le_trans hle (h'.1 z hz), h⟩
    · exact List.pairwise_cons.2 ⟨fun z hz => by
        rcases List.mem_cons.1 ((insN_perm x l).mem_iff.1 hz) with rfl | hz
        · omega
        · exact h'.1 z hz, insN_le x l h'.2⟩
set_option maxRecDepth 100000 in
theorem sortN_le : ∀ l : List Nat, (sortN l).Pairwise (· ≤ ·)
  | [] => .nil
  | x :: l => insN_le x _ (sortN_le l)
set_option maxRecDepth 100000 in
theorem sortN_lt {l : List Nat} (h : l.Nodup) : (sortN l).Pairwise (· < ·) := by
  have h1 := sortN_le l
  have h2 : (sortN l).Nodup := (sortN_perm l).nodup_iff.2 h
  exact h1.imp₂ (fun _ _ h1 h2 => Nat.lt_of_le_of_ne h1 h2) h2

set_option maxRecDepth 100000 in
theorem offs_get : ∀ (l : List Nat) (on : List Bool) (x : Nat), (offs l on).getD x false = (on.getD x false && !decide (x ∈ l))
  | [], on, x => by simp [offs]
  | k :: l, on, x => by
    have ih := offs_get l (on.set k false) x
    show (offs l (on.set k false)).getD x false = _
    rw [ih]
    by_cases hk : k < on.length
    · rw [getD_set _ _ _ _ _ hk]
      by_cases h : x = k
      · simp [h]
      · simp [h]
    · rw [List.set_eq_of_length_le (by omega)]
      by_cases h : x = k
      · subst h
        have : on.getD x false = false := by simp [List.getD_eq_getElem?_getD, List.getElem?_eq_none (show on.length ≤ x by omega)]
        rw [this]; simp
      · simp [h]
set_option maxRecDepth 100000 in
theorem offs_len : ∀ (l : List Nat) (on : List Bool), (offs l on).length = on.length
  | [], _ => rfl
  | k :: l, on => (offs_len l (on.set k false)).trans (List.length_set ..)
set_option maxRecDepth 100000 in
theorem idxOf_app {i : Nat} {a t : List Nat} (h : i ∉ a) : (a ++ i :: t).idxOf i = a.length := by
  rw [List.idxOf_append, if_neg h]; simp

set_option maxRecDepth 100000 in
theorem nodup_inc {l : List Nat} (f : Nat → Nat) (h : l.Pairwise (fun a b => f a < f b)) : l.Nodup := h.imp fun h e => by subst e; omega
set_option maxRecDepth 100000 in
/-- The nodes from i on go, as a component. -/
theorem close_post {s0 : TS} {l : List Nat} (hl : ∀ k, edge g i k → k ∈ l) (h0 : Inv g gray s0) (hi : i < g.length) (hw : s0.N i = 0) (hM : Mid g gray s0 i l s) : Post g gray s0 i (s.close i) := by
  obtain ⟨t, ht, htw, hte⟩ := hM.app
  have hI := hM.inv
  have hni := hM.ni
  have hNi : s.N i ≠ 0 := by omega
  have h0s : ∀ {y}, y ∈ s0.stack → s.N y = s0.N y := fun hy => hM.keepN _ (h0.mem _ hy).2
  have hins : i ∉ s0.stack := fun h => (h0.mem i h).2 hw
  have hist : i ∈ s.stack := by rw [ht]; simp
  have hlt : ∀ {y}, y ∈ s0.stack → s0.N y < s.N i := fun {y} hy => by rw [hni]; exact Nat.lt_succ_of_le (h0.cnt y)
  have hinc := hI.inc
  rw [ht, List.pairwise_append] at hinc
  have hfwd := hI.fwd
  rw [ht, List.pairwise_append] at hfwd
  have hge : ∀ {y}, y ∈ i :: t → s.N i ≤ s.N y := by
    intro y hy
    rcases List.mem_cons.1 hy with rfl | hy
    · exact Nat.le_refl _
    · exact Nat.le_of_lt ((List.pairwise_cons.1 hinc.2.1).1 y hy)
  -- edges of i to nodes below
  have hei : ∀ y ∈ s0.stack, edge g i y → s.L i ≤ s0.N y := fun y hy he => (hM.done y (hl y he)).2 hy
  have hblack : ∀ x y, s.N x ≠ 0 → x ∉ gray → edge g x y → s.N y ≠ 0 := by
    intro x y hx hxg he
    by_cases hxi : x = i
    · rw [hxi] at he; exact (hM.done y (hl y he)).1
    · exact hI.black x y hx (fun h => (List.mem_cons.1 h).elim hxi hxg) he
  unfold TS.close
  by_cases hlow : s.L i = s.N i
  · rw [if_pos hlow]
    have hat : s.stack.idxOf i = s0.stack.length := by rw [ht]; exact idxOf_app hins
    have hdrop : s.stack.drop (s.stack.idxOf i) = i :: t := by rw [hat, ht, List.drop_left]
    have htake : s.stack.take (s.stack.idxOf i) = s0.stack := by rw [hat, ht, List.take_left]
    have hp : s.pop i = ⟨s.num, s.low, offs (i :: t) s.on, s0.stack, s.out ++ [sortN (i :: t)], s.count⟩ := by
      unfold TS.pop; simp only [hdrop, htake]
    rw [hp]
    have hmemS : ∀ {x}, x ∈ s.stack ↔ x ∈ s0.stack ∨ x ∈ i :: t := by intro x; rw [ht, List.mem_append]
    have hdis : ∀ {x}, x ∈ i :: t → x ∉ s0.stack := by
      intro x hx hx0
      have := hge hx
      have := hlt hx0
      rw [h0s hx0] at *
      omega
    have hnd : (i :: t).Nodup := nodup_inc s.N hinc.2.1
    have hsm : ∀ {x}, x ∈ sortN (i :: t) ↔ x ∈ i :: t := (sortN_perm _).mem_iff
    -- all of the part reach each other
    have hto : ∀ y ∈ i :: t, Reach g i y := by
      intro y hy
      rcases List.mem_cons.1 hy with rfl | hy
      · exact .refl _
      · exact (List.pairwise_cons.1 hfwd.2.1).1 y hy
    have hfrom : ∀ y ∈ i :: t, Reach g y i := by
      intro y hy
      obtain ⟨x, hx, h1, h2⟩ := hI.back y (hmemS.2 (.inr hy))
      have hx' := hI.gr x hx
      rcases List.mem_cons.1 hx with rfl | hxg
      · exact h2
      · exact h2.trans (hfwd.2.2 x (h0.gr x hxg) i (List.mem_cons_self ..))
    -- edges of the part stay in it or lead to what is done
    have hstay : ∀ x y, x ∈ i :: t → edge g x y → y ∈ i :: t ∨ (s.N y ≠ 0 ∧ y ∉ s.stack) := by
      intro x y hx he
      have hxs : s.N x ≠ 0 := (hI.mem x (hmemS.2 (.inr hx))).2
      have hxg : x ∉ gray := fun h => hdis hx (h0.gr x h)
      have hy := hblack x y hxs hxg he
      by_cases hys : y ∈ s.stack
      · rcases hmemS.1 hys with hy0 | hy1
        · exfalso
          have : s.L i ≤ s0.N y := by
            rcases List.mem_cons.1 hx with rfl | hx
            · exact hei y hy0 he
            · exact hte x hx y hy0 he
          have := hlt hy0
          omega
        · exact .inl hy1
      · exact .inr ⟨hy, hys⟩
    have hclosed : ∀ x y, (s.N x ≠ 0 ∧ x ∉ s.stack) → Reach g x y → (s.N y ≠ 0 ∧ y ∉ s.stack) := by
      intro x y hx hr
      induction hr with
      | refl => exact hx
      | tail _ e ih => exact hI.closed _ _ ih.1 ih.2 e
    have hreach : ∀ x y, x ∈ i :: t → Reach g x y → y ∈ i :: t ∨ (s.N y ≠ 0 ∧ y ∉ s.stack) := by
      intro x y hx hr
      induction hr with
      | refl => exact .inl hx
      | tail _ e ih =>
        rcases ih with ih | ih
        · exact hstay _ _ ih e
        · exact .inr (hI.closed _ _ ih.1 ih.2 e)
    have hol : (s.out ++ [sortN (i :: t)]).length = s.out.length + 1 := by simp
    have h0c := h0.outc
    have hMo := hM.outl
    refine ⟨⟨hI.lnum, hI.llow, (offs_len ..).trans hI.lon, hI.cnt, hI.cntw, by show (s.out ++ [sortN (i :: t)]).length ≤ s.count; omega, ?_, ?_, ?_, ?_, ?_, ?_, ?_, ?_, ?_, ?_, ?_⟩, hM.keepN, hM.keepL, ⟨[], (List.append_nil _).symm, by simp, by simp⟩, hNi, hM.cnt, .inl ⟨hlow, fun y hy => ?_⟩, ?_, by show (s.out ++ [sortN (i :: t)]).length + s0.count ≤ s0.out.length + s.count; omega⟩
    · exact fun x hx => hI.mem x (hmemS.2 (.inl hx))
    · intro x hx
      show (offs (i :: t) s.on).getD x false = true ↔ x ∈ s0.stack
      rw [offs_get, Bool.and_eq_true, show (s.on.getD x false = true) = (s.O x = true) from rfl, hI.on x hx, hmemS]
      simp only [Bool.not_eq_true', decide_eq_false_iff_not]
      exact ⟨fun h => h.1.resolve_right h.2, fun h => ⟨.inl h, fun h' => hdis h' h⟩⟩
    · exact hinc.1
    · exact hfwd.1
    · intro x
      show (∃ p ∈ s.out ++ [sortN (i :: t)], x ∈ p) ↔ s.N x ≠ 0 ∧ x ∉ s0.stack
      constructor
      · rintro ⟨p, hp, hx⟩
        rcases List.mem_append.1 hp with hp | hp
        · obtain ⟨h1, h2⟩ := (hI.outs x).1 ⟨p, hp, hx⟩
          exact ⟨h1, fun h => h2 (hmemS.2 (.inl h))⟩
        · rw [List.mem_singleton.1 hp, hsm] at hx
          exact ⟨(hI.mem x (hmemS.2 (.inr hx))).2, hdis hx⟩
      · rintro ⟨h1, h2⟩
        by_cases hx : x ∈ i :: t
        · exact ⟨_, List.mem_append_right _ (List.mem_singleton_self _), hsm.2 hx⟩
        · obtain ⟨p, hp, hxp⟩ := (hI.outs x).2 ⟨h1, fun h => (hmemS.1 h).elim h2 hx⟩
          exact ⟨p, List.mem_append_left _ hp, hxp⟩
    · intro p hp
      rcases List.mem_append.1 hp with hp | hp
      · exact hI.scc p hp
      · rw [List.mem_singleton.1 hp]
        refine ⟨fun e => ?_, sortN_lt hnd, fun x hx y => ?_⟩
        · have := hsm.2 (List.mem_cons_self (a := i) (l := t))
          rw [e] at this; cases this
        · rw [hsm] at hx ⊢
          constructor
          · intro hy
            exact ⟨(hfrom x hx).trans (hto y hy), (hfrom y hy).trans (hto x hx)⟩
          · rintro ⟨h1, h2⟩
            rcases hreach x y hx h1 with h | h
            · exact h
            · exact absurd (hmemS.2 (.inr hx)) (hclosed y x h h2).2
    · show (s.out ++ [sortN (i :: t)]).Pairwise _
      rw [List.pairwise_append]
      refine ⟨hI.disj, List.pairwise_singleton .., fun p hp q hq x hx hxq => ?_⟩
      rw [List.mem_singleton.1 hq, hsm] at hxq
      exact ((hI.outs x).1 ⟨p, hp, hx⟩).2 (hmemS.2 (.inr hxq))
    · intro x y hx hxs he
      show s.N y ≠ 0 ∧ y ∉ s0.stack
      by_cases hxp : x ∈ i :: t
      · rcases hstay x y hxp he with h | h
        · exact ⟨(hI.mem y (hmemS.2 (.inr h))).2, hdis h⟩
        · exact ⟨h.1, fun h' => h.2 (hmemS.2 (.inl h'))⟩
      · obtain ⟨h1, h2⟩ := hI.closed x y hx (fun h => (hmemS.1 h).elim hxs hxp) he
        exact ⟨h1, fun h => h2 (hmemS.2 (.inl h))⟩
    · exact hblack
    · intro y hy
      obtain ⟨x, hx, h1, h2⟩ := hI.back y (hmemS.2 (.inl hy))
      rcases List.mem_cons.1 hx with rfl | hxg
      · have := hlt hy
        rw [h0s hy] at h1
        omega
      · exact ⟨x, hxg, h1, h2⟩
    · exact h0.gr
    · show _ < s.L i
      rw [hlow]; exact hlt hy
    · exact ⟨Nat.le_trans (Nat.le_of_eq hlow) (hI.cnt i), hM.lpos⟩
  · rw [if_neg hlow]
    obtain ⟨z, hz, hz1, hz2⟩ := hM.low.resolve_left hlow
    have hle := hM.le
    refine ⟨⟨hI.lnum, hI.llow, hI.lon, hI.cnt, hI.cntw, hI.outc, hI.mem, hI.on, hI.inc, hI.fwd, hI.outs, hI.scc, hI.disj, hI.closed, hblack, ?_, ?_⟩, hM.keepN, hM.keepL, ⟨i :: t, ht, ?_, ?_⟩, hNi, hM.cnt, .inr ⟨z, hz, hz1, hz2⟩, ?_, by have := hM.outl; omega⟩
    · intro y hy
      obtain ⟨x, hx, h1, h2⟩ := hI.back y hy
      rcases List.mem_cons.1 hx with rfl | hxg
      · obtain ⟨x', hx', h1', h2'⟩ := hI.back z (by rw [ht]; exact List.mem_append_left _ hz)
        rw [h0s hz] at h1'
        rcases List.mem_cons.1 hx' with rfl | hxg'
        · omega
        · exact ⟨x', hxg', by omega, h2.trans (hz2.trans h2')⟩
      · exact ⟨x, hxg, h1, h2⟩
    · exact fun x hx => hI.gr x (List.mem_cons_of_mem _ hx)
    · intro x hx
      rcases List.mem_cons.1 hx with rfl | hx
      · exact hw
      · exact htw x hx
    · intro x hx y hy he
      rcases List.mem_cons.1 hx with rfl | hx
      · exact hei y hy he
      · exact hte x hx y hy he
    · exact ⟨Nat.le_trans hle (hI.cnt i), hM.lpos⟩
set_option maxRecDepth 100000 in
theorem edge_lt {g : G} {i k : Nat} (e : edge g i k) : i < g.length := by
  unfold edge at e
  apply Nat.lt_of_not_le
  intro h
  rw [List.getD_eq_getElem?_getD, List.getElem?_eq_none h] at e
  cases e
set_option maxRecDepth 100000 in
theorem inc_len (f : Nat → Nat) (c : Nat) : ∀ {l : List Nat}, l.Pairwise (fun a b => f a < f b) → (∀ x ∈ l, f x ≠ 0 ∧ f x ≤ c) → l.length ≤ c
  | [], _, _ => Nat.zero_le _
  | [a], _, h => by have := h a (List.mem_singleton_self _); show 1 ≤ c; omega
  | a :: b :: l, hp, h => by
    have hp' := List.pairwise_cons.1 hp
    have ih := inc_len (fun x => f x - f a) (c - f a) (l := b :: l) (hp'.2.imp_of_mem fun {x y} hx _ hxy => by have := hp'.1 x hx; show f x - f a < f y - f a; omega) (fun x hx => by
      have h1 := hp'.1 x hx
      have h2 := h x (List.mem_cons_of_mem _ hx)
      show f x - f a ≠ 0 ∧ f x - f a ≤ c - f a
      omega)
    have h3 := h a (List.mem_cons_self ..)
    have h4 := h b (List.mem_cons_of_mem _ (List.mem_cons_self ..))
    have h5 := hp'.1 b (List.mem_cons_self ..)
    simp only [List.length_cons] at ih ⊢
    omega
set_option maxRecDepth 100000 in
theorem stack_len {gray : List Nat} {s : TS} (hI : Inv g gray s) : s.stack.length ≤ s.count := inc_len s.N s.count hI.inc fun x hx => ⟨(hI.mem x hx).2, hI.cnt x⟩
set_option maxRecDepth 100000 in
theorem count_le {gray : List Nat} {s : TS} (hI : Inv g gray s) : s.count ≤ g.length := by have := hI.cntw; omega
set_option maxRecDepth 100000 in
theorem enter_spec (hg : GOk g) : ∀ (f : Nat) (gray : List Nat) (s : TS) (i : Nat), Inv g gray s → i < g.length → s.N i = 0 → (∀ x ∈ gray, Reach g x i) → g.length ≤ f + s.count → Post g gray s i (enterF g f i s)
  | 0, gray, s, i, hI, hi, hw, _, hf => by
    have := count_zero_pos (hI.lnum.symm ▸ hi) hw
    have := hI.cntw
    omega
  | f + 1, gray, s, i, hI, hi, hw, hgr, hf => by
    have hM := visits_mid (fun gray s k => enter_spec hg f gray s k) hI hi hw hgr hf (g.getD i []) [] _ (fun k hk => ⟨hk, hg i k hk⟩) (start_mid hI hi hw hgr)
    exact close_post (l := [] ++ g.getD i []) (fun k hk => hk) hI hi hw hM
end
end Go.Proofs.Ytfokjpmcifkoeaa.Scc
namespace Go.Proofs.Ytfokjpmcifkoeaa.Scc
/-! ### the reference's matrix -/
def gB (M : List (List Bool)) (i k : Nat) : Bool := (M.getD i []).getD k false
def setB (M : List (List Bool)) (i k : Nat) (b : Bool) : List (List Bool) := M.set i ((M.getD i []).set k b)
def upd (via i k : Nat) (M : List (List Bool)) : List (List Bool) := setB M i k (gB M i k || gB M i via && gB M via k)
def rowF (via i m : Nat) (M : List (List Bool)) : List (List Bool) := (List.range m).foldl (fun M k => upd via i k M) M
def rowsF (n via m : Nat) (M : List (List Bool)) : List (List Bool) := (List.range m).foldl (fun M i => rowF via i n M) M
def viaF (n m : Nat) (M : List (List Bool)) : List (List Bool) := (List.range m).foldl (fun M via => rowsF n via n M) M
def initRow (n : Nat) (row : List Nat) : List Bool := row.foldl (fun r k => r.set k true) (List.replicate n false)
def initM (g : G) : List (List Bool) := g.map (initRow g.length)
def reachM (g : G) : List (List Bool) := viaF g.length g.length (initM g)
/-- Does i reach k by one edge or more? -/
def R (g : G) (i k : Nat) : Bool := gB (reachM g) i k
set_option maxRecDepth 100000 in
theorem rowF_succ (via i m : Nat) (M : List (List Bool)) : rowF via i (m + 1) M = upd via i m (rowF via i m M) := by simp [rowF, List.range_succ]
set_option maxRecDepth 100000 in
theorem rowsF_succ (n via m : Nat) (M : List (List Bool)) : rowsF n via (m + 1) M = rowF via m n (rowsF n via m M) := by simp [rowsF, List.range_succ]
set_option maxRecDepth 100000 in
theorem viaF_succ (n m : Nat) (M : List (List Bool)) : viaF n (m + 1) M = rowsF n m n (viaF n m M) := by simp [viaF, List.range_succ]
structure Dim (n : Nat) (M : List (List Bool)) : Prop where
  len : M.length = n
  row : ∀ r ∈ M, r.length = n
set_option maxRecDepth 100000 in
theorem Dim.get {n : Nat} {M : List (List Bool)} (h : Dim n M) {i : Nat} (hi : i < n) : (M.getD i []).length = n := by
  rw [List.getD_eq_getElem?_getD, List.getElem?_eq_getElem (h.len.symm ▸ hi)]
  exact h.row _ (List.getElem_mem ..)
set_option maxRecDepth 100000 in
theorem Dim.set {n : Nat} {M : List (List Bool)} (h : Dim n M) {i : Nat} (hi : i < n) (k : Nat) (b : Bool) : Dim n (setB M i k b) :=
  ⟨(List.length_set ..).trans h.len, fun r hr => by
    rcases List.mem_or_eq_of_mem_set hr with hr | rfl
    · exact h.row r hr
    · rw [List.length_set]; exact h.get hi⟩
set_option maxRecDepth 100000 in
theorem gB_set {n : Nat} {M : List (List Bool)} (h : Dim n M) {i k : Nat} (hi : i < n) (hk : k < n) (b : Bool) (i' k' : Nat) : gB (setB M i k b) i' k' = if i' = i ∧ k' = k then b else gB M i' k' := by
  unfold gB setB
  rw [getD_set _ _ _ _ _ (h.len.symm ▸ hi)]
  by_cases e : i' = i
  · subst e
    rw [if_pos rfl, getD_set _ _ _ _ _ (by rw [h.get hi]; exact hk)]
    by_cases e2 : k' = k <;> simp [e2]
  · simp [e]
/-- At least one edge. -/
def Path1 (g : G) (i k : Nat) : Prop := ∃ j, edge g i j ∧ Reach g j k
set_option maxRecDepth 100000 in
theorem Path1.trans {g : G} {i j k : Nat} (h : Path1 g i j) (h' : Path1 g j k) : Path1 g i k := by
  obtain ⟨a, e, r⟩ := h
  obtain ⟨b, e', r'⟩ := h'
  exact ⟨a, e, r.trans ((Reach.edge e').trans r')⟩
set_option maxRecDepth 100000 in
theorem reach_iff {g : G} {i k : Nat} : Reach g i k ↔ i = k ∨ Path1 g i k := by
  constructor
  · intro h
    induction h with
    | refl => exact .inl rfl
    | tail h e ih =>
      rcases ih with rfl | ⟨a, e', r⟩
      · exact .inr ⟨_, e, .refl _⟩
      · exact .inr ⟨a, e', r.tail e⟩
  · rintro (rfl | ⟨a, e, r⟩)
    · exact .refl _
    · exact (Reach.edge e).trans r
inductive PathLt (g : G) (m : Nat) : Nat → Nat → Prop
  | edge {i k : Nat} (e : edge g i k) : PathLt g m i k
  | cons {i j k : Nat} (e : Go.Proofs.Ytfokjpmcifkoeaa.Scc.edge g i j) (hj : j < m) (p : PathLt g m j k) : PathLt g m i k
set_option maxRecDepth 100000 in
theorem PathLt.split {g : G} {m i k : Nat} (h : PathLt g (m + 1) i k) : PathLt g m i k ∨ (PathLt g m i m ∧ PathLt g m m k) := by
  induction h with
  | edge e => exact .inl (.edge e)
  | @cons i j k e hj p ih =>
    by_cases hjm : j = m
    · subst hjm
      rcases ih with ih | ⟨_, ih⟩
      · exact .inr ⟨.edge e, ih⟩
      · exact .inr ⟨.edge e, ih⟩
    · have hj' : j < m := by omega
      rcases ih with ih | ⟨ih1, ih2⟩
      · exact .inl (.cons e hj' ih)
      · exact .inr ⟨.cons e hj' ih1, ih2⟩
set_option maxRecDepth 100000 in
theorem path_lt {g : G} (hg : GOk g) {i k : Nat} (h : Path1 g i k) : PathLt g g.length i k := by
  obtain ⟨j, e, r⟩ := h
  have key : ∀ {j k : Nat}, Reach g j k → ∀ i, edge g i j → PathLt g g.length i k := by
    intro j k r
    induction r with
    | refl => exact fun i e => .edge e
    | @tail j' k' r e' ih =>
      intro i e
      have := ih i e
      clear ih r e
      induction this with
      | edge e0 => exact .cons e0 (hg _ _ e0) (.edge e')
      | cons e0 hj p ih => exact .cons e0 hj (ih e')
  exact key r i e
set_option maxRecDepth 100000 in
theorem PathLt.lt {g : G} (hg : GOk g) {m i k : Nat} (h : PathLt g m i k) : k < g.length := by
  induction h with
  | edge e => exact hg _ _ e
  | cons _ _ _ ih => exact ih
structure Good (g : G) (M : List (List Bool)) : Prop where
  dim : Dim g.length M
  sound : ∀ i k, gB M i k = true → Path1 g i k
def LeM (M M' : List (List Bool)) : Prop := ∀ i k, gB M i k = true → gB M' i k = true
set_option maxRecDepth 100000 in
theorem upd_good {g : G} {M : List (List Bool)} (h : Good g M) {via i k : Nat} (hi : i < g.length) (hk : k < g.length) : Good g (upd via i k M) ∧ LeM M (upd via i k M) ∧ ((gB M i via && gB M via k) = true → gB (upd via i k M) i k = true) := by
  have hs := gB_set h.dim hi hk (gB M i k || gB M i via && gB M via k)
  refine ⟨⟨h.dim.set hi _ _, fun i' k' he => ?_⟩, fun i' k' he => ?_, fun he => ?_⟩
  · unfold upd at he
    rw [hs] at he
    split at he
    · rename_i e
      obtain ⟨rfl, rfl⟩ := e
      rw [Bool.or_eq_true, Bool.and_eq_true] at he
      rcases he with he | ⟨h1, h2⟩
      · exact h.sound _ _ he
      · exact (h.sound _ _ h1).trans (h.sound _ _ h2)
    · exact h.sound _ _ he
  · unfold upd
    rw [hs]
    split
    · rename_i e
      obtain ⟨rfl, rfl⟩ := e
      rw [he]; rfl
    · exact he
  · unfold upd
    rw [hs, if_pos ⟨rfl, rfl⟩, he, Bool.or_true]
set_option maxRecDepth 100000 in
theorem rowF_good {g : G} {M : List (List Bool)} (h : Good g M) {via i : Nat} (hi : i < g.length) : ∀ m, m ≤ g.length → Good g (rowF via i m M) ∧ LeM M (rowF via i m M) ∧ ∀ k, k < m → (gB M i via && gB M via k) = true → gB (rowF via i m M) i k = true
  | 0, _ => ⟨h, fun _ _ h => h, fun k hk => absurd hk (Nat.not_lt_zero _)⟩
  | m + 1, hm => by
    obtain ⟨h1, h2, h3⟩ := rowF_good h (via := via) hi m (by omega)
    obtain ⟨q1, q2, q3⟩ := upd_good h1 (via := via) hi (k := m) (by omega)
    rw [rowF_succ]
    refine ⟨q1, fun a b hab => q2 a b (h2 a b hab), fun k hk he => ?_⟩
    by_cases e : k = m
    · subst e
      refine q3 ?_
      rw [Bool.and_eq_true] at he ⊢
      exact ⟨h2 _ _ he.1, h2 _ _ he.2⟩
    · exact q2 _ _ (h3 k (by omega) he)
set_option maxRecDepth 100000 in
theorem rowsF_good {g : G} {M : List (List Bool)} (h : Good g M) {via : Nat} : ∀ m, m ≤ g.length → Good g (rowsF g.length via m M) ∧ LeM M (rowsF g.length via m M) ∧ ∀ i k, i < m → k < g.length → (gB M i via && gB M via k) = true → gB (rowsF g.length via m M) i k = true
  | 0, _ => ⟨h, fun _ _ h => h, fun i k hi => absurd hi (Nat.not_lt_zero _)⟩
  | m + 1, hm => by
    obtain ⟨h1, h2, h3⟩ := rowsF_good h (via := via) m (by omega)
    obtain ⟨q1, q2, q3⟩ := rowF_good h1 (via := via) (i := m) (by omega) g.length (Nat.le_refl _)
    rw [rowsF_succ]
    refine ⟨q1, fun a b hab => q2 a b (h2 a b hab), fun i k hi hk he => ?_⟩
    by_cases e : i = m
    · subst e
      refine q3 k hk ?_
      rw [Bool.and_eq_true] at he ⊢
      exact ⟨h2 _ _ he.1, h2 _ _ he.2⟩
    · exact q2 _ _ (h3 i k (by omega) hk he)
set_option maxRecDepth 100000 in
theorem viaF_good {g : G} {M : List (List Bool)} (h : Good g M) (he : ∀ i k, edge g i k → gB M i k = true) (hg : GOk g) : ∀ m, m ≤ g.length → Good g (viaF g.length m M) ∧ ∀ i k, PathLt g m i k → gB (viaF g.length m M) i k = true
  | 0, _ => ⟨h, fun i k hp => by
      cases hp with
      | edge e => exact he i k e
      | cons _ hj _ => exact absurd hj (Nat.not_lt_zero _)⟩
  | m + 1, hm => by
    obtain ⟨h1, h2⟩ := viaF_good h he hg m (by omega)
    obtain ⟨q1, q2, q3⟩ := rowsF_good h1 (via := m) g.length (Nat.le_refl _)
    rw [viaF_succ]
    refine ⟨q1, fun i k hp => ?_⟩
    rcases hp.split with hp | ⟨hp1, hp2⟩
    · exact q2 _ _ (h2 i k hp)
    · have g1 := h2 _ _ hp1
      have g2 := h2 _ _ hp2
      have hi : i < g.length := by
        cases hp1 with
        | edge e => exact edge_lt e
        | cons e _ _ => exact edge_lt e
      have hk : k < g.length := hp2.lt hg
      exact q3 i k hi hk (by rw [Bool.and_eq_true]; exact ⟨g1, g2⟩)
set_option maxRecDepth 100000 in
theorem fold_row (n : Nat) : ∀ (row : List Nat) (r : List Bool), r.length = n → (row.foldl (fun r k => r.set k true) r).length = n ∧ ∀ k, (row.foldl (fun r k => r.set k true) r).getD k false = (r.getD k false || (decide (k < n) && decide (k ∈ row)))
  | [], r, h => ⟨h, fun k => by simp⟩
  | x :: row, r, h => by
    obtain ⟨h1, h2⟩ := fold_row n row (r.set x true) ((List.length_set ..).trans h)
    refine ⟨h1, fun k => ?_⟩
    rw [List.foldl_cons, h2]
    by_cases hx : x < r.length
    · rw [getD_set _ _ _ _ _ hx]
      by_cases e : k = x
      · subst e; simp [← h, hx]
      · simp [e]
    · rw [List.set_eq_of_length_le (by omega)]
      by_cases e : k = x
      · subst e; simp [show ¬ k < n by omega]
      · simp [e]
set_option maxRecDepth 100000 in
theorem init_good {g : G} : Good g (initM g) ∧ ∀ i k, gB (initM g) i k = true ↔ (edge g i k ∧ k < g.length) := by
  have hrow : ∀ row, (initRow g.length row).length = g.length ∧ ∀ k, (initRow g.length row).getD k false = (decide (k < g.length) && decide (k ∈ row)) := fun row => by
    obtain ⟨h1, h2⟩ := fold_row g.length row (List.replicate g.length false) List.length_replicate
    refine ⟨h1, fun k => ?_⟩
    rw [initRow, h2]
    simp [List.getD_eq_getElem?_getD, List.getElem?_replicate]
    intro h; split at h <;> simp at h
  have hB : ∀ i k, gB (initM g) i k = true ↔ (edge g i k ∧ k < g.length) := fun i k => by
    unfold gB initM edge
    by_cases hi : i < g.length
    · have e1 : (g.map (initRow g.length)).getD i [] = initRow g.length (g.getD i []) := by simp [List.getD_eq_getElem?_getD, List.getElem?_eq_getElem hi]
      rw [e1, (hrow _).2]
      simp [and_comm]
    · have e1 : (g.map (initRow g.length)).getD i [] = [] := by simp [List.getD_eq_getElem?_getD, List.getElem?_eq_none (show g.length ≤ i by omega)]
      have e2 : g.getD i [] = [] := by simp [List.getD_eq_getElem?_getD, List.getElem?_eq_none (show g.length ≤ i by omega)]
      rw [e1, e2]; simp
  refine ⟨⟨⟨by simp [initM], fun r hr => ?_⟩, fun i k h => ?_⟩, hB⟩
  · obtain ⟨row, _, rfl⟩ := List.mem_map.1 hr
    exact (hrow row).1
  · exact ⟨k, ((hB i k).1 h).1, .refl _⟩
set_option maxRecDepth 100000 in
theorem R_iff {g : G} (hg : GOk g) (i k : Nat) : R g i k = true ↔ Path1 g i k := by
  obtain ⟨h1, h2⟩ := init_good (g := g)
  obtain ⟨q1, q2⟩ := viaF_good h1 (fun i k e => (h2 i k).2 ⟨e, hg i k e⟩) hg g.length (Nat.le_refl _)
  exact ⟨q1.sound i k, fun h => q2 i k (path_lt hg h)⟩
end Go.Proofs.Ytfokjpmcifkoeaa.Scc
namespace Go.Proofs.Ytfokjpmcifkoeaa.Scc
/-! ### components, loops, the condensed graph -/
def sameC (g : G) (i k : Nat) : Bool := i == k || (R g i k && R g k i)
def isLead (g : G) (i : Nat) : Bool := (List.range i).all fun j => !sameC g j i
def leads (g : G) : List Nat := (List.range g.length).filter (isLead g)
def classOf (g : G) (i : Nat) : List Nat := (List.range g.length).filter (sameC g i)
/-- The components, each in ascending order, by their least nodes. -/
def comps (g : G) : List (List Nat) := (leads g).map (classOf g)
def loopsN (g : G) : List Nat := (List.range g.length).filter fun i => R g i i
/-- The number of a node's component. -/
def ofN (g : G) (k : Nat) : Nat := (comps g).findIdx fun c => decide (k ∈ c)
set_option maxRecDepth 100000 in
theorem pw_ext {α : Type} {lt : α → α → Prop} (h1 : ∀ a, ¬lt a a) (h2 : ∀ a b, lt a b → ¬lt b a) : ∀ {l l' : List α}, l.Pairwise lt → l'.Pairwise lt → (∀ x, x ∈ l ↔ x ∈ l') → l = l'
  | [], [], _, _, _ => rfl
  | [], b :: l', _, _, h => absurd ((h b).2 (List.mem_cons_self ..)) (by simp)
  | a :: l, [], _, _, h => absurd ((h a).1 (List.mem_cons_self ..)) (by simp)
  | a :: l, b :: l', hl, hl', h => by
    have hl := List.pairwise_cons.1 hl
    have hl' := List.pairwise_cons.1 hl'
    have hab : a = b := by
      rcases List.mem_cons.1 ((h a).1 (List.mem_cons_self ..)) with e | ha
      · exact e
      · rcases List.mem_cons.1 ((h b).2 (List.mem_cons_self ..)) with e | hb
        · exact e.symm
        · exact absurd (hl'.1 a ha) (h2 _ _ (hl.1 b hb))
    subst hab
    congr 1
    refine pw_ext h1 h2 hl.2 hl'.2 fun x => ?_
    constructor
    · intro hx
      rcases List.mem_cons.1 ((h x).1 (List.mem_cons_of_mem _ hx)) with e | h'
      · subst e; exact absurd (hl.1 x hx) (h1 x)
      · exact h'
    · intro hx
      rcases List.mem_cons.1 ((h x).2 (List.mem_cons_of_mem _ hx)) with e | h'
      · subst e; exact absurd (hl'.1 x hx) (h1 x)
      · exact h'
set_option maxRecDepth 100000 in
theorem lt_ext {l l' : List Nat} (h : l.Pairwise (· < ·)) (h' : l'.Pairwise (· < ·)) (hm : ∀ x, x ∈ l ↔ x ∈ l') : l = l' := pw_ext (fun _ => Nat.lt_irrefl _) (fun _ _ h => Nat.lt_asymm h) h h' hm
set_option maxRecDepth 100000 in
theorem range_lt (n : Nat) : (List.range n).Pairwise (· < ·) := List.pairwise_lt_range
section
variable {g : G} (hg : GOk g)
include hg
set_option maxRecDepth 100000 in
theorem same_iff (i k : Nat) : sameC g i k = true ↔ Reach g i k ∧ Reach g k i := by
  unfold sameC
  rw [Bool.or_eq_true, Bool.and_eq_true, R_iff hg, R_iff hg, reach_iff, reach_iff, beq_iff_eq]
  constructor
  · rintro (rfl | ⟨h1, h2⟩)
    · exact ⟨.inl rfl, .inl rfl⟩
    · exact ⟨.inr h1, .inr h2⟩
  · rintro ⟨h1, h2⟩
    rcases h1 with h1 | h1
    · exact .inl h1
    · rcases h2 with h2 | h2
      · exact .inl h2.symm
      · exact .inr ⟨h1, h2⟩
set_option maxRecDepth 100000 in
theorem same_symm {i k : Nat} (h : sameC g i k = true) : sameC g k i = true := (same_iff hg _ _).2 ((same_iff hg _ _).1 h).symm
set_option maxRecDepth 100000 in
theorem same_trans {i j k : Nat} (h : sameC g i j = true) (h' : sameC g j k = true) : sameC g i k = true := by
  rw [same_iff hg] at *
  exact ⟨h.1.trans h'.1, h'.2.trans h.2⟩
set_option maxRecDepth 100000 in
theorem same_refl (i : Nat) : sameC g i i = true := (same_iff hg _ _).2 ⟨.refl _, .refl _⟩
set_option maxRecDepth 100000 in
theorem reach_lt {i k : Nat} (h : Reach g i k) (hi : i < g.length) : k < g.length := by
  cases h with
  | refl => exact hi
  | tail _ e => exact hg _ _ e
set_option maxRecDepth 100000 in
theorem same_lt {i k : Nat} (h : sameC g i k = true) (hi : i < g.length) : k < g.length := reach_lt hg ((same_iff hg _ _).1 h).1 hi
set_option maxRecDepth 100000 in
theorem mem_class {i k : Nat} (hi : i < g.length) : k ∈ classOf g i ↔ sameC g i k = true := by
  unfold classOf
  rw [List.mem_filter, List.mem_range]
  exact ⟨fun h => h.2, fun h => ⟨same_lt hg h hi, h⟩⟩
omit hg in
set_option maxRecDepth 100000 in
theorem mem_leads {i : Nat} : i ∈ leads g ↔ i < g.length ∧ ∀ j, j < i → sameC g j i = false := by
  unfold leads isLead
  rw [List.mem_filter, List.mem_range, List.all_eq_true]
  simp only [List.mem_range, Bool.not_eq_true']
set_option maxRecDepth 100000 in
theorem exists_lead : ∀ i, i < g.length → ∃ j, j ∈ leads g ∧ sameC g j i = true := by
  intro i
  induction i using Nat.strongRecOn with
  | _ i ih =>
    intro hi
    by_cases h : ∀ j, j < i → sameC g j i = false
    · exact ⟨i, mem_leads.2 ⟨hi, h⟩, same_refl hg i⟩
    · have h : ∃ j, ¬(j < i → sameC g j i = false) := Classical.not_forall.1 h
      obtain ⟨j, hj⟩ := h
      have hj : j < i ∧ sameC g j i = true := by
        constructor
        · exact Classical.byContradiction fun h => hj fun h' => absurd h' h
        · cases hs : sameC g j i with
          | true => rfl
          | false => exact absurd (fun _ => hs) hj
      obtain ⟨q, hq, hs⟩ := ih j hj.1 (by omega)
      exact ⟨q, hq, same_trans hg hs hj.2⟩
set_option maxRecDepth 100000 in
theorem class_head {i : Nat} (hi : i ∈ leads g) : ∃ t, classOf g i = i :: t := by
  have hl := mem_leads.1 hi
  have hm : i ∈ classOf g i := (mem_class hg hl.1).2 (same_refl hg i)
  have hp : (classOf g i).Pairwise (· < ·) := (range_lt _).filter _
  cases hc : classOf g i with
  | nil => rw [hc] at hm; cases hm
  | cons a t =>
    rw [hc] at hm hp
    rcases List.mem_cons.1 hm with rfl | ht
    · exact ⟨t, rfl⟩
    · have h1 := (List.pairwise_cons.1 hp).1 i ht
      have h2 : a ∈ classOf g i := by rw [hc]; exact List.mem_cons_self ..
      have h3 := same_symm hg ((mem_class hg hl.1).1 h2)
      rw [hl.2 a h1] at h3
      cases h3
set_option maxRecDepth 100000 in
theorem class_eq {i k : Nat} (hi : i < g.length) (h : sameC g i k = true) : classOf g i = classOf g k := by
  refine lt_ext ((range_lt _).filter _) ((range_lt _).filter _) fun x => ?_
  show x ∈ classOf g i ↔ x ∈ classOf g k
  rw [mem_class hg hi, mem_class hg (same_lt hg h hi)]
  exact ⟨fun h' => same_trans hg (same_symm hg h) h', fun h' => same_trans hg h h'⟩
set_option maxRecDepth 100000 in
theorem comps_heads : (comps g).Pairwise fun a b => a.headD 0 < b.headD 0 := by
  unfold comps
  rw [List.pairwise_map]
  refine ((range_lt _).filter _).imp_of_mem fun {a b} ha hb h => ?_
  obtain ⟨t, ht⟩ := class_head hg ha
  obtain ⟨u, hu⟩ := class_head hg hb
  rw [ht, hu]; exact h
set_option maxRecDepth 100000 in
/-- Sorted by their least nodes, the parts of a search are the components. -/
theorem comps_of {out l : List (List Nat)} (hp : l.Perm out) (hs : l.Pairwise fun a b => a.headD 0 ≤ b.headD 0) (h1 : ∀ p ∈ out, p ≠ [] ∧ p.Pairwise (· < ·) ∧ ∀ x ∈ p, ∀ y, y ∈ p ↔ (Reach g x y ∧ Reach g y x)) (h2 : out.Pairwise fun p q => ∀ x ∈ p, x ∉ q) (h3 : ∀ x, (∃ p ∈ out, x ∈ p) ↔ x < g.length) : l = comps g := by
  have hd : l.Pairwise fun p q => ∀ x ∈ p, x ∉ q := (hp.pairwise_iff (fun {a b} h x hx hx' => h x hx' hx)).2 h2
  have hin : ∀ {p}, p ∈ l → p ∈ out := fun h => hp.mem_iff.1 h
  have hlt : l.Pairwise fun a b => a.headD 0 < b.headD 0 := by
    refine (hs.and hd).imp_of_mem fun {a b} ha hb h => ?_
    obtain ⟨hne, _, _⟩ := h1 a (hin ha)
    obtain ⟨hne', _, _⟩ := h1 b (hin hb)
    cases a with
    | nil => exact absurd rfl hne
    | cons x t =>
      cases b with
      | nil => exact absurd rfl hne'
      | cons y u =>
        have hle : x ≤ y := h.1
        show x < y
        rcases Nat.lt_or_ge x y with h' | h'
        · exact h'
        · exact absurd (show x ∈ y :: u by rw [show x = y by omega]; exact List.mem_cons_self ..) (h.2 x (List.mem_cons_self ..))
  refine pw_ext (lt := fun a b : List Nat => a.headD 0 < b.headD 0) (fun _ => Nat.lt_irrefl _) (fun _ _ h => Nat.lt_asymm h) hlt (comps_heads hg) fun p => ?_
  have key : ∀ p ∈ out, ∃ i, i ∈ leads g ∧ p = classOf g i := by
    intro p hpo
    obtain ⟨hne, hpw, hm⟩ := h1 p hpo
    cases p with
    | nil => exact absurd rfl hne
    | cons x t =>
      have hx : x < g.length := (h3 x).1 ⟨_, hpo, List.mem_cons_self ..⟩
      have hcl : ∀ y, y ∈ x :: t ↔ sameC g x y = true := fun y => by rw [hm x (List.mem_cons_self ..), same_iff hg]
      refine ⟨x, mem_leads.2 ⟨hx, fun j hj => ?_⟩, lt_ext hpw ((range_lt _).filter _) fun y => ?_⟩
      · cases hs : sameC g j x with
        | false => rfl
        | true =>
          have := (hcl j).2 (same_symm hg hs)
          rcases List.mem_cons.1 this with rfl | ht
          · omega
          · have := (List.pairwise_cons.1 hpw).1 j ht
            omega
      · rw [hcl]; exact (mem_class hg hx).symm
  constructor
  · intro h
    obtain ⟨i, hi, rfl⟩ := key p (hin h)
    exact List.mem_map_of_mem hi
  · intro h
    obtain ⟨i, hi, rfl⟩ := List.mem_map.1 h
    have hil := mem_leads.1 hi
    obtain ⟨p, hpo, hip⟩ := (h3 i).2 hil.1
    obtain ⟨j, hj, rfl⟩ := key p hpo
    have hjl := mem_leads.1 hj
    rw [class_eq hg hjl.1 ((mem_class hg hjl.1).1 hip)] at hpo
    exact hp.mem_iff.2 hpo
end
/-! ### the whole search -/
def start (g : G) : TS := ⟨List.replicate g.length 0, List.replicate g.length 0, List.replicate g.length false, [], [], 0⟩
def stepF (g : G) (s : TS) (i : Nat) : TS := if s.N i = 0 then enterF g g.length i s else s
def upTo (g : G) (m : Nat) : TS := (List.range m).foldl (stepF g) (start g)
set_option maxRecDepth 100000 in
theorem upTo_succ (g : G) (m : Nat) : upTo g (m + 1) = stepF g (upTo g m) m := by simp [upTo, List.range_succ]
set_option maxRecDepth 100000 in
theorem start_inv (g : G) : Inv g [] (start g) := by
  have hN : ∀ x, (start g).N x = 0 := fun x => by
    unfold TS.N start
    simp only [List.getD_eq_getElem?_getD, List.getElem?_replicate]
    split <;> rfl
  refine ⟨by simp [start], by simp [start], by simp [start], fun x => by rw [hN]; exact Nat.zero_le _, by simp [start], Nat.le_refl _, (fun x hx => by cases hx), fun x _ => ?_, .nil, .nil, fun x => ?_, (fun p hp => by cases hp), .nil, fun x y h => absurd (hN x) h, fun x y h => absurd (hN x) h, (fun y hy => by cases hy), (fun x hx => by cases hx)⟩
  · show (start g).O x = true ↔ x ∈ []
    unfold TS.O start
    simp only [List.getD_eq_getElem?_getD, List.getElem?_replicate]
    split <;> simp
  · rw [hN]; simp [start]
set_option maxRecDepth 100000 in
theorem upTo_inv {g : G} (hg : GOk g) : ∀ m, m ≤ g.length → Inv g [] (upTo g m) ∧ ∀ i, i < m → (upTo g m).N i ≠ 0
  | 0, _ => ⟨start_inv g, fun i hi => absurd hi (Nat.not_lt_zero _)⟩
  | m + 1, hm => by
    obtain ⟨h1, h2⟩ := upTo_inv hg m (by omega)
    rw [upTo_succ]
    unfold stepF
    by_cases h0 : (upTo g m).N m = 0
    · rw [if_pos h0]
      have hP := enter_spec hg g.length [] (upTo g m) m h1 (by omega) h0 (fun x hx => by cases hx) (by omega)
      refine ⟨hP.inv, fun i hi => ?_⟩
      by_cases e : i = m
      · subst e; exact hP.vis
      · have := h2 i (by omega)
        rw [hP.keepN i this]; exact this
    · rw [if_neg h0]
      refine ⟨h1, fun i hi => ?_⟩
      by_cases e : i = m
      · subst e; exact h0
      · exact h2 i (by omega)
set_option maxRecDepth 100000 in
theorem stack_nil {g : G} {s : TS} (h : Inv g [] s) : s.stack = [] := by
  cases hs : s.stack with
  | nil => rfl
  | cons y l =>
    obtain ⟨x, hx, _⟩ := h.back y (by rw [hs]; exact List.mem_cons_self ..)
    cases hx
set_option maxRecDepth 100000 in
/-- What the search finds, sorted, are the components. -/
theorem search_comps {g : G} (hg : GOk g) {l : List (List Nat)} (hp : l.Perm (upTo g g.length).out) (hs : l.Pairwise fun a b => a.headD 0 ≤ b.headD 0) : l = comps g := by
  obtain ⟨h1, h2⟩ := upTo_inv hg g.length (Nat.le_refl _)
  refine comps_of hg hp hs h1.scc h1.disj fun x => ?_
  rw [h1.outs, stack_nil h1]
  constructor
  · rintro ⟨h, _⟩; exact N_lt h1 h
  · intro h; exact ⟨h2 x h, by simp⟩
end Go.Proofs.Ytfokjpmcifkoeaa.Scc
namespace Go.Proofs.Ytfokjpmcifkoeaa.Scc
section
variable {g : G} (hg : GOk g)
include hg
omit hg in
set_option maxRecDepth 100000 in
theorem comp_at {j : Nat} {c : List Nat} (h : (comps g)[j]? = some c) : ∃ i, i ∈ leads g ∧ c = classOf g i ∧ (leads g)[j]? = some i := by
  unfold comps at h
  rw [List.getElem?_map] at h
  cases hi : (leads g)[j]? with
  | none => rw [hi] at h; cases h
  | some i => rw [hi] at h; injection h with h; exact ⟨i, List.mem_of_getElem? hi, h.symm, rfl⟩
omit hg in
set_option maxRecDepth 100000 in
theorem comp_lt {c : List Nat} (h : c ∈ comps g) {x : Nat} (hx : x ∈ c) : x < g.length := by
  obtain ⟨i, hi, rfl⟩ := List.mem_map.1 h
  exact List.mem_range.1 (List.mem_filter.1 hx).1
set_option maxRecDepth 100000 in
theorem comp_same {c : List Nat} (h : c ∈ comps g) {x y : Nat} (hx : x ∈ c) : y ∈ c ↔ sameC g x y = true := by
  obtain ⟨i, hi, rfl⟩ := List.mem_map.1 h
  have hl := (mem_leads.1 hi).1
  rw [mem_class hg hl] at hx ⊢
  exact ⟨fun h => same_trans hg (same_symm hg hx) h, fun h => same_trans hg hx h⟩
omit hg in
set_option maxRecDepth 100000 in
theorem leads_nodup : (leads g).Nodup := ((range_lt g.length).filter _).imp fun h e => by subst e; exact Nat.lt_irrefl _ h
set_option maxRecDepth 100000 in
theorem lead_eq {i j : Nat} (hi : i ∈ leads g) (hj : j ∈ leads g) (h : sameC g i j = true) : i = j := by
  have h1 := (mem_leads.1 hi)
  have h2 := (mem_leads.1 hj)
  rcases Nat.lt_trichotomy i j with h' | h' | h'
  · rw [h2.2 i h'] at h; cases h
  · exact h'
  · have := same_symm hg h
    rw [h1.2 j h'] at this; cases this
set_option maxRecDepth 100000 in
theorem comp_inj {j k : Nat} {c d : List Nat} (hc : (comps g)[j]? = some c) (hd : (comps g)[k]? = some d) {x : Nat} (hx : x ∈ c) (hy : x ∈ d) : j = k := by
  obtain ⟨a, ha, rfl, ha'⟩ := comp_at hc
  obtain ⟨b, hb, rfl, hb'⟩ := comp_at hd
  have h1 := (mem_class hg (mem_leads.1 ha).1).1 hx
  have h2 := (mem_class hg (mem_leads.1 hb).1).1 hy
  have := lead_eq hg ha hb (same_trans hg h1 (same_symm hg h2))
  subst this
  exact (List.getElem?_inj (List.getElem?_eq_some_iff.1 ha').1 (leads_nodup)).1 (ha'.trans hb'.symm)
set_option maxRecDepth 100000 in
theorem ofN_mem {x : Nat} (hx : x < g.length) : ∃ c, (comps g)[ofN g x]? = some c ∧ x ∈ c := by
  obtain ⟨j, hj, hs⟩ := exists_lead hg x hx
  have hm : classOf g j ∈ comps g := List.mem_map_of_mem hj
  have hxc : x ∈ classOf g j := (mem_class hg (mem_leads.1 hj).1).2 hs
  have hlt : ofN g x < (comps g).length := List.findIdx_lt_length_of_exists ⟨_, hm, by simpa using hxc⟩
  refine ⟨(comps g)[ofN g x], List.getElem?_eq_getElem hlt, ?_⟩
  have := List.findIdx_getElem (xs := comps g) (p := fun c => decide (x ∈ c)) (w := hlt)
  exact of_decide_eq_true this
omit hg in
set_option maxRecDepth 100000 in
theorem comps_len : (comps g).length ≤ g.length := by
  unfold comps leads
  rw [List.length_map]
  exact Nat.le_trans (List.length_filter_le ..) (by simp)
omit hg in
set_option maxRecDepth 100000 in
theorem class_len (i : Nat) : (classOf g i).length ≤ g.length := Nat.le_trans (List.length_filter_le ..) (by simp)
omit hg in
set_option maxRecDepth 100000 in
theorem comp_len {c : List Nat} (h : c ∈ comps g) : c.length ≤ g.length := by
  obtain ⟨i, _, rfl⟩ := List.mem_map.1 h
  exact class_len i
end
end Go.Proofs.Ytfokjpmcifkoeaa.Scc
namespace Go.Proofs.Ytfokjpmcifkoeaa.Scc
/-- No node reaches itself. -/
def Acyc (g : G) : Prop := ∀ i, R g i i = false
def mayB (g : G) (out : List Nat) (i : Nat) : Bool := !out.contains i && (g.getD i []).all fun k => out.contains k
def leastM (g : G) (out : List Nat) : Option Nat := (List.range g.length).find? (mayB g out)
def topoN (g : G) : Nat → List Nat
  | 0 => []
  | m + 1 => topoN g m ++ (leastM g (topoN g m)).toList
def topo (g : G) : List Nat := topoN g g.length
set_option maxRecDepth 100000 in
theorem mayB_iff {g : G} {out : List Nat} {i : Nat} : mayB g out i = true ↔ i ∉ out ∧ ∀ k, edge g i k → k ∈ out := by
  unfold mayB edge
  simp [List.all_eq_true]
/-- How many nodes a node reaches. -/
def rk (g : G) (i : Nat) : Nat := ((List.range g.length).filter (R g i)).length
set_option maxRecDepth 100000 in
theorem filter_le {α : Type} {p q : α → Bool} (h : ∀ x, p x = true → q x = true) : ∀ l : List α, (l.filter p).length ≤ (l.filter q).length
  | [] => Nat.le_refl _
  | x :: l => by
    have := filter_le h l
    cases hp : p x with
    | true => rw [List.filter_cons_of_pos hp, List.filter_cons_of_pos (h x hp)]; simp; omega
    | false =>
      rw [List.filter_cons_of_neg (by simp [hp])]
      cases hq : q x with
      | true => rw [List.filter_cons_of_pos hq]; simp; omega
      | false => rw [List.filter_cons_of_neg (by simp [hq])]; exact this
set_option maxRecDepth 100000 in
theorem filter_lt {α : Type} {p q : α → Bool} (h : ∀ x, p x = true → q x = true) : ∀ {l : List α} {x : α}, x ∈ l → p x = false → q x = true → (l.filter p).length < (l.filter q).length
  | y :: l, x, hx, hp, hq => by
    rcases List.mem_cons.1 hx with rfl | hx
    · rw [List.filter_cons_of_neg (by simp [hp]), List.filter_cons_of_pos hq]
      have := filter_le h l
      simp; omega
    · have := filter_lt h hx hp hq
      cases hpy : p y with
      | true => rw [List.filter_cons_of_pos hpy, List.filter_cons_of_pos (h y hpy)]; simp; omega
      | false =>
        rw [List.filter_cons_of_neg (by simp [hpy])]
        cases hqy : q y with
        | true => rw [List.filter_cons_of_pos hqy]; simp; omega
        | false => rw [List.filter_cons_of_neg (by simp [hqy])]; exact this
set_option maxRecDepth 100000 in
theorem nodup_len : ∀ {l m : List Nat}, l.Nodup → (∀ x ∈ l, x ∈ m) → l.length ≤ m.length
  | [], _, _, _ => Nat.zero_le _
  | x :: l, m, hd, hs => by
    obtain ⟨h1, h2⟩ := List.nodup_cons.1 hd
    have hx := hs x (List.mem_cons_self ..)
    have := nodup_len (l := l) (m := m.erase x) h2 fun y hy => (List.mem_erase_of_ne (fun e => h1 (by rw [← e]; exact hy))).2 (hs y (List.mem_cons_of_mem _ hy))
    rw [List.length_erase_of_mem hx] at this
    have := List.length_pos_of_mem hx
    rw [List.length_cons]; omega
section
variable {g : G} (hg : GOk g) (ha : Acyc g)
include hg ha
set_option maxRecDepth 100000 in
theorem rk_lt {i k : Nat} (e : edge g i k) : rk g k < rk g i := by
  unfold rk
  refine filter_lt (fun x hx => ?_) (List.mem_range.2 (hg i k e)) (ha k) ((R_iff hg i k).2 ⟨k, e, .refl _⟩)
  obtain ⟨j, e2, r⟩ := (R_iff hg k x).1 hx
  exact (R_iff hg i x).2 ⟨k, e, (Reach.edge e2).trans r⟩
set_option maxRecDepth 100000 in
/-- While a node is left, one may come. -/
theorem may_exists {out : List Nat} : ∀ (m i : Nat), rk g i = m → i < g.length → i ∉ out → ∃ k, k < g.length ∧ mayB g out k = true := by
  intro m
  induction m using Nat.strongRecOn with
  | ind m ih =>
    intro i hm hi ho
    cases hb : mayB g out i with
    | true => exact ⟨i, hi, hb⟩
    | false =>
      have : ∃ k, edge g i k ∧ k ∉ out := by
        apply Classical.byContradiction
        intro hne
        have : mayB g out i = true := mayB_iff.2 ⟨ho, fun k e => Classical.byContradiction fun hk => hne ⟨k, e, hk⟩⟩
        rw [hb] at this; cases this
      obtain ⟨k, e, hk⟩ := this
      exact ih (rk g k) (hm ▸ rk_lt hg ha e) k rfl (hg i k e) hk
omit hg ha in
/-- An order so far: each node once, each after those that it leads to. -/
structure Ord (g : G) (out : List Nat) : Prop where
  nodup : out.Nodup
  lt : ∀ x ∈ out, x < g.length
  closed : ∀ x ∈ out, ∀ k, edge g x k → k ∈ out
omit hg ha in
set_option maxRecDepth 100000 in
theorem left_exists {out : List Nat} (hl : out.length < g.length) : ∃ i, i < g.length ∧ i ∉ out := by
  apply Classical.byContradiction
  intro hne
  have hsub : ∀ x ∈ List.range g.length, x ∈ out := fun x hx => Classical.byContradiction fun hx' => hne ⟨x, List.mem_range.1 hx, hx'⟩
  have hsp : (List.range g.length).length ≤ out.length := nodup_len List.nodup_range hsub
  rw [List.length_range] at hsp
  omega
set_option maxRecDepth 100000 in
theorem least_some {out : List Nat} (_h : Ord g out) (hl : out.length < g.length) : ∃ i, leastM g out = some i ∧ i < g.length ∧ mayB g out i = true ∧ ∀ k, k < i → mayB g out k = false := by
  obtain ⟨i, hi, ho⟩ := left_exists hl
  obtain ⟨k, hk, hb⟩ := may_exists hg ha (out := out) _ i rfl hi ho
  cases hf : leastM g out with
  | none =>
    have := List.find?_eq_none.1 hf k (List.mem_range.2 hk)
    exact absurd hb this
  | some j =>
    have h1 := List.find?_some hf
    have h2 := List.mem_range.1 (List.mem_of_find?_eq_some hf)
    refine ⟨j, rfl, h2, h1, fun x hx => ?_⟩
    cases hbx : mayB g out x with
    | false => rfl
    | true =>
      have := List.find?_range_eq_some.1 hf
      have h3 := this.2.2 x hx
      rw [hbx] at h3; simp at h3
omit hg ha in
set_option maxRecDepth 100000 in
theorem ord_snoc {out : List Nat} (h : Ord g out) {i : Nat} (hi : i < g.length) (hb : mayB g out i = true) : Ord g (out ++ [i]) := by
  obtain ⟨h1, h2⟩ := mayB_iff.1 hb
  refine ⟨?_, fun x hx => ?_, fun x hx k e => ?_⟩
  · rw [List.nodup_append]
    exact ⟨h.nodup, by simp, fun x hx y hy e => h1 (by rw [List.mem_singleton.1 hy] at e; exact e ▸ hx)⟩
  · rcases List.mem_append.1 hx with hx | hx
    · exact h.lt x hx
    · rw [List.mem_singleton.1 hx]; exact hi
  · rcases List.mem_append.1 hx with hx | hx
    · exact List.mem_append_left _ (h.closed x hx k e)
    · rw [List.mem_singleton.1 hx] at e
      exact List.mem_append_left _ (h2 k e)
set_option maxRecDepth 100000 in
theorem topo_ord : ∀ m, m ≤ g.length → Ord g (topoN g m) ∧ (topoN g m).length = m
  | 0, _ => ⟨⟨.nil, fun x h => (by cases h), fun x h => (by cases h)⟩, rfl⟩
  | m + 1, hm => by
    obtain ⟨h1, h2⟩ := topo_ord m (by omega)
    obtain ⟨i, e, hi, hb, _⟩ := least_some hg ha h1 (by omega)
    show Ord g (topoN g m ++ (leastM g (topoN g m)).toList) ∧ (topoN g m ++ (leastM g (topoN g m)).toList).length = m + 1
    rw [e]
    exact ⟨ord_snoc h1 hi hb, by simp [h2]⟩
set_option maxRecDepth 100000 in
theorem topo_next {m : Nat} (hm : m < g.length) : ∃ i, topoN g (m + 1) = topoN g m ++ [i] ∧ i < g.length ∧ mayB g (topoN g m) i = true ∧ ∀ k, k < i → mayB g (topoN g m) k = false := by
  obtain ⟨h1, h2⟩ := topo_ord hg ha m (by omega)
  obtain ⟨i, e, hi, hb, hl⟩ := least_some hg ha h1 (by omega)
  refine ⟨i, ?_, hi, hb, hl⟩
  show topoN g m ++ (leastM g (topoN g m)).toList = _
  rw [e]; rfl
end
end Go.Proofs.Ytfokjpmcifkoeaa.Scc
namespace Go.Proofs.Ytfokjpmcifkoeaa.Scc
/-! ### what Check accepts -/
/-- Each number of a list may come after those ahead of it. -/
def chkL (g : G) : List Nat → List Int → Bool
  | _, [] => true
  | out, z :: l => decide (0 ≤ z) && (decide (z < g.length) && (mayB g out z.toNat && chkL g (out ++ [z.toNat]) l))
section
variable {g : G} (hg : GOk g) (ha : Acyc g)
include hg ha
end
/-! ### none comes before the order -/
section
variable {g : G} (hg : GOk g) (ha : Acyc g)
include hg ha
end
/-! ### levels -/
/-- One node's level, from k of its row on the way. -/
def levS (x : Nat) (L : List Nat) (k : Nat) : List Nat := L.set x (max (L.getD x 0) (L.getD k 0 + 1))
def levK (x : Nat) (L : List Nat) (r : List Nat) : List Nat := r.foldl (levS x) L
def levN (g : G) (l : List Nat) : List Nat := l.foldl (fun L x => levK x L (g.getD x [])) (List.replicate g.length 0)
def levels (g : G) : List Nat := levN g (topo g)
set_option maxRecDepth 100000 in
theorem levS_len (x : Nat) (L : List Nat) (k : Nat) : (levS x L k).length = L.length := by simp [levS]
set_option maxRecDepth 100000 in
theorem levK_len (x : Nat) : ∀ (r L : List Nat), (levK x L r).length = L.length
  | [], _ => rfl
  | k :: r, L => by rw [levK, List.foldl_cons]; exact (levK_len x r _).trans (levS_len ..)
set_option maxRecDepth 100000 in
theorem levN_len (g : G) : ∀ l : List Nat, (levN g l).length = g.length := by
  intro l
  have : ∀ (l : List Nat) (L : List Nat), (l.foldl (fun L x => levK x L (g.getD x [])) L).length = L.length := by
    intro l
    induction l with
    | nil => intro L; rfl
    | cons x l ih => intro L; rw [List.foldl_cons, ih, levK_len]
  exact (this l _).trans List.length_replicate
set_option maxRecDepth 100000 in
theorem levS_bd {x : Nat} {L : List Nat} {B : Nat} (h : ∀ y, L.getD y 0 ≤ B) (k : Nat) : ∀ y, (levS x L k).getD y 0 ≤ B + 1 := fun y => by
  unfold levS
  rw [List.getD_eq_getElem?_getD, List.getElem?_set]
  have h1 := h x
  have h2 := h k
  have h3 := h y
  split
  · split
    · show max _ _ ≤ _; omega
    · exact Nat.zero_le _
  · rw [← List.getD_eq_getElem?_getD]; omega
set_option maxRecDepth 100000 in
theorem levK_snoc (x : Nat) (L r : List Nat) (k : Nat) : levK x L (r ++ [k]) = levS x (levK x L r) k := by simp [levK]
set_option maxRecDepth 100000 in
theorem levN_snoc (g : G) (l : List Nat) (x : Nat) : levN g (l ++ [x]) = levK x (levN g l) (g.getD x []) := by simp [levN]
section
variable {g : G} (hg : GOk g) (ha : Acyc g)
include hg ha
end
/-! ### fewer edges -/
/-! ### sorted nodes -/
/-! ### a greedy order -/
section
variable {g : G} (hg : GOk g) (ha : Acyc g)
include hg ha
end
end Go.Proofs.Ytfokjpmcifkoeaa.Scc
namespace Go.Proofs.Ytfokjpmcifkoeaa.Heap
def at0 (L : List Nat) (i : Nat) : Nat := L.getD i 0
def sw (L : List Nat) (i j : Nat) : List Nat := (L.set i (at0 L j)).set j (at0 L i)
set_option maxRecDepth 100000 in
theorem sw_len (L : List Nat) (i j : Nat) : (sw L i j).length = L.length := by simp [sw]
set_option maxRecDepth 100000 in
theorem at_set (L : List Nat) (i k x : Nat) (h : i < L.length) : at0 (L.set i x) k = if k = i then x else at0 L k := by
  unfold at0
  rw [List.getD_eq_getElem?_getD, List.getD_eq_getElem?_getD, List.getElem?_set]
  by_cases e : i = k
  · subst e; simp [h]
  · rw [if_neg e, if_neg (Ne.symm e)]
set_option maxRecDepth 100000 in
theorem at_sw {L : List Nat} {i j : Nat} (hi : i < L.length) (hj : j < L.length) (k : Nat) : at0 (sw L i j) k = if k = j then at0 L i else if k = i then at0 L j else at0 L k := by
  unfold sw
  rw [at_set _ _ _ _ (by simpa using hj), at_set _ _ _ _ hi]
set_option maxRecDepth 100000 in
theorem sw_perm {L : List Nat} {i j : Nat} (hi : i < L.length) (hj : j < L.length) : (sw L i j).Perm L := by
  have e1 : at0 L j = L[j] := by simp [at0, hj]
  have e2 : at0 L i = L[i] := by simp [at0, hi]
  unfold sw
  rw [e1, e2]
  exact List.set_set_perm hi hj
/-- Each node is at least its parent; of the first n. -/
def Hp (L : List Nat) (n : Nat) : Prop := ∀ k, 0 < k → k < n → at0 L ((k - 1) / 2) ≤ at0 L k
set_option maxRecDepth 100000 in
theorem hp_min {L : List Nat} {n : Nat} (h : Hp L n) : ∀ k, k < n → at0 L 0 ≤ at0 L k := by
  intro k
  induction k using Nat.strongRecOn with
  | ind k ih =>
    intro hk
    rcases Nat.eq_zero_or_pos k with rfl | h0
    · exact Nat.le_refl _
    · exact Nat.le_trans (ih ((k - 1) / 2) (by omega) (by omega)) (h k h0 hk)
/-- A heap but for j, which may be less than its parent. -/
structure Up (L : List Nat) (j : Nat) : Prop where
  hp : ∀ k, k ≠ j → 0 < k → k < L.length → at0 L ((k - 1) / 2) ≤ at0 L k
  gp : 0 < j → ∀ k, 0 < k → (k - 1) / 2 = j → k < L.length → at0 L ((j - 1) / 2) ≤ at0 L k
set_option maxRecDepth 100000 in
theorem up_step {L : List Nat} {j : Nat} (h : Up L j) (hj : j < L.length) (h0 : 0 < j) (hl : at0 L j < at0 L ((j - 1) / 2)) : Up (sw L ((j - 1) / 2) j) ((j - 1) / 2) := by
  have hi : (j - 1) / 2 < L.length := by omega
  have hs := fun k => at_sw hi hj k
  have hij : (j - 1) / 2 ≠ j := by omega
  generalize hI : (j - 1) / 2 = i at *
  refine ⟨fun k hk h1 h2 => ?_, fun hi0 k h1 h2 h3 => ?_⟩
  · rw [sw_len] at h2
    rw [hs, hs]
    by_cases hkj : k = j
    · subst hkj
      rw [hI, if_neg hij, if_pos rfl, if_pos rfl]; omega
    · rw [if_neg hkj, if_neg hk]
      by_cases hpj : (k - 1) / 2 = j
      · rw [if_pos hpj]; exact h.gp h0 k h1 hpj h2 |> fun q => by rwa [hI] at q
      · rw [if_neg hpj]
        have := h.hp k hkj h1 h2
        by_cases hpi : (k - 1) / 2 = i
        · rw [if_pos hpi]; rw [hpi] at this; omega
        · rw [if_neg hpi]; exact this
  · rw [sw_len] at h3
    have hpp : (i - 1) / 2 ≠ j := by omega
    have hpi : (i - 1) / 2 ≠ i := by omega
    have hb := h.hp i hij hi0 hi
    rw [hs, hs, if_neg hpp, if_neg hpi]
    by_cases hkj : k = j
    · rw [if_pos hkj]; exact hb
    · rw [if_neg hkj, if_neg (by omega : k ≠ i)]
      have := h.hp k hkj h1 h3
      rw [h2] at this; omega
set_option maxRecDepth 100000 in
theorem up_end {L : List Nat} {j : Nat} (h : Up L j) (hl : j = 0 ∨ ¬at0 L j < at0 L ((j - 1) / 2)) : Hp L L.length := by
  intro k h1 h2
  by_cases hkj : k = j
  · subst hkj; omega
  · exact h.hp k hkj h1 h2
set_option maxRecDepth 100000 in
/-- A new one behind a heap. -/
theorem up_start {L : List Nat} (h : Hp L L.length) (x : Nat) : Up (L ++ [x]) L.length := by
  have e : ∀ k, k < L.length → at0 (L ++ [x]) k = at0 L k := fun k hk => by simp [at0, List.getD_eq_getElem?_getD, List.getElem?_append_left hk]
  refine ⟨fun k hk h1 h2 => ?_, fun h0 k h1 h2 h3 => ?_⟩
  · rw [List.length_append, List.length_singleton] at h2
    rw [e k (by omega), e _ (by omega)]
    exact h k h1 (by omega)
  · rw [List.length_append, List.length_singleton] at h3; omega
/-- A heap of n but for i, which may be greater than its children. -/
structure Dn (L : List Nat) (n i : Nat) : Prop where
  hp : ∀ k, 0 < k → k < n → (k - 1) / 2 ≠ i → at0 L ((k - 1) / 2) ≤ at0 L k
  gp : 0 < i → ∀ k, 0 < k → k < n → (k - 1) / 2 = i → at0 L ((i - 1) / 2) ≤ at0 L k
set_option maxRecDepth 100000 in
theorem dn_step {L : List Nat} {n i j : Nat} (h : Dn L n i) (hn : n ≤ L.length) (hj : j < n) (hp : (j - 1) / 2 = i) (h0 : 0 < j) (hmin : ∀ k, 0 < k → k < n → (k - 1) / 2 = i → at0 L j ≤ at0 L k) (hl : at0 L j < at0 L i) : Dn (sw L i j) n j := by
  have hij : i < j := by omega
  have hs := fun k => at_sw (L := L) (i := i) (j := j) (by omega) (by omega) k
  refine ⟨fun k h1 h2 h3 => ?_, fun _ k h1 h2 h3 => ?_⟩
  · rw [hs, hs, if_neg h3]
    by_cases hpi : (k - 1) / 2 = i
    · rw [if_pos hpi]
      by_cases hkj : k = j
      · rw [if_pos hkj]; omega
      · rw [if_neg hkj, if_neg (by omega : k ≠ i)]; exact hmin k h1 h2 hpi
    · rw [if_neg hpi]
      by_cases hkj : k = j
      · exact absurd (hkj ▸ hp) hpi
      · rw [if_neg hkj]
        by_cases hki : k = i
        · rw [if_pos hki, hki]
          exact h.gp (by omega) j h0 hj hp
        · rw [if_neg hki]; exact h.hp k h1 h2 hpi
  · rw [hs, hs, hp, if_neg (by omega : i ≠ j), if_pos rfl, if_neg (by omega : k ≠ j), if_neg (by omega : k ≠ i)]
    have := h.hp k h1 h2 (by omega)
    rwa [h3] at this
set_option maxRecDepth 100000 in
theorem dn_end {L : List Nat} {n i : Nat} (h : Dn L n i) (hl : ∀ k, 0 < k → k < n → (k - 1) / 2 = i → at0 L i ≤ at0 L k) : Hp L n := by
  intro k h1 h2
  by_cases hp : (k - 1) / 2 = i
  · rw [hp]; exact hl k h1 h2 hp
  · exact h.hp k h1 h2 hp
set_option maxRecDepth 100000 in
/-- The first and the last changed. -/
theorem dn_start {L : List Nat} {n : Nat} (h : Hp L (n + 1)) (hn : L.length = n + 1) : Dn (sw L 0 n) n 0 := by
  have hs := fun k => at_sw (L := L) (i := 0) (j := n) (by omega) (by omega) k
  refine ⟨fun k h1 h2 h3 => ?_, fun h0 => absurd h0 (Nat.lt_irrefl _)⟩
  rw [hs, hs, if_neg (by omega : (k - 1) / 2 ≠ n), if_neg h3, if_neg (by omega : k ≠ n), if_neg (by omega : k ≠ 0)]
  exact h k h1 (by omega)
/-- What a pop's down leaves: a heap of the first n, the least last. -/
structure Popped (L L' : List Nat) (n : Nat) : Prop where
  perm : L'.Perm L
  hp : Hp L' n
  last : at0 L' n = at0 L 0
end Go.Proofs.Ytfokjpmcifkoeaa.Heap
namespace Go.Proofs.Ytfokjpmcifkoeaa.Scc
variable {g : G} (hg : GOk g)
def loopP (g : G) (p : List Nat) : Bool := decide (1 < p.length) || decide (p.headD 0 ∈ g.getD (p.headD 0) [])
def upLoop (g : G) (k : Nat) : List Nat := (((comps g).take k).filter (loopP g)).flatten
set_option maxRecDepth 100000 in
theorem upLoop_succ {k : Nat} {p : List Nat} (h : (comps g)[k]? = some p) : upLoop g (k + 1) = if loopP g p = true then upLoop g k ++ p else upLoop g k := by
  unfold upLoop
  rw [List.take_add_one, h, List.filter_append, List.flatten_append]
  cases hp : loopP g p <;> simp [hp]
include hg
set_option maxRecDepth 100000 in
theorem comp_pw {p : List Nat} (h : p ∈ comps g) : p ≠ [] ∧ p.Pairwise (· < ·) := by
  obtain ⟨i, hi, rfl⟩ := List.mem_map.1 h
  obtain ⟨t, ht⟩ := class_head hg hi
  refine ⟨by rw [ht]; simp, ?_⟩
  exact (range_lt g.length).filter _
omit hg in
set_option maxRecDepth 100000 in
theorem two_of {p : List Nat} (hp : p.Pairwise (· < ·)) {x : Nat} (h : 1 < p.length) : ∃ y ∈ p, y ≠ x := by
  match p, hp, h with
  | a :: b :: l, hp, _ =>
    by_cases e : a = x
    · refine ⟨b, by simp, fun e2 => ?_⟩
      have := (List.pairwise_cons.1 hp).1 b (List.mem_cons_self ..)
      omega
    · exact ⟨a, by simp, e⟩
set_option maxRecDepth 100000 in
theorem loop_iff {p : List Nat} (hp : p ∈ comps g) {x : Nat} (hx : x ∈ p) : R g x x = loopP g p := by
  obtain ⟨hne, hpw⟩ := comp_pw hg hp
  have hs : ∀ y, y ∈ p ↔ (Reach g x y ∧ Reach g y x) := fun y => (comp_same hg hp hx).trans (same_iff hg x y)
  rw [Bool.eq_iff_iff, R_iff hg, loopP, Bool.or_eq_true, decide_eq_true_eq, decide_eq_true_eq]
  have one : ¬ 1 < p.length → p = [x] := fun h => by
    match p, hne, hx, h with
    | [a], _, hx, _ => rw [List.mem_singleton.1 hx]
    | a :: b :: l, _, _, h => simp at h
  constructor
  · rintro ⟨j, he, hr⟩
    by_cases h1 : 1 < p.length
    · exact .inl h1
    · right
      have hj : j ∈ p := (hs j).2 ⟨Reach.edge he, hr⟩
      have h2 := one h1
      rw [h2] at hj ⊢
      rw [List.mem_singleton.1 hj] at he
      exact he
  · intro h
    by_cases h1 : 1 < p.length
    · obtain ⟨y, hy, hyx⟩ := two_of hpw (x := x) h1
      have := (hs y).1 hy
      rcases (reach_iff (g := g)).1 this.1 with e | h3
      · exact absurd e.symm hyx
      · obtain ⟨j, e1, e2⟩ := h3
        exact ⟨j, e1, e2.trans this.2⟩
    · have h2 := one h1
      rw [h2] at h
      rcases h with h | h
      · simp at h
      · exact ⟨x, h, .refl _⟩
set_option maxRecDepth 100000 in
theorem comps_disj : (comps g).Pairwise fun p q => ∀ x ∈ p, ∀ y ∈ q, x ≠ y := by
  rw [List.pairwise_iff_getElem]
  intro i j hi hj hij x hx y hy e
  subst e
  have := comp_inj hg (List.getElem?_eq_getElem hi) (List.getElem?_eq_getElem hj) hx hy
  omega
set_option maxRecDepth 100000 in
theorem upLoop_nodup (k : Nat) : (upLoop g k).Nodup := by
  unfold upLoop List.Nodup
  rw [List.pairwise_flatten]
  refine ⟨fun l hl => ?_, ?_⟩
  · have := comp_pw hg (List.mem_of_mem_take (List.mem_filter.1 hl).1)
    exact this.2.imp fun h e => by omega
  · exact ((comps_disj hg).sublist (List.take_sublist ..)).sublist List.filter_sublist
set_option maxRecDepth 100000 in
theorem loops_eq : sortN (upLoop g (comps g).length) = loopsN g := by
  refine lt_ext (sortN_lt (upLoop_nodup hg _)) ((range_lt g.length).filter _) fun x => ?_
  rw [(sortN_perm _).mem_iff, upLoop, List.take_of_length_le (Nat.le_refl _), List.mem_flatten, loopsN, List.mem_filter, List.mem_range]
  constructor
  · rintro ⟨p, hp, hx⟩
    obtain ⟨hp1, hp2⟩ := List.mem_filter.1 hp
    exact ⟨comp_lt hp1 hx, by rw [loop_iff hg hp1 hx]; exact hp2⟩
  · rintro ⟨hx, hr⟩
    obtain ⟨c, hc, hxc⟩ := ofN_mem hg hx
    have hm := List.mem_of_getElem? hc
    exact ⟨c, List.mem_filter.2 ⟨hm, by rw [← loop_iff hg hm hxc]; exact hr⟩, hxc⟩
set_option maxRecDepth 100000 in
theorem upLoop_len (k : Nat) : (upLoop g k).length ≤ g.length := by
  have h1 := sortN_lt (upLoop_nodup hg k)
  have h2 := inc_len (fun x => x + 1) g.length (h1.imp fun h => Nat.succ_lt_succ h) (fun x hx => by
    obtain ⟨p, hp, hxp⟩ := List.mem_flatten.1 ((sortN_perm _).mem_iff.1 hx)
    have := comp_lt (List.mem_of_mem_take (List.mem_filter.1 hp).1) hxp
    omega)
  rwa [(sortN_perm _).length_eq] at h2
end Go.Proofs.Ytfokjpmcifkoeaa.Scc
namespace Go.Proofs.Ytfokjpmcifkoeaa.Scc
/-- What the search from i keeps: the nodes found, those to do. -/
structure FromI (g : G) (i : Nat) (A : List Bool) (T : List Nat) : Prop where
  len : A.length = g.length
  sound : ∀ x, A.getD x false = true → Path1 g i x
  todo : ∀ x ∈ T, Path1 g i x
  start : ∀ x, edge g i x → A.getD x false = true ∨ x ∈ T
  step : ∀ y x, A.getD y false = true → edge g y x → A.getD x false = true ∨ x ∈ T
  size : T.length ≤ (A.count true + 1) * 1000
def left (A : List Bool) (T : List Nat) : Nat := A.count false * 1001 + T.length
section
variable {g : G} (hg : GOk g) (hr : ∀ r ∈ g, r.length < 1000) {i : Nat}
include hr
set_option maxRecDepth 100000 in
theorem row_len (x : Nat) : (g.getD x []).length < 1000 := by
  rw [List.getD_eq_getElem?_getD]
  cases hx : g[x]? with
  | none => exact Nat.zero_lt_succ _
  | some r => exact hr r (List.mem_of_getElem? hx)
include hg
end
end Go.Proofs.Ytfokjpmcifkoeaa.Scc
