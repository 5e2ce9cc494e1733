/- The walks of the reference's components and loops. No condition. -/
import Derived.Test.YtfokjpmcifkoeaaCE
namespace Go.Proofs.Ytfokjpmcifkoeaa
open Pv Go.RowKit Scc
set_option maxRecDepth 100000 in
theorem mE_at {M : List (List Bool)} {n i : Nat} (hD : Dim n M) (hi : i < n) : (mE M)[i]? = some [EV.sl 1 ((M.getD i []).map bval)] := by
  rw [List.getElem?_map, List.getD_eq_getElem?_getD, List.getElem?_eq_getElem (hD.len.symm ▸ hi)]; rfl
set_option maxRecDepth 100000 in
theorem mE_cell {M : List (List Bool)} {n i k : Nat} (hD : Dim n M) (hi : i < n) (hk : k < n) : ((M.getD i []).map bval)[k]? = some [.bool (gB M i k)] := by
  rw [List.getElem?_map]
  have : (M.getD i [])[k]? = some (gB M i k) := by
    unfold gB
    rw [List.getD_eq_getElem?_getD (l := M.getD i []), List.getElem?_eq_getElem (by rw [hD.get hi]; exact hk)]; rfl
  rw [this]; rfl
set_option maxRecDepth 100000 in
theorem reach_dim {N : G} (hN : GOk N) : Dim N.length (reachM N) := (viaF_good (init_good (g := N)).1 (fun i k e => ((init_good (g := N)).2 i k).2 ⟨e, hN i k e⟩) hN N.length (Nat.le_refl _)).1.dim
set_option maxRecDepth 100000 in
theorem bool_at {L : List Bool} {k : Nat} (hk : k < L.length) : (L.map bval)[k]? = some [.bool (L.getD k false)] := by
  rw [List.getElem?_map, List.getD_eq_getElem?_getD, List.getElem?_eq_getElem hk]; rfl
set_option maxRecDepth 100000 in
theorem bool_set (L : List Bool) (k : Nat) (b : Bool) : (L.map bval).set k [.bool b] = (L.set k b).map bval := by rw [List.map_set]; rfl
set_option maxRecDepth 100000 in
theorem intR_snoc (l : List Nat) (k : Nat) : (intR l).map ival ++ [[.int .i64 (k : Int)]] = (intR (l ++ [k])).map ival := by simp [intR, ival]
/-- The members from i on, below k. -/
def upC (N : G) (i k : Nat) : List Nat := (List.range k).filter fun x => decide (i ≤ x) && sameC N i x
set_option maxRecDepth 100000 in
theorem upC_succ (N : G) {i k : Nat} (h : i ≤ k) : upC N i (k + 1) = if sameC N i k then upC N i k ++ [k] else upC N i k := by
  unfold upC
  rw [List.range_succ, List.filter_append]
  cases hs : sameC N i k <;> simp [hs, h]
set_option maxRecDepth 100000 in
theorem upC_self (N : G) (i : Nat) : upC N i i = [] := by
  unfold upC
  rw [List.filter_eq_nil_iff]
  intro x hx
  have := List.mem_range.1 hx
  simp; omega
set_option maxRecDepth 100000 in
theorem upC_all {N : G} (hN : GOk N) {i : Nat} (hi : i ∈ leads N) : upC N i N.length = classOf N i := by
  unfold upC classOf
  refine List.filter_congr fun x hx => ?_
  have hl := (mem_leads (g := N)).1 hi
  cases hs : sameC N i x with
  | false => simp
  | true =>
    have : i ≤ x := Nat.le_of_not_lt fun h => by
      have := hl.2 x h
      rw [same_symm hN hs] at this; cases this
    simp [this]
def leadsUp (N : G) (i : Nat) : List Nat := (List.range i).filter (isLead N)
set_option maxRecDepth 100000 in
theorem leadsUp_succ (N : G) (i : Nat) : leadsUp N (i + 1) = if isLead N i then leadsUp N i ++ [i] else leadsUp N i := by
  unfold leadsUp
  rw [List.range_succ, List.filter_append]
  cases hs : isLead N i <;> simp [hs]
/-- Which nodes the first i nodes have marked. -/
def marked (N : G) (i k : Nat) : Bool := (List.range i).any fun j => sameC N j k
set_option maxRecDepth 100000 in
theorem marked_lead (N : G) (i : Nat) : isLead N i = !marked N i i := by
  unfold isLead marked
  rw [List.not_any_eq_all_not]
set_option maxRecDepth 100000 in
theorem marked_succ (N : G) (i k : Nat) : marked N (i + 1) k = (marked N i k || sameC N i k) := by
  unfold marked
  rw [List.range_succ, List.any_append]; simp
set_option maxRecDepth 100000 in
theorem marked_old {N : G} (hN : GOk N) {i k : Nat} (h : marked N i i = true) (hs : sameC N i k = true) : marked N i k = true := by
  unfold marked at *
  obtain ⟨j, hj, hji⟩ := List.any_eq_true.1 h
  exact List.any_eq_true.2 ⟨j, hj, same_trans hN hji hs⟩
set_option maxRecDepth 100000 in
theorem valid_intG {N : G} (hN : GOk N) : validG (intG N) = true := validG_of fun j y hj hy => rowOk_of fun k z hk hz => by
  rw [List.getElem?_map] at hy
  cases hq : N[j]? with
  | none => rw [hq] at hy; cases hy
  | some q =>
    rw [hq] at hy
    injection hy with hy
    subst hy
    unfold intR at hz
    rw [List.getElem?_map] at hz
    cases hx : q[k]? with
    | none => rw [hx] at hz; cases hz
    | some x =>
      rw [hx] at hz
      injection hz with hz
      subst hz
      have := hN _ _ (edge_of hq hx)
      rw [List.length_map]
      exact ⟨Int.natCast_nonneg _, Int.ofNat_lt.2 this⟩
set_option maxRecDepth 100000 in
theorem refComps (N : G) (hN : GOk N) (hn : N.length ≤ 1000000) (hr : ∀ r ∈ N, r.length < 10000000000) : Pure Try.prog 27 [graph (intG N)] (.tup [graphR (intG (comps N)), .v (.int .i64 0)]) := by
  have hv := refValid (intG N) (by simp; omega) (fun r h => by obtain ⟨q, hq, rfl⟩ := List.mem_map.1 h; simpa [intR] using hr q hq)
  have hvt := valid_intG hN
  rw [hvt] at hv
  have hm := refReaches N hN hn hr
  have hD := reach_dim hN
  have hR : ∀ i k, gB (reachM N) i k = R N i k := fun _ _ => rfl
  generalize reachM N = M at *
  have hlen : (gE (intG N)).length = N.length := by simp [gE, intG]
  refine pure_of_wt Try.func27 rfl (by decide) _ Try.ntmps27 rfl Try.results27 fun w0 => ?_
  repeat' (first
    | (apply RunK.indexN; exact rfl; exact rfl; exact rfl; (first | exact rfl | exact (rfl : (0 : Int) = ((0 : Nat) : Int)) | exact (rfl : (1 : Int) = ((1 : Nat) : Int)) | exact (rfl : (2 : Int) = ((2 : Nat) : Int)) | exact (rfl : (3 : Int) = ((3 : Nat) : Int)) | assumption); (first | omega | exact lt_of_get ‹_› | (rw [List.length_map]; omega) | (simp; omega))) | (apply RunK.loadNS; exact rfl; exact rfl; assumption; exact rfl) | (apply RunK.lenNs; exact rfl; exact rfl) | (apply RunK.moveNs; exact rfl; exact rfl) | (apply RunK.assignNs; exact rfl; exact rfl) | (apply RunK.callS; exact rfl; exact rfl; exact hv; (repeat (first | exact ArgsLe.nil | refine ArgsLe.cons ?_ ?_ | exact ArgLe.v _ | exact ArgLe.sl _ _ _ _ | exact ArgLe.nil _ | exact ArgLe.nil' | exact ArgLe.nsl _ _ _ _ _ | exact ArgLe.nsn _ | (apply ArgLe.bsl; exact rfl; (first | exact rfl | (rw [List.length_map]; done) | (simp only [List.length_map]; done) | (simp; done) | (simp; omega)); (first | assumption | exact map_len (fun _ => rfl))))); exact rfl) | (apply RunK.callS; exact rfl; exact rfl; exact hm; (repeat (first | exact ArgsLe.nil | refine ArgsLe.cons ?_ ?_ | exact ArgLe.v _ | exact ArgLe.sl _ _ _ _ | exact ArgLe.nil _ | exact ArgLe.nil' | exact ArgLe.nsl _ _ _ _ _ | exact ArgLe.nsn _ | (apply ArgLe.bsl; exact rfl; (first | exact rfl | (rw [List.length_map]; done) | (simp only [List.length_map]; done) | (simp; done) | (simp; omega)); (first | assumption | exact map_len (fun _ => rfl))))); exact rfl) | (apply RunK.makeSlE (n := N.length); exact rfl; exact rfl; exact rfl; exact (by simp); exact (by simp); exact (by omega); exact rfl)
    | refine Wt.seq ?_
    | (apply Wt.regionK; exact rfl)
    | refine Wt.block ?_
    | refine Wt.skip ?_
    | refine RunK.nil ?_
    | (apply RunK.assignV; exact rfl; exact rfl)
    | (apply RunK.assignS; exact rfl; exact rfl)
    | (apply RunK.assignN; exact rfl; exact rfl)
    | (apply RunK.not; exact rfl; exact rfl)
    | (apply Wt.cond; exact rfl; all_goals (intro hg; (first | exact absurd hg (by decide) | skip); (first | (with_reducible replace hg := not_t hg) | (with_reducible replace hg := not_f hg) | skip); (first | (with_reducible replace hg := dec_t hg) | (with_reducible replace hg := dec_f hg) | skip); (first | (with_reducible exact absurd rfl hg) | skip); (repeat rw [List.length_map] at hg); try (exfalso; omega))))
  refine Wt.weak (Turns.nestNils 2000000 1 1 0) ?_
  refine Wt.thaw 5 5 rfl rfl rfl ?_
  rw [rep_map]
  refine Wt.loop (fun i : Nat × List Bool × List NRow => ⟨[(0, .s (graph (intG N))), (4, .s (.nsl (some 14) [some 14] true 1 (mE M))), (5, .bsl 5 0 1 N.length), (6, .s (.sl (some 6) (.front 23) 1 (hds i.2.2))), (7, .s (.v (.int .i64 i.1))), (2000000, .nest 1 1 i.2.2)], [(5, (i.2.1.map bval).flatten)]⟩) (fun i => i.1 ≤ N.length ∧ i.2.1.length = N.length ∧ (∀ k, k < N.length → i.2.1.getD k false = marked N i.1 k) ∧ i.2.2.map (·.els) = ((leadsUp N i.1).map (classOf N)).map (fun c => (intR c).map ival)) (fun i => N.length - i.1) (0, List.replicate N.length false, []) ⟨Nat.zero_le _, List.length_replicate, fun k hk => ?_, rfl⟩ ?_ ?_
  · simp [List.getD_eq_getElem?_getD, hk, marked]
  · (refine Le.mk ?_ ?_; (repeat' (first | exact LeEnv.done | (refine LeEnv.consN ?_ ?_; exact rfl) | refine LeEnv.cons ?_ ?_ | exact PVLe.refl _ | exact PVLe.s (SVLe.nil _ _ _) | exact PVLe.s (SVLe.no _ _ _ _) | (refine PVLe.int ?_; first | rfl | omega | (simp; done) | (simp; omega)) | (refine PVLe.els ?_; first | rfl | assumption | (simp; done)) | (refine PVLe.bool ?_; first | rfl | assumption) | (refine PVLe.hdE ?_; first | rfl | assumption) | (refine PVLe.bsl ?_; first | rfl | assumption | (simp; done) | (simp; omega)))); (repeat' (first | exact LeBox.done | (refine LeBox.consN ?_ ?_; exact rfl) | (refine LeBox.cons ?_ ?_; exact rfl) | (refine LeBox.consE rfl ?_ ?_; first | assumption | (refine congrArg List.flatten ?_; first | rfl | assumption | (symm; assumption))))))
  · rintro ⟨i, I, rows⟩ ⟨hi, hI, hIm, hG⟩
    dsimp only at hi hI hIm hG ⊢
    by_cases hlt : i < N.length
    · have hb := bool_at (L := I) (k := i) (by omega)
      rw [hIm i hlt] at hb
      cases hmk : marked N i i with
      | true =>
        rw [hmk] at hb
        repeat' (first
    | (apply RunK.indexN; exact rfl; exact rfl; exact rfl; (first | exact rfl | exact (rfl : (0 : Int) = ((0 : Nat) : Int)) | exact (rfl : (1 : Int) = ((1 : Nat) : Int)) | exact (rfl : (2 : Int) = ((2 : Nat) : Int)) | exact (rfl : (3 : Int) = ((3 : Nat) : Int)) | assumption); (first | omega | exact lt_of_get ‹_› | (rw [List.length_map]; omega) | (simp; omega))) | (apply RunK.loadNS; exact rfl; exact rfl; assumption; exact rfl) | (apply RunK.lenNs; exact rfl; exact rfl) | (apply RunK.moveNs; exact rfl; exact rfl) | (apply RunK.assignNs; exact rfl; exact rfl)
    | refine Wt.seq ?_
    | (apply Wt.regionK; exact rfl)
    | refine Wt.block ?_
    | refine Wt.skip ?_
    | refine Wt.exit ?_
    | refine RunK.nil ?_
    | (apply RunK.moveV; exact rfl; exact rfl)
    | (apply RunK.assignV; exact rfl; exact rfl)
    | (apply RunK.moveBs; exact rfl; exact rfl)
    | (apply RunK.indexS; exact rfl; exact rfl; exact rfl; (first | exact rfl | exact (rfl : (0 : Int) = ((0 : Nat) : Int)) | exact (rfl : (1 : Int) = ((1 : Nat) : Int)) | exact (rfl : (2 : Int) = ((2 : Nat) : Int)) | exact (rfl : (3 : Int) = ((3 : Nat) : Int)) | assumption); (first | omega | exact lt_of_get ‹_› | (rw [List.length_map]; omega) | (simp; omega)))
    | (apply RunK.loadF1; exact rfl; exact rfl; exact rfl; (first | exact off0 _ _ | exact off1 _ _ _ | exact off2 _ _ _ _ | exact off3 _ _ _ _ _ | omega); (first | assumption | exact map_len (fun _ => rfl)); assumption; exact rfl)
    | (apply RunK.lss; exact rfl; exact rfl; exact rfl)
    | (apply RunK.add; exact rfl; exact rfl; exact rfl; (first | omega | (simp only [List.length_map]; omega)))
    | (apply Wt.cond; exact rfl; all_goals (intro hg; (first | exact absurd hg (by decide) | skip); (first | (with_reducible replace hg := not_t hg) | (with_reducible replace hg := not_f hg) | skip); (first | (with_reducible replace hg := dec_t hg) | (with_reducible replace hg := dec_f hg) | skip); (first | (with_reducible exact absurd rfl hg) | skip); (repeat rw [List.length_map] at hg); try (exfalso; omega))))
        refine ⟨(i + 1, I, rows), ⟨hlt, hI, fun k hk => ?_, ?_⟩, by dsimp only; omega, ?_⟩
        · dsimp only
          rw [hIm k hk, marked_succ]
          cases hs : sameC N i k with
          | false => simp
          | true => rw [marked_old hN hmk hs]; rfl
        · dsimp only
          rw [hG, leadsUp_succ, marked_lead, hmk]; rfl
        · dsimp only; (refine Le.mk ?_ ?_; (repeat' (first | exact LeEnv.done | (refine LeEnv.consN ?_ ?_; exact rfl) | refine LeEnv.cons ?_ ?_ | exact PVLe.refl _ | exact PVLe.s (SVLe.nil _ _ _) | exact PVLe.s (SVLe.no _ _ _ _) | (refine PVLe.int ?_; first | rfl | omega | (simp; done) | (simp; omega)) | (refine PVLe.els ?_; first | rfl | assumption | (simp; done)) | (refine PVLe.bool ?_; first | rfl | assumption) | (refine PVLe.hdE ?_; first | rfl | assumption) | (refine PVLe.bsl ?_; first | rfl | assumption | (simp; done) | (simp; omega)))); (repeat' (first | exact LeBox.done | (refine LeBox.consN ?_ ?_; exact rfl) | (refine LeBox.cons ?_ ?_; exact rfl) | (refine LeBox.consE rfl ?_ ?_; first | assumption | (refine congrArg List.flatten ?_; first | rfl | assumption | (symm; assumption))))))
      | false =>
        rw [hmk] at hb
        repeat' (first
    | (apply RunK.indexN; exact rfl; exact rfl; exact rfl; (first | exact rfl | exact (rfl : (0 : Int) = ((0 : Nat) : Int)) | exact (rfl : (1 : Int) = ((1 : Nat) : Int)) | exact (rfl : (2 : Int) = ((2 : Nat) : Int)) | exact (rfl : (3 : Int) = ((3 : Nat) : Int)) | assumption); (first | omega | exact lt_of_get ‹_› | (rw [List.length_map]; omega) | (simp; omega))) | (apply RunK.loadNS; exact rfl; exact rfl; assumption; exact rfl) | (apply RunK.lenNs; exact rfl; exact rfl) | (apply RunK.moveNs; exact rfl; exact rfl) | (apply RunK.assignNs; exact rfl; exact rfl)
    | refine Wt.seq ?_
    | (apply Wt.regionK; exact rfl)
    | refine Wt.block ?_
    | refine Wt.skip ?_
    | refine RunK.nil ?_
    | (apply RunK.moveV; exact rfl; exact rfl)
    | (apply RunK.assignV; exact rfl; exact rfl)
    | (apply RunK.moveBs; exact rfl; exact rfl)
    | (apply RunK.indexS; exact rfl; exact rfl; exact rfl; (first | exact rfl | exact (rfl : (0 : Int) = ((0 : Nat) : Int)) | exact (rfl : (1 : Int) = ((1 : Nat) : Int)) | exact (rfl : (2 : Int) = ((2 : Nat) : Int)) | exact (rfl : (3 : Int) = ((3 : Nat) : Int)) | assumption); (first | omega | exact lt_of_get ‹_› | (rw [List.length_map]; omega) | (simp; omega)))
    | (apply RunK.assignN; exact rfl; exact rfl)
    | (apply RunK.loadF1; exact rfl; exact rfl; exact rfl; (first | exact off0 _ _ | exact off1 _ _ _ | exact off2 _ _ _ _ | exact off3 _ _ _ _ _ | omega); (first | assumption | exact map_len (fun _ => rfl)); assumption; exact rfl)
    | (apply RunK.lss; exact rfl; exact rfl; exact rfl)
    | (apply Wt.cond; exact rfl; all_goals (intro hg; (first | exact absurd hg (by decide) | skip); (first | (with_reducible replace hg := not_t hg) | (with_reducible replace hg := not_f hg) | skip); (first | (with_reducible replace hg := dec_t hg) | (with_reducible replace hg := dec_f hg) | skip); (first | (with_reducible exact absurd rfl hg) | skip); (repeat rw [List.length_map] at hg); try (exfalso; omega))))
        have hlead : i ∈ leads N := List.mem_filter.2 ⟨List.mem_range.2 hlt, by rw [marked_lead, hmk]; rfl⟩
        refine Wt.loop (fun k : Nat × List Bool => ⟨[(0, .s (graph (intG N))), (4, .s (.nsl (some 14) [some 14] true 1 (mE M))), (5, .bsl 5 0 1 N.length), (6, .s (.sl (some 6) (.front 23) 1 (hds rows))), (7, .s (.v (.int .i64 i))), (8, .s (.sl (some 0) (.front 3) 1 ((intR (upC N i k.1)).map ival))), (9, .s (.v (.int .i64 k.1))), (2000000, .nest 1 1 rows)], [(5, (k.2.map bval).flatten)]⟩) (fun k => i ≤ k.1 ∧ k.1 ≤ N.length ∧ k.2.length = N.length ∧ ∀ x, x < N.length → k.2.getD x false = (marked N i x || (decide (x ∈ upC N i k.1)))) (fun k => N.length - k.1) (i, I) ⟨Nat.le_refl _, hi, hI, fun x hx => by rw [upC_self, hIm x hx]; simp⟩ ?_ ?_
        · rw [upC_self]
          (refine Le.mk ?_ ?_; (repeat' (first | exact LeEnv.done | (refine LeEnv.consN ?_ ?_; exact rfl) | refine LeEnv.cons ?_ ?_ | exact PVLe.refl _ | exact PVLe.s (SVLe.nil _ _ _) | exact PVLe.s (SVLe.no _ _ _ _) | (refine PVLe.int ?_; first | rfl | omega | (simp; done) | (simp; omega)) | (refine PVLe.els ?_; first | rfl | assumption | (simp; done)) | (refine PVLe.bool ?_; first | rfl | assumption) | (refine PVLe.hdE ?_; first | rfl | assumption) | (refine PVLe.bsl ?_; first | rfl | assumption | (simp; done) | (simp; omega)))); (repeat' (first | exact LeBox.done | (refine LeBox.consN ?_ ?_; exact rfl) | (refine LeBox.cons ?_ ?_; exact rfl) | (refine LeBox.consE rfl ?_ ?_; first | assumption | (refine congrArg List.flatten ?_; first | rfl | assumption | (symm; assumption))))))
        · rintro ⟨k, J⟩ ⟨hik, hk, hJ, hJm⟩
          dsimp only at hik hk hJ hJm ⊢
          by_cases hkt : k < N.length
          · have m1 := mE_at hD hlt
            have m2 := mE_at hD hkt
            have c1 := mE_cell hD hlt hkt
            have c2 := mE_cell hD hkt hlt
            have hcl : (upC N i k).length ≤ k := by unfold upC; exact Nat.le_trans (List.length_filter_le ..) (by simp)
            have hsnoc := intR_snoc (upC N i k) k
            have hil : (intR (upC N i k)).length = (upC N i k).length := by simp [intR]
            have hbk := bool_at (L := J) (k := k) (by omega)
            have hset := bool_set J k true
            rw [hR] at c1 c2
            have hs : sameC N i k = (i == k || (R N i k && R N k i)) := rfl
            have yes : sameC N i k = true → ((i ≤ k + 1 ∧ k + 1 ≤ N.length ∧ (J.set k true).length = N.length ∧ ∀ x, x < N.length → (J.set k true).getD x false = (marked N i x || (decide (x ∈ upC N i (k + 1))))) ∧ N.length - (k + 1) < N.length - k) ∧ upC N i (k + 1) = upC N i k ++ [k] := fun h => by
              have hu : upC N i (k + 1) = upC N i k ++ [k] := by rw [upC_succ N hik, h]; rfl
              refine ⟨⟨⟨by omega, hkt, (List.length_set ..).trans hJ, fun x hx => ?_⟩, by omega⟩, hu⟩
              rw [getD_set _ _ _ _ _ (by omega), hu]
              by_cases e : x = k
              · subst e; simp
              · rw [if_neg e, hJm x hx]; simp [e]
            have no : sameC N i k = false → ((i ≤ k + 1 ∧ k + 1 ≤ N.length ∧ J.length = N.length ∧ ∀ x, x < N.length → J.getD x false = (marked N i x || (decide (x ∈ upC N i (k + 1))))) ∧ N.length - (k + 1) < N.length - k) ∧ upC N i (k + 1) = upC N i k := fun h => by
              have hu : upC N i (k + 1) = upC N i k := by rw [upC_succ N hik, h]; rfl
              exact ⟨⟨⟨by omega, hkt, hJ, fun x hx => by rw [hu]; exact hJm x hx⟩, by omega⟩, hu⟩
            rw [hs] at yes no
            generalize R N i k = b1 at *
            generalize R N k i = b2 at *
            clear hs
            by_cases hki : k = i
            · obtain ⟨⟨y1, y2⟩, y3⟩ := yes (by simp [hki])
              repeat' (first
    | (apply RunK.indexN; exact rfl; exact rfl; exact rfl; (first | exact rfl | exact (rfl : (0 : Int) = ((0 : Nat) : Int)) | exact (rfl : (1 : Int) = ((1 : Nat) : Int)) | exact (rfl : (2 : Int) = ((2 : Nat) : Int)) | exact (rfl : (3 : Int) = ((3 : Nat) : Int)) | assumption); (first | omega | exact lt_of_get ‹_› | (rw [List.length_map]; omega) | (simp; omega))) | (apply RunK.loadNS; exact rfl; exact rfl; assumption; exact rfl) | (apply RunK.lenNs; exact rfl; exact rfl) | (apply RunK.moveNs; exact rfl; exact rfl) | (apply RunK.assignNs; exact rfl; exact rfl) | (first | (apply RunK.append; exact rfl; exact rfl; exact rfl; (first | exact ReadLe.sl _ _ _ _ | exact ReadLe.nil _); exact rfl; (first | exact one_rows rfl | exact one_map (fun _ => rfl) _); (first | exact app_b1 (by omega) | exact app_b2 (by omega) | exact app_b3 (by omega) | exact app_b4 (by omega) | exact app_b5 (by omega))) | (apply RunK.appendN; exact rfl; exact rfl; exact rfl; (first | exact ReadLe.sl _ _ _ _ | exact ReadLe.nil _); exact rfl; (first | exact one_rows rfl | exact one_map (fun _ => rfl) _); (first | exact app_b1 (by omega) | exact app_b2 (by omega) | exact app_b3 (by omega) | exact app_b4 (by omega) | exact app_b5 (by omega))) | (apply RunK.appendF; exact rfl; exact rfl; exact rfl; (first | exact ReadLe.sl _ _ _ _ | exact ReadLe.nil _); (first | exact one_rows rfl | exact one_map (fun _ => rfl) _); (first | exact app_b1 (by omega) | exact app_b2 (by omega) | exact app_b3 (by omega) | exact app_b4 (by omega) | exact app_b5 (by omega))))
    | refine Wt.seq ?_
    | (apply Wt.regionK; exact rfl)
    | refine Wt.block ?_
    | refine Wt.skip ?_
    | refine RunK.nil ?_
    | (apply RunK.moveV; exact rfl; exact rfl)
    | (apply RunK.assignV; exact rfl; exact rfl)
    | (apply RunK.moveS; exact rfl; exact rfl)
    | (apply RunK.moveBs; exact rfl; exact rfl)
    | (apply RunK.indexS; exact rfl; exact rfl; exact rfl; (first | exact rfl | exact (rfl : (0 : Int) = ((0 : Nat) : Int)) | exact (rfl : (1 : Int) = ((1 : Nat) : Int)) | exact (rfl : (2 : Int) = ((2 : Nat) : Int)) | exact (rfl : (3 : Int) = ((3 : Nat) : Int)) | assumption); (first | omega | exact lt_of_get ‹_› | (rw [List.length_map]; omega) | (simp; omega)))
    | (apply RunK.assignS; exact rfl; exact rfl)
    | (apply RunK.pickT; exact rfl; exact rfl; exact rfl)
    | (apply RunK.lss; exact rfl; exact rfl; exact rfl)
    | (apply RunK.eql; exact rfl; exact rfl; exact rfl)
    | (apply RunK.add; exact rfl; exact rfl; exact rfl; (first | omega | (simp only [List.length_map]; omega)))
    | (apply RunK.rows; exact rfl; exact rfl; (repeat (first | exact PartsOk.nil | (apply PartsOk.cons; exact rfl) | (apply PartsOk.consN; exact rfl))); (repeat (first | exact Rows.nil _ | (apply Rows.cons; (first | exact Cells.agg _ | exact Cells.int _ _ | exact Cells.bool _ | exact Cells.one _ rfl); exact rfl))); exact rfl; exact rfl)
    | (apply RunK.storeF; exact rfl; exact rfl; exact rfl; exact rfl; (first | exact off0 _ _ | exact off1 _ _ _ | exact off2 _ _ _ _ | exact off3 _ _ _ _ _ | omega); (first | assumption | exact map_len (fun _ => rfl)); assumption; exact rfl; exact rfl; exact rfl; (first | exact Cells.agg _ | exact Cells.int _ _ | exact Cells.bool _ | exact Cells.one _ rfl); (repeat (first | exact Upd.nil _ | apply Upd.cons | apply Upd.skip)))
    | (apply RunK.skip; exact rfl; exact rfl)
    | (apply RunK.guard; exact rfl; exact rfl; exact rfl; all_goals (intro hg; (first | exact absurd hg (by decide) | skip); (first | (with_reducible replace hg := not_t hg) | (with_reducible replace hg := not_f hg) | skip); (first | (with_reducible replace hg := dec_t hg) | (with_reducible replace hg := dec_f hg) | skip); (first | (with_reducible exact absurd rfl hg) | skip); (repeat rw [List.length_map] at hg); try (exfalso; omega)))
    | (apply Wt.cond; exact rfl; all_goals (intro hg; (first | exact absurd hg (by decide) | skip); (first | (with_reducible replace hg := not_t hg) | (with_reducible replace hg := not_f hg) | skip); (first | (with_reducible replace hg := dec_t hg) | (with_reducible replace hg := dec_f hg) | skip); (first | (with_reducible exact absurd rfl hg) | skip); (repeat rw [List.length_map] at hg); try (exfalso; omega))))
              · refine ⟨(k + 1, J.set k true), y1, y2, ?_⟩
                dsimp only
                rw [y3, ← hsnoc]
                (refine Le.mk ?_ ?_; (repeat' (first | exact LeEnv.done | (refine LeEnv.consN ?_ ?_; exact rfl) | refine LeEnv.cons ?_ ?_ | exact PVLe.refl _ | exact PVLe.s (SVLe.nil _ _ _) | exact PVLe.s (SVLe.no _ _ _ _) | (refine PVLe.int ?_; first | rfl | omega | (simp; done) | (simp; omega)) | (refine PVLe.els ?_; first | rfl | assumption | (simp; done)) | (refine PVLe.bool ?_; first | rfl | assumption) | (refine PVLe.hdE ?_; first | rfl | assumption) | (refine PVLe.bsl ?_; first | rfl | assumption | (simp; done) | (simp; omega)))); (repeat' (first | exact LeBox.done | (refine LeBox.consN ?_ ?_; exact rfl) | (refine LeBox.cons ?_ ?_; exact rfl) | (refine LeBox.consE rfl ?_ ?_; first | assumption | (refine congrArg List.flatten ?_; first | rfl | assumption | (symm; assumption))))))
              all_goals exact absurd ‹_› (by omega)
            · have hbi : (i == k) = false := by simp; omega
              rw [hbi] at yes no
              cases b1 with
              | false =>
                obtain ⟨⟨y1, y2⟩, y3⟩ := no rfl
                repeat' (first
    | (apply RunK.indexN; exact rfl; exact rfl; exact rfl; (first | exact rfl | exact (rfl : (0 : Int) = ((0 : Nat) : Int)) | exact (rfl : (1 : Int) = ((1 : Nat) : Int)) | exact (rfl : (2 : Int) = ((2 : Nat) : Int)) | exact (rfl : (3 : Int) = ((3 : Nat) : Int)) | assumption); (first | omega | exact lt_of_get ‹_› | (rw [List.length_map]; omega) | (simp; omega))) | (apply RunK.loadNS; exact rfl; exact rfl; assumption; exact rfl) | (apply RunK.lenNs; exact rfl; exact rfl) | (apply RunK.moveNs; exact rfl; exact rfl) | (apply RunK.assignNs; exact rfl; exact rfl) | (first | (apply RunK.append; exact rfl; exact rfl; exact rfl; (first | exact ReadLe.sl _ _ _ _ | exact ReadLe.nil _); exact rfl; (first | exact one_rows rfl | exact one_map (fun _ => rfl) _); (first | exact app_b1 (by omega) | exact app_b2 (by omega) | exact app_b3 (by omega) | exact app_b4 (by omega) | exact app_b5 (by omega))) | (apply RunK.appendN; exact rfl; exact rfl; exact rfl; (first | exact ReadLe.sl _ _ _ _ | exact ReadLe.nil _); exact rfl; (first | exact one_rows rfl | exact one_map (fun _ => rfl) _); (first | exact app_b1 (by omega) | exact app_b2 (by omega) | exact app_b3 (by omega) | exact app_b4 (by omega) | exact app_b5 (by omega))) | (apply RunK.appendF; exact rfl; exact rfl; exact rfl; (first | exact ReadLe.sl _ _ _ _ | exact ReadLe.nil _); (first | exact one_rows rfl | exact one_map (fun _ => rfl) _); (first | exact app_b1 (by omega) | exact app_b2 (by omega) | exact app_b3 (by omega) | exact app_b4 (by omega) | exact app_b5 (by omega))))
    | refine Wt.seq ?_
    | (apply Wt.regionK; exact rfl)
    | refine Wt.block ?_
    | refine Wt.skip ?_
    | refine RunK.nil ?_
    | (apply RunK.moveV; exact rfl; exact rfl)
    | (apply RunK.index; exact rfl; exact rfl; exact rfl; (first | exact rfl | exact (rfl : (0 : Int) = ((0 : Nat) : Int)) | exact (rfl : (1 : Int) = ((1 : Nat) : Int)) | exact (rfl : (2 : Int) = ((2 : Nat) : Int)) | exact (rfl : (3 : Int) = ((3 : Nat) : Int)) | assumption); (first | omega | exact lt_of_get ‹_› | (rw [List.length_map]; omega) | (simp; omega)))
    | (apply RunK.loadE1; exact rfl; exact rfl; assumption; exact rfl)
    | (apply RunK.assignV; exact rfl; exact rfl)
    | (apply RunK.pickF; exact rfl; exact rfl; exact rfl)
    | (apply RunK.lss; exact rfl; exact rfl; exact rfl)
    | (apply RunK.eql; exact rfl; exact rfl; exact rfl)
    | (apply RunK.add; exact rfl; exact rfl; exact rfl; (first | omega | (simp only [List.length_map]; omega)))
    | (apply RunK.skip; exact rfl; exact rfl)
    | (apply RunK.guard; exact rfl; exact rfl; exact rfl; all_goals (intro hg; (first | exact absurd hg (by decide) | skip); (first | (with_reducible replace hg := not_t hg) | (with_reducible replace hg := not_f hg) | skip); (first | (with_reducible replace hg := dec_t hg) | (with_reducible replace hg := dec_f hg) | skip); (first | (with_reducible exact absurd rfl hg) | skip); (repeat rw [List.length_map] at hg); try (exfalso; omega)))
    | (apply Wt.cond; exact rfl; all_goals (intro hg; (first | exact absurd hg (by decide) | skip); (first | (with_reducible replace hg := not_t hg) | (with_reducible replace hg := not_f hg) | skip); (first | (with_reducible replace hg := dec_t hg) | (with_reducible replace hg := dec_f hg) | skip); (first | (with_reducible exact absurd rfl hg) | skip); (repeat rw [List.length_map] at hg); try (exfalso; omega))))
                refine ⟨(k + 1, J), y1, y2, ?_⟩
                dsimp only
                rw [y3]
                (refine Le.mk ?_ ?_; (repeat' (first | exact LeEnv.done | (refine LeEnv.consN ?_ ?_; exact rfl) | refine LeEnv.cons ?_ ?_ | exact PVLe.refl _ | exact PVLe.s (SVLe.nil _ _ _) | exact PVLe.s (SVLe.no _ _ _ _) | (refine PVLe.int ?_; first | rfl | omega | (simp; done) | (simp; omega)) | (refine PVLe.els ?_; first | rfl | assumption | (simp; done)) | (refine PVLe.bool ?_; first | rfl | assumption) | (refine PVLe.hdE ?_; first | rfl | assumption) | (refine PVLe.bsl ?_; first | rfl | assumption | (simp; done) | (simp; omega)))); (repeat' (first | exact LeBox.done | (refine LeBox.consN ?_ ?_; exact rfl) | (refine LeBox.cons ?_ ?_; exact rfl) | (refine LeBox.consE rfl ?_ ?_; first | assumption | (refine congrArg List.flatten ?_; first | rfl | assumption | (symm; assumption))))))
              | true =>
                cases b2 with
                | false =>
                  obtain ⟨⟨y1, y2⟩, y3⟩ := no rfl
                  repeat' (first
    | (apply RunK.indexN; exact rfl; exact rfl; exact rfl; (first | exact rfl | exact (rfl : (0 : Int) = ((0 : Nat) : Int)) | exact (rfl : (1 : Int) = ((1 : Nat) : Int)) | exact (rfl : (2 : Int) = ((2 : Nat) : Int)) | exact (rfl : (3 : Int) = ((3 : Nat) : Int)) | assumption); (first | omega | exact lt_of_get ‹_› | (rw [List.length_map]; omega) | (simp; omega))) | (apply RunK.loadNS; exact rfl; exact rfl; assumption; exact rfl) | (apply RunK.lenNs; exact rfl; exact rfl) | (apply RunK.moveNs; exact rfl; exact rfl) | (apply RunK.assignNs; exact rfl; exact rfl) | (first | (apply RunK.append; exact rfl; exact rfl; exact rfl; (first | exact ReadLe.sl _ _ _ _ | exact ReadLe.nil _); exact rfl; (first | exact one_rows rfl | exact one_map (fun _ => rfl) _); (first | exact app_b1 (by omega) | exact app_b2 (by omega) | exact app_b3 (by omega) | exact app_b4 (by omega) | exact app_b5 (by omega))) | (apply RunK.appendN; exact rfl; exact rfl; exact rfl; (first | exact ReadLe.sl _ _ _ _ | exact ReadLe.nil _); exact rfl; (first | exact one_rows rfl | exact one_map (fun _ => rfl) _); (first | exact app_b1 (by omega) | exact app_b2 (by omega) | exact app_b3 (by omega) | exact app_b4 (by omega) | exact app_b5 (by omega))) | (apply RunK.appendF; exact rfl; exact rfl; exact rfl; (first | exact ReadLe.sl _ _ _ _ | exact ReadLe.nil _); (first | exact one_rows rfl | exact one_map (fun _ => rfl) _); (first | exact app_b1 (by omega) | exact app_b2 (by omega) | exact app_b3 (by omega) | exact app_b4 (by omega) | exact app_b5 (by omega))))
    | refine Wt.seq ?_
    | (apply Wt.regionK; exact rfl)
    | refine Wt.block ?_
    | refine Wt.skip ?_
    | refine RunK.nil ?_
    | (apply RunK.moveV; exact rfl; exact rfl)
    | (apply RunK.index; exact rfl; exact rfl; exact rfl; (first | exact rfl | exact (rfl : (0 : Int) = ((0 : Nat) : Int)) | exact (rfl : (1 : Int) = ((1 : Nat) : Int)) | exact (rfl : (2 : Int) = ((2 : Nat) : Int)) | exact (rfl : (3 : Int) = ((3 : Nat) : Int)) | assumption); (first | omega | exact lt_of_get ‹_› | (rw [List.length_map]; omega) | (simp; omega)))
    | (apply RunK.loadE1; exact rfl; exact rfl; assumption; exact rfl)
    | (apply RunK.assignV; exact rfl; exact rfl)
    | (apply RunK.pickT; exact rfl; exact rfl; exact rfl)
    | (apply RunK.pickF; exact rfl; exact rfl; exact rfl)
    | (apply RunK.lss; exact rfl; exact rfl; exact rfl)
    | (apply RunK.eql; exact rfl; exact rfl; exact rfl)
    | (apply RunK.add; exact rfl; exact rfl; exact rfl; (first | omega | (simp only [List.length_map]; omega)))
    | (apply RunK.guard; exact rfl; exact rfl; exact rfl; all_goals (intro hg; (first | exact absurd hg (by decide) | skip); (first | (with_reducible replace hg := not_t hg) | (with_reducible replace hg := not_f hg) | skip); (first | (with_reducible replace hg := dec_t hg) | (with_reducible replace hg := dec_f hg) | skip); (first | (with_reducible exact absurd rfl hg) | skip); (repeat rw [List.length_map] at hg); try (exfalso; omega)))
    | (apply Wt.cond; exact rfl; all_goals (intro hg; (first | exact absurd hg (by decide) | skip); (first | (with_reducible replace hg := not_t hg) | (with_reducible replace hg := not_f hg) | skip); (first | (with_reducible replace hg := dec_t hg) | (with_reducible replace hg := dec_f hg) | skip); (first | (with_reducible exact absurd rfl hg) | skip); (repeat rw [List.length_map] at hg); try (exfalso; omega))))
                  refine ⟨(k + 1, J), y1, y2, ?_⟩
                  dsimp only
                  rw [y3]
                  (refine Le.mk ?_ ?_; (repeat' (first | exact LeEnv.done | (refine LeEnv.consN ?_ ?_; exact rfl) | refine LeEnv.cons ?_ ?_ | exact PVLe.refl _ | exact PVLe.s (SVLe.nil _ _ _) | exact PVLe.s (SVLe.no _ _ _ _) | (refine PVLe.int ?_; first | rfl | omega | (simp; done) | (simp; omega)) | (refine PVLe.els ?_; first | rfl | assumption | (simp; done)) | (refine PVLe.bool ?_; first | rfl | assumption) | (refine PVLe.hdE ?_; first | rfl | assumption) | (refine PVLe.bsl ?_; first | rfl | assumption | (simp; done) | (simp; omega)))); (repeat' (first | exact LeBox.done | (refine LeBox.consN ?_ ?_; exact rfl) | (refine LeBox.cons ?_ ?_; exact rfl) | (refine LeBox.consE rfl ?_ ?_; first | assumption | (refine congrArg List.flatten ?_; first | rfl | assumption | (symm; assumption))))))
                | true =>
                  obtain ⟨⟨y1, y2⟩, y3⟩ := yes rfl
                  repeat' (first
    | (apply RunK.indexN; exact rfl; exact rfl; exact rfl; (first | exact rfl | exact (rfl : (0 : Int) = ((0 : Nat) : Int)) | exact (rfl : (1 : Int) = ((1 : Nat) : Int)) | exact (rfl : (2 : Int) = ((2 : Nat) : Int)) | exact (rfl : (3 : Int) = ((3 : Nat) : Int)) | assumption); (first | omega | exact lt_of_get ‹_› | (rw [List.length_map]; omega) | (simp; omega))) | (apply RunK.loadNS; exact rfl; exact rfl; assumption; exact rfl) | (apply RunK.lenNs; exact rfl; exact rfl) | (apply RunK.moveNs; exact rfl; exact rfl) | (apply RunK.assignNs; exact rfl; exact rfl) | (first | (apply RunK.append; exact rfl; exact rfl; exact rfl; (first | exact ReadLe.sl _ _ _ _ | exact ReadLe.nil _); exact rfl; (first | exact one_rows rfl | exact one_map (fun _ => rfl) _); (first | exact app_b1 (by omega) | exact app_b2 (by omega) | exact app_b3 (by omega) | exact app_b4 (by omega) | exact app_b5 (by omega))) | (apply RunK.appendN; exact rfl; exact rfl; exact rfl; (first | exact ReadLe.sl _ _ _ _ | exact ReadLe.nil _); exact rfl; (first | exact one_rows rfl | exact one_map (fun _ => rfl) _); (first | exact app_b1 (by omega) | exact app_b2 (by omega) | exact app_b3 (by omega) | exact app_b4 (by omega) | exact app_b5 (by omega))) | (apply RunK.appendF; exact rfl; exact rfl; exact rfl; (first | exact ReadLe.sl _ _ _ _ | exact ReadLe.nil _); (first | exact one_rows rfl | exact one_map (fun _ => rfl) _); (first | exact app_b1 (by omega) | exact app_b2 (by omega) | exact app_b3 (by omega) | exact app_b4 (by omega) | exact app_b5 (by omega))))
    | refine Wt.seq ?_
    | (apply Wt.regionK; exact rfl)
    | refine Wt.block ?_
    | refine Wt.skip ?_
    | refine RunK.nil ?_
    | (apply RunK.moveV; exact rfl; exact rfl)
    | (apply RunK.index; exact rfl; exact rfl; exact rfl; (first | exact rfl | exact (rfl : (0 : Int) = ((0 : Nat) : Int)) | exact (rfl : (1 : Int) = ((1 : Nat) : Int)) | exact (rfl : (2 : Int) = ((2 : Nat) : Int)) | exact (rfl : (3 : Int) = ((3 : Nat) : Int)) | assumption); (first | omega | exact lt_of_get ‹_› | (rw [List.length_map]; omega) | (simp; omega)))
    | (apply RunK.loadE1; exact rfl; exact rfl; assumption; exact rfl)
    | (apply RunK.assignV; exact rfl; exact rfl)
    | (apply RunK.moveS; exact rfl; exact rfl)
    | (apply RunK.moveBs; exact rfl; exact rfl)
    | (apply RunK.indexS; exact rfl; exact rfl; exact rfl; (first | exact rfl | exact (rfl : (0 : Int) = ((0 : Nat) : Int)) | exact (rfl : (1 : Int) = ((1 : Nat) : Int)) | exact (rfl : (2 : Int) = ((2 : Nat) : Int)) | exact (rfl : (3 : Int) = ((3 : Nat) : Int)) | assumption); (first | omega | exact lt_of_get ‹_› | (rw [List.length_map]; omega) | (simp; omega)))
    | (apply RunK.assignS; exact rfl; exact rfl)
    | (apply RunK.pickT; exact rfl; exact rfl; exact rfl)
    | (apply RunK.pickF; exact rfl; exact rfl; exact rfl)
    | (apply RunK.lss; exact rfl; exact rfl; exact rfl)
    | (apply RunK.eql; exact rfl; exact rfl; exact rfl)
    | (apply RunK.add; exact rfl; exact rfl; exact rfl; (first | omega | (simp only [List.length_map]; omega)))
    | (apply RunK.rows; exact rfl; exact rfl; (repeat (first | exact PartsOk.nil | (apply PartsOk.cons; exact rfl) | (apply PartsOk.consN; exact rfl))); (repeat (first | exact Rows.nil _ | (apply Rows.cons; (first | exact Cells.agg _ | exact Cells.int _ _ | exact Cells.bool _ | exact Cells.one _ rfl); exact rfl))); exact rfl; exact rfl)
    | (apply RunK.storeF; exact rfl; exact rfl; exact rfl; exact rfl; (first | exact off0 _ _ | exact off1 _ _ _ | exact off2 _ _ _ _ | exact off3 _ _ _ _ _ | omega); (first | assumption | exact map_len (fun _ => rfl)); assumption; exact rfl; exact rfl; exact rfl; (first | exact Cells.agg _ | exact Cells.int _ _ | exact Cells.bool _ | exact Cells.one _ rfl); (repeat (first | exact Upd.nil _ | apply Upd.cons | apply Upd.skip)))
    | (apply RunK.guard; exact rfl; exact rfl; exact rfl; all_goals (intro hg; (first | exact absurd hg (by decide) | skip); (first | (with_reducible replace hg := not_t hg) | (with_reducible replace hg := not_f hg) | skip); (first | (with_reducible replace hg := dec_t hg) | (with_reducible replace hg := dec_f hg) | skip); (first | (with_reducible exact absurd rfl hg) | skip); (repeat rw [List.length_map] at hg); try (exfalso; omega)))
    | (apply Wt.cond; exact rfl; all_goals (intro hg; (first | exact absurd hg (by decide) | skip); (first | (with_reducible replace hg := not_t hg) | (with_reducible replace hg := not_f hg) | skip); (first | (with_reducible replace hg := dec_t hg) | (with_reducible replace hg := dec_f hg) | skip); (first | (with_reducible exact absurd rfl hg) | skip); (repeat rw [List.length_map] at hg); try (exfalso; omega))))
                  refine ⟨(k + 1, J.set k true), y1, y2, ?_⟩
                  dsimp only
                  rw [y3, ← hsnoc]
                  (refine Le.mk ?_ ?_; (repeat' (first | exact LeEnv.done | (refine LeEnv.consN ?_ ?_; exact rfl) | refine LeEnv.cons ?_ ?_ | exact PVLe.refl _ | exact PVLe.s (SVLe.nil _ _ _) | exact PVLe.s (SVLe.no _ _ _ _) | (refine PVLe.int ?_; first | rfl | omega | (simp; done) | (simp; omega)) | (refine PVLe.els ?_; first | rfl | assumption | (simp; done)) | (refine PVLe.bool ?_; first | rfl | assumption) | (refine PVLe.hdE ?_; first | rfl | assumption) | (refine PVLe.bsl ?_; first | rfl | assumption | (simp; done) | (simp; omega)))); (repeat' (first | exact LeBox.done | (refine LeBox.consN ?_ ?_; exact rfl) | (refine LeBox.cons ?_ ?_; exact rfl) | (refine LeBox.consE rfl ?_ ?_; first | assumption | (refine congrArg List.flatten ?_; first | rfl | assumption | (symm; assumption))))))
          · obtain rfl : k = N.length := by omega
            rw [upC_all hN hlead]
            have hrl : rows.length ≤ i := by
              have h1 := congrArg List.length hG
              simp only [List.length_map] at h1
              rw [h1]; exact Nat.le_trans (List.length_filter_le ..) (by simp)
            repeat' (first
    | (apply RunK.indexN; exact rfl; exact rfl; exact rfl; (first | exact rfl | exact (rfl : (0 : Int) = ((0 : Nat) : Int)) | exact (rfl : (1 : Int) = ((1 : Nat) : Int)) | exact (rfl : (2 : Int) = ((2 : Nat) : Int)) | exact (rfl : (3 : Int) = ((3 : Nat) : Int)) | assumption); (first | omega | exact lt_of_get ‹_› | (rw [List.length_map]; omega) | (simp; omega))) | (apply RunK.loadNS; exact rfl; exact rfl; assumption; exact rfl) | (apply RunK.lenNs; exact rfl; exact rfl) | (apply RunK.moveNs; exact rfl; exact rfl) | (apply RunK.assignNs; exact rfl; exact rfl) | (apply RunK.buildN 2000000; exact rfl; (first | exact (fun _ => rfl) | exact (fun h => nomatch h)); (repeat (first | exact PartsC.nil | (apply PartsC.row; exact rfl; exact rfl) | (apply PartsC.nl; exact rfl) | (apply PartsC.v; exact rfl))); exact rfl; exact rfl; exact rfl; exact rfl; exact rfl; exact rfl; exact rfl; intro new hnew hcap; obtain ⟨r1, rfl, hr1⟩ := map_one hnew) | (apply RunK.appendE; exact rfl; (first | exact (fun _ => rfl) | exact (fun h => nomatch h)); exact rfl; (first | exact ReadLe.sl _ _ _ _ | exact ReadLe.nil _); exact one_hdr _ _ _ _; (first | exact app_b1 (by omega) | exact app_b2 (by omega) | exact app_b3 (by omega) | exact app_b4 (by omega) | exact app_b5 (by omega)))
    | refine Wt.seq ?_
    | (apply Wt.regionK; exact rfl)
    | refine Wt.exit ?_
    | refine RunK.nil ?_
    | (apply RunK.moveV; exact rfl; exact rfl)
    | (apply RunK.assignV; exact rfl; exact rfl)
    | (apply RunK.moveS; exact rfl; exact rfl)
    | (apply RunK.assignS; exact rfl; exact rfl)
    | (apply RunK.lss; exact rfl; exact rfl; exact rfl)
    | (apply RunK.add; exact rfl; exact rfl; exact rfl; (first | omega | (simp only [List.length_map]; omega)))
    | (apply Wt.cond; exact rfl; all_goals (intro hg; (first | exact absurd hg (by decide) | skip); (first | (with_reducible replace hg := not_t hg) | (with_reducible replace hg := not_f hg) | skip); (first | (with_reducible replace hg := dec_t hg) | (with_reducible replace hg := dec_f hg) | skip); (first | (with_reducible exact absurd rfl hg) | skip); (repeat rw [List.length_map] at hg); try (exfalso; omega))))
            refine ⟨(i + 1, J, rows ++ [r1]), ⟨hlt, hJ, fun x hx => ?_, ?_⟩, by dsimp only; omega, ?_⟩
            · dsimp only
              rw [hJm x hx, marked_succ, upC_all hN hlead, Bool.eq_iff_iff, Bool.or_eq_true, Bool.or_eq_true, decide_eq_true_iff, mem_class hN hlt]
            · dsimp only
              rw [leadsUp_succ, marked_lead, hmk]
              simp [hG, hr1]
            · dsimp only
              (refine Le.mk ?_ ?_; (repeat' (first | exact LeEnv.done | (refine LeEnv.consN ?_ ?_; exact rfl) | refine LeEnv.cons ?_ ?_ | exact PVLe.refl _ | exact PVLe.s (SVLe.nil _ _ _) | exact PVLe.s (SVLe.no _ _ _ _) | (refine PVLe.int ?_; first | rfl | omega | (simp; done) | (simp; omega)) | (refine PVLe.els ?_; first | exact hds_row _ _ _ _ _ | rfl | assumption | (simp; done)) | (refine PVLe.bool ?_; first | rfl | assumption) | (refine PVLe.hdE ?_; first | rfl | assumption) | (refine PVLe.bsl ?_; first | rfl | assumption | (simp; done) | (simp; omega)))); (repeat' (first | exact LeBox.done | (refine LeBox.consN ?_ ?_; exact rfl) | (refine LeBox.cons ?_ ?_; exact rfl) | (refine LeBox.consE rfl ?_ ?_; first | assumption | (refine congrArg List.flatten ?_; first | rfl | assumption | (symm; assumption))))))
    · have hG : rows.map (·.els) = (intG (comps N)).map (·.map ival) := by
        rw [hG, show i = N.length by omega]; unfold intG comps; rw [List.map_map, List.map_map, List.map_map]; rfl
      refine Wt.weak (Turns.freezeN 6 2000000 6 rfl rfl rfl hG rfl) ?_
      repeat' (first
    | (apply RunK.indexN; exact rfl; exact rfl; exact rfl; (first | exact rfl | exact (rfl : (0 : Int) = ((0 : Nat) : Int)) | exact (rfl : (1 : Int) = ((1 : Nat) : Int)) | exact (rfl : (2 : Int) = ((2 : Nat) : Int)) | exact (rfl : (3 : Int) = ((3 : Nat) : Int)) | assumption); (first | omega | exact lt_of_get ‹_› | (rw [List.length_map]; omega) | (simp; omega))) | (apply RunK.loadNS; exact rfl; exact rfl; assumption; exact rfl) | (apply RunK.lenNs; exact rfl; exact rfl) | (apply RunK.moveNs; exact rfl; exact rfl) | (apply RunK.assignNs; exact rfl; exact rfl)
    | refine Wt.seq ?_
    | (apply Wt.regionK; exact rfl)
    | refine Wt.ret ?_
    | refine Wt.exit ?_
    | refine RunK.nil ?_
    | (apply RunK.moveV; exact rfl; exact rfl)
    | (apply RunK.assignV; exact rfl; exact rfl)
    | (apply RunK.lss; exact rfl; exact rfl; exact rfl)
    | (apply Wt.cond; exact rfl; all_goals (intro hg; (first | exact absurd hg (by decide) | skip); (first | (with_reducible replace hg := not_t hg) | (with_reducible replace hg := not_f hg) | skip); (first | (with_reducible replace hg := dec_t hg) | (with_reducible replace hg := dec_f hg) | skip); (first | (with_reducible exact absurd rfl hg) | skip); (repeat rw [List.length_map] at hg); try (exfalso; omega))))
      all_goals (apply ResOk.gv; exact rfl; exact rfl; exact els_gE hG; exact rfl; exact rfl)
end Go.Proofs.Ytfokjpmcifkoeaa
