/- The walk of Components. No condition. -/
import Derived.Test.YtfokjpmcifkoeaaCN
import Derived.Test.YtfokjpmcifkoeaaCP
namespace Go.Proofs.Ytfokjpmcifkoeaa
open Pv Go.RowKit Scc
set_option maxRecDepth 100000 in
/-- A header in sight is one cell. -/
theorem hdCells {env : List (Nat × PV)} {bs : List (Nat × List Value)} {tag : Option Nat} {rts : List (Option Nat)} {uq : Bool} {k : Nat} {els : List (List EV)} {v : Value} (h : Nat) (hk : Pv.look env h = .hd v (.nsl tag rts uq k els)) : Turns ⟨env, bs⟩ (fun s1 => v.cells = #[v] ∧ v.oneCell' = true ∧ s1 = ⟨env, bs⟩) := by
  rintro w0 m a w ⟨T, F, ρ, hr⟩
  have h2 : RepS T F w (.nsl tag rts uq k els) v := by have := hr.env h; rw [show (St.mk env bs).look h = Pv.look env h from rfl, hk] at this; exact this
  obtain ⟨hs, A, n, c, rfl, _⟩ := h2
  exact ⟨_, ⟨rfl, rfl, rfl⟩, T, F, ρ, hr⟩
set_option maxRecDepth 100000 in
theorem notin_one {b c : Nat} {l : List Nat} (h : b ∉ l) (hc : c ∈ l) : c ∉ [b] := fun hm => h (List.mem_singleton.1 hm ▸ hc)
set_option maxRecDepth 100000 in
theorem turns_then {s s1 : St} {S : St → Prop} (h : Turns s (Eq s1)) (k : Turns s1 S) : Turns s S := by
  intro w0 m a w hr
  obtain ⟨_, rfl, hr1⟩ := h w0 m a w hr
  exact k w0 m a w hr1
set_option maxRecDepth 100000 in
/-- The header that a slot held is the header of the box that it holds now. -/
theorem turns_withHs {s s1 : St} {v : Value} {id off k n : Nat} (t h : Nat) (hT : Turns s (Eq s1)) (hl : Pv.look s.env t = .s (.v v)) (hl1 : Pv.look s1.env t = .bsl id off k n) : Turns s (Eq ⟨(h, .hs v id off k n) :: s1.env, s1.boxes⟩) := by
  rintro w0 m a w ⟨T0, F0, ρ0, hr⟩
  have hv : vl a w0.fr t = v := by have := hr.env t; rw [show s.look t = Pv.look s.env t from rfl, hl] at this; exact this
  obtain ⟨_, rfl, T, F, ρ, hr1⟩ := hT w0 m a w ⟨T0, F0, ρ0, hr⟩
  have hb : BslOk T ρ w id off k n (vl a w0.fr t) := by have := hr1.env t; rw [show s1.look t = Pv.look s1.env t from rfl, hl1] at this; exact this
  rw [hv] at hb
  exact ⟨_, rfl, T, F, ρ, hr1.addFact h fun _ => hb⟩
set_option maxRecDepth 100000 in
theorem turns_unHs {env : List (Nat × PV)} {bs : List (Nat × List Value)} {v : Value} {id off k n : Nat} (t h : Nat) (hl : Pv.look env t = .s (.v v)) (hk : Pv.look env h = .hs v id off k n) : Turns ⟨env, bs⟩ (Eq ⟨(t, .bsl id off k n) :: env, bs⟩) := by
  rintro w0 m a w ⟨T, F, ρ, hr⟩
  have h1 : vl a w0.fr t = v := by have := hr.env t; rw [show (St.mk env bs).look t = Pv.look env t from rfl, hl] at this; exact this
  have h2 : BslOk T ρ w id off k n v := by have := hr.env h; rw [show (St.mk env bs).look h = Pv.look env h from rfl, hk] at this; exact this
  refine ⟨_, rfl, T, F, ρ, hr.defers, hr.size, hr.small, hr.below, hr.ext, fun u => ?_, hr.boxes⟩
  show RepP T F ρ w (Pv.look ((t, _) :: env) u) _
  rw [look_put]
  split
  · rename_i e; subst e; rw [h1]; exact h2
  · exact hr.env u
def hz : List (List Value) → Int
  | [.int _ z] :: _ => z
  | _ => 0
set_option maxRecDepth 100000 in
theorem hz_f (c : List Nat) : hz ((intR c).map ival) = ((c.headD 0 : Nat) : Int) := by cases c <;> rfl
set_option maxRecDepth 100000 in
theorem nodup_snoc {l : List Nat} {b : Nat} (h : l.Nodup) (hb : b ∉ l) : (l ++ [b]).Nodup := by
  rw [List.nodup_append]
  refine ⟨h, by simp, fun a ha c hc e => hb ?_⟩
  rw [List.mem_singleton] at hc
  rw [← hc, ← e]; exact ha
def piB (k : Nat) : Nat := [11, 9, 2, 4, 6, 7, 0, 10, 8, 1, 3, 5].getD k 0
set_option maxRecDepth 100000 in
theorem piB_lt : ∀ i, i < 12 → piB i < 12 := by decide
set_option maxRecDepth 100000 in
theorem piB_inj : ∀ i, i < 12 → ∀ j, j < 12 → piB i = piB j → i = j := by decide
set_option maxRecDepth 100000 in
theorem injB_of {l : List Nat} (hn : l.Nodup) (hl : l.length = 12) : InjB fun k => l.getD (piB k) 0 := fun i j hi hj e => by
  have h1 := piB_lt i hi
  have h2 := piB_lt j hj
  refine piB_inj i hi j hj ((List.getElem_inj hn (h₀ := hl ▸ h1) (h₁ := hl ▸ h2)).1 ?_)
  have e : l.getD (piB i) 0 = l.getD (piB j) 0 := e
  rwa [List.getD_eq_getElem?_getD, List.getD_eq_getElem?_getD, List.getElem?_eq_getElem (hl ▸ h1), List.getElem?_eq_getElem (hl ▸ h2)] at e
/-- The facts, spelt. -/
abbrev coF (B : Nat → Nat) (hn : Value) (N : G) (s : TS) (sr pr : NRow) (parts : List NRow) : List (Nat × PV) :=
  [(1, .s (.v (ptrB B 6))), (4, .s (.v (ptrB B 2))), (8, .s (.v (ptrB B 8))), (10, .s (.v (ptrB B 7))),
   (2000000, .kept (B 1) (.cells #[.int .i64 (s.count : Int)] 3 (0, 0))),
   (2000001, .kept (B 2) (.cells #[arrH (B 9) N.length] 23 (0, 0))),
   (2000002, .kept (B 3) (.cells #[arrH (B 10) N.length] 23 (0, 0))),
   (2000003, .kept (B 4) (.cells #[arrH (B 11) N.length] 42 (0, 0))),
   (2000004, .kept (B 5) (.cells #[sr.hdr] 23 (0, 0))),
   (2000005, .kept (B 6) (.cells #[hn] 22 (0, 0))),
   (2000006, .kept (B 7) (.cells #[.func (.func 48) #[] (capsOf B).toArray] 60 (0, 0))),
   (2000007, .kept (B 8) (.cells #[pr.hdr] 22 (0, 0))),
   (2000008, .kept (B 9) (.cells (nArr s.num) 3 (0, 0))),
   (2000009, .kept (B 10) (.cells (nArr s.low) 3 (0, 0))),
   (2000010, .kept (B 11) (.cells (bArr s.on) 4 (0, 0))),
   (2000011, .hd hn (.nsl none [none] false 1 (gE (intG N)))),
   (2000012, .nest 1 1 (sr :: pr :: parts))]
set_option maxRecDepth 100000 in
theorem nArr_rep (n : Nat) : (List.replicate n (Value.int .i64 0)).toArray = nArr (List.replicate n 0) := by simp [nArr]
set_option maxRecDepth 100000 in
theorem bArr_rep (n : Nat) : (List.replicate n (Value.bool false)).toArray = bArr (List.replicate n false) := by simp [bArr]
set_option maxRecDepth 100000 in
theorem notin_nil {b : Nat} : b ∉ ([] : List Nat) := List.not_mem_nil
set_option maxRecDepth 100000 in
theorem notin_cons {b c : Nat} {l : List Nat} (h : b ≠ c) (t : b ∉ l) : b ∉ c :: l := fun hm => (List.mem_cons.1 hm).elim h t
instance : TyZero Try.prog 60 .nilFunc := .mk' (by kernel_rfl)
set_option maxHeartbeats 4000000 in
set_option maxRecDepth 100000 in
theorem sccComps (N : G) (hN : GOk N) (hn1 : N.length ≤ 1000000) (hr : ∀ r ∈ N, r.length < 10000000000) : Pure Try.prog 19 [graph (intG N)] (.tup [graphR (intG (comps N)), .v (.int .i64 0)]) := by
  have hv := sccValid (intG N) (by simp; omega) (fun r h => by obtain ⟨q, hq, rfl⟩ := List.mem_map.1 h; simpa [intR] using hr q hq)
  rw [valid_intG hN] at hv
  have hgl : (gE (intG N)).length = N.length := by simp [gE, intG]
  refine pure_of_wt Try.func19 rfl (by decide) _ Try.ntmps19 rfl Try.results19 fun w0 => ?_
  refine Wt.weakS (Turns.asHd 0 2000011 rfl) fun s1 hs1 => ?_
  obtain ⟨hn, rfl⟩ := hs1
  refine Wt.weakS (hdCells 2000011 rfl) fun s1 hs1 => ?_
  obtain ⟨hnc, hno, rfl⟩ := hs1
  repeat' (first
    | (apply RunK.boxK 2000005; exact rfl; exact rfl; intro b6 _; rw [hnc]) | (refine stopAt 3 ?_) | (apply RunK.loadP 2000005; exact rfl; exact rfl; exact rfl; exact rfl; first | exact rfl | assumption) | (apply RunK.callS; exact rfl; exact rfl; exact hv; (exact .hdn 2000011 rfl rfl rfl .nil); exact rfl)
    | refine Wt.seq ?_
    | (apply Wt.regionK; exact rfl)
    | refine Wt.skip ?_
    | refine RunK.nil ?_
    | (apply RunK.assignV; exact rfl; exact rfl)
    | (apply RunK.assignN; exact rfl; exact rfl)
    | (apply RunK.not; exact rfl; exact rfl)
    | (apply Wt.cond; exact rfl; all_goals (intro hg; (first | exact absurd hg (by decide) | skip); (first | (with_reducible replace hg := not_t hg) | (with_reducible replace hg := not_f hg) | skip); (first | (with_reducible replace hg := dec_t hg) | (with_reducible replace hg := dec_f hg) | skip); (first | (with_reducible exact absurd rfl hg) | skip); (repeat rw [List.length_map] at hg); try (exfalso; omega))))
  refine Stopped.mk' ?_
  repeat' (first
    | (refine stopAt 4 ?_) | (apply RunK.loadP 2000005; exact rfl; exact rfl; exact rfl; exact rfl; exact rfl; first | refine RunK.unHd 15 2000011 rfl rfl ?_ | refine RunK.unHd 18 2000011 rfl rfl ?_ | refine RunK.unHd 21 2000011 rfl rfl ?_ | refine RunK.unHd 25 2000011 rfl rfl ?_) | (apply RunK.indexN; exact rfl; exact rfl; exact rfl; (first | exact rfl | exact (rfl : (0 : Int) = ((0 : Nat) : Int)) | exact (rfl : (1 : Int) = ((1 : Nat) : Int)) | exact (rfl : (2 : Int) = ((2 : Nat) : Int)) | exact (rfl : (3 : Int) = ((3 : Nat) : Int)) | assumption); (first | omega | exact lt_of_get ‹_› | (rw [List.length_map]; omega) | (simp; omega))) | (apply RunK.loadNS; exact rfl; exact rfl; assumption; exact rfl) | (apply RunK.lenNs; exact rfl; exact rfl) | (apply RunK.moveNs; exact rfl; exact rfl) | (apply RunK.assignNs; exact rfl; exact rfl) | (apply RunK.makeK 2000008 (n := (gE (intG N)).length); exact rfl; exact rfl; exact rfl; (rw [hgl]; omega); exact rfl; intro b9 h9; rw [hgl]; have n9 : b9 ∉ [b6] := (notin_cons (h9 2000005 _ _ rfl).symm notin_nil)) | (apply RunK.allocK 2000001; exact rfl; intro b2 h2; have n2 : b2 ∉ [b6, b9] := (notin_cons (h2 2000005 _ _ rfl).symm (notin_cons (h2 2000008 _ _ rfl).symm notin_nil))) | (apply RunK.storeP 2000001; (case hw => exact rfl); (case hx => exact rfl); (case hy => exact rfl); (case hk => exact rfl); (case hj => exact Nat.zero_lt_one); (case hc => exact rfl); (case ho => exact rfl); (case hap => (repeat' (first | exact trivial | exact notin_one n2 (by simp) | refine And.intro ?_ ?_))))
    | refine Wt.seq ?_
    | (apply Wt.regionK; exact rfl)
    | refine RunK.nil ?_)
  refine Stopped.mk' ?_
  repeat' (first
    | (refine stopAt 5 ?_) | (apply RunK.loadP 2000005; exact rfl; exact rfl; exact rfl; exact rfl; exact rfl; first | refine RunK.unHd 15 2000011 rfl rfl ?_ | refine RunK.unHd 18 2000011 rfl rfl ?_ | refine RunK.unHd 21 2000011 rfl rfl ?_ | refine RunK.unHd 25 2000011 rfl rfl ?_) | (apply RunK.indexN; exact rfl; exact rfl; exact rfl; (first | exact rfl | exact (rfl : (0 : Int) = ((0 : Nat) : Int)) | exact (rfl : (1 : Int) = ((1 : Nat) : Int)) | exact (rfl : (2 : Int) = ((2 : Nat) : Int)) | exact (rfl : (3 : Int) = ((3 : Nat) : Int)) | assumption); (first | omega | exact lt_of_get ‹_› | (rw [List.length_map]; omega) | (simp; omega))) | (apply RunK.loadNS; exact rfl; exact rfl; assumption; exact rfl) | (apply RunK.lenNs; exact rfl; exact rfl) | (apply RunK.moveNs; exact rfl; exact rfl) | (apply RunK.assignNs; exact rfl; exact rfl) | (apply RunK.makeK 2000009 (n := (gE (intG N)).length); exact rfl; exact rfl; exact rfl; (rw [hgl]; omega); exact rfl; intro b10 h10; rw [hgl]; have n10 : b10 ∉ [b6, b9, b2] := (notin_cons (h10 2000005 _ _ rfl).symm (notin_cons (h10 2000008 _ _ rfl).symm (notin_cons (h10 2000001 _ _ rfl).symm notin_nil)))) | (apply RunK.allocK 2000002; exact rfl; intro b3 h3; have n3 : b3 ∉ [b6, b9, b2, b10] := (notin_cons (h3 2000005 _ _ rfl).symm (notin_cons (h3 2000008 _ _ rfl).symm (notin_cons (h3 2000001 _ _ rfl).symm (notin_cons (h3 2000009 _ _ rfl).symm notin_nil))))) | (apply RunK.storeP 2000002; (case hw => exact rfl); (case hx => exact rfl); (case hy => exact rfl); (case hk => exact rfl); (case hj => exact Nat.zero_lt_one); (case hc => exact rfl); (case ho => exact rfl); (case hap => (repeat' (first | exact trivial | exact notin_one n3 (by simp) | refine And.intro ?_ ?_))))
    | refine Wt.seq ?_
    | (apply Wt.regionK; exact rfl)
    | refine RunK.nil ?_)
  refine Stopped.mk' ?_
  repeat' (first
    | (refine stopAt 6 ?_) | (apply RunK.loadP 2000005; exact rfl; exact rfl; exact rfl; exact rfl; exact rfl; first | refine RunK.unHd 15 2000011 rfl rfl ?_ | refine RunK.unHd 18 2000011 rfl rfl ?_ | refine RunK.unHd 21 2000011 rfl rfl ?_ | refine RunK.unHd 25 2000011 rfl rfl ?_) | (apply RunK.indexN; exact rfl; exact rfl; exact rfl; (first | exact rfl | exact (rfl : (0 : Int) = ((0 : Nat) : Int)) | exact (rfl : (1 : Int) = ((1 : Nat) : Int)) | exact (rfl : (2 : Int) = ((2 : Nat) : Int)) | exact (rfl : (3 : Int) = ((3 : Nat) : Int)) | assumption); (first | omega | exact lt_of_get ‹_› | (rw [List.length_map]; omega) | (simp; omega))) | (apply RunK.loadNS; exact rfl; exact rfl; assumption; exact rfl) | (apply RunK.lenNs; exact rfl; exact rfl) | (apply RunK.moveNs; exact rfl; exact rfl) | (apply RunK.assignNs; exact rfl; exact rfl) | (apply RunK.makeK 2000010 (n := (gE (intG N)).length); exact rfl; exact rfl; exact rfl; (rw [hgl]; omega); exact rfl; intro b11 h11; rw [hgl]; have n11 : b11 ∉ [b6, b9, b2, b10, b3] := (notin_cons (h11 2000005 _ _ rfl).symm (notin_cons (h11 2000008 _ _ rfl).symm (notin_cons (h11 2000001 _ _ rfl).symm (notin_cons (h11 2000009 _ _ rfl).symm (notin_cons (h11 2000002 _ _ rfl).symm notin_nil)))))) | (apply RunK.allocK 2000003; exact rfl; intro b4 h4; have n4 : b4 ∉ [b6, b9, b2, b10, b3, b11] := (notin_cons (h4 2000005 _ _ rfl).symm (notin_cons (h4 2000008 _ _ rfl).symm (notin_cons (h4 2000001 _ _ rfl).symm (notin_cons (h4 2000009 _ _ rfl).symm (notin_cons (h4 2000002 _ _ rfl).symm (notin_cons (h4 2000010 _ _ rfl).symm notin_nil))))))) | (apply RunK.storeP 2000003; (case hw => exact rfl); (case hx => exact rfl); (case hy => exact rfl); (case hk => exact rfl); (case hj => exact Nat.zero_lt_one); (case hc => exact rfl); (case ho => exact rfl); (case hap => (repeat' (first | exact trivial | exact notin_one n4 (by simp) | refine And.intro ?_ ?_))))
    | refine Wt.seq ?_
    | (apply Wt.regionK; exact rfl)
    | refine RunK.nil ?_)
  refine Stopped.mk' ?_
  repeat' (first
    | (refine stopAt 7 ?_) | (apply RunK.allocK 2000004; exact rfl; intro b5 h5; have n5 : b5 ∉ [b6, b9, b2, b10, b3, b11, b4] := (notin_cons (h5 2000005 _ _ rfl).symm (notin_cons (h5 2000008 _ _ rfl).symm (notin_cons (h5 2000001 _ _ rfl).symm (notin_cons (h5 2000009 _ _ rfl).symm (notin_cons (h5 2000002 _ _ rfl).symm (notin_cons (h5 2000010 _ _ rfl).symm (notin_cons (h5 2000003 _ _ rfl).symm notin_nil))))))))
    | refine Wt.seq ?_
    | (apply Wt.regionK; exact rfl)
    | refine RunK.nil ?_)
  refine Stopped.mk' ?_
  repeat' (first
    | (refine stopAt 8 ?_) | (apply RunK.allocK 2000007; exact rfl; intro b8 h8; have n8 : b8 ∉ [b6, b9, b2, b10, b3, b11, b4, b5] := (notin_cons (h8 2000005 _ _ rfl).symm (notin_cons (h8 2000008 _ _ rfl).symm (notin_cons (h8 2000001 _ _ rfl).symm (notin_cons (h8 2000009 _ _ rfl).symm (notin_cons (h8 2000002 _ _ rfl).symm (notin_cons (h8 2000010 _ _ rfl).symm (notin_cons (h8 2000003 _ _ rfl).symm (notin_cons (h8 2000004 _ _ rfl).symm notin_nil)))))))))
    | refine Wt.seq ?_
    | (apply Wt.regionK; exact rfl)
    | refine RunK.nil ?_)
  refine Stopped.mk' ?_
  repeat' (first
    | (refine stopAt 9 ?_) | (apply RunK.allocK 2000000; exact rfl; intro b1 h1; have n1 : b1 ∉ [b6, b9, b2, b10, b3, b11, b4, b5, b8] := (notin_cons (h1 2000005 _ _ rfl).symm (notin_cons (h1 2000008 _ _ rfl).symm (notin_cons (h1 2000001 _ _ rfl).symm (notin_cons (h1 2000009 _ _ rfl).symm (notin_cons (h1 2000002 _ _ rfl).symm (notin_cons (h1 2000010 _ _ rfl).symm (notin_cons (h1 2000003 _ _ rfl).symm (notin_cons (h1 2000004 _ _ rfl).symm (notin_cons (h1 2000007 _ _ rfl).symm notin_nil)))))))))) | (apply RunK.storeP 2000000; (case hw => exact rfl); (case hx => exact rfl); (case hy => exact rfl); (case hk => exact rfl); (case hj => exact Nat.zero_lt_one); (case hc => exact rfl); (case ho => exact rfl); (case hap => (repeat' (first | exact trivial | exact notin_one n1 (by simp) | refine And.intro ?_ ?_))))
    | refine Wt.seq ?_
    | (apply Wt.regionK; exact rfl)
    | refine RunK.nil ?_)
  refine Stopped.mk' ?_
  repeat' (first
    | (refine stopAt 10 ?_) | (apply RunK.allocK 2000006; exact rfl; intro b7 h7; have n7 : b7 ∉ [b6, b9, b2, b10, b3, b11, b4, b5, b8, b1] := (notin_cons (h7 2000005 _ _ rfl).symm (notin_cons (h7 2000008 _ _ rfl).symm (notin_cons (h7 2000001 _ _ rfl).symm (notin_cons (h7 2000009 _ _ rfl).symm (notin_cons (h7 2000002 _ _ rfl).symm (notin_cons (h7 2000010 _ _ rfl).symm (notin_cons (h7 2000003 _ _ rfl).symm (notin_cons (h7 2000004 _ _ rfl).symm (notin_cons (h7 2000007 _ _ rfl).symm (notin_cons (h7 2000000 _ _ rfl).symm notin_nil)))))))))))
    | refine Wt.seq ?_
    | (apply Wt.regionK; exact rfl)
    | refine RunK.nil ?_)
  refine Stopped.mk' ?_
  repeat' (first
    | (refine stopAt 11 ?_) | (apply RunK.makeFuncV (capsOf (fun k => [0, b1, b2, b3, b4, b5, b6, b7, b8, b9, b10, b11].getD k 0)); exact rfl; exact rfl) | (apply RunK.storeP 2000006; (case hw => exact rfl); (case hx => exact rfl); (case hy => exact rfl); (case hk => exact rfl); (case hj => exact Nat.zero_lt_one); (case hc => exact rfl); (case ho => exact rfl); (case hap => (repeat' (first | exact trivial | exact notin_one n7 (by simp) | refine And.intro ?_ ?_))))
    | refine Wt.seq ?_
    | (apply Wt.regionK; exact rfl)
    | refine RunK.nil ?_)
  refine Stopped.mk' ?_
  refine Wt.weak (Turns.nestNils 2000012 1 1 2) ?_
  obtain ⟨b0, hb0⟩ : ∃ b0 : Nat, b0 ∉ [b6, b9, b2, b10, b3, b11, b4, b5, b8, b1, b7] := ⟨b6 + b9 + b2 + b10 + b3 + b11 + b4 + b5 + b8 + b1 + b7 + 1, fun hm => by simp only [List.mem_cons, List.not_mem_nil, or_false] at hm; omega⟩
  have hnd : [b6, b9, b2, b10, b3, b11, b4, b5, b8, b1, b7, b0].Nodup := nodup_snoc (nodup_snoc (nodup_snoc (nodup_snoc (nodup_snoc (nodup_snoc (nodup_snoc (nodup_snoc (nodup_snoc (nodup_snoc (nodup_snoc (l := [b6]) (by simp) n9) n2) n10) n3) n11) n4) n5) n8) n1) n7) hb0
  have hB := injB_of hnd rfl
  rw [nArr_rep, bArr_rep]
  refine Wt.le ⟨coF (fun k => [b6, b9, b2, b10, b3, b11, b4, b5, b8, b1, b7, b0].getD (piB k) 0) hn N (Scc.start N) NRow.nl NRow.nl [], []⟩ (by (refine Le.mk ?_ ?_; (repeat' (first | exact LeEnv.done | refine LeEnv.cons ?_ ?_ | exact PVLe.refl _ | exact PVLe.s (SVLe.nil _ _ _) | exact PVLe.s (SVLe.no _ _ _ _) | (refine PVLe.int ?_; first | rfl | omega | (simp; done) | (simp; omega)) | (refine PVLe.els ?_; first | rfl | assumption | (simp; done)) | (refine PVLe.bool ?_; first | rfl | assumption) | (refine PVLe.bsl ?_; first | rfl | assumption | (simp; done))));  (repeat' (first | exact LeBox.done | refine LeBox.cons ?_ ?_ | exact rfl)))) ?_
  generalize (fun k => [b6, b9, b2, b10, b3, b11, b4, b5, b8, b1, b7, b0].getD (piB k) 0) = B at hB ⊢
  clear hnd hb0 n9 n2 n10 n3 n11 n4 n5 n8 n1 n7 h9 h2 h10 h3 h11 h4 h5 h8 h1 h7
  repeat' (first
    | (apply RunK.loadP 2000005; exact rfl; exact rfl; exact rfl; exact rfl; exact rfl; refine RunK.unHd 25 2000011 rfl rfl ?_) | (apply RunK.indexN; exact rfl; exact rfl; exact rfl; (first | exact rfl | exact (rfl : (0 : Int) = ((0 : Nat) : Int)) | exact (rfl : (1 : Int) = ((1 : Nat) : Int)) | exact (rfl : (2 : Int) = ((2 : Nat) : Int)) | exact (rfl : (3 : Int) = ((3 : Nat) : Int)) | assumption); (first | omega | exact lt_of_get ‹_› | (rw [List.length_map]; omega) | (simp; omega))) | (apply RunK.loadNS; exact rfl; exact rfl; assumption; exact rfl) | (apply RunK.lenNs; exact rfl; exact rfl) | (apply RunK.moveNs; exact rfl; exact rfl) | (apply RunK.assignNs; exact rfl; exact rfl)
    | (apply Wt.regionK; exact rfl)
    | refine Wt.block ?_
    | refine RunK.nil ?_
    | (apply RunK.moveV; exact rfl; exact rfl))
  refine Wt.loop (fun m : Nat × NRow × NRow × List NRow => ⟨(26, .s (.v (.int .i64 N.length))) :: (27, .s (.v (.int .i64 m.1))) :: coF B hn N (upTo N m.1) m.2.1 m.2.2.1 m.2.2.2, []⟩) (fun m => m.1 ≤ N.length ∧ RowsOk (upTo N m.1) m.2.1 m.2.2.1 m.2.2.2) (fun m => N.length - m.1) (0, NRow.nl, NRow.nl, []) ⟨Nat.zero_le _, rfl, Nat.le_refl _, rfl, Nat.le_refl _, rfl⟩ ?_ ?_
  · (refine Le.mk ?_ ?_; (repeat' (first | exact LeEnv.done | refine LeEnv.cons ?_ ?_ | exact PVLe.refl _ | exact PVLe.s (SVLe.nil _ _ _) | exact PVLe.s (SVLe.no _ _ _ _) | (refine PVLe.int ?_; first | rfl | omega | (simp; done) | (simp; omega)) | (refine PVLe.els ?_; first | rfl | assumption | (simp; done)) | (refine PVLe.bool ?_; first | rfl | assumption) | (refine PVLe.bsl ?_; first | rfl | assumption | (simp; done))));  (repeat' (first | exact LeBox.done | refine LeBox.cons ?_ ?_ | exact rfl)))
  · rintro ⟨m, sr, pr, parts⟩ ⟨hm, hR⟩
    dsimp only at hm hR ⊢
    obtain ⟨hI, hdone⟩ := upTo_inv hN m hm
    by_cases hml : m < N.length
    · have hSm := upTo_succ N m
      rw [stepF] at hSm
      generalize upTo N m = t at hSm hI hR ⊢
      have u9 : m < t.num.length := hI.lnum.symm ▸ hml
      by_cases h0 : t.N m = 0
      · rw [if_pos h0] at hSm
        have h0' : ((t.num.getD m 0 : Nat) : Int) = 0 := by have : t.num.getD m 0 = 0 := h0; omega
        have hcall := enterOk N hN hn1 hr N.length B hn [] t m sr pr parts hB hI hml h0 (fun x hx => by cases hx) (by omega) hR
        repeat' (first
    | (apply RunK.loadP 2000001; exact rfl; exact rfl; exact rfl; exact rfl; first | exact rfl | assumption) | (apply RunK.loadP 2000006; exact rfl; exact rfl; exact rfl; exact rfl; first | exact rfl | assumption) | (apply idxA; exact rfl; exact rfl; exact rfl; exact rfl; assumption) | (apply loadN 2000008; exact rfl; exact rfl; exact rfl; exact rfl; assumption) | (apply loadN 2000009; exact rfl; exact rfl; exact rfl; exact rfl; assumption) | (apply loadB 2000010; exact rfl; exact rfl; exact rfl; exact rfl; assumption) | (apply RunK.acts [2000000, 2000004, 2000007, 2000008, 2000009, 2000010, 2000012] 900002 (caps := capsOf B) («as» := [.v (.int .i64 (m : Int))]); (case hw => exact rfl); (case hp => exact hcall); (case hx => exact rfl); (case ha => (repeat (first | exact ArgsLe.nil | refine ArgsLe.cons ?_ ?_ | exact ArgLe.v _ | exact ArgLe.sl _ _ _ _ | exact ArgLe.nil _ | exact ArgLe.nil' | exact ArgLe.nsl _ _ _ _ _ | exact ArgLe.nsn _ | (apply ArgLe.bsl; exact rfl; (first | exact rfl | (rw [List.length_map]; done) | (simp only [List.length_map]; done) | (simp; done) | (simp; omega)); (first | assumption | exact map_len (fun _ => rfl)))))); (case hf => exact .kept 2000000 rfl rfl (.kept 2000001 rfl rfl (.kept 2000002 rfl rfl (.kept 2000003 rfl rfl (.kept 2000004 rfl rfl (.kept 2000005 rfl rfl (.kept 2000006 rfl rfl (.kept 2000007 rfl rfl (.kept 2000008 rfl rfl (.kept 2000009 rfl rfl (.kept 2000010 rfl rfl (.hdn 2000011 rfl rfl (.nest 2000012 rfl rfl rfl .nil))))))))))))); (case hap => (repeat' (first | exact trivial | exact apartB hB 1 [1, 5, 8, 9, 10, 11] rfl | exact apartB hB 2 [1, 5, 8, 9, 10, 11] rfl | exact apartB hB 3 [1, 5, 8, 9, 10, 11] rfl | exact apartB hB 4 [1, 5, 8, 9, 10, 11] rfl | exact apartB hB 5 [1, 5, 8, 9, 10, 11] rfl | exact apartB hB 6 [1, 5, 8, 9, 10, 11] rfl | exact apartB hB 7 [1, 5, 8, 9, 10, 11] rfl | exact apartB hB 8 [1, 5, 8, 9, 10, 11] rfl | exact apartB hB 9 [1, 5, 8, 9, 10, 11] rfl | exact apartB hB 10 [1, 5, 8, 9, 10, 11] rfl | exact apartB hB 11 [1, 5, 8, 9, 10, 11] rfl | refine And.intro ?_ ?_))); (case hng => exact rfl); intro res fs' hres _; obtain ⟨rfl, sr3, pr3, parts3, hR3, rfl⟩ := hres)
    | refine Wt.seq ?_
    | (apply Wt.regionK; exact rfl)
    | refine Wt.block ?_
    | refine Wt.skip ?_
    | refine RunK.nil ?_
    | (apply RunK.moveV; exact rfl; exact rfl)
    | (apply RunK.assignV; exact rfl; exact rfl)
    | (apply RunK.lss; exact rfl; exact rfl; exact rfl)
    | (apply RunK.eql; exact rfl; exact rfl; exact rfl)
    | (apply RunK.add; exact rfl; exact rfl; exact rfl; (first | omega | (simp only [List.length_map]; omega)))
    | (apply Wt.cond; exact rfl; all_goals (intro hg; (first | exact absurd hg (by decide) | skip); (first | (with_reducible replace hg := not_t hg) | (with_reducible replace hg := not_f hg) | skip); (first | (with_reducible replace hg := dec_t hg) | (with_reducible replace hg := dec_f hg) | skip); (first | (with_reducible exact absurd rfl hg) | skip); (repeat rw [List.length_map] at hg); try (exfalso; omega))))
        refine ⟨(m + 1, sr3, pr3, parts3), ⟨hml, ?_⟩, by dsimp only; omega, ?_⟩
        · dsimp only; rw [hSm]; exact hR3
        · dsimp only; rw [hSm]
          (refine Le.mk ?_ ?_; (repeat' (first | exact LeEnv.done | refine LeEnv.cons ?_ ?_ | exact PVLe.refl _ | exact PVLe.s (SVLe.nil _ _ _) | exact PVLe.s (SVLe.no _ _ _ _) | (refine PVLe.int ?_; first | rfl | omega | (simp; done) | (simp; omega)) | (refine PVLe.els ?_; first | rfl | assumption | (simp; done)) | (refine PVLe.bool ?_; first | rfl | assumption) | (refine PVLe.bsl ?_; first | rfl | assumption | (simp; done))));  (repeat' (first | exact LeBox.done | refine LeBox.cons ?_ ?_ | exact rfl)))
      · rw [if_neg h0] at hSm
        have h0' : ¬ ((t.num.getD m 0 : Nat) : Int) = 0 := by have : ¬ t.num.getD m 0 = 0 := h0; omega
        repeat' (first
    | (apply RunK.loadP 2000001; exact rfl; exact rfl; exact rfl; exact rfl; first | exact rfl | assumption) | (apply idxA; exact rfl; exact rfl; exact rfl; exact rfl; assumption) | (apply loadN 2000008; exact rfl; exact rfl; exact rfl; exact rfl; assumption) | (apply loadN 2000009; exact rfl; exact rfl; exact rfl; exact rfl; assumption) | (apply loadB 2000010; exact rfl; exact rfl; exact rfl; exact rfl; assumption)
    | refine Wt.seq ?_
    | (apply Wt.regionK; exact rfl)
    | refine Wt.block ?_
    | refine Wt.skip ?_
    | refine RunK.nil ?_
    | (apply RunK.moveV; exact rfl; exact rfl)
    | (apply RunK.assignV; exact rfl; exact rfl)
    | (apply RunK.lss; exact rfl; exact rfl; exact rfl)
    | (apply RunK.eql; exact rfl; exact rfl; exact rfl)
    | (apply RunK.add; exact rfl; exact rfl; exact rfl; (first | omega | (simp only [List.length_map]; omega)))
    | (apply Wt.cond; exact rfl; all_goals (intro hg; (first | exact absurd hg (by decide) | skip); (first | (with_reducible replace hg := not_t hg) | (with_reducible replace hg := not_f hg) | skip); (first | (with_reducible replace hg := dec_t hg) | (with_reducible replace hg := dec_f hg) | skip); (first | (with_reducible exact absurd rfl hg) | skip); (repeat rw [List.length_map] at hg); try (exfalso; omega))))
        refine ⟨(m + 1, sr, pr, parts), ⟨hml, ?_⟩, by dsimp only; omega, ?_⟩
        · dsimp only; rw [hSm]; exact hR
        · dsimp only; rw [hSm]
          (refine Le.mk ?_ ?_; (repeat' (first | exact LeEnv.done | refine LeEnv.cons ?_ ?_ | exact PVLe.refl _ | exact PVLe.s (SVLe.nil _ _ _) | exact PVLe.s (SVLe.no _ _ _ _) | (refine PVLe.int ?_; first | rfl | omega | (simp; done) | (simp; omega)) | (refine PVLe.els ?_; first | rfl | assumption | (simp; done)) | (refine PVLe.bool ?_; first | rfl | assumption) | (refine PVLe.bsl ?_; first | rfl | assumption | (simp; done))));  (repeat' (first | exact LeBox.done | refine LeBox.cons ?_ ?_ | exact rfl)))
    · obtain rfl : m = N.length := by omega
      repeat' (first
    | (refine stopAt 17 ?_)
    | refine Wt.seq ?_
    | (apply Wt.regionK; exact rfl)
    | refine Wt.exit ?_
    | refine RunK.nil ?_
    | (apply RunK.lss; exact rfl; exact rfl; exact rfl)
    | (apply Wt.cond; exact rfl; all_goals (intro hg; (first | exact absurd hg (by decide) | skip); (first | (with_reducible replace hg := not_t hg) | (with_reducible replace hg := not_f hg) | skip); (first | (with_reducible replace hg := dec_t hg) | (with_reducible replace hg := dec_f hg) | skip); (first | (with_reducible exact absurd rfl hg) | skip); (repeat rw [List.length_map] at hg); try (exfalso; omega))))
      refine Stopped.mk' ?_
      obtain ⟨A, cap, els⟩ := pr
      obtain rfl : els = _ := hR.spine
      have hsr : ∀ l : List (List Nat), l.Perm (upTo N N.length).out → (l.Pairwise fun a b => a.headD 0 ≤ b.headD 0) → l = comps N := fun l hp hs => search_comps hN hp hs
      have hout := hR.parts
      have hcl := count_le hI
      have hol := hI.outc
      have hscc := hI.scc
      generalize hto : upTo N N.length = t at hsr hout hI hcl hol hscc hR ⊢
      by_cases hp : parts = []
      · subst hp
        have ho : t.out = [] := List.map_eq_nil_iff.1 hout.symm
        have hc0 : comps N = [] := (hsr [] (by rw [ho]) .nil).symm
        rw [hc0]
        apply Wt.regionK; exact rfl
        apply RunK.loadP 2000007; exact rfl; exact rfl; exact rfl; exact rfl; exact rfl
        apply RunK.callT; exact rfl; exact rfl; exact sortNil; exact .nst (r := ⟨A, cap, []⟩) 2000012 rfl rfl rfl rfl (by simp) (.cons (.v _) .nil); exact rfl
        refine RunK.nil ?_
        refine Wt.seq ?_
        apply Wt.regionK; exact rfl
        apply RunK.loadP 2000007; exact rfl; exact rfl; exact rfl; exact rfl; exact rfl
        refine RunK.weakS (Turns.takeN 41 2000012 41 1 23 (r := ⟨A, cap, []⟩) rfl rfl rfl rfl rfl rfl) fun s1 hs1 => ?_
        subst hs1
        apply RunK.assignS; exact rfl; exact rfl
        apply RunK.assignV; exact rfl; exact rfl
        refine RunK.nil ?_
        refine Wt.weak (Turns.permN 2000012 (rows := [sr, NRow.nl]) [sr, NRow.nl] [] rfl (.refl _) (List.nil_sublist _)) ?_
        refine Wt.weak (Turns.freezeN 2 2000012 2 (rows := []) (L := []) rfl rfl rfl rfl rfl) ?_
        refine Wt.ret ?_
        apply ResOk.gv; exact rfl; exact rfl; exact rfl; exact rfl; exact rfl
      · apply Wt.regionK; exact rfl
        apply RunK.loadP 2000007; exact rfl; exact rfl; exact rfl; exact rfl; exact rfl
        refine RunK.weakS (turns_withHs 39 2000020 (turns_then (Turns.takeN 39 2000012 900005 1 23 (r := ⟨A, cap, hds parts⟩) rfl rfl rfl rfl rfl rfl) (turns_then (Turns.permN 2000012 (rows := [sr, NRow.nl] ++ parts) ([sr, NRow.nl] ++ parts) parts rfl (.refl _) (List.sublist_append_right ..)) (Turns.thaw 39 39 rfl (by intro h; cases h) Nat.one_pos rfl))) rfl rfl) fun s1 hs1 => ?_
        subst hs1
        have hz1 : ∀ r ∈ parts, r.els[0]? = some [.int .i64 (hz r.els)] ∧ 0 ≤ hz r.els ∧ hz r.els < 4611686018427387904 := fun r hr => by
          have hm : r.els ∈ parts.map (·.els) := List.mem_map.2 ⟨r, hr, rfl⟩
          rw [hout] at hm
          obtain ⟨c, hc, he⟩ := List.mem_map.1 hm
          rw [← he, hz_f]
          have hcn := (hscc c hc).1
          cases c with
          | nil => exact absurd rfl hcn
          | cons x c =>
            have hx := (hI.outs x).1 ⟨_, hc, List.mem_cons_self ..⟩
            have hxl := N_lt hI hx.1
            refine ⟨rfl, ?_, ?_⟩ <;> simp only [List.headD_cons] <;> omega
        have hpl : parts.length ≤ 1000000 := by
          have := congrArg List.length hout
          simp only [List.length_map] at this
          omega
        apply RunK.sortH sortHCall sortsH 2000012 (rows := parts) (fun r => hz r.els); exact rfl; exact rfl; exact rfl; exact rfl; exact List.length_map ..; exact hp; exact rfl; exact hz1; omega
        intro rows' hperm hsort
        refine RunK.nil ?_
        have hpe : (rows'.map (·.els)).Perm (parts.map (·.els)) := hperm.map _
        obtain ⟨l', hl', hle⟩ := perm_map_inv hpe t.out hout
        have hc0 : l' = comps N := hsr l' hl' (by
          have h1 : (rows'.map (·.els)).Pairwise (fun a b => hz a ≤ hz b) := List.pairwise_map.2 hsort
          rw [hle, List.pairwise_map] at h1
          refine h1.imp fun h => ?_
          rw [hz_f, hz_f] at h
          omega)
        --D1
        refine Wt.seq ?_
        apply Wt.regionK; exact rfl
        apply RunK.loadP 2000007; exact rfl; exact rfl; exact rfl; exact rfl; exact rfl
        refine RunK.weakS (turns_unHs 41 2000020 rfl rfl) fun s1 hs1 => ?_
        subst hs1
        apply RunK.assignBs; exact rfl; exact rfl
        apply RunK.assignV; exact rfl; exact rfl
        refine RunK.nil ?_
        have hle' : rows'.map (·.els) = (intG (comps N)).map (·.map ival) := by rw [hle, hc0]; simp [intG]
        refine Wt.le ⟨[(2, .bsl 39 0 1 (hds parts).length), (3, .s (.v (.int .i64 0))), (2000012, .nest 1 1 parts)], [(39, (hds rows').flatten)]⟩ (by (refine Le.mk ?_ ?_; (repeat' (first | exact LeEnv.done | refine LeEnv.cons ?_ ?_ | exact PVLe.refl _ | exact PVLe.s (SVLe.nil _ _ _) | exact PVLe.s (SVLe.no _ _ _ _) | (refine PVLe.int ?_; first | rfl | omega | (simp; done) | (simp; omega)) | (refine PVLe.els ?_; first | rfl | assumption | (simp; done)) | (refine PVLe.bool ?_; first | rfl | assumption) | (refine PVLe.bsl ?_; first | rfl | assumption | (simp; done))));  (repeat' (first | exact LeBox.done | refine LeBox.cons ?_ ?_ | exact rfl)))) ?_
        refine Wt.freeze 2 2 23 (els := hds rows') rfl rfl (by rw [List.length_map, List.length_map, hperm.length_eq]) (map_len fun _ => rfl) ?_
        refine Wt.weak (Turns.permN 2000012 (rows := parts) rows' rows' rfl hperm.symm (List.Sublist.refl _)) ?_
        refine Wt.weak (Turns.freezeN 2 2000012 2 (rows := rows') rfl rfl rfl hle' rfl) ?_
        refine Wt.ret ?_
        apply ResOk.gv; exact rfl; exact rfl; exact els_gE hle'; exact rfl; exact rfl
end Go.Proofs.Ytfokjpmcifkoeaa
