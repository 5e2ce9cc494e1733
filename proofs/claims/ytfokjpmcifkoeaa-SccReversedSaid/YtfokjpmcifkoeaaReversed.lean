/- The law SccReversed: the walk. No condition. -/
import Derived.Test.YtfokjpmcifkoeaaCVa
import Derived.Test.YtfokjpmcifkoeaaCW
import Derived.Test.YtfokjpmcifkoeaaRaw
import Derived.Test.YtfokjpmcifkoeaaRevM
namespace Go.Proofs.Ytfokjpmcifkoeaa
open Pv Go.RowKit Scc
set_option maxRecDepth 100000 in
/-- A nest's slice that has elements lies somewhere. -/
theorem nestSome {env : List (Nat × PV)} {bs : List (Nat × List Value)} (h : Nat) {g k : Nat} {rows : List NRow} (hk : Pv.look env h = PV.nest g k rows) : Turns ⟨env, bs⟩ (fun s1 => s1 = ⟨env, bs⟩ ∧ ∀ r ∈ rows, r.els ≠ [] → ∃ p, r.A = some p) := by
  rintro w0 n a w ⟨T, F, ρ, hr⟩
  refine ⟨_, ⟨rfl, fun r hm hne => ?_⟩, T, F, ρ, hr⟩
  have h1 := hr.env h
  rw [show (St.mk env bs).look h = Pv.look env h from rfl, hk] at h1
  obtain ⟨_, q2, _, q4⟩ := h1.2 r hm
  rcases q4 with ⟨_, hc⟩ | ⟨b, o, _, _, hA, _⟩
  · exact absurd (List.eq_nil_of_length_eq_zero (by omega)) hne
  · exact ⟨_, hA⟩
def revRow (N : G) (i k x : Nat) : List (List Value) := (intR (backP N i k x)).map ival
def othRow (N : G) (b i k x : Nat) : List (List Value) := (intR (othP N b i k x)).map ival
set_option maxRecDepth 100000 in
theorem nils (n : Nat) : List.replicate n [Value.slice none 0 0] = hds (List.replicate n NRow.nl) := by unfold hds; rw [List.map_replicate]; rfl
set_option maxRecDepth 100000 in
theorem nils_els (n : Nat) (f : Nat → List (List Value)) (hf : ∀ x, f x = []) : (List.replicate n NRow.nl).map (·.els) = (List.range n).map f := by
  rw [List.map_replicate]
  symm
  refine List.eq_replicate_iff.2 ⟨by simp, fun b hb => ?_⟩
  obtain ⟨x, _, rfl⟩ := List.mem_map.1 hb
  exact hf x
set_option maxRecDepth 100000 in
/-- The i-th of n rows. -/
theorem rows_at {rows : List NRow} {n : Nat} {f : Nat → List (List Value)} (h : rows.map (·.els) = (List.range n).map f) {i : Nat} (hi : i < n) : ∃ q, rows[i]? = some q ∧ q ∈ rows ∧ q.els = f i ∧ (hds rows)[i]? = some [q.hdr] := by
  have h1 : (rows.map (·.els))[i]? = some (f i) := by rw [h, List.getElem?_map, List.getElem?_range hi]; rfl
  rw [List.getElem?_map] at h1
  cases hq : rows[i]? with
  | none => rw [hq] at h1; cases h1
  | some q =>
    rw [hq] at h1
    injection h1 with h1
    exact ⟨q, rfl, List.mem_of_getElem? hq, h1, hds_at hq⟩
set_option maxRecDepth 100000 in
theorem rows_set {rows : List NRow} {n : Nat} {f f' : Nat → List (List Value)} (h : rows.map (·.els) = (List.range n).map f) {i : Nat} {q : NRow} (hf : ∀ x, x < n → x ≠ i → f' x = f x) (hq : q.els = f' i) : (rows.set i q).map (·.els) = (List.range n).map f' := by
  rw [List.map_set, h]
  refine List.ext_getElem? fun y => ?_
  rw [List.getElem?_set]
  by_cases hy : y < n
  · rw [List.getElem?_map, List.getElem?_map, List.getElem?_range hy]
    split
    · rename_i e; subst e; rw [if_pos (by simpa using hy), hq]; rfl
    · rename_i e; show some (f y) = some (f' y); rw [hf y hy fun e' => e e'.symm]
  · rw [List.getElem?_eq_none (l := (List.range n).map f') (by simp; omega)]
    split
    · rw [if_neg (by simp; omega)]
    · exact List.getElem?_eq_none (by simp; omega)
set_option maxRecDepth 100000 in
theorem hds_set (rows : List NRow) (i : Nat) (r : NRow) : (hds rows).set i [r.hdr] = hds (rows.set i r) := by unfold hds; rw [List.map_set]
set_option maxRecDepth 100000 in
theorem hds_len (rows : List NRow) : (hds rows).length = rows.length := List.length_map ..
set_option maxRecDepth 100000 in
/-- A pointer to an element of a slice whose header is known. -/
theorem idxL {P : Program} {dr : Bool} {ops : Array Oper} {rest : List Oper} {env : List (Nat × PV)} {bs : List (Nat × List Value)} {K : St → Prop} {d : Nat} {ty : TypeId} {pos : String} {aft : Array Edge} {gd : Option (Nat × Bool)} {t e by0 : Nat} [hT : TySl P t e 1 by0] {x y : Operand} {b o n c : Nat} {kd : IntKind} {i : Int} {j : Nat} (hw : wantedS ops ⟨env, bs⟩ ⟨some d, .indexAddr t x y, ty, pos, aft, gd⟩ = some true) (hx : (St.mk env bs).ev x = .s (.v (.slice (some ⟨b, o, none⟩) n c))) (hy : (St.mk env bs).ev y = .s (.v (.int kd i))) (hij : i = (j : Int)) (hj : j < n)
    (k : RunK dr P ops rest ⟨(d, .s (.v (.pointer (some ⟨b, o + j, none⟩)))) :: env, bs⟩ K) : RunK dr P ops (⟨some d, .indexAddr t x y, ty, pos, aft, gd⟩ :: rest) ⟨env, bs⟩ K :=
  RunK.idxP hw hx hy hij hj (by rw [Nat.mul_one]; exact k)
set_option maxHeartbeats 8000000 in
set_option maxRecDepth 100000 in
theorem reversedG {H : List Value} {m : List (Value × List (List Value))} {g : List (List Int)} (hr : RawG H m g) (y : Int) (hy : i64 y) : Acts Try.prog 9 [.sl none .no 1 (hd1 H), .v (.int .i64 y)] [.hds none 1 m] [] (fun r _ => r = .s (.v (.bool true))) := by
  have hm2 : Try.prog.follows .mixedOrders = true := by kernel_rfl
  have h1 := fitR hr
  clear hr
  obtain ⟨N, hN, e, hn, hr⟩ := fit_valid g
  rw [e] at h1
  clear e
  have hgl : (gE (intG N)).length = N.length := by simp [gE, intG]
  refine acts_of_wt Try.func9 rfl (by decide) _ Try.ntmps9 rfl Try.results9 rfl (by simp [ownOf]) fun w0 W => ?_
  by_cases h0 : N.length = 0
  · repeat' (first
    | (exfalso; omega) | (apply RunK.indexN; exact rfl; exact rfl; exact rfl; (first | exact rfl | exact (rfl : (0 : Int) = ((0 : Nat) : Int)) | exact (rfl : (1 : Int) = ((1 : Nat) : Int)) | exact (rfl : (2 : Int) = ((2 : Nat) : Int)) | exact (rfl : (3 : Int) = ((3 : Nat) : Int)) | assumption); (first | omega | exact lt_of_get ‹_› | (rw [List.length_map]; omega) | (simp; omega))) | (apply RunK.loadNS; exact rfl; exact rfl; assumption; exact rfl) | (apply RunK.lenNs; exact rfl; exact rfl) | (apply RunK.moveNs; exact rfl; exact rfl) | (apply RunK.assignNs; exact rfl; exact rfl) | (apply RunK.actR _ h1 (fun _ _ h => h); (case hn => exact rfl); (case hw => exact rfl); (case he => exact rfl); (case hx => exact rfl); (case ha => (repeat (first | exact ArgsLe.nil | refine ArgsLe.cons ?_ ?_ | exact ArgLe.v _ | exact ArgLe.sl _ _ _ _ | exact ArgLe.nil _ | exact ArgLe.nil' | exact ArgLe.nsl _ _ _ _ _ | exact ArgLe.nsn _ | (apply ArgLe.bsl; exact rfl; (first | exact rfl | (rw [List.length_map]; done) | (simp only [List.length_map]; done) | (simp; done) | (simp; omega)); (first | assumption | exact map_len (fun _ => rfl)))))); (case hgs => exact rfl); (case hf => exact .hds 2000000 rfl rfl .nil)) | (apply RunK.callS; exact rfl; exact rfl; exact awake; (repeat (first | exact ArgsLe.nil | refine ArgsLe.cons ?_ ?_ | exact ArgLe.v _ | exact ArgLe.sl _ _ _ _ | exact ArgLe.nil _ | exact ArgLe.nil' | exact ArgLe.nsl _ _ _ _ _ | exact ArgLe.nsn _ | (apply ArgLe.bsl; exact rfl; (first | exact rfl | (rw [List.length_map]; done) | (simp only [List.length_map]; done) | (simp; done) | (simp; omega)); (first | assumption | exact map_len (fun _ => rfl))))); exact rfl)
    | refine Wt.seq ?_
    | (apply Wt.regionK; exact rfl)
    | refine Wt.ret ?_
    | refine RunK.nil ?_
    | (apply RunK.moveV; exact rfl; exact rfl)
    | (apply RunK.assignV; exact rfl; exact rfl)
    | (apply RunK.moveS; exact rfl; exact rfl)
    | (apply RunK.eql; exact rfl; exact rfl; exact rfl)
    | (apply Wt.cond; exact rfl; all_goals (intro hg; (first | exact absurd hg (by decide) | skip); (first | (with_reducible replace hg := not_t hg) | (with_reducible replace hg := not_f hg) | skip); (first | (with_reducible replace hg := dec_t hg) | (with_reducible replace hg := dec_f hg) | skip); (first | (with_reducible exact absurd rfl hg) | skip); (repeat rw [List.length_map] at hg); try (exfalso; omega))))
    all_goals exact ActEnd.mk (.s (.v (.bool true))) [] rfl (by apply ResOk.v1; exact rfl; exact rfl) rfl rfl .nil (.hds .nil)
  have hn0 : ((gE (intG N)).length : Int) ≠ 0 := by omega
  have hb1 := tmod_bd y (n := (gE (intG N)).length) (by omega)
  have hb2 := fitV_ok (gE (intG N)).length (by omega) y
  repeat' (first
    | (refine stopQ 6 ?_) | (apply RunK.indexN; exact rfl; exact rfl; exact rfl; (first | exact rfl | exact (rfl : (0 : Int) = ((0 : Nat) : Int)) | exact (rfl : (1 : Int) = ((1 : Nat) : Int)) | exact (rfl : (2 : Int) = ((2 : Nat) : Int)) | exact (rfl : (3 : Int) = ((3 : Nat) : Int)) | assumption); (first | omega | exact lt_of_get ‹_› | (rw [List.length_map]; omega) | (simp; omega))) | (apply RunK.loadNS; exact rfl; exact rfl; assumption; exact rfl) | (apply RunK.lenNs; exact rfl; exact rfl) | (apply RunK.moveNs; exact rfl; exact rfl) | (apply RunK.assignNs; exact rfl; exact rfl) | (apply RunK.actR _ h1 (fun _ _ h => h); (case hn => exact rfl); (case hw => exact rfl); (case he => exact rfl); (case hx => exact rfl); (case ha => (repeat (first | exact ArgsLe.nil | refine ArgsLe.cons ?_ ?_ | exact ArgLe.v _ | exact ArgLe.sl _ _ _ _ | exact ArgLe.nil _ | exact ArgLe.nil' | exact ArgLe.nsl _ _ _ _ _ | exact ArgLe.nsn _ | (apply ArgLe.bsl; exact rfl; (first | exact rfl | (rw [List.length_map]; done) | (simp only [List.length_map]; done) | (simp; done) | (simp; omega)); (first | assumption | exact map_len (fun _ => rfl)))))); (case hgs => exact rfl); (case hf => exact .hds 2000000 rfl rfl .nil)) | (apply RunK.bin; exact rfl; exact rfl; exact rfl; exact BinRun.rem hn0)
    | refine Wt.seq ?_
    | (apply Wt.regionK; exact rfl)
    | refine Wt.skip ?_
    | refine RunK.nil ?_
    | (apply RunK.moveV; exact rfl; exact rfl)
    | (apply RunK.assignV; exact rfl; exact rfl)
    | (apply RunK.moveS; exact rfl; exact rfl)
    | (apply RunK.eql; exact rfl; exact rfl; exact rfl)
    | (apply RunK.add; exact rfl; exact rfl; exact rfl; (first | omega | (simp only [List.length_map]; omega)))
    | (apply Wt.cond; exact rfl; all_goals (intro hg; (first | exact absurd hg (by decide) | skip); (first | (with_reducible replace hg := not_t hg) | (with_reducible replace hg := not_f hg) | skip); (first | (with_reducible replace hg := dec_t hg) | (with_reducible replace hg := dec_f hg) | skip); (first | (with_reducible exact absurd rfl hg) | skip); (repeat rw [List.length_map] at hg); try (exfalso; omega))))
  all_goals try (exfalso; omega)
  refine StoppedQ.mk' ?_
  obtain ⟨b, hb⟩ : ∃ b : Nat, fitV (gE (intG N)).length y = (b : Int) := ⟨(fitV (gE (intG N)).length y).toNat, by omega⟩
  have hbn : b < N.length := by omega
  have hb' : (y.tmod ((gE (intG N)).length : Int) + ((gE (intG N)).length : Int)).tmod ((gE (intG N)).length : Int) = (b : Int) := hb
  rw [hb']
  refine Wt.le ⟨[(1, .s (.v (.int .i64 (b : Int)))), (5, .s (.nsl (some 27) [some 27] true 1 (gE (intG N)))), (6, .s (.v (.int .i64 N.length))), (2999999, .old W (keptOf [.hds none 1 m]))], []⟩ (by (refine Le.mk ?_ ?_; (repeat' (first | exact LeEnv.done | refine LeEnv.cons ?_ ?_ | exact PVLe.refl _ | exact PVLe.s (SVLe.nil _ _ _) | exact PVLe.s (SVLe.no _ _ _ _) | (refine PVLe.int ?_; first | rfl | omega | (simp; done) | (simp; omega)) | (refine PVLe.els ?_; first | rfl | assumption | (simp; done)) | (refine PVLe.bool ?_; first | rfl | assumption) | (refine PVLe.bsl ?_; first | rfl | assumption | (simp; done))));  (repeat' (first | exact LeBox.done | refine LeBox.cons ?_ ?_ | exact rfl)))) ?_
  clear h1 hb hb' hb1 hb2 hn0 hy
  repeat' (first
    | (refine stopQ 7 ?_) | (apply RunK.indexN; exact rfl; exact rfl; exact rfl; (first | exact rfl | exact (rfl : (0 : Int) = ((0 : Nat) : Int)) | exact (rfl : (1 : Int) = ((1 : Nat) : Int)) | exact (rfl : (2 : Int) = ((2 : Nat) : Int)) | exact (rfl : (3 : Int) = ((3 : Nat) : Int)) | assumption); (first | omega | exact lt_of_get ‹_› | (rw [List.length_map]; omega) | (simp; omega))) | (apply RunK.loadNS; exact rfl; exact rfl; assumption; exact rfl) | (apply RunK.lenNs; exact rfl; exact rfl) | (apply RunK.moveNs; exact rfl; exact rfl) | (apply RunK.assignNs; exact rfl; exact rfl) | (apply RunK.makeSlE (n := N.length); exact rfl; exact rfl; exact rfl; exact (by simp); exact (by simp); exact (by omega); exact rfl)
    | refine Wt.seq ?_
    | (apply Wt.regionD; kernel_rfl; kernel_rfl; exact rfl; exact rfl)
    | refine RunK.nil ?_
    | (apply RunK.moveV; exact rfl; exact rfl)
    | (apply RunK.assignS; exact rfl; exact rfl))
  refine StoppedQ.mk' ?_
  rw [nils]
  refine Wt.weakS (Turns.thawN 5 3000001 4 (τ := 27) rfl (gE_L (intG N)) rfl) ?_
  rintro s1 ⟨rowsL, hL, _, rfl⟩
  refine Wt.le ⟨[(1, .s (.v (.int .i64 (b : Int)))), (5, .s (.sl (some 27) .no 1 (hds rowsL))), (6, .s (.v (.int .i64 N.length))), (7, .s (.sl (some 41) (.front 23) 1 (hds (List.replicate N.length NRow.nl)))), (8, .s (.sl (some 43) (.front 23) 1 (hds (List.replicate N.length NRow.nl)))), (3000001, .nest 4 1 rowsL), (2999999, .old W (keptOf [.hds none 1 m]))], []⟩ (by (refine Le.mk ?_ ?_; (repeat' (first | exact LeEnv.done | refine LeEnv.cons ?_ ?_ | exact PVLe.refl _ | exact PVLe.s (SVLe.nil _ _ _) | exact PVLe.s (SVLe.no _ _ _ _) | (refine PVLe.int ?_; first | rfl | omega | (simp; done) | (simp; omega)) | (refine PVLe.els ?_; first | rfl | assumption | (simp; done)) | (refine PVLe.bool ?_; first | rfl | assumption) | (refine PVLe.bsl ?_; first | rfl | assumption | (simp; done))));  (repeat' (first | exact LeBox.done | refine LeBox.cons ?_ ?_ | exact rfl)))) ?_
  have hrl : (List.replicate N.length NRow.nl).length = N.length := List.length_replicate
  have hne : hds (List.replicate N.length NRow.nl) ≠ [] := fun h => by have := congrArg List.length h; rw [hds_len, hrl] at this; exact h0 this
  have hG1 : (List.replicate N.length NRow.nl).map (·.els) = (List.range N.length).map (revRow N 0 0) := nils_els _ _ fun x => by unfold revRow; rw [backP_zero]; rfl
  have hG2 : (List.replicate N.length NRow.nl).map (·.els) = (List.range N.length).map (othRow N b 0 0) := nils_els _ _ fun x => by unfold othRow; rw [othP_zero]; rfl
  have e7 : ∀ (p o c : Nat) (rb : List NRow), rb.length = N.length → (NRow.mk (some (p, o)) c (hds rb)).hdr = Value.slice (some ⟨p, o, none⟩) N.length c := fun p o c rb h => by unfold NRow.hdr; rw [hds_len, h]; rfl
  refine Wt.weak (Turns.nestNils 3000000 3 1 0) ?_
  refine Wt.weakS (Turns.pushN 5 3000000 rfl rfl rfl rfl) ?_
  rintro s1 ⟨sp, hsp, _, rfl⟩
  refine Wt.weak (Turns.nestNils 2000001 5 1 0) ?_
  refine Wt.weakS (Turns.pushN 7 2000001 rfl rfl rfl rfl) ?_
  rintro s1 ⟨⟨A1, cb, e1⟩, hsb, _, rfl⟩
  refine Wt.weakS (nestSome 2000001 rfl) ?_
  rintro s1 ⟨rfl, hA⟩
  dsimp only at hsb
  subst hsb
  obtain ⟨⟨pb, ob⟩, hA⟩ := hA _ (List.mem_singleton.2 rfl) hne
  dsimp only at hA
  subst hA
  refine Wt.weak (Turns.nestNils 2000003 7 1 0) ?_
  refine Wt.weakS (Turns.pushN 8 2000003 rfl rfl rfl rfl) ?_
  rintro s1 ⟨⟨A2, co, e2⟩, hso, _, rfl⟩
  refine Wt.weakS (nestSome 2000003 rfl) ?_
  rintro s1 ⟨rfl, hA⟩
  dsimp only at hso
  subst hso
  obtain ⟨⟨po, oo⟩, hA⟩ := hA _ (List.mem_singleton.2 rfl) hne
  dsimp only at hA
  subst hA
  refine Wt.weak (Turns.nestNils 2000002 6 1 N.length) ?_
  refine Wt.weak (Turns.nestNils 2000004 8 1 N.length) ?_
  rw [e7 pb ob cb _ hrl, e7 po oo co _ hrl]
  refine Wt.le ⟨[(1, .s (.v (.int .i64 (b : Int)))), (5, .s (.v sp.hdr)), (6, .s (.v (.int .i64 N.length))), (7, .s (.v (.slice (some ⟨pb, ob, none⟩) N.length cb))), (8, .s (.v (.slice (some ⟨po, oo, none⟩) N.length co))), (3000000, .nest 3 1 [sp]), (3000001, .nest 4 1 rowsL), (2000001, .nest 5 1 [⟨some (pb, ob), cb, hds (List.replicate N.length NRow.nl)⟩]), (2000002, .nest 6 1 (List.replicate N.length NRow.nl)), (2000003, .nest 7 1 [⟨some (po, oo), co, hds (List.replicate N.length NRow.nl)⟩]), (2000004, .nest 8 1 (List.replicate N.length NRow.nl)), (2999999, .old W (keptOf [.hds none 1 m]))], []⟩ (by (refine Le.mk ?_ ?_; (repeat' (first | exact LeEnv.done | refine LeEnv.cons ?_ ?_ | exact PVLe.refl _ | exact PVLe.s (SVLe.nil _ _ _) | exact PVLe.s (SVLe.no _ _ _ _) | (refine PVLe.int ?_; first | rfl | omega | (simp; done) | (simp; omega)) | (refine PVLe.els ?_; first | rfl | assumption | (simp; done)) | (refine PVLe.bool ?_; first | rfl | assumption) | (refine PVLe.bsl ?_; first | rfl | assumption | (simp; done))));  (repeat' (first | exact LeBox.done | refine LeBox.cons ?_ ?_ | exact rfl)))) ?_
  have hrow : ∀ j, (N.getD j []).length ≤ 30 := fun j => by
    rw [List.getD_eq_getElem?_getD]
    cases hx : N[j]? with
    | none => exact Nat.zero_le _
    | some r => exact hr r (List.mem_of_getElem? hx)
  clear hne
  repeat' (first
    | (apply RunK.indexN; exact rfl; exact rfl; exact rfl; (first | exact rfl | exact (rfl : (0 : Int) = ((0 : Nat) : Int)) | exact (rfl : (1 : Int) = ((1 : Nat) : Int)) | exact (rfl : (2 : Int) = ((2 : Nat) : Int)) | exact (rfl : (3 : Int) = ((3 : Nat) : Int)) | assumption); (first | omega | exact lt_of_get ‹_› | (rw [List.length_map]; omega) | (simp; omega))) | (apply RunK.loadNS; exact rfl; exact rfl; assumption; exact rfl) | (apply RunK.lenNs; exact rfl; exact rfl) | (apply RunK.moveNs; exact rfl; exact rfl) | (apply RunK.assignNs; exact rfl; exact rfl)
    | (apply Wt.regionK; exact rfl)
    | refine Wt.block ?_
    | refine RunK.nil ?_
    | (apply RunK.assignV; exact rfl; exact rfl))
  refine Wt.loop (fun i : Nat × List NRow × List NRow => ⟨[(1, .s (.v (.int .i64 (b : Int)))), (5, .s (.v sp.hdr)), (6, .s (.v (.int .i64 N.length))), (7, .s (.v (.slice (some ⟨pb, ob, none⟩) N.length cb))), (8, .s (.v (.slice (some ⟨po, oo, none⟩) N.length co))), (3000000, .nest 3 1 [sp]), (3000001, .nest 4 1 rowsL), (2000001, .nest 5 1 [⟨some (pb, ob), cb, hds i.2.1⟩]), (2000002, .nest 6 1 i.2.1), (2000003, .nest 7 1 [⟨some (po, oo), co, hds i.2.2⟩]), (2000004, .nest 8 1 i.2.2), (2999999, .old W (keptOf [.hds none 1 m])), (9, .s (.v (.int .i64 i.1)))], []⟩) (fun i => i.1 ≤ N.length ∧ i.2.1.map (·.els) = (List.range N.length).map (revRow N i.1 0) ∧ i.2.2.map (·.els) = (List.range N.length).map (othRow N b i.1 0)) (fun i => N.length - i.1) (0, List.replicate N.length NRow.nl, List.replicate N.length NRow.nl) ⟨Nat.zero_le _, hG1, hG2⟩ ?_ ?_
  · (refine Le.mk ?_ ?_; (repeat' (first | exact LeEnv.done | refine LeEnv.cons ?_ ?_ | exact PVLe.refl _ | exact PVLe.s (SVLe.nil _ _ _) | exact PVLe.s (SVLe.no _ _ _ _) | (refine PVLe.int ?_; first | rfl | omega | (simp; done) | (simp; omega)) | (refine PVLe.els ?_; first | rfl | assumption | (simp; done)) | (refine PVLe.bool ?_; first | rfl | assumption) | (refine PVLe.bsl ?_; first | rfl | assumption | (simp; done))));  (repeat' (first | exact LeBox.done | refine LeBox.cons ?_ ?_ | exact rfl)))
  · rintro ⟨i, rb, ro⟩ ⟨hi, hG1, hG2⟩
    dsimp only at hi hG1 hG2 ⊢
    by_cases hlt : i < N.length
    · obtain ⟨r, hri⟩ := exists_at hlt
      have hgd := getD_of hri (d := [])
      obtain ⟨q, hq, hqm, hqe, hqh⟩ := els_at hL (intG_at hri)
      have hspi : sp.els[i]? = some [q.hdr] := by rw [hsp]; exact hqh
      have hspm : sp ∈ [sp] := List.mem_singleton.2 rfl
      have hql : q.els.length = r.length := by rw [hqe]; simp [intR]
      have hr30 := hr r (List.mem_of_getElem? hri)
      repeat' (first
    | (apply RunK.indexN; exact rfl; exact rfl; exact rfl; (first | exact rfl | exact (rfl : (0 : Int) = ((0 : Nat) : Int)) | exact (rfl : (1 : Int) = ((1 : Nat) : Int)) | exact (rfl : (2 : Int) = ((2 : Nat) : Int)) | exact (rfl : (3 : Int) = ((3 : Nat) : Int)) | assumption); (first | omega | exact lt_of_get ‹_› | (rw [List.length_map]; omega) | (simp; omega))) | (apply RunK.loadNS; exact rfl; exact rfl; assumption; exact rfl) | (apply RunK.lenNs; exact rfl; exact rfl) | (apply RunK.moveNs; exact rfl; exact rfl) | (apply RunK.assignNs; exact rfl; exact rfl)
    | refine Wt.seq ?_
    | (apply Wt.regionK; exact rfl)
    | refine Wt.block ?_
    | refine Wt.skip ?_
    | refine RunK.nil ?_
    | (apply RunK.moveV; exact rfl; exact rfl)
    | (apply RunK.assignV; exact rfl; exact rfl)
    | (apply RunK.lss; exact rfl; exact rfl; exact rfl)
    | (apply Wt.cond; exact rfl; all_goals (intro hg; (first | exact absurd hg (by decide) | skip); (first | (with_reducible replace hg := not_t hg) | (with_reducible replace hg := not_f hg) | skip); (first | (with_reducible replace hg := dec_t hg) | (with_reducible replace hg := dec_f hg) | skip); (first | (with_reducible exact absurd rfl hg) | skip); (repeat rw [List.length_map] at hg); try (exfalso; omega))))
      refine Wt.loop (fun k : Nat × List NRow × List NRow => ⟨[(1, .s (.v (.int .i64 (b : Int)))), (5, .s (.v sp.hdr)), (6, .s (.v (.int .i64 N.length))), (7, .s (.v (.slice (some ⟨pb, ob, none⟩) N.length cb))), (8, .s (.v (.slice (some ⟨po, oo, none⟩) N.length co))), (3000000, .nest 3 1 [sp]), (3000001, .nest 4 1 rowsL), (2000001, .nest 5 1 [⟨some (pb, ob), cb, hds k.2.1⟩]), (2000002, .nest 6 1 k.2.1), (2000003, .nest 7 1 [⟨some (po, oo), co, hds k.2.2⟩]), (2000004, .nest 8 1 k.2.2), (2999999, .old W (keptOf [.hds none 1 m])), (9, .s (.v (.int .i64 i))), (10, .s (.v (.int .i64 k.1)))], []⟩) (fun k => k.1 ≤ r.length ∧ k.2.1.map (·.els) = (List.range N.length).map (revRow N i k.1) ∧ k.2.2.map (·.els) = (List.range N.length).map (othRow N b i k.1)) (fun k => r.length - k.1) (0, rb, ro) ⟨Nat.zero_le _, hG1, hG2⟩ ?_ ?_
      · (refine Le.mk ?_ ?_; (repeat' (first | exact LeEnv.done | refine LeEnv.cons ?_ ?_ | exact PVLe.refl _ | exact PVLe.s (SVLe.nil _ _ _) | exact PVLe.s (SVLe.no _ _ _ _) | (refine PVLe.int ?_; first | rfl | omega | (simp; done) | (simp; omega)) | (refine PVLe.els ?_; first | rfl | assumption | (simp; done)) | (refine PVLe.bool ?_; first | rfl | assumption) | (refine PVLe.bsl ?_; first | rfl | assumption | (simp; done))));  (repeat' (first | exact LeBox.done | refine LeBox.cons ?_ ?_ | exact rfl)))
      · clear hG1 hG2 rb ro
        rintro ⟨k, rb, ro⟩ ⟨hk, hG1, hG2⟩
        dsimp only at hk hG1 hG2 ⊢
        by_cases hkt : k < r.length
        · obtain ⟨x, hxk⟩ := exists_at hkt
          have hxn : x < N.length := hN _ _ (edge_of hri hxk)
          have hqk : q.els[k]? = some [.int .i64 (x : Int)] := by rw [hqe]; exact int_get hxk
          have hRn := ren_lt (b := b) hlt
          obtain ⟨q1, h1a, h1m, h1e, h1h⟩ := rows_at hG1 hxn
          obtain ⟨q2, h2a, h2m, h2e, h2h⟩ := rows_at hG2 hRn
          have eR : ((i : Int) + (b : Int)).tmod (N.length : Int) = ((ren N.length b i : Nat) : Int) := by unfold ren; rw [Int.tmod_eq_emod_of_nonneg (by omega)]; rfl
          have eX : ((x : Int) + (b : Int)).tmod (N.length : Int) = ((ren N.length b x : Nat) : Int) := by unfold ren; rw [Int.tmod_eq_emod_of_nonneg (by omega)]; rfl
          have hn0 : (N.length : Int) ≠ 0 := by omega
          have hq1 : q1.els.length ≤ 1000 := by
            have := backP_len hrow i k x
            have h2 : (i + 1) * 30 ≤ 25 * 30 := Nat.mul_le_mul_right _ (by omega)
            rw [h1e]; unfold revRow; rw [List.length_map, intR, List.length_map]; omega
          have hq2 : q2.els.length ≤ 1000 := by
            have := othP_len hrow b i k (ren N.length b i)
            rw [h2e]; unfold othRow; rw [List.length_map, intR, List.length_map]; omega
          have hbl : rb.length = N.length := by have := congrArg List.length hG1; simpa using this
          have hol : ro.length = N.length := by have := congrArg List.length hG2; simpa using this
          repeat' (first
    | (refine Wt.regionS (i := 13) ⟨[(1, .s (.v (.int .i64 (b : Int)))), (5, .s (.v sp.hdr)), (6, .s (.v (.int .i64 N.length))), (7, .s (.v (.slice (some ⟨pb, ob, none⟩) N.length cb))), (9, .s (.v (.int .i64 i))), (10, .s (.v (.int .i64 k))), (3000000, .nest 3 1 [sp]), (3000001, .nest 4 1 rowsL)], []⟩ [0, 1, 2, 3, 4, 5, 6, 7] [8, 9, 10, 11, 12, 13, 14, 15, 16, 17, 18, 19, 20, 21, 22] hm2 rfl (by decide +kernel) (by kernel_rfl) (CalmLe.of rfl fun p hp => (by simp only [List.mem_cons, List.not_mem_nil, or_false] at hp; rcases hp with rfl | rfl | rfl | rfl | rfl | rfl | rfl | rfl <;> exact ⟨by dsimp only; omega, rfl, rfl⟩)) fun K hK hN => ?_) | (apply RunK.lenK; exact rfl; exact rfl) | (apply RunK.idxN 3000000; exact rfl; exact rfl; exact rfl; (first | exact rfl | exact (rfl : (0 : Int) = ((0 : Nat) : Int)) | exact (rfl : (1 : Int) = ((1 : Nat) : Int)) | exact (rfl : (2 : Int) = ((2 : Nat) : Int)) | exact (rfl : (3 : Int) = ((3 : Nat) : Int)) | assumption); exact rfl; exact rfl; assumption; assumption) | (apply RunK.idxN 3000001; exact rfl; exact rfl; exact rfl; (first | exact rfl | exact (rfl : (0 : Int) = ((0 : Nat) : Int)) | exact (rfl : (1 : Int) = ((1 : Nat) : Int)) | exact (rfl : (2 : Int) = ((2 : Nat) : Int)) | exact (rfl : (3 : Int) = ((3 : Nat) : Int)) | assumption); exact rfl; exact rfl; assumption; assumption) | (apply RunK.loadRN 3000000; exact rfl; exact rfl; exact rfl; exact rfl; assumption; assumption) | (apply RunK.loadRN 3000001; exact rfl; exact rfl; exact rfl; exact rfl; assumption; assumption) | (apply RunK.indexN; exact rfl; exact rfl; exact rfl; (first | exact rfl | exact (rfl : (0 : Int) = ((0 : Nat) : Int)) | exact (rfl : (1 : Int) = ((1 : Nat) : Int)) | exact (rfl : (2 : Int) = ((2 : Nat) : Int)) | exact (rfl : (3 : Int) = ((3 : Nat) : Int)) | assumption); (first | omega | exact lt_of_get ‹_› | (rw [List.length_map]; omega) | (simp; omega))) | (apply RunK.loadNS; exact rfl; exact rfl; assumption; exact rfl) | (apply RunK.lenNs; exact rfl; exact rfl) | (apply RunK.moveNs; exact rfl; exact rfl) | (apply RunK.assignNs; exact rfl; exact rfl)
    | refine Wt.seq ?_
    | (apply Wt.regionK; exact rfl)
    | refine Wt.block ?_
    | refine Wt.skip ?_
    | refine RunK.nil ?_
    | (apply RunK.moveV; exact rfl; exact rfl)
    | (apply RunK.lss; exact rfl; exact rfl; exact rfl)
    | (apply Wt.cond; exact rfl; all_goals (intro hg; (first | exact absurd hg (by decide) | skip); (first | (with_reducible replace hg := not_t hg) | (with_reducible replace hg := not_f hg) | skip); (first | (with_reducible replace hg := dec_t hg) | (with_reducible replace hg := dec_f hg) | skip); (first | (with_reducible exact absurd rfl hg) | skip); (repeat rw [List.length_map] at hg); try (exfalso; omega))))
          (apply CalmRun.cons; (case hi => exact rfl); (case hp => (apply PStep.of_run; exact rfl; exact rfl; exact rfl; exact rfl; exact rfl; (first | (first | (apply RunK.moveV; exact rfl; exact rfl) | (apply RunK.add; exact rfl; exact rfl; exact rfl; (first | omega | (simp only [List.length_map]; omega))) | (apply RunK.bin; exact rfl; exact rfl; exact rfl; exact BinRun.rem hn0) | (apply RunK.idxN 3000000; exact rfl; exact rfl; exact rfl; (first | exact rfl | exact (rfl : (0 : Int) = ((0 : Nat) : Int)) | exact (rfl : (1 : Int) = ((1 : Nat) : Int)) | exact (rfl : (2 : Int) = ((2 : Nat) : Int)) | exact (rfl : (3 : Int) = ((3 : Nat) : Int)) | assumption); exact rfl; exact rfl; assumption; assumption) | (apply RunK.idxN 3000001; exact rfl; exact rfl; exact rfl; (first | exact rfl | exact (rfl : (0 : Int) = ((0 : Nat) : Int)) | exact (rfl : (1 : Int) = ((1 : Nat) : Int)) | exact (rfl : (2 : Int) = ((2 : Nat) : Int)) | exact (rfl : (3 : Int) = ((3 : Nat) : Int)) | assumption); exact rfl; exact rfl; assumption; assumption) | (apply RunK.loadRN 3000000; exact rfl; exact rfl; exact rfl; exact rfl; assumption; assumption) | (apply RunK.loadRN 3000001; exact rfl; exact rfl; exact rfl; exact rfl; assumption; assumption) | (apply idxL; exact rfl; exact rfl; exact rfl; (first | exact rfl | exact (rfl : (0 : Int) = ((0 : Nat) : Int)) | exact (rfl : (1 : Int) = ((1 : Nat) : Int)) | exact (rfl : (2 : Int) = ((2 : Nat) : Int)) | exact (rfl : (3 : Int) = ((3 : Nat) : Int)) | assumption); assumption))); (refine RunK.nil ?_); exact rfl)); (case hb => kernel_rfl))
          (apply CalmRun.cons; (case hi => exact rfl); (case hp => (apply PStep.of_run; exact rfl; exact rfl; exact rfl; exact rfl; exact rfl; (first | (first | (apply RunK.moveV; exact rfl; exact rfl) | (apply RunK.add; exact rfl; exact rfl; exact rfl; (first | omega | (simp only [List.length_map]; omega))) | (apply RunK.bin; exact rfl; exact rfl; exact rfl; exact BinRun.rem hn0) | (apply RunK.idxN 3000000; exact rfl; exact rfl; exact rfl; (first | exact rfl | exact (rfl : (0 : Int) = ((0 : Nat) : Int)) | exact (rfl : (1 : Int) = ((1 : Nat) : Int)) | exact (rfl : (2 : Int) = ((2 : Nat) : Int)) | exact (rfl : (3 : Int) = ((3 : Nat) : Int)) | assumption); exact rfl; exact rfl; assumption; assumption) | (apply RunK.idxN 3000001; exact rfl; exact rfl; exact rfl; (first | exact rfl | exact (rfl : (0 : Int) = ((0 : Nat) : Int)) | exact (rfl : (1 : Int) = ((1 : Nat) : Int)) | exact (rfl : (2 : Int) = ((2 : Nat) : Int)) | exact (rfl : (3 : Int) = ((3 : Nat) : Int)) | assumption); exact rfl; exact rfl; assumption; assumption) | (apply RunK.loadRN 3000000; exact rfl; exact rfl; exact rfl; exact rfl; assumption; assumption) | (apply RunK.loadRN 3000001; exact rfl; exact rfl; exact rfl; exact rfl; assumption; assumption) | (apply idxL; exact rfl; exact rfl; exact rfl; (first | exact rfl | exact (rfl : (0 : Int) = ((0 : Nat) : Int)) | exact (rfl : (1 : Int) = ((1 : Nat) : Int)) | exact (rfl : (2 : Int) = ((2 : Nat) : Int)) | exact (rfl : (3 : Int) = ((3 : Nat) : Int)) | assumption); assumption))); (refine RunK.nil ?_); exact rfl)); (case hb => kernel_rfl))
          (apply CalmRun.cons; (case hi => exact rfl); (case hp => (apply PStep.of_run; exact rfl; exact rfl; exact rfl; exact rfl; exact rfl; (first | (first | (apply RunK.moveV; exact rfl; exact rfl) | (apply RunK.add; exact rfl; exact rfl; exact rfl; (first | omega | (simp only [List.length_map]; omega))) | (apply RunK.bin; exact rfl; exact rfl; exact rfl; exact BinRun.rem hn0) | (apply RunK.idxN 3000000; exact rfl; exact rfl; exact rfl; (first | exact rfl | exact (rfl : (0 : Int) = ((0 : Nat) : Int)) | exact (rfl : (1 : Int) = ((1 : Nat) : Int)) | exact (rfl : (2 : Int) = ((2 : Nat) : Int)) | exact (rfl : (3 : Int) = ((3 : Nat) : Int)) | assumption); exact rfl; exact rfl; assumption; assumption) | (apply RunK.idxN 3000001; exact rfl; exact rfl; exact rfl; (first | exact rfl | exact (rfl : (0 : Int) = ((0 : Nat) : Int)) | exact (rfl : (1 : Int) = ((1 : Nat) : Int)) | exact (rfl : (2 : Int) = ((2 : Nat) : Int)) | exact (rfl : (3 : Int) = ((3 : Nat) : Int)) | assumption); exact rfl; exact rfl; assumption; assumption) | (apply RunK.loadRN 3000000; exact rfl; exact rfl; exact rfl; exact rfl; assumption; assumption) | (apply RunK.loadRN 3000001; exact rfl; exact rfl; exact rfl; exact rfl; assumption; assumption) | (apply idxL; exact rfl; exact rfl; exact rfl; (first | exact rfl | exact (rfl : (0 : Int) = ((0 : Nat) : Int)) | exact (rfl : (1 : Int) = ((1 : Nat) : Int)) | exact (rfl : (2 : Int) = ((2 : Nat) : Int)) | exact (rfl : (3 : Int) = ((3 : Nat) : Int)) | assumption); assumption))); (refine RunK.nil ?_); exact rfl)); (case hb => kernel_rfl))
          (apply CalmRun.cons; (case hi => exact rfl); (case hp => (apply PStep.of_run; exact rfl; exact rfl; exact rfl; exact rfl; exact rfl; (first | (first | (apply RunK.moveV; exact rfl; exact rfl) | (apply RunK.add; exact rfl; exact rfl; exact rfl; (first | omega | (simp only [List.length_map]; omega))) | (apply RunK.bin; exact rfl; exact rfl; exact rfl; exact BinRun.rem hn0) | (apply RunK.idxN 3000000; exact rfl; exact rfl; exact rfl; (first | exact rfl | exact (rfl : (0 : Int) = ((0 : Nat) : Int)) | exact (rfl : (1 : Int) = ((1 : Nat) : Int)) | exact (rfl : (2 : Int) = ((2 : Nat) : Int)) | exact (rfl : (3 : Int) = ((3 : Nat) : Int)) | assumption); exact rfl; exact rfl; assumption; assumption) | (apply RunK.idxN 3000001; exact rfl; exact rfl; exact rfl; (first | exact rfl | exact (rfl : (0 : Int) = ((0 : Nat) : Int)) | exact (rfl : (1 : Int) = ((1 : Nat) : Int)) | exact (rfl : (2 : Int) = ((2 : Nat) : Int)) | exact (rfl : (3 : Int) = ((3 : Nat) : Int)) | assumption); exact rfl; exact rfl; assumption; assumption) | (apply RunK.loadRN 3000000; exact rfl; exact rfl; exact rfl; exact rfl; assumption; assumption) | (apply RunK.loadRN 3000001; exact rfl; exact rfl; exact rfl; exact rfl; assumption; assumption) | (apply idxL; exact rfl; exact rfl; exact rfl; (first | exact rfl | exact (rfl : (0 : Int) = ((0 : Nat) : Int)) | exact (rfl : (1 : Int) = ((1 : Nat) : Int)) | exact (rfl : (2 : Int) = ((2 : Nat) : Int)) | exact (rfl : (3 : Int) = ((3 : Nat) : Int)) | assumption); assumption))); (refine RunK.nil ?_); exact rfl)); (case hb => kernel_rfl))
          (apply CalmRun.cons; (case hi => exact rfl); (case hp => (apply PStep.of_run; exact rfl; exact rfl; exact rfl; exact rfl; exact rfl; (first | (first | (apply RunK.moveV; exact rfl; exact rfl) | (apply RunK.add; exact rfl; exact rfl; exact rfl; (first | omega | (simp only [List.length_map]; omega))) | (apply RunK.bin; exact rfl; exact rfl; exact rfl; exact BinRun.rem hn0) | (apply RunK.idxN 3000000; exact rfl; exact rfl; exact rfl; (first | exact rfl | exact (rfl : (0 : Int) = ((0 : Nat) : Int)) | exact (rfl : (1 : Int) = ((1 : Nat) : Int)) | exact (rfl : (2 : Int) = ((2 : Nat) : Int)) | exact (rfl : (3 : Int) = ((3 : Nat) : Int)) | assumption); exact rfl; exact rfl; assumption; assumption) | (apply RunK.idxN 3000001; exact rfl; exact rfl; exact rfl; (first | exact rfl | exact (rfl : (0 : Int) = ((0 : Nat) : Int)) | exact (rfl : (1 : Int) = ((1 : Nat) : Int)) | exact (rfl : (2 : Int) = ((2 : Nat) : Int)) | exact (rfl : (3 : Int) = ((3 : Nat) : Int)) | assumption); exact rfl; exact rfl; assumption; assumption) | (apply RunK.loadRN 3000000; exact rfl; exact rfl; exact rfl; exact rfl; assumption; assumption) | (apply RunK.loadRN 3000001; exact rfl; exact rfl; exact rfl; exact rfl; assumption; assumption) | (apply idxL; exact rfl; exact rfl; exact rfl; (first | exact rfl | exact (rfl : (0 : Int) = ((0 : Nat) : Int)) | exact (rfl : (1 : Int) = ((1 : Nat) : Int)) | exact (rfl : (2 : Int) = ((2 : Nat) : Int)) | exact (rfl : (3 : Int) = ((3 : Nat) : Int)) | assumption); assumption))); (refine RunK.nil ?_); exact rfl)); (case hb => kernel_rfl))
          (apply CalmRun.cons; (case hi => exact rfl); (case hp => (apply PStep.of_run; exact rfl; exact rfl; exact rfl; exact rfl; exact rfl; (first | (first | (apply RunK.moveV; exact rfl; exact rfl) | (apply RunK.add; exact rfl; exact rfl; exact rfl; (first | omega | (simp only [List.length_map]; omega))) | (apply RunK.bin; exact rfl; exact rfl; exact rfl; exact BinRun.rem hn0) | (apply RunK.idxN 3000000; exact rfl; exact rfl; exact rfl; (first | exact rfl | exact (rfl : (0 : Int) = ((0 : Nat) : Int)) | exact (rfl : (1 : Int) = ((1 : Nat) : Int)) | exact (rfl : (2 : Int) = ((2 : Nat) : Int)) | exact (rfl : (3 : Int) = ((3 : Nat) : Int)) | assumption); exact rfl; exact rfl; assumption; assumption) | (apply RunK.idxN 3000001; exact rfl; exact rfl; exact rfl; (first | exact rfl | exact (rfl : (0 : Int) = ((0 : Nat) : Int)) | exact (rfl : (1 : Int) = ((1 : Nat) : Int)) | exact (rfl : (2 : Int) = ((2 : Nat) : Int)) | exact (rfl : (3 : Int) = ((3 : Nat) : Int)) | assumption); exact rfl; exact rfl; assumption; assumption) | (apply RunK.loadRN 3000000; exact rfl; exact rfl; exact rfl; exact rfl; assumption; assumption) | (apply RunK.loadRN 3000001; exact rfl; exact rfl; exact rfl; exact rfl; assumption; assumption) | (apply idxL; exact rfl; exact rfl; exact rfl; (first | exact rfl | exact (rfl : (0 : Int) = ((0 : Nat) : Int)) | exact (rfl : (1 : Int) = ((1 : Nat) : Int)) | exact (rfl : (2 : Int) = ((2 : Nat) : Int)) | exact (rfl : (3 : Int) = ((3 : Nat) : Int)) | assumption); assumption))); (refine RunK.nil ?_); exact rfl)); (case hb => kernel_rfl))
          (apply CalmRun.cons; (case hi => exact rfl); (case hp => (apply PStep.of_run; exact rfl; exact rfl; exact rfl; exact rfl; exact rfl; (first | (first | (apply RunK.moveV; exact rfl; exact rfl) | (apply RunK.add; exact rfl; exact rfl; exact rfl; (first | omega | (simp only [List.length_map]; omega))) | (apply RunK.bin; exact rfl; exact rfl; exact rfl; exact BinRun.rem hn0) | (apply RunK.idxN 3000000; exact rfl; exact rfl; exact rfl; (first | exact rfl | exact (rfl : (0 : Int) = ((0 : Nat) : Int)) | exact (rfl : (1 : Int) = ((1 : Nat) : Int)) | exact (rfl : (2 : Int) = ((2 : Nat) : Int)) | exact (rfl : (3 : Int) = ((3 : Nat) : Int)) | assumption); exact rfl; exact rfl; assumption; assumption) | (apply RunK.idxN 3000001; exact rfl; exact rfl; exact rfl; (first | exact rfl | exact (rfl : (0 : Int) = ((0 : Nat) : Int)) | exact (rfl : (1 : Int) = ((1 : Nat) : Int)) | exact (rfl : (2 : Int) = ((2 : Nat) : Int)) | exact (rfl : (3 : Int) = ((3 : Nat) : Int)) | assumption); exact rfl; exact rfl; assumption; assumption) | (apply RunK.loadRN 3000000; exact rfl; exact rfl; exact rfl; exact rfl; assumption; assumption) | (apply RunK.loadRN 3000001; exact rfl; exact rfl; exact rfl; exact rfl; assumption; assumption) | (apply idxL; exact rfl; exact rfl; exact rfl; (first | exact rfl | exact (rfl : (0 : Int) = ((0 : Nat) : Int)) | exact (rfl : (1 : Int) = ((1 : Nat) : Int)) | exact (rfl : (2 : Int) = ((2 : Nat) : Int)) | exact (rfl : (3 : Int) = ((3 : Nat) : Int)) | assumption); assumption))); (refine RunK.nil ?_); exact rfl)); (case hb => kernel_rfl))
          (apply CalmRun.cons; (case hi => exact rfl); (case hp => (apply PStep.of_run; exact rfl; exact rfl; exact rfl; exact rfl; exact rfl; (first | (first | (apply RunK.moveV; exact rfl; exact rfl) | (apply RunK.add; exact rfl; exact rfl; exact rfl; (first | omega | (simp only [List.length_map]; omega))) | (apply RunK.bin; exact rfl; exact rfl; exact rfl; exact BinRun.rem hn0) | (apply RunK.idxN 3000000; exact rfl; exact rfl; exact rfl; (first | exact rfl | exact (rfl : (0 : Int) = ((0 : Nat) : Int)) | exact (rfl : (1 : Int) = ((1 : Nat) : Int)) | exact (rfl : (2 : Int) = ((2 : Nat) : Int)) | exact (rfl : (3 : Int) = ((3 : Nat) : Int)) | assumption); exact rfl; exact rfl; assumption; assumption) | (apply RunK.idxN 3000001; exact rfl; exact rfl; exact rfl; (first | exact rfl | exact (rfl : (0 : Int) = ((0 : Nat) : Int)) | exact (rfl : (1 : Int) = ((1 : Nat) : Int)) | exact (rfl : (2 : Int) = ((2 : Nat) : Int)) | exact (rfl : (3 : Int) = ((3 : Nat) : Int)) | assumption); exact rfl; exact rfl; assumption; assumption) | (apply RunK.loadRN 3000000; exact rfl; exact rfl; exact rfl; exact rfl; assumption; assumption) | (apply RunK.loadRN 3000001; exact rfl; exact rfl; exact rfl; exact rfl; assumption; assumption) | (apply idxL; exact rfl; exact rfl; exact rfl; (first | exact rfl | exact (rfl : (0 : Int) = ((0 : Nat) : Int)) | exact (rfl : (1 : Int) = ((1 : Nat) : Int)) | exact (rfl : (2 : Int) = ((2 : Nat) : Int)) | exact (rfl : (3 : Int) = ((3 : Nat) : Int)) | assumption); assumption))); (refine RunK.nil ?_); exact rfl)); (case hb => kernel_rfl))
          dsimp only [St.put]
          refine CalmRun.rest [8, 9, 10, 11, 12, 13, 14, 15, 16, 17, 18, 19, 20, 21, 22] (by decide +kernel) hK rfl rfl (by kernel_rfl) (by kernel_rfl) ?_
          repeat' (first
    | (apply RunK.lenK; exact rfl; exact rfl) | (apply RunK.idxN 3000000; exact rfl; exact rfl; exact rfl; (first | exact rfl | exact (rfl : (0 : Int) = ((0 : Nat) : Int)) | exact (rfl : (1 : Int) = ((1 : Nat) : Int)) | exact (rfl : (2 : Int) = ((2 : Nat) : Int)) | exact (rfl : (3 : Int) = ((3 : Nat) : Int)) | assumption); exact rfl; exact rfl; assumption; assumption) | (apply RunK.idxN 3000001; exact rfl; exact rfl; exact rfl; (first | exact rfl | exact (rfl : (0 : Int) = ((0 : Nat) : Int)) | exact (rfl : (1 : Int) = ((1 : Nat) : Int)) | exact (rfl : (2 : Int) = ((2 : Nat) : Int)) | exact (rfl : (3 : Int) = ((3 : Nat) : Int)) | assumption); exact rfl; exact rfl; assumption; assumption) | (apply RunK.loadRN 3000000; exact rfl; exact rfl; exact rfl; exact rfl; assumption; assumption) | (apply RunK.loadRN 3000001; exact rfl; exact rfl; exact rfl; exact rfl; assumption; assumption) | (apply RunK.loadRN 2000001 (r := ⟨some (pb, ob), cb, hds rb⟩); exact rfl; exact rfl; exact rfl; exact rfl; exact List.mem_singleton.2 rfl; exact h1h) | (apply idxL; exact rfl; exact rfl; exact rfl; (first | exact rfl | exact (rfl : (0 : Int) = ((0 : Nat) : Int)) | exact (rfl : (1 : Int) = ((1 : Nat) : Int)) | exact (rfl : (2 : Int) = ((2 : Nat) : Int)) | exact (rfl : (3 : Int) = ((3 : Nat) : Int)) | assumption); assumption) | (apply RunK.appendRN 2000002 900001 (i := x); (case hw => exact rfl); (case he => (first | exact (fun _ => rfl) | exact (fun h => nomatch h))); (case hx => exact rfl); (case htx => exact rfl); (case hk => exact rfl); (case hi => exact h1a); (case hh => exact rfl); (case hn => exact rfl); (case hnt => exact rfl); (case hd0 => exact rfl); (case hdx => exact rfl); (case hy => (first | exact ReadLe.sl _ _ _ _ | exact ReadLe.nil _)); (case hone => exact one_rows rfl); (case hb => (simp only [List.length_cons, List.length_nil]; omega)); intro r1 hr1 hrc) | (apply RunK.storeRN 2000001 (i := 0) (j := x) (r := ⟨some (pb, ob), cb, hds rb⟩); (case hw => exact rfl); (case hx => exact rfl); (case hy => exact rfl); (case hk => exact rfl); (case hi => exact rfl); (case hj => exact h1h); (case hc => exact rfl); (case ho => exact NRow.hdr_one _); (case hn => exact rfl); (case hh => exact rfl)) | (refine hN _ ?_) | (refine stopQ 14 ?_)
    | refine RunK.nil ?_
    | (apply RunK.moveV; exact rfl; exact rfl)
    | (apply RunK.rows; exact rfl; exact rfl; (repeat (first | exact PartsOk.nil | (apply PartsOk.cons; exact rfl) | (apply PartsOk.consN; exact rfl))); (repeat (first | exact Rows.nil _ | (apply Rows.cons; (first | exact Cells.agg _ | exact Cells.int _ _ | exact Cells.bool _ | exact Cells.one _ rfl); exact rfl))); exact rfl; exact rfl))
          refine StoppedQ.mk' ?_
          generalize r1 = ra at *
          have hra := hr1
          clear hr1 hrc
          refine Wt.le ⟨[(1, .s (.v (.int .i64 (b : Int)))), (5, .s (.v sp.hdr)), (6, .s (.v (.int .i64 N.length))), (7, .s (.v (.slice (some ⟨pb, ob, none⟩) N.length cb))), (8, .s (.v (.slice (some ⟨po, oo, none⟩) N.length co))), (3000000, .nest 3 1 [sp]), (3000001, .nest 4 1 rowsL), (2000001, .nest 5 1 [⟨some (pb, ob), cb, (hds rb).set x [ra.hdr]⟩]), (2000002, .nest 6 1 (rb.set x ra)), (2000003, .nest 7 1 [⟨some (po, oo), co, hds ro⟩]), (2000004, .nest 8 1 ro), (2999999, .old W (keptOf [.hds none 1 m])), (9, .s (.v (.int .i64 i))), (10, .s (.v (.int .i64 k)))], []⟩ (by (refine Le.mk ?_ ?_; (repeat' (first | exact LeEnv.done | refine LeEnv.cons ?_ ?_ | exact PVLe.refl _ | exact PVLe.s (SVLe.nil _ _ _) | exact PVLe.s (SVLe.no _ _ _ _) | (refine PVLe.int ?_; first | rfl | omega | (simp; done) | (simp; omega)) | (refine PVLe.els ?_; first | rfl | assumption | (simp; done)) | (refine PVLe.bool ?_; first | rfl | assumption) | (refine PVLe.bsl ?_; first | rfl | assumption | (simp; done))));  (repeat' (first | exact LeBox.done | refine LeBox.cons ?_ ?_ | exact rfl)))) ?_
          rw [hds_set]
          repeat' (first
    | (refine Wt.regionS (i := 14) ⟨[(1, .s (.v (.int .i64 (b : Int)))), (5, .s (.v sp.hdr)), (6, .s (.v (.int .i64 N.length))), (8, .s (.v (.slice (some ⟨po, oo, none⟩) N.length co))), (9, .s (.v (.int .i64 i))), (10, .s (.v (.int .i64 k))), (3000000, .nest 3 1 [sp]), (3000001, .nest 4 1 rowsL)], []⟩ [0, 1, 2, 3, 4, 5] [6, 7, 8, 9, 10, 11, 12, 13, 14, 15, 16, 17, 18, 19, 20, 21, 22, 23, 24, 25, 26, 27, 28] hm2 rfl (by decide +kernel) (by kernel_rfl) (CalmLe.of rfl fun p hp => (by simp only [List.mem_cons, List.not_mem_nil, or_false] at hp; rcases hp with rfl | rfl | rfl | rfl | rfl | rfl | rfl | rfl <;> exact ⟨by dsimp only; omega, rfl, rfl⟩)) fun K hK hN => ?_) | (apply RunK.lenK; exact rfl; exact rfl) | (apply RunK.idxN 3000000; exact rfl; exact rfl; exact rfl; (first | exact rfl | exact (rfl : (0 : Int) = ((0 : Nat) : Int)) | exact (rfl : (1 : Int) = ((1 : Nat) : Int)) | exact (rfl : (2 : Int) = ((2 : Nat) : Int)) | exact (rfl : (3 : Int) = ((3 : Nat) : Int)) | assumption); exact rfl; exact rfl; assumption; assumption) | (apply RunK.idxN 3000001; exact rfl; exact rfl; exact rfl; (first | exact rfl | exact (rfl : (0 : Int) = ((0 : Nat) : Int)) | exact (rfl : (1 : Int) = ((1 : Nat) : Int)) | exact (rfl : (2 : Int) = ((2 : Nat) : Int)) | exact (rfl : (3 : Int) = ((3 : Nat) : Int)) | assumption); exact rfl; exact rfl; assumption; assumption) | (apply RunK.loadRN 3000000; exact rfl; exact rfl; exact rfl; exact rfl; assumption; assumption) | (apply RunK.loadRN 3000001; exact rfl; exact rfl; exact rfl; exact rfl; assumption; assumption) | (apply RunK.indexN; exact rfl; exact rfl; exact rfl; (first | exact rfl | exact (rfl : (0 : Int) = ((0 : Nat) : Int)) | exact (rfl : (1 : Int) = ((1 : Nat) : Int)) | exact (rfl : (2 : Int) = ((2 : Nat) : Int)) | exact (rfl : (3 : Int) = ((3 : Nat) : Int)) | assumption); (first | omega | exact lt_of_get ‹_› | (rw [List.length_map]; omega) | (simp; omega))) | (apply RunK.loadNS; exact rfl; exact rfl; assumption; exact rfl) | (apply RunK.lenNs; exact rfl; exact rfl) | (apply RunK.moveNs; exact rfl; exact rfl) | (apply RunK.assignNs; exact rfl; exact rfl))
          (apply CalmRun.cons; (case hi => exact rfl); (case hp => (apply PStep.of_run; exact rfl; exact rfl; exact rfl; exact rfl; exact rfl; (first | (first | (apply RunK.moveV; exact rfl; exact rfl) | (apply RunK.add; exact rfl; exact rfl; exact rfl; (first | omega | (simp only [List.length_map]; omega))) | (apply RunK.bin; exact rfl; exact rfl; exact rfl; exact BinRun.rem hn0) | (apply RunK.idxN 3000000; exact rfl; exact rfl; exact rfl; (first | exact rfl | exact (rfl : (0 : Int) = ((0 : Nat) : Int)) | exact (rfl : (1 : Int) = ((1 : Nat) : Int)) | exact (rfl : (2 : Int) = ((2 : Nat) : Int)) | exact (rfl : (3 : Int) = ((3 : Nat) : Int)) | assumption); exact rfl; exact rfl; assumption; assumption) | (apply RunK.idxN 3000001; exact rfl; exact rfl; exact rfl; (first | exact rfl | exact (rfl : (0 : Int) = ((0 : Nat) : Int)) | exact (rfl : (1 : Int) = ((1 : Nat) : Int)) | exact (rfl : (2 : Int) = ((2 : Nat) : Int)) | exact (rfl : (3 : Int) = ((3 : Nat) : Int)) | assumption); exact rfl; exact rfl; assumption; assumption) | (apply RunK.loadRN 3000000; exact rfl; exact rfl; exact rfl; exact rfl; assumption; assumption) | (apply RunK.loadRN 3000001; exact rfl; exact rfl; exact rfl; exact rfl; assumption; assumption) | (apply idxL; exact rfl; exact rfl; exact rfl; (first | exact rfl | exact (rfl : (0 : Int) = ((0 : Nat) : Int)) | exact (rfl : (1 : Int) = ((1 : Nat) : Int)) | exact (rfl : (2 : Int) = ((2 : Nat) : Int)) | exact (rfl : (3 : Int) = ((3 : Nat) : Int)) | assumption); assumption))); (refine RunK.nil ?_); exact rfl)); (case hb => kernel_rfl))
          (apply CalmRun.cons; (case hi => exact rfl); (case hp => (apply PStep.of_run; exact rfl; exact rfl; exact rfl; exact rfl; exact rfl; (first | (first | (apply RunK.moveV; exact rfl; exact rfl) | (apply RunK.add; exact rfl; exact rfl; exact rfl; (first | omega | (simp only [List.length_map]; omega))) | (apply RunK.bin; exact rfl; exact rfl; exact rfl; exact BinRun.rem hn0) | (apply RunK.idxN 3000000; exact rfl; exact rfl; exact rfl; (first | exact rfl | exact (rfl : (0 : Int) = ((0 : Nat) : Int)) | exact (rfl : (1 : Int) = ((1 : Nat) : Int)) | exact (rfl : (2 : Int) = ((2 : Nat) : Int)) | exact (rfl : (3 : Int) = ((3 : Nat) : Int)) | assumption); exact rfl; exact rfl; assumption; assumption) | (apply RunK.idxN 3000001; exact rfl; exact rfl; exact rfl; (first | exact rfl | exact (rfl : (0 : Int) = ((0 : Nat) : Int)) | exact (rfl : (1 : Int) = ((1 : Nat) : Int)) | exact (rfl : (2 : Int) = ((2 : Nat) : Int)) | exact (rfl : (3 : Int) = ((3 : Nat) : Int)) | assumption); exact rfl; exact rfl; assumption; assumption) | (apply RunK.loadRN 3000000; exact rfl; exact rfl; exact rfl; exact rfl; assumption; assumption) | (apply RunK.loadRN 3000001; exact rfl; exact rfl; exact rfl; exact rfl; assumption; assumption) | (apply idxL; exact rfl; exact rfl; exact rfl; (first | exact rfl | exact (rfl : (0 : Int) = ((0 : Nat) : Int)) | exact (rfl : (1 : Int) = ((1 : Nat) : Int)) | exact (rfl : (2 : Int) = ((2 : Nat) : Int)) | exact (rfl : (3 : Int) = ((3 : Nat) : Int)) | assumption); assumption))); (refine RunK.nil ?_); exact rfl)); (case hb => kernel_rfl))
          (apply CalmRun.cons; (case hi => exact rfl); (case hp => (apply PStep.of_run; exact rfl; exact rfl; exact rfl; exact rfl; exact rfl; (first | (first | (apply RunK.moveV; exact rfl; exact rfl) | (apply RunK.add; exact rfl; exact rfl; exact rfl; (first | omega | (simp only [List.length_map]; omega))) | (apply RunK.bin; exact rfl; exact rfl; exact rfl; exact BinRun.rem hn0) | (apply RunK.idxN 3000000; exact rfl; exact rfl; exact rfl; (first | exact rfl | exact (rfl : (0 : Int) = ((0 : Nat) : Int)) | exact (rfl : (1 : Int) = ((1 : Nat) : Int)) | exact (rfl : (2 : Int) = ((2 : Nat) : Int)) | exact (rfl : (3 : Int) = ((3 : Nat) : Int)) | assumption); exact rfl; exact rfl; assumption; assumption) | (apply RunK.idxN 3000001; exact rfl; exact rfl; exact rfl; (first | exact rfl | exact (rfl : (0 : Int) = ((0 : Nat) : Int)) | exact (rfl : (1 : Int) = ((1 : Nat) : Int)) | exact (rfl : (2 : Int) = ((2 : Nat) : Int)) | exact (rfl : (3 : Int) = ((3 : Nat) : Int)) | assumption); exact rfl; exact rfl; assumption; assumption) | (apply RunK.loadRN 3000000; exact rfl; exact rfl; exact rfl; exact rfl; assumption; assumption) | (apply RunK.loadRN 3000001; exact rfl; exact rfl; exact rfl; exact rfl; assumption; assumption) | (apply idxL; exact rfl; exact rfl; exact rfl; (first | exact rfl | exact (rfl : (0 : Int) = ((0 : Nat) : Int)) | exact (rfl : (1 : Int) = ((1 : Nat) : Int)) | exact (rfl : (2 : Int) = ((2 : Nat) : Int)) | exact (rfl : (3 : Int) = ((3 : Nat) : Int)) | assumption); assumption))); (refine RunK.nil ?_); exact rfl)); (case hb => kernel_rfl))
          (apply CalmRun.cons; (case hi => exact rfl); (case hp => (apply PStep.of_run; exact rfl; exact rfl; exact rfl; exact rfl; exact rfl; (first | (first | (apply RunK.moveV; exact rfl; exact rfl) | (apply RunK.add; exact rfl; exact rfl; exact rfl; (first | omega | (simp only [List.length_map]; omega))) | (apply RunK.bin; exact rfl; exact rfl; exact rfl; exact BinRun.rem hn0) | (apply RunK.idxN 3000000; exact rfl; exact rfl; exact rfl; (first | exact rfl | exact (rfl : (0 : Int) = ((0 : Nat) : Int)) | exact (rfl : (1 : Int) = ((1 : Nat) : Int)) | exact (rfl : (2 : Int) = ((2 : Nat) : Int)) | exact (rfl : (3 : Int) = ((3 : Nat) : Int)) | assumption); exact rfl; exact rfl; assumption; assumption) | (apply RunK.idxN 3000001; exact rfl; exact rfl; exact rfl; (first | exact rfl | exact (rfl : (0 : Int) = ((0 : Nat) : Int)) | exact (rfl : (1 : Int) = ((1 : Nat) : Int)) | exact (rfl : (2 : Int) = ((2 : Nat) : Int)) | exact (rfl : (3 : Int) = ((3 : Nat) : Int)) | assumption); exact rfl; exact rfl; assumption; assumption) | (apply RunK.loadRN 3000000; exact rfl; exact rfl; exact rfl; exact rfl; assumption; assumption) | (apply RunK.loadRN 3000001; exact rfl; exact rfl; exact rfl; exact rfl; assumption; assumption) | (apply idxL; exact rfl; exact rfl; exact rfl; (first | exact rfl | exact (rfl : (0 : Int) = ((0 : Nat) : Int)) | exact (rfl : (1 : Int) = ((1 : Nat) : Int)) | exact (rfl : (2 : Int) = ((2 : Nat) : Int)) | exact (rfl : (3 : Int) = ((3 : Nat) : Int)) | assumption); assumption))); (refine RunK.nil ?_); exact rfl)); (case hb => kernel_rfl))
          (apply CalmRun.cons; (case hi => exact rfl); (case hp => (apply PStep.of_run; exact rfl; exact rfl; exact rfl; exact rfl; exact rfl; (first | (first | (apply RunK.moveV; exact rfl; exact rfl) | (apply RunK.add; exact rfl; exact rfl; exact rfl; (first | omega | (simp only [List.length_map]; omega))) | (apply RunK.bin; exact rfl; exact rfl; exact rfl; exact BinRun.rem hn0) | (apply RunK.idxN 3000000; exact rfl; exact rfl; exact rfl; (first | exact rfl | exact (rfl : (0 : Int) = ((0 : Nat) : Int)) | exact (rfl : (1 : Int) = ((1 : Nat) : Int)) | exact (rfl : (2 : Int) = ((2 : Nat) : Int)) | exact (rfl : (3 : Int) = ((3 : Nat) : Int)) | assumption); exact rfl; exact rfl; assumption; assumption) | (apply RunK.idxN 3000001; exact rfl; exact rfl; exact rfl; (first | exact rfl | exact (rfl : (0 : Int) = ((0 : Nat) : Int)) | exact (rfl : (1 : Int) = ((1 : Nat) : Int)) | exact (rfl : (2 : Int) = ((2 : Nat) : Int)) | exact (rfl : (3 : Int) = ((3 : Nat) : Int)) | assumption); exact rfl; exact rfl; assumption; assumption) | (apply RunK.loadRN 3000000; exact rfl; exact rfl; exact rfl; exact rfl; assumption; assumption) | (apply RunK.loadRN 3000001; exact rfl; exact rfl; exact rfl; exact rfl; assumption; assumption) | (apply idxL; exact rfl; exact rfl; exact rfl; (first | exact rfl | exact (rfl : (0 : Int) = ((0 : Nat) : Int)) | exact (rfl : (1 : Int) = ((1 : Nat) : Int)) | exact (rfl : (2 : Int) = ((2 : Nat) : Int)) | exact (rfl : (3 : Int) = ((3 : Nat) : Int)) | assumption); assumption))); (refine RunK.nil ?_); exact rfl)); (case hb => kernel_rfl))
          (apply CalmRun.cons; (case hi => exact rfl); (case hp => (apply PStep.of_run; exact rfl; exact rfl; exact rfl; exact rfl; exact rfl; (first | (first | (apply RunK.moveV; exact rfl; exact rfl) | (apply RunK.add; exact rfl; exact rfl; exact rfl; (first | omega | (simp only [List.length_map]; omega))) | (apply RunK.bin; exact rfl; exact rfl; exact rfl; exact BinRun.rem hn0) | (apply RunK.idxN 3000000; exact rfl; exact rfl; exact rfl; (first | exact rfl | exact (rfl : (0 : Int) = ((0 : Nat) : Int)) | exact (rfl : (1 : Int) = ((1 : Nat) : Int)) | exact (rfl : (2 : Int) = ((2 : Nat) : Int)) | exact (rfl : (3 : Int) = ((3 : Nat) : Int)) | assumption); exact rfl; exact rfl; assumption; assumption) | (apply RunK.idxN 3000001; exact rfl; exact rfl; exact rfl; (first | exact rfl | exact (rfl : (0 : Int) = ((0 : Nat) : Int)) | exact (rfl : (1 : Int) = ((1 : Nat) : Int)) | exact (rfl : (2 : Int) = ((2 : Nat) : Int)) | exact (rfl : (3 : Int) = ((3 : Nat) : Int)) | assumption); exact rfl; exact rfl; assumption; assumption) | (apply RunK.loadRN 3000000; exact rfl; exact rfl; exact rfl; exact rfl; assumption; assumption) | (apply RunK.loadRN 3000001; exact rfl; exact rfl; exact rfl; exact rfl; assumption; assumption) | (apply idxL; exact rfl; exact rfl; exact rfl; (first | exact rfl | exact (rfl : (0 : Int) = ((0 : Nat) : Int)) | exact (rfl : (1 : Int) = ((1 : Nat) : Int)) | exact (rfl : (2 : Int) = ((2 : Nat) : Int)) | exact (rfl : (3 : Int) = ((3 : Nat) : Int)) | assumption); assumption))); (refine RunK.nil ?_); exact rfl)); (case hb => kernel_rfl))
          dsimp only [St.put]
          refine CalmRun.rest [6, 7, 8, 9, 10, 11, 12, 13, 14, 15, 16, 17, 18, 19, 20, 21, 22, 23, 24, 25, 26, 27, 28] (by decide +kernel) hK rfl rfl (by kernel_rfl) (by kernel_rfl) ?_
          repeat' (first
    | (apply RunK.lenK; exact rfl; exact rfl) | (apply RunK.idxN 3000000; exact rfl; exact rfl; exact rfl; (first | exact rfl | exact (rfl : (0 : Int) = ((0 : Nat) : Int)) | exact (rfl : (1 : Int) = ((1 : Nat) : Int)) | exact (rfl : (2 : Int) = ((2 : Nat) : Int)) | exact (rfl : (3 : Int) = ((3 : Nat) : Int)) | assumption); exact rfl; exact rfl; assumption; assumption) | (apply RunK.idxN 3000001; exact rfl; exact rfl; exact rfl; (first | exact rfl | exact (rfl : (0 : Int) = ((0 : Nat) : Int)) | exact (rfl : (1 : Int) = ((1 : Nat) : Int)) | exact (rfl : (2 : Int) = ((2 : Nat) : Int)) | exact (rfl : (3 : Int) = ((3 : Nat) : Int)) | assumption); exact rfl; exact rfl; assumption; assumption) | (apply RunK.loadRN 3000000; exact rfl; exact rfl; exact rfl; exact rfl; assumption; assumption) | (apply RunK.loadRN 3000001; exact rfl; exact rfl; exact rfl; exact rfl; assumption; assumption) | (apply RunK.loadRN 2000003 (r := ⟨some (po, oo), co, hds ro⟩); exact rfl; exact rfl; exact rfl; exact rfl; exact List.mem_singleton.2 rfl; exact h2h) | (apply RunK.bin; exact rfl; exact rfl; exact rfl; exact BinRun.rem hn0) | (apply idxL; exact rfl; exact rfl; exact rfl; (first | exact rfl | exact (rfl : (0 : Int) = ((0 : Nat) : Int)) | exact (rfl : (1 : Int) = ((1 : Nat) : Int)) | exact (rfl : (2 : Int) = ((2 : Nat) : Int)) | exact (rfl : (3 : Int) = ((3 : Nat) : Int)) | assumption); assumption) | (apply RunK.appendRN 2000004 900001 (i := ren N.length b i); (case hw => exact rfl); (case he => (first | exact (fun _ => rfl) | exact (fun h => nomatch h))); (case hx => exact rfl); (case htx => exact rfl); (case hk => exact rfl); (case hi => exact h2a); (case hh => exact rfl); (case hn => exact rfl); (case hnt => exact rfl); (case hd0 => exact rfl); (case hdx => exact rfl); (case hy => (first | exact ReadLe.sl _ _ _ _ | exact ReadLe.nil _)); (case hone => exact one_rows rfl); (case hb => (simp only [List.length_cons, List.length_nil]; omega)); intro r1 hr1 hrc) | (apply RunK.storeRN 2000003 (i := 0) (j := ren N.length b i) (r := ⟨some (po, oo), co, hds ro⟩); (case hw => exact rfl); (case hx => exact rfl); (case hy => exact rfl); (case hk => exact rfl); (case hi => exact rfl); (case hj => exact h2h); (case hc => exact rfl); (case ho => exact NRow.hdr_one _); (case hn => exact rfl); (case hh => exact rfl)) | (refine hN _ ?_)
    | (apply Wt.regionK; exact rfl)
    | refine RunK.nil ?_
    | (apply RunK.moveV; exact rfl; exact rfl)
    | (apply RunK.assignV; exact rfl; exact rfl)
    | (apply RunK.add; exact rfl; exact rfl; exact rfl; (first | omega | (simp only [List.length_map]; omega)))
    | (apply RunK.rows; exact rfl; exact rfl; (repeat (first | exact PartsOk.nil | (apply PartsOk.cons; exact rfl) | (apply PartsOk.consN; exact rfl))); (repeat (first | exact Rows.nil _ | (apply Rows.cons; (first | exact Cells.agg _ | exact Cells.int _ _ | exact Cells.bool _ | exact Cells.one _ rfl); exact rfl))); exact rfl; exact rfl))
          refine ⟨(k + 1, rb.set x ra, ro.set (ren N.length b i) r1), ⟨hkt, ?_, ?_⟩, by dsimp only; omega, ?_⟩
          · refine rows_set hG1 (fun z hz hne => ?_) ?_
            · unfold revRow; rw [backP_next (by rw [hgd]; exact hxk), if_neg hne]
            · unfold revRow; rw [backP_next (by rw [hgd]; exact hxk), if_pos rfl, hra, h1e]; simp [revRow, intR, ival]
          · refine rows_set hG2 (fun z hz hne => ?_) ?_
            · unfold othRow; rw [othP_next hbn hlt (by rw [hgd]; exact hxk) hz, if_neg hne]
            · unfold othRow; rw [othP_next hbn hlt (by rw [hgd]; exact hxk) hRn, if_pos rfl, hr1, h2e, eX]; simp [othRow, intR, ival]
          · dsimp only
            rw [← hds_set ro]
            (refine Le.mk ?_ ?_; (repeat' (first | exact LeEnv.done | refine LeEnv.cons ?_ ?_ | exact PVLe.refl _ | exact PVLe.s (SVLe.nil _ _ _) | exact PVLe.s (SVLe.no _ _ _ _) | (refine PVLe.int ?_; first | rfl | omega | (simp; done) | (simp; omega)) | (refine PVLe.els ?_; first | rfl | assumption | (simp; done)) | (refine PVLe.bool ?_; first | rfl | assumption) | (refine PVLe.bsl ?_; first | rfl | assumption | (simp; done))));  (repeat' (first | exact LeBox.done | refine LeBox.cons ?_ ?_ | exact rfl)))
        · obtain rfl : k = r.length := by omega
          repeat' (first
    | (apply RunK.lenK; exact rfl; exact rfl) | (apply RunK.idxN 3000000; exact rfl; exact rfl; exact rfl; (first | exact rfl | exact (rfl : (0 : Int) = ((0 : Nat) : Int)) | exact (rfl : (1 : Int) = ((1 : Nat) : Int)) | exact (rfl : (2 : Int) = ((2 : Nat) : Int)) | exact (rfl : (3 : Int) = ((3 : Nat) : Int)) | assumption); exact rfl; exact rfl; assumption; assumption) | (apply RunK.idxN 3000001; exact rfl; exact rfl; exact rfl; (first | exact rfl | exact (rfl : (0 : Int) = ((0 : Nat) : Int)) | exact (rfl : (1 : Int) = ((1 : Nat) : Int)) | exact (rfl : (2 : Int) = ((2 : Nat) : Int)) | exact (rfl : (3 : Int) = ((3 : Nat) : Int)) | assumption); exact rfl; exact rfl; assumption; assumption) | (apply RunK.loadRN 3000000; exact rfl; exact rfl; exact rfl; exact rfl; assumption; assumption) | (apply RunK.loadRN 3000001; exact rfl; exact rfl; exact rfl; exact rfl; assumption; assumption) | (apply RunK.indexN; exact rfl; exact rfl; exact rfl; (first | exact rfl | exact (rfl : (0 : Int) = ((0 : Nat) : Int)) | exact (rfl : (1 : Int) = ((1 : Nat) : Int)) | exact (rfl : (2 : Int) = ((2 : Nat) : Int)) | exact (rfl : (3 : Int) = ((3 : Nat) : Int)) | assumption); (first | omega | exact lt_of_get ‹_› | (rw [List.length_map]; omega) | (simp; omega))) | (apply RunK.loadNS; exact rfl; exact rfl; assumption; exact rfl) | (apply RunK.lenNs; exact rfl; exact rfl) | (apply RunK.moveNs; exact rfl; exact rfl) | (apply RunK.assignNs; exact rfl; exact rfl)
    | refine Wt.seq ?_
    | (apply Wt.regionK; exact rfl)
    | refine Wt.exit ?_
    | refine RunK.nil ?_
    | (apply RunK.moveV; exact rfl; exact rfl)
    | (apply RunK.assignV; exact rfl; exact rfl)
    | (apply RunK.lss; exact rfl; exact rfl; exact rfl)
    | (apply RunK.add; exact rfl; exact rfl; exact rfl; (first | omega | (simp only [List.length_map]; omega)))
    | (apply Wt.cond; exact rfl; all_goals (intro hg; (first | exact absurd hg (by decide) | skip); (first | (with_reducible replace hg := not_t hg) | (with_reducible replace hg := not_f hg) | skip); (first | (with_reducible replace hg := dec_t hg) | (with_reducible replace hg := dec_f hg) | skip); (first | (with_reducible exact absurd rfl hg) | skip); (repeat rw [List.length_map] at hg); try (exfalso; omega))))
          refine ⟨(i + 1, rb, ro), ⟨hlt, ?_, ?_⟩, by dsimp only; omega, ?_⟩
          · dsimp only; rw [hG1]; refine List.map_congr_left fun z _ => ?_; unfold revRow; rw [← hgd, backP_row]
          · dsimp only; rw [hG2]; refine List.map_congr_left fun z _ => ?_; unfold othRow; rw [← hgd, othP_row]
          · dsimp only
            (refine Le.mk ?_ ?_; (repeat' (first | exact LeEnv.done | refine LeEnv.cons ?_ ?_ | exact PVLe.refl _ | exact PVLe.s (SVLe.nil _ _ _) | exact PVLe.s (SVLe.no _ _ _ _) | (refine PVLe.int ?_; first | rfl | omega | (simp; done) | (simp; omega)) | (refine PVLe.els ?_; first | rfl | assumption | (simp; done)) | (refine PVLe.bool ?_; first | rfl | assumption) | (refine PVLe.bsl ?_; first | rfl | assumption | (simp; done))));  (repeat' (first | exact LeBox.done | refine LeBox.cons ?_ ?_ | exact rfl)))
    · obtain rfl : i = N.length := by omega
      have hbl : rb.length = N.length := by have := congrArg List.length hG1; simpa using this
      have hol : ro.length = N.length := by have := congrArg List.length hG2; simpa using this
      repeat' (first
    | (refine stopQ 15 ?_) | (apply RunK.indexN; exact rfl; exact rfl; exact rfl; (first | exact rfl | exact (rfl : (0 : Int) = ((0 : Nat) : Int)) | exact (rfl : (1 : Int) = ((1 : Nat) : Int)) | exact (rfl : (2 : Int) = ((2 : Nat) : Int)) | exact (rfl : (3 : Int) = ((3 : Nat) : Int)) | assumption); (first | omega | exact lt_of_get ‹_› | (rw [List.length_map]; omega) | (simp; omega))) | (apply RunK.loadNS; exact rfl; exact rfl; assumption; exact rfl) | (apply RunK.lenNs; exact rfl; exact rfl) | (apply RunK.moveNs; exact rfl; exact rfl) | (apply RunK.assignNs; exact rfl; exact rfl)
    | refine Wt.seq ?_
    | (apply Wt.regionK; exact rfl)
    | refine Wt.exit ?_
    | refine RunK.nil ?_
    | (apply RunK.moveV; exact rfl; exact rfl)
    | (apply RunK.lss; exact rfl; exact rfl; exact rfl)
    | (apply Wt.cond; exact rfl; all_goals (intro hg; (first | exact absurd hg (by decide) | skip); (first | (with_reducible replace hg := not_t hg) | (with_reducible replace hg := not_f hg) | skip); (first | (with_reducible replace hg := dec_t hg) | (with_reducible replace hg := dec_f hg) | skip); (first | (with_reducible exact absurd rfl hg) | skip); (repeat rw [List.length_map] at hg); try (exfalso; omega))))
      refine StoppedQ.mk' ?_
      rw [← e7 pb ob cb rb hbl, ← e7 po oo co ro hol]
      refine Wt.weak (Turns.takeN 7 2000001 7 0 23 (r := ⟨some (pb, ob), cb, hds rb⟩) rfl rfl rfl rfl rfl rfl) ?_
      refine Wt.weak (Turns.freezeN 7 2000002 7 rfl rfl rfl hG1 rfl) ?_
      refine Wt.weak (Turns.takeN 8 2000003 8 0 23 (r := ⟨some (po, oo), co, hds ro⟩) rfl rfl rfl rfl rfl rfl) ?_
      refine Wt.weak (Turns.freezeN 8 2000004 8 rfl rfl rfl hG2 rfl) ?_
      refine Wt.weak (Turns.takeN 5 3000000 5 0 23 (r := sp) rfl rfl rfl rfl rfl rfl) ?_
      refine Wt.weak (Turns.freezeN 5 3000001 5 rfl rfl hsp hL rfl) ?_
      have eB : ((List.range N.length).map (revRow N N.length 0)).map (fun e => [EV.sl 1 e]) = gE (intG (backG N)) := by unfold backG; simp only [gE, intG, List.map_map]; rfl
      have eO : ((List.range N.length).map (othRow N b N.length 0)).map (fun e => [EV.sl 1 e]) = gE (intG (othG N b)) := by unfold othG; simp only [gE, intG, List.map_map]; rfl
      rw [eB, eO, els_gE hL]
      refine Wt.le ⟨[(1, .s (.v (.int .i64 (b : Int)))), (5, .s (.nsl (some 5) [some 5] true 1 (gE (intG N)))), (6, .s (.v (.int .i64 N.length))), (7, .s (.nsl (some 7) [some 7] true 1 (gE (intG (backG N))))), (8, .s (.nsl (some 8) [some 8] true 1 (gE (intG (othG N b))))), (2999999, .old W (keptOf [.hds none 1 m]))], []⟩ (by (refine Le.mk ?_ ?_; (repeat' (first | exact LeEnv.done | refine LeEnv.cons ?_ ?_ | exact PVLe.refl _ | exact PVLe.s (SVLe.nil _ _ _) | exact PVLe.s (SVLe.no _ _ _ _) | (refine PVLe.int ?_; first | rfl | omega | (simp; done) | (simp; omega)) | (refine PVLe.els ?_; first | rfl | assumption | (simp; done)) | (refine PVLe.bool ?_; first | rfl | assumption) | (refine PVLe.bsl ?_; first | rfl | assumption | (simp; done))));  (repeat' (first | exact LeBox.done | refine LeBox.cons ?_ ?_ | exact rfl)))) ?_
      have hB30 : ∀ r ∈ backG N, r.length ≤ 1000 := fun r h => by
        obtain ⟨x, _, rfl⟩ := List.mem_map.1 h
        have := backP_len hrow N.length 0 x
        have h2 : (N.length + 1) * 30 ≤ 25 * 30 := Nat.mul_le_mul_right _ (by omega)
        omega
      have hO30 : ∀ r ∈ othG N b, r.length ≤ 30 := fun r h => by
        obtain ⟨x, _, rfl⟩ := List.mem_map.1 h
        exact othP_len hrow b N.length 0 x
      clear hG1 hG2 hL hsp eB eO e7 hrl
      have c1 := sccComps N hN (by omega) (fun r h => by have := hr r h; omega)
      have c2 := sccComps (backG N) back_ok (by rw [back_len]; omega) (fun r h => by have := hB30 r h; omega)
      have c3 := sccComps (othG N b) (oth_ok hN) (by rw [oth_len]; omega) (fun r h => by have := hO30 r h; omega)
      have c4 := sccLoops N hN (by omega) (fun r h => by have := hr r h; omega)
      have c5 := sccLoops (backG N) back_ok (by rw [back_len]; omega) (fun r h => by have := hB30 r h; omega)
      rw [back_comps hN] at c2
      rw [back_loops hN] at c5
      have zc := int_small (comps_small (N := N))
      have q1 := equalInts2 (intG (comps N)) (intG (comps N)) (by omega) (by omega) (fun r h => by have := zc.2 r h; omega) (fun r h => by have := zc.2 r h; omega)
      have hls := loops_small (N := N)
      have q2 := equalInts (intR (loopsN N)) (intR (loopsN N)) (by rw [intR, List.length_map]; omega) (by rw [intR, List.length_map]; omega)
      rw [decide_eq_true rfl] at q1 q2
      have hcl := comps_len (g := N)
      have hoc := oth_comps_len hN hbn
      have hol2 := oth_len N b
      have hcN : (gE (intG (comps N))).length = (comps N).length := by simp [gE, intG]
      have hcO : (gE (intG (comps (othG N b)))).length = (comps (othG N b)).length := by simp [gE, intG]
      repeat' (first
    | (exact absurd rfl hg) | (refine stopQ 22 ?_) | (apply RunK.indexN; exact rfl; exact rfl; exact rfl; (first | exact rfl | exact (rfl : (0 : Int) = ((0 : Nat) : Int)) | exact (rfl : (1 : Int) = ((1 : Nat) : Int)) | exact (rfl : (2 : Int) = ((2 : Nat) : Int)) | exact (rfl : (3 : Int) = ((3 : Nat) : Int)) | assumption); (first | omega | exact lt_of_get ‹_› | (rw [List.length_map]; omega) | (simp; omega))) | (apply RunK.loadNS; exact rfl; exact rfl; assumption; exact rfl) | (apply RunK.lenNs; exact rfl; exact rfl) | (apply RunK.moveNs; exact rfl; exact rfl) | (apply RunK.assignNs; exact rfl; exact rfl) | (apply RunK.callT; exact rfl; exact rfl; exact c1; (repeat (first | exact ArgsLe.nil | refine ArgsLe.cons ?_ ?_ | exact ArgLe.v _ | exact ArgLe.sl _ _ _ _ | exact ArgLe.nil _ | exact ArgLe.nil' | exact ArgLe.nsl _ _ _ _ _ | exact ArgLe.nsn _ | (apply ArgLe.bsl; exact rfl; (first | exact rfl | (rw [List.length_map]; done) | (simp only [List.length_map]; done) | (simp; done) | (simp; omega)); (first | assumption | exact map_len (fun _ => rfl))))); exact rfl) | (apply RunK.callT; exact rfl; exact rfl; exact c2; (repeat (first | exact ArgsLe.nil | refine ArgsLe.cons ?_ ?_ | exact ArgLe.v _ | exact ArgLe.sl _ _ _ _ | exact ArgLe.nil _ | exact ArgLe.nil' | exact ArgLe.nsl _ _ _ _ _ | exact ArgLe.nsn _ | (apply ArgLe.bsl; exact rfl; (first | exact rfl | (rw [List.length_map]; done) | (simp only [List.length_map]; done) | (simp; done) | (simp; omega)); (first | assumption | exact map_len (fun _ => rfl))))); exact rfl) | (apply RunK.callT; exact rfl; exact rfl; exact c3; (repeat (first | exact ArgsLe.nil | refine ArgsLe.cons ?_ ?_ | exact ArgLe.v _ | exact ArgLe.sl _ _ _ _ | exact ArgLe.nil _ | exact ArgLe.nil' | exact ArgLe.nsl _ _ _ _ _ | exact ArgLe.nsn _ | (apply ArgLe.bsl; exact rfl; (first | exact rfl | (rw [List.length_map]; done) | (simp only [List.length_map]; done) | (simp; done) | (simp; omega)); (first | assumption | exact map_len (fun _ => rfl))))); exact rfl) | (apply RunK.callT; exact rfl; exact rfl; exact c4; (repeat (first | exact ArgsLe.nil | refine ArgsLe.cons ?_ ?_ | exact ArgLe.v _ | exact ArgLe.sl _ _ _ _ | exact ArgLe.nil _ | exact ArgLe.nil' | exact ArgLe.nsl _ _ _ _ _ | exact ArgLe.nsn _ | (apply ArgLe.bsl; exact rfl; (first | exact rfl | (rw [List.length_map]; done) | (simp only [List.length_map]; done) | (simp; done) | (simp; omega)); (first | assumption | exact map_len (fun _ => rfl))))); exact rfl) | (apply RunK.callT; exact rfl; exact rfl; exact c5; (repeat (first | exact ArgsLe.nil | refine ArgsLe.cons ?_ ?_ | exact ArgLe.v _ | exact ArgLe.sl _ _ _ _ | exact ArgLe.nil _ | exact ArgLe.nil' | exact ArgLe.nsl _ _ _ _ _ | exact ArgLe.nsn _ | (apply ArgLe.bsl; exact rfl; (first | exact rfl | (rw [List.length_map]; done) | (simp only [List.length_map]; done) | (simp; done) | (simp; omega)); (first | assumption | exact map_len (fun _ => rfl))))); exact rfl) | (apply RunK.callS; exact rfl; exact rfl; exact q1; (repeat (first | exact ArgsLe.nil | refine ArgsLe.cons ?_ ?_ | exact ArgLe.v _ | exact ArgLe.sl _ _ _ _ | exact ArgLe.nil _ | exact ArgLe.nil' | exact ArgLe.nsl _ _ _ _ _ | exact ArgLe.nsn _ | (apply ArgLe.bsl; exact rfl; (first | exact rfl | (rw [List.length_map]; done) | (simp only [List.length_map]; done) | (simp; done) | (simp; omega)); (first | assumption | exact map_len (fun _ => rfl))))); exact rfl) | (apply RunK.callS; exact rfl; exact rfl; exact q2; (repeat (first | exact ArgsLe.nil | refine ArgsLe.cons ?_ ?_ | exact ArgLe.v _ | exact ArgLe.sl _ _ _ _ | exact ArgLe.nil _ | exact ArgLe.nil' | exact ArgLe.nsl _ _ _ _ _ | exact ArgLe.nsn _ | (apply ArgLe.bsl; exact rfl; (first | exact rfl | (rw [List.length_map]; done) | (simp only [List.length_map]; done) | (simp; done) | (simp; omega)); (first | assumption | exact map_len (fun _ => rfl))))); exact rfl)
    | refine Wt.seq ?_
    | (apply Wt.regionK; exact rfl)
    | refine Wt.skip ?_
    | refine RunK.nil ?_
    | (apply RunK.moveV; exact rfl; exact rfl)
    | (apply RunK.assignV; exact rfl; exact rfl)
    | (apply RunK.moveS; exact rfl; exact rfl)
    | (apply RunK.moveT; exact rfl; exact rfl)
    | (apply RunK.assignS; exact rfl; exact rfl)
    | (apply RunK.pickF; exact rfl; exact rfl; exact rfl)
    | (apply RunK.neq; exact rfl; exact rfl; exact rfl)
    | (apply RunK.not; exact rfl; exact rfl)
    | (apply RunK.extract; exact rfl; exact rfl; exact rfl)
    | (apply Wt.cond; exact rfl; all_goals (intro hg; (first | exact absurd hg (by decide) | skip); (first | (with_reducible replace hg := not_t hg) | (with_reducible replace hg := not_f hg) | skip); (first | (with_reducible replace hg := dec_t hg) | (with_reducible replace hg := dec_f hg) | skip); (first | (with_reducible exact absurd rfl hg) | skip); (repeat rw [List.length_map] at hg); try (exfalso; omega))))
      all_goals try (exfalso; omega)
      refine StoppedQ.mk' ?_
      refine Wt.le ⟨[(1, .s (.v (.int .i64 (b : Int)))), (6, .s (.v (.int .i64 N.length))), (11, .s (.nsl (some 110) [some 110] true 1 (gE (intG (comps N))))), (15, .s (.nsl (some 120) [some 120] true 1 (gE (intG (comps (othG N b)))))), (2999999, .old W (keptOf [.hds none 1 m]))], []⟩ (by (refine Le.mk ?_ ?_; (repeat' (first | exact LeEnv.done | refine LeEnv.cons ?_ ?_ | exact PVLe.refl _ | exact PVLe.s (SVLe.nil _ _ _) | exact PVLe.s (SVLe.no _ _ _ _) | (refine PVLe.int ?_; first | rfl | omega | (simp; done) | (simp; omega)) | (refine PVLe.els ?_; first | rfl | assumption | (simp; done)) | (refine PVLe.bool ?_; first | rfl | assumption) | (refine PVLe.bsl ?_; first | rfl | assumption | (simp; done))));  (repeat' (first | exact LeBox.done | refine LeBox.cons ?_ ?_ | exact rfl)))) ?_
      clear c1 c2 c3 c4 c5 q1 q2 zc hls hB30 hO30
      repeat' (first
    | (apply RunK.indexN; exact rfl; exact rfl; exact rfl; (first | exact rfl | exact (rfl : (0 : Int) = ((0 : Nat) : Int)) | exact (rfl : (1 : Int) = ((1 : Nat) : Int)) | exact (rfl : (2 : Int) = ((2 : Nat) : Int)) | exact (rfl : (3 : Int) = ((3 : Nat) : Int)) | assumption); (first | omega | exact lt_of_get ‹_› | (rw [List.length_map]; omega) | (simp; omega))) | (apply RunK.loadNS; exact rfl; exact rfl; assumption; exact rfl) | (apply RunK.lenNs; exact rfl; exact rfl) | (apply RunK.moveNs; exact rfl; exact rfl) | (apply RunK.assignNs; exact rfl; exact rfl) | (apply RunK.makeSlE (n := N.length); exact rfl; exact rfl; exact rfl; exact (by simp); exact (by simp); exact (by omega); exact rfl)
    | refine Wt.seq ?_
    | (apply Wt.regionK; exact rfl)
    | refine Wt.block ?_
    | refine RunK.nil ?_
    | (apply RunK.moveV; exact rfl; exact rfl)
    | (apply RunK.assignV; exact rfl; exact rfl)
    | (apply RunK.assignS; exact rfl; exact rfl))
      rw [arr_rep]
      have hal0 := arr_len N.length (fun _ => (0 : Int))
      refine Wt.thaw 21 21 rfl rfl rfl ?_
      rw [show arr N.length (fun _ => (0 : Int)) = arr N.length (fun x => ofI (othG N b) 0 x + 1) from arr_ext fun x _ => by unfold ofI; rw [if_neg (Nat.not_lt_zero _)]; rfl] at hal0 ⊢
      refine Wt.loop (fun k : Nat => ⟨[(1, .s (.v (.int .i64 (b : Int)))), (6, .s (.v (.int .i64 N.length))), (11, .s (.nsl (some 110) [some 110] true 1 (gE (intG (comps N))))), (15, .s (.nsl (some 120) [some 120] true 1 (gE (intG (comps (othG N b)))))), (2999999, .old W (keptOf [.hds none 1 m])), (21, .bsl 21 0 1 N.length), (22, .s (.v (.int .i64 k)))], [(21, (arr N.length fun x => ofI (othG N b) k x + 1).flatten)]⟩) (fun k => k ≤ (comps (othG N b)).length) (fun k => (comps (othG N b)).length - k) 0 (Nat.zero_le _) ?_ ?_
      · (refine Le.mk ?_ ?_; (repeat' (first | exact LeEnv.done | (refine LeEnv.consN ?_ ?_; exact rfl) | refine LeEnv.cons ?_ ?_ | exact PVLe.refl _ | exact PVLe.s (SVLe.nil _ _ _) | exact PVLe.s (SVLe.no _ _ _ _) | (refine PVLe.int ?_; first | rfl | omega | (simp; done) | (simp; omega)) | (refine PVLe.els ?_; first | rfl | assumption | (simp; done)) | (refine PVLe.bool ?_; first | rfl | assumption) | (refine PVLe.hdE ?_; first | rfl | assumption) | (refine PVLe.bsl ?_; first | rfl | assumption | (simp; done) | (simp; omega)))); (repeat' (first | exact LeBox.done | (refine LeBox.consN ?_ ?_; exact rfl) | (refine LeBox.cons ?_ ?_; exact rfl) | (refine LeBox.consE rfl ?_ ?_; first | assumption | (refine congrArg List.flatten ?_; first | rfl | assumption | (symm; assumption))))))
      · intro k hk
        by_cases hkt : k < (comps (othG N b)).length
        · obtain ⟨d, hdk⟩ := exists_at hkt
          have hx := gE_at (intG_at hdk)
          have hdm := List.mem_of_getElem? hdk
          have hdn := comp_len hdm
          have hdl : (intR d).length = d.length := by simp [intR]
          repeat' (first
    | (apply RunK.indexN; exact rfl; exact rfl; exact rfl; (first | exact rfl | exact (rfl : (0 : Int) = ((0 : Nat) : Int)) | exact (rfl : (1 : Int) = ((1 : Nat) : Int)) | exact (rfl : (2 : Int) = ((2 : Nat) : Int)) | exact (rfl : (3 : Int) = ((3 : Nat) : Int)) | assumption); (first | omega | exact lt_of_get ‹_› | (rw [List.length_map]; omega) | (simp; omega))) | (apply RunK.loadNS; exact rfl; exact rfl; assumption; exact rfl) | (apply RunK.lenNs; exact rfl; exact rfl) | (apply RunK.moveNs; exact rfl; exact rfl) | (apply RunK.assignNs; exact rfl; exact rfl)
    | refine Wt.seq ?_
    | (apply Wt.regionK; exact rfl)
    | refine Wt.block ?_
    | refine Wt.skip ?_
    | refine RunK.nil ?_
    | (apply RunK.moveV; exact rfl; exact rfl)
    | (apply RunK.assignV; exact rfl; exact rfl)
    | (apply RunK.lss; exact rfl; exact rfl; exact rfl)
    | (apply Wt.cond; exact rfl; all_goals (intro hg; (first | exact absurd hg (by decide) | skip); (first | (with_reducible replace hg := not_t hg) | (with_reducible replace hg := not_f hg) | skip); (first | (with_reducible replace hg := dec_t hg) | (with_reducible replace hg := dec_f hg) | skip); (first | (with_reducible exact absurd rfl hg) | skip); (repeat rw [List.length_map] at hg); try (exfalso; omega))))
          refine Wt.loop (fun j : Nat => ⟨[(1, .s (.v (.int .i64 (b : Int)))), (6, .s (.v (.int .i64 N.length))), (11, .s (.nsl (some 110) [some 110] true 1 (gE (intG (comps N))))), (15, .s (.nsl (some 120) [some 120] true 1 (gE (intG (comps (othG N b)))))), (2999999, .old W (keptOf [.hds none 1 m])), (21, .bsl 21 0 1 N.length), (22, .s (.v (.int .i64 k))), (23, .s (.v (.int .i64 j)))], [(21, (arr N.length fun x => ofK (othG N b) k d j x + 1).flatten)]⟩) (fun j => j ≤ d.length) (fun j => d.length - j) 0 (Nat.zero_le _) ?_ ?_
          · rw [ofK_zero]
            (refine Le.mk ?_ ?_; (repeat' (first | exact LeEnv.done | (refine LeEnv.consN ?_ ?_; exact rfl) | refine LeEnv.cons ?_ ?_ | exact PVLe.refl _ | exact PVLe.s (SVLe.nil _ _ _) | exact PVLe.s (SVLe.no _ _ _ _) | (refine PVLe.int ?_; first | rfl | omega | (simp; done) | (simp; omega)) | (refine PVLe.els ?_; first | rfl | assumption | (simp; done)) | (refine PVLe.bool ?_; first | rfl | assumption) | (refine PVLe.hdE ?_; first | rfl | assumption) | (refine PVLe.bsl ?_; first | rfl | assumption | (simp; done) | (simp; omega)))); (repeat' (first | exact LeBox.done | (refine LeBox.consN ?_ ?_; exact rfl) | (refine LeBox.cons ?_ ?_; exact rfl) | (refine LeBox.consE rfl ?_ ?_; first | assumption | (refine congrArg List.flatten ?_; first | rfl | assumption | (symm; assumption))))))
          · intro j hj
            by_cases hjt : j < d.length
            · obtain ⟨z, hzj⟩ := exists_at hjt
              have hzn : z < (othG N b).length := comp_lt hdm (List.mem_of_getElem? hzj)
              have hz2 := int_get hzj
              have ha := arr_at (fun x => ofK (othG N b) k d j x + 1) (hol2 ▸ hzn)
              obtain ⟨f1, f2⟩ := ofK_next (oth_ok hN) hdk hzj
              have hset : (arr N.length fun x => ofK (othG N b) k d j x + 1).set z [.int .i64 ((k : Int) + 1)] = arr N.length fun x => ofK (othG N b) k d (j + 1) x + 1 := arr_set (fun x _ hne => by rw [f1 x hne]) (by rw [f2])
              have hal := arr_len N.length (fun x => ofK (othG N b) k d j x + 1)
              have haw := arr_wid N.length (fun x => ofK (othG N b) k d j x + 1)
              clear f1 f2
              generalize (arr N.length fun x => ofK (othG N b) k d j x + 1) = A at *
              repeat' (first
    | (apply RunK.indexN; exact rfl; exact rfl; exact rfl; (first | exact rfl | exact (rfl : (0 : Int) = ((0 : Nat) : Int)) | exact (rfl : (1 : Int) = ((1 : Nat) : Int)) | exact (rfl : (2 : Int) = ((2 : Nat) : Int)) | exact (rfl : (3 : Int) = ((3 : Nat) : Int)) | assumption); (first | omega | exact lt_of_get ‹_› | (rw [List.length_map]; omega) | (simp; omega))) | (apply RunK.loadNS; exact rfl; exact rfl; assumption; exact rfl) | (apply RunK.lenNs; exact rfl; exact rfl) | (apply RunK.moveNs; exact rfl; exact rfl) | (apply RunK.assignNs; exact rfl; exact rfl)
    | refine Wt.seq ?_
    | (apply Wt.regionK; exact rfl)
    | refine Wt.block ?_
    | refine Wt.skip ?_
    | refine RunK.nil ?_
    | (apply RunK.moveV; exact rfl; exact rfl)
    | (apply RunK.index; exact rfl; exact rfl; exact rfl; (first | exact rfl | exact (rfl : (0 : Int) = ((0 : Nat) : Int)) | exact (rfl : (1 : Int) = ((1 : Nat) : Int)) | exact (rfl : (2 : Int) = ((2 : Nat) : Int)) | exact (rfl : (3 : Int) = ((3 : Nat) : Int)) | assumption); (first | omega | exact lt_of_get ‹_› | (rw [List.length_map]; omega) | (simp; omega)))
    | (apply RunK.loadE1; exact rfl; exact rfl; assumption; exact rfl)
    | (apply RunK.assignV; exact rfl; exact rfl)
    | (apply RunK.moveBs; exact rfl; exact rfl)
    | (apply RunK.indexS; exact rfl; exact rfl; exact rfl; (first | exact rfl | exact (rfl : (0 : Int) = ((0 : Nat) : Int)) | exact (rfl : (1 : Int) = ((1 : Nat) : Int)) | exact (rfl : (2 : Int) = ((2 : Nat) : Int)) | exact (rfl : (3 : Int) = ((3 : Nat) : Int)) | assumption); (first | omega | exact lt_of_get ‹_› | (rw [List.length_map]; omega) | (simp; omega)))
    | (apply RunK.pickF; exact rfl; exact rfl; exact rfl)
    | (apply RunK.geq; exact rfl; exact rfl; exact rfl)
    | (apply RunK.lss; exact rfl; exact rfl; exact rfl)
    | (apply RunK.add; exact rfl; exact rfl; exact rfl; (first | omega | (simp only [List.length_map]; omega)))
    | (apply RunK.len; exact rfl; exact rfl)
    | (apply RunK.storeF; exact rfl; exact rfl; exact rfl; exact rfl; (first | exact off0 _ _ | exact off1 _ _ _ | exact off2 _ _ _ _ | exact off3 _ _ _ _ _ | omega); (first | assumption | exact map_len (fun _ => rfl)); assumption; exact rfl; exact rfl; exact rfl; (first | exact Cells.agg _ | exact Cells.int _ _ | exact Cells.bool _ | exact Cells.one _ rfl); (repeat (first | exact Upd.nil _ | apply Upd.cons | apply Upd.skip)))
    | (apply Wt.cond; exact rfl; all_goals (intro hg; (first | exact absurd hg (by decide) | skip); (first | (with_reducible replace hg := not_t hg) | (with_reducible replace hg := not_f hg) | skip); (first | (with_reducible replace hg := dec_t hg) | (with_reducible replace hg := dec_f hg) | skip); (first | (with_reducible exact absurd rfl hg) | skip); (repeat rw [List.length_map] at hg); try (exfalso; omega))))
              all_goals first
                | (exfalso; omega)
                | (refine ⟨j + 1, hjt, by omega, ?_⟩; rw [← hset]; (refine Le.mk ?_ ?_; (repeat' (first | exact LeEnv.done | (refine LeEnv.consN ?_ ?_; exact rfl) | refine LeEnv.cons ?_ ?_ | exact PVLe.refl _ | exact PVLe.s (SVLe.nil _ _ _) | exact PVLe.s (SVLe.no _ _ _ _) | (refine PVLe.int ?_; first | rfl | omega | (simp; done) | (simp; omega)) | (refine PVLe.els ?_; first | rfl | assumption | (simp; done)) | (refine PVLe.bool ?_; first | rfl | assumption) | (refine PVLe.hdE ?_; first | rfl | assumption) | (refine PVLe.bsl ?_; first | rfl | assumption | (simp; done) | (simp; omega)))); (repeat' (first | exact LeBox.done | (refine LeBox.consN ?_ ?_; exact rfl) | (refine LeBox.cons ?_ ?_; exact rfl) | (refine LeBox.consE rfl ?_ ?_; first | assumption | (refine congrArg List.flatten ?_; first | rfl | assumption | (symm; assumption)))))))
            · obtain rfl : j = d.length := by omega
              rw [show (arr N.length fun x => ofK (othG N b) k d d.length x + 1) = arr N.length (fun x => ofI (othG N b) (k + 1) x + 1) from arr_ext fun x hx => by rw [ofK_all (oth_ok hN) hdk (hol2 ▸ hx)]]
              repeat' (first
    | (apply RunK.indexN; exact rfl; exact rfl; exact rfl; (first | exact rfl | exact (rfl : (0 : Int) = ((0 : Nat) : Int)) | exact (rfl : (1 : Int) = ((1 : Nat) : Int)) | exact (rfl : (2 : Int) = ((2 : Nat) : Int)) | exact (rfl : (3 : Int) = ((3 : Nat) : Int)) | assumption); (first | omega | exact lt_of_get ‹_› | (rw [List.length_map]; omega) | (simp; omega))) | (apply RunK.loadNS; exact rfl; exact rfl; assumption; exact rfl) | (apply RunK.lenNs; exact rfl; exact rfl) | (apply RunK.moveNs; exact rfl; exact rfl) | (apply RunK.assignNs; exact rfl; exact rfl)
    | refine Wt.seq ?_
    | (apply Wt.regionK; exact rfl)
    | refine Wt.exit ?_
    | refine RunK.nil ?_
    | (apply RunK.moveV; exact rfl; exact rfl)
    | (apply RunK.assignV; exact rfl; exact rfl)
    | (apply RunK.lss; exact rfl; exact rfl; exact rfl)
    | (apply RunK.add; exact rfl; exact rfl; exact rfl; (first | omega | (simp only [List.length_map]; omega)))
    | (apply RunK.len; exact rfl; exact rfl)
    | (apply Wt.cond; exact rfl; all_goals (intro hg; (first | exact absurd hg (by decide) | skip); (first | (with_reducible replace hg := not_t hg) | (with_reducible replace hg := not_f hg) | skip); (first | (with_reducible replace hg := dec_t hg) | (with_reducible replace hg := dec_f hg) | skip); (first | (with_reducible exact absurd rfl hg) | skip); (repeat rw [List.length_map] at hg); try (exfalso; omega))))
              refine ⟨k + 1, hkt, by omega, ?_⟩
              (refine Le.mk ?_ ?_; (repeat' (first | exact LeEnv.done | (refine LeEnv.consN ?_ ?_; exact rfl) | refine LeEnv.cons ?_ ?_ | exact PVLe.refl _ | exact PVLe.s (SVLe.nil _ _ _) | exact PVLe.s (SVLe.no _ _ _ _) | (refine PVLe.int ?_; first | rfl | omega | (simp; done) | (simp; omega)) | (refine PVLe.els ?_; first | rfl | assumption | (simp; done)) | (refine PVLe.bool ?_; first | rfl | assumption) | (refine PVLe.hdE ?_; first | rfl | assumption) | (refine PVLe.bsl ?_; first | rfl | assumption | (simp; done) | (simp; omega)))); (repeat' (first | exact LeBox.done | (refine LeBox.consN ?_ ?_; exact rfl) | (refine LeBox.cons ?_ ?_; exact rfl) | (refine LeBox.consE rfl ?_ ?_; first | assumption | (refine congrArg List.flatten ?_; first | rfl | assumption | (symm; assumption))))))
        · obtain rfl : k = (comps (othG N b)).length := by omega
          rw [show (arr N.length fun x => ofI (othG N b) (comps (othG N b)).length x + 1) = arr N.length (fun x => (ofN (othG N b) x : Int) + 1) from arr_ext fun x hx => by rw [ofI_all (oth_ok hN) (hol2 ▸ hx)]]
          have hsz := (arr_len N.length (fun x => (ofN (othG N b) x : Int) + 1)).symm
          refine Wt.freeze 21 21 3 rfl rfl hsz (map_len fun _ => rfl) ?_
          have hat := fun x (h : x < N.length) => arr_at (fun x => (ofN (othG N b) x : Int) + 1) h
          generalize arr N.length (fun x => (ofN (othG N b) x : Int) + 1) = A at *
          repeat' (first
    | (apply RunK.indexN; exact rfl; exact rfl; exact rfl; (first | exact rfl | exact (rfl : (0 : Int) = ((0 : Nat) : Int)) | exact (rfl : (1 : Int) = ((1 : Nat) : Int)) | exact (rfl : (2 : Int) = ((2 : Nat) : Int)) | exact (rfl : (3 : Int) = ((3 : Nat) : Int)) | assumption); (first | omega | exact lt_of_get ‹_› | (rw [List.length_map]; omega) | (simp; omega))) | (apply RunK.loadNS; exact rfl; exact rfl; assumption; exact rfl) | (apply RunK.lenNs; exact rfl; exact rfl) | (apply RunK.moveNs; exact rfl; exact rfl) | (apply RunK.assignNs; exact rfl; exact rfl)
    | refine Wt.seq ?_
    | (apply Wt.regionK; exact rfl)
    | refine Wt.block ?_
    | refine Wt.exit ?_
    | refine RunK.nil ?_
    | (apply RunK.moveV; exact rfl; exact rfl)
    | (apply RunK.assignV; exact rfl; exact rfl)
    | (apply RunK.lss; exact rfl; exact rfl; exact rfl)
    | (apply Wt.cond; exact rfl; all_goals (intro hg; (first | exact absurd hg (by decide) | skip); (first | (with_reducible replace hg := not_t hg) | (with_reducible replace hg := not_f hg) | skip); (first | (with_reducible replace hg := dec_t hg) | (with_reducible replace hg := dec_f hg) | skip); (first | (with_reducible exact absurd rfl hg) | skip); (repeat rw [List.length_map] at hg); try (exfalso; omega))))
          refine Wt.loop (fun k : Nat => ⟨[(1, .s (.v (.int .i64 (b : Int)))), (6, .s (.v (.int .i64 N.length))), (11, .s (.nsl (some 110) [some 110] true 1 (gE (intG (comps N))))), (15, .s (.nsl (some 120) [some 120] true 1 (gE (intG (comps (othG N b)))))), (2999999, .old W (keptOf [.hds none 1 m])), (21, .s (.sl (some 21) .no 1 A)), (24, .s (.v (.int .i64 k)))], []⟩) (fun k => k ≤ (comps N).length) (fun k => (comps N).length - k) 0 (Nat.zero_le _) ?_ ?_
          · (refine Le.mk ?_ ?_; (repeat' (first | exact LeEnv.done | refine LeEnv.cons ?_ ?_ | exact PVLe.refl _ | exact PVLe.s (SVLe.nil _ _ _) | exact PVLe.s (SVLe.no _ _ _ _) | (refine PVLe.int ?_; first | rfl | omega | (simp; done) | (simp; omega)) | (refine PVLe.els ?_; first | rfl | assumption | (simp; done)) | (refine PVLe.bool ?_; first | rfl | assumption) | (refine PVLe.bsl ?_; first | rfl | assumption | (simp; done))));  (repeat' (first | exact LeBox.done | refine LeBox.cons ?_ ?_ | exact rfl)))
          · intro k hk
            by_cases hkt : k < (comps N).length
            · obtain ⟨c, hck⟩ := exists_at hkt
              have hx := gE_at (intG_at hck)
              have hcm := List.mem_of_getElem? hck
              have hcn := comp_len hcm
              have hcll : (intR c).length = c.length := by simp [intR]
              have hcp : 0 < c.length := List.length_pos_iff.2 (comp_pw hN hcm).1
              obtain ⟨x0, hx0⟩ := exists_at hcp
              have hx0m := List.mem_of_getElem? hx0
              have hx0n : x0 < N.length := comp_lt hcm hx0m
              have hx02 := int_get hx0
              obtain ⟨d, hd1, hd2⟩ := oth_size hN hbn hck hx0m
              have hdg := gE_at (intG_at hd1)
              have hdl : (intR d).length = d.length := by simp [intR]
              have hA0 := hat _ (ren_lt (b := b) hx0n)
              repeat' (first
    | (apply RunK.indexN; exact rfl; exact rfl; exact rfl; (first | exact rfl | exact (rfl : (0 : Int) = ((0 : Nat) : Int)) | exact (rfl : (1 : Int) = ((1 : Nat) : Int)) | exact (rfl : (2 : Int) = ((2 : Nat) : Int)) | exact (rfl : (3 : Int) = ((3 : Nat) : Int)) | assumption); (first | omega | exact lt_of_get ‹_› | (rw [List.length_map]; omega) | (simp; omega))) | (apply RunK.loadNS; exact rfl; exact rfl; assumption; exact rfl) | (apply RunK.lenNs; exact rfl; exact rfl) | (apply RunK.moveNs; exact rfl; exact rfl) | (apply RunK.assignNs; exact rfl; exact rfl)
    | refine Wt.seq ?_
    | (apply Wt.regionK; exact rfl)
    | refine Wt.block ?_
    | refine Wt.skip ?_
    | refine RunK.nil ?_
    | (apply RunK.moveV; exact rfl; exact rfl)
    | (apply RunK.assignV; exact rfl; exact rfl)
    | (apply RunK.lss; exact rfl; exact rfl; exact rfl)
    | (apply Wt.cond; exact rfl; all_goals (intro hg; (first | exact absurd hg (by decide) | skip); (first | (with_reducible replace hg := not_t hg) | (with_reducible replace hg := not_f hg) | skip); (first | (with_reducible replace hg := dec_t hg) | (with_reducible replace hg := dec_f hg) | skip); (first | (with_reducible exact absurd rfl hg) | skip); (repeat rw [List.length_map] at hg); try (exfalso; omega))))
              refine Wt.loop (fun j : Nat => ⟨[(1, .s (.v (.int .i64 (b : Int)))), (6, .s (.v (.int .i64 N.length))), (11, .s (.nsl (some 110) [some 110] true 1 (gE (intG (comps N))))), (15, .s (.nsl (some 120) [some 120] true 1 (gE (intG (comps (othG N b)))))), (2999999, .old W (keptOf [.hds none 1 m])), (21, .s (.sl (some 21) .no 1 A)), (24, .s (.v (.int .i64 k))), (25, .s (.v (.int .i64 j)))], []⟩) (fun j => j ≤ c.length) (fun j => c.length - j) 0 (Nat.zero_le _) ?_ ?_
              · (refine Le.mk ?_ ?_; (repeat' (first | exact LeEnv.done | refine LeEnv.cons ?_ ?_ | exact PVLe.refl _ | exact PVLe.s (SVLe.nil _ _ _) | exact PVLe.s (SVLe.no _ _ _ _) | (refine PVLe.int ?_; first | rfl | omega | (simp; done) | (simp; omega)) | (refine PVLe.els ?_; first | rfl | assumption | (simp; done)) | (refine PVLe.bool ?_; first | rfl | assumption) | (refine PVLe.bsl ?_; first | rfl | assumption | (simp; done))));  (repeat' (first | exact LeBox.done | refine LeBox.cons ?_ ?_ | exact rfl)))
              · intro j hj
                by_cases hjt : j < c.length
                · obtain ⟨x, hxj⟩ := exists_at hjt
                  have hxm := List.mem_of_getElem? hxj
                  have hxn : x < N.length := comp_lt hcm hxm
                  have hx2 := int_get hxj
                  have hA1 := hat _ (ren_lt (b := b) hxn)
                  have hoo := oth_of hN hbn hxn hx0n ((ofN_eq hN hck hxm).trans (ofN_eq hN hck hx0m).symm)
                  rw [hoo] at hA1
                  have eX : ((x : Int) + (b : Int)).tmod (N.length : Int) = ((ren N.length b x : Nat) : Int) := by unfold ren; rw [Int.tmod_eq_emod_of_nonneg (by omega)]; rfl
                  have eX0 : ((x0 : Int) + (b : Int)).tmod (N.length : Int) = ((ren N.length b x0 : Nat) : Int) := by unfold ren; rw [Int.tmod_eq_emod_of_nonneg (by omega)]; rfl
                  have hn0 : (N.length : Int) ≠ 0 := by omega
                  have hon := lt_of_get hd1
                  clear hat hoo
                  generalize ofN (othG N b) (ren N.length b x0) = o at *
                  have eM : max (0 : Int) ((o : Int) + 1 - 1) = ((o : Nat) : Int) := by omega
                  repeat' (first
    | (exact absurd rfl hg) | (apply Wt.regionQ; exact hm2; kernel_rfl; exact rfl; exact rfl; exact rfl) | (apply RunK.indexN; exact rfl; exact rfl; exact rfl; (first | exact rfl | exact (rfl : (0 : Int) = ((0 : Nat) : Int)) | exact (rfl : (1 : Int) = ((1 : Nat) : Int)) | exact (rfl : (2 : Int) = ((2 : Nat) : Int)) | exact (rfl : (3 : Int) = ((3 : Nat) : Int)) | assumption); (first | omega | exact lt_of_get ‹_› | (rw [List.length_map]; omega) | (simp; omega))) | (apply RunK.loadNS; exact rfl; exact rfl; assumption; exact rfl) | (apply RunK.lenNs; exact rfl; exact rfl) | (apply RunK.moveNs; exact rfl; exact rfl) | (apply RunK.assignNs; exact rfl; exact rfl) | (apply RunK.bin; exact rfl; exact rfl; exact rfl; exact BinRun.rem hn0)
    | refine Wt.seq ?_
    | (apply Wt.regionK; exact rfl)
    | refine Wt.block ?_
    | refine Wt.skip ?_
    | refine RunK.nil ?_
    | (apply RunK.moveV; exact rfl; exact rfl)
    | (apply RunK.index; exact rfl; exact rfl; exact rfl; (first | exact rfl | exact (rfl : (0 : Int) = ((0 : Nat) : Int)) | exact (rfl : (1 : Int) = ((1 : Nat) : Int)) | exact (rfl : (2 : Int) = ((2 : Nat) : Int)) | exact (rfl : (3 : Int) = ((3 : Nat) : Int)) | assumption); (first | omega | exact lt_of_get ‹_› | (rw [List.length_map]; omega) | (simp; omega)))
    | (apply RunK.loadE1; exact rfl; exact rfl; assumption; exact rfl)
    | (apply RunK.assignV; exact rfl; exact rfl)
    | (apply RunK.moveS; exact rfl; exact rfl)
    | (apply RunK.pickF; exact rfl; exact rfl; exact rfl)
    | (apply RunK.geq; exact rfl; exact rfl; exact rfl)
    | (apply RunK.lss; exact rfl; exact rfl; exact rfl)
    | (apply RunK.neq; exact rfl; exact rfl; exact rfl)
    | (apply RunK.add; exact rfl; exact rfl; exact rfl; (first | omega | (simp only [List.length_map]; omega)))
    | (apply RunK.sub; exact rfl; exact rfl; exact rfl; (first | omega | (simp only [List.length_map]; omega)))
    | (apply RunK.len; exact rfl; exact rfl)
    | (apply RunK.max; exact rfl; exact rfl; exact rfl)
    | (apply RunK.guard; exact rfl; exact rfl; exact rfl; all_goals (intro hg; (first | exact absurd hg (by decide) | skip); (first | (with_reducible replace hg := not_t hg) | (with_reducible replace hg := not_f hg) | skip); (first | (with_reducible replace hg := dec_t hg) | (with_reducible replace hg := dec_f hg) | skip); (first | (with_reducible exact absurd rfl hg) | skip); (repeat rw [List.length_map] at hg); try (exfalso; omega)))
    | (apply Wt.cond; exact rfl; all_goals (intro hg; (first | exact absurd hg (by decide) | skip); (first | (with_reducible replace hg := not_t hg) | (with_reducible replace hg := not_f hg) | skip); (first | (with_reducible replace hg := dec_t hg) | (with_reducible replace hg := dec_f hg) | skip); (first | (with_reducible exact absurd rfl hg) | skip); (repeat rw [List.length_map] at hg); try (exfalso; omega))))
                  all_goals first
                    | (exfalso; omega)
                    | (refine ⟨j + 1, hjt, by omega, ?_⟩; (refine Le.mk ?_ ?_; (repeat' (first | exact LeEnv.done | refine LeEnv.cons ?_ ?_ | exact PVLe.refl _ | exact PVLe.s (SVLe.nil _ _ _) | exact PVLe.s (SVLe.no _ _ _ _) | (refine PVLe.int ?_; first | rfl | omega | (simp; done) | (simp; omega)) | (refine PVLe.els ?_; first | rfl | assumption | (simp; done)) | (refine PVLe.bool ?_; first | rfl | assumption) | (refine PVLe.bsl ?_; first | rfl | assumption | (simp; done))));  (repeat' (first | exact LeBox.done | refine LeBox.cons ?_ ?_ | exact rfl))))
                · obtain rfl : j = c.length := by omega
                  repeat' (first
    | (apply RunK.indexN; exact rfl; exact rfl; exact rfl; (first | exact rfl | exact (rfl : (0 : Int) = ((0 : Nat) : Int)) | exact (rfl : (1 : Int) = ((1 : Nat) : Int)) | exact (rfl : (2 : Int) = ((2 : Nat) : Int)) | exact (rfl : (3 : Int) = ((3 : Nat) : Int)) | assumption); (first | omega | exact lt_of_get ‹_› | (rw [List.length_map]; omega) | (simp; omega))) | (apply RunK.loadNS; exact rfl; exact rfl; assumption; exact rfl) | (apply RunK.lenNs; exact rfl; exact rfl) | (apply RunK.moveNs; exact rfl; exact rfl) | (apply RunK.assignNs; exact rfl; exact rfl)
    | refine Wt.seq ?_
    | (apply Wt.regionK; exact rfl)
    | refine Wt.exit ?_
    | refine RunK.nil ?_
    | (apply RunK.moveV; exact rfl; exact rfl)
    | (apply RunK.assignV; exact rfl; exact rfl)
    | (apply RunK.lss; exact rfl; exact rfl; exact rfl)
    | (apply RunK.add; exact rfl; exact rfl; exact rfl; (first | omega | (simp only [List.length_map]; omega)))
    | (apply RunK.len; exact rfl; exact rfl)
    | (apply Wt.cond; exact rfl; all_goals (intro hg; (first | exact absurd hg (by decide) | skip); (first | (with_reducible replace hg := not_t hg) | (with_reducible replace hg := not_f hg) | skip); (first | (with_reducible replace hg := dec_t hg) | (with_reducible replace hg := dec_f hg) | skip); (first | (with_reducible exact absurd rfl hg) | skip); (repeat rw [List.length_map] at hg); try (exfalso; omega))))
                  refine ⟨k + 1, hkt, by omega, ?_⟩
                  (refine Le.mk ?_ ?_; (repeat' (first | exact LeEnv.done | refine LeEnv.cons ?_ ?_ | exact PVLe.refl _ | exact PVLe.s (SVLe.nil _ _ _) | exact PVLe.s (SVLe.no _ _ _ _) | (refine PVLe.int ?_; first | rfl | omega | (simp; done) | (simp; omega)) | (refine PVLe.els ?_; first | rfl | assumption | (simp; done)) | (refine PVLe.bool ?_; first | rfl | assumption) | (refine PVLe.bsl ?_; first | rfl | assumption | (simp; done))));  (repeat' (first | exact LeBox.done | refine LeBox.cons ?_ ?_ | exact rfl)))
            · repeat' (first
    | (apply RunK.indexN; exact rfl; exact rfl; exact rfl; (first | exact rfl | exact (rfl : (0 : Int) = ((0 : Nat) : Int)) | exact (rfl : (1 : Int) = ((1 : Nat) : Int)) | exact (rfl : (2 : Int) = ((2 : Nat) : Int)) | exact (rfl : (3 : Int) = ((3 : Nat) : Int)) | assumption); (first | omega | exact lt_of_get ‹_› | (rw [List.length_map]; omega) | (simp; omega))) | (apply RunK.loadNS; exact rfl; exact rfl; assumption; exact rfl) | (apply RunK.lenNs; exact rfl; exact rfl) | (apply RunK.moveNs; exact rfl; exact rfl) | (apply RunK.assignNs; exact rfl; exact rfl) | (apply RunK.callS; exact rfl; exact rfl; exact awake; (repeat (first | exact ArgsLe.nil | refine ArgsLe.cons ?_ ?_ | exact ArgLe.v _ | exact ArgLe.sl _ _ _ _ | exact ArgLe.nil _ | exact ArgLe.nil' | exact ArgLe.nsl _ _ _ _ _ | exact ArgLe.nsn _ | (apply ArgLe.bsl; exact rfl; (first | exact rfl | (rw [List.length_map]; done) | (simp only [List.length_map]; done) | (simp; done) | (simp; omega)); (first | assumption | exact map_len (fun _ => rfl))))); exact rfl)
    | refine Wt.seq ?_
    | (apply Wt.regionK; exact rfl)
    | refine Wt.ret ?_
    | refine Wt.exit ?_
    | refine RunK.nil ?_
    | (apply RunK.moveV; exact rfl; exact rfl)
    | (apply RunK.assignV; exact rfl; exact rfl)
    | (apply RunK.lss; exact rfl; exact rfl; exact rfl)
    | (apply Wt.cond; exact rfl; all_goals (intro hg; (first | exact absurd hg (by decide) | skip); (first | (with_reducible replace hg := not_t hg) | (with_reducible replace hg := not_f hg) | skip); (first | (with_reducible replace hg := dec_t hg) | (with_reducible replace hg := dec_f hg) | skip); (first | (with_reducible exact absurd rfl hg) | skip); (repeat rw [List.length_map] at hg); try (exfalso; omega))))
              all_goals exact ActEnd.mk (.s (.v (.bool true))) [] rfl (by apply ResOk.v1; exact rfl; exact rfl) rfl rfl .nil (.hds .nil)
end Go.Proofs.Ytfokjpmcifkoeaa
