/- The law OrderMatches, walked. No condition. -/
import Derived.Test.YtfokjpmcifkoeaaOK
import Derived.Test.YtfokjpmcifkoeaaOI
import Derived.Test.YtfokjpmcifkoeaaOQ
import Derived.Test.YtfokjpmcifkoeaaCVS
namespace Go.Proofs.Ytfokjpmcifkoeaa
open Pv Go.RowKit Scc
set_option maxRecDepth 100000 in
theorem seqAt {P : Program} {w0 : Base} {n : Nat} (r : Nat) {l : Array Oper} {b : Bool} {c y : Code} {s : St} {N R : St → Prop} {X : Nat → St → Prop} (h : StoppedQ (Wt P w0 n (.seq (.seq (.region r l b) c) y) s N R X)) : Wt P w0 n (.seq (.seq (.region r l b) c) y) s N R X := h.go
/-- What both sides give at a graph and a list. -/
def BothO (g : List (List Int)) (l : List Int) : Prop := ∃ (A B : List Int) (e c d : Int),
  Pure Try.prog 18 [graph g] (.tup [intsR A, .v (.int .i64 e)]) ∧ Pure Try.prog 37 [graph g] (.tup [intsR A, .v (.int .i64 e)]) ∧
  Pure Try.prog 14 [graph g] (.tup [intsR B, .v (.int .i64 e)]) ∧ Pure Try.prog 38 [graph g] (.tup [intsR B, .v (.int .i64 e)]) ∧
  Pure Try.prog 15 [graph g, ints l] (.s (.v (.int .i64 c))) ∧ Pure Try.prog 39 [graph g, ints l] (.s (.v (.int .i64 c))) ∧
  Pure Try.prog 15 [graph g, ints A] (.s (.v (.int .i64 d))) ∧ Pure Try.prog 39 [graph g, ints A] (.s (.v (.int .i64 d))) ∧ A.length ≤ 24 ∧ B.length ≤ 24
set_option maxRecDepth 100000 in
theorem bothO (g : List (List Int)) (h : SmallG g) (l : List Int) (hl : l.length ≤ 30) : BothO g l := by
  have h1 := h.len
  have h2 := h.row
  cases hv : validG g with
  | false =>
    have q1 : g.length < 1000000000 := by omega
    have q2 : ∀ r ∈ g, r.length < 10000000000 := fun r hr => by have := h2 r hr; omega
    exact ⟨[], [], 3, 3, 3, ordTopoE g q1 q2 hv, refTopoE g q1 q2 hv, ordLevelsE g q1 q2 hv, refLevelsE g q1 q2 hv, ordCheckE g q1 q2 hv l, refCheckE g q1 q2 hv l, ordCheckE g q1 q2 hv [], refCheckE g q1 q2 hv [], Nat.zero_le _, Nat.zero_le _⟩
  | true =>
    obtain ⟨N, hN, rfl⟩ := valid_nat hv
    have hn : N.length ≤ 24 := by rwa [intG, List.length_map] at h1
    have q1 : N.length ≤ 1000 := by omega
    have q2 : ∀ r ∈ N, r.length < 1000 := fun r hr => by
      have := h2 (intR r) (List.mem_map_of_mem hr)
      rw [intR, List.length_map] at this; omega
    by_cases hlo : loopsN N = []
    · have ht : (intR (topo N)).length = N.length := by rw [intR, List.length_map]; exact topo_len hN hlo
      have hL : (intR (levels N)).length = N.length := by rw [intR, List.length_map]; exact levels_len N
      exact ⟨_, _, 0, _, _, ordTopo N hN q1 q2 hlo, refTopo N hN q1 q2 hlo, ordLevels N hN q1 q2 hlo, refLevels N hN q1 q2 hlo, ordCheck N hN q1 q2 l (by omega), refCheck N hN q1 q2 l (by omega), ordCheck N hN q1 q2 _ (by omega), refCheck N hN q1 q2 _ (by omega), by omega, by omega⟩
    · exact ⟨[], [], 13, _, _, ordTopoC N hN q1 q2 hlo, refTopoC N hN q1 q2 hlo, ordLevelsC N hN q1 q2 hlo, refLevelsC N hN q1 q2 hlo, ordCheck N hN q1 q2 l (by omega), refCheck N hN q1 q2 l (by omega), ordCheck N hN q1 q2 [] (by decide), refCheck N hN q1 q2 [] (by decide), Nat.zero_le _, Nat.zero_le _⟩
set_option maxHeartbeats 8000000 in
set_option maxRecDepth 100000 in
theorem ordMatchG {H : List Value} {m : List (Value × List (List Value))} {g : List (List Int)} (hr : RawG H m g) (rank : List Int) (hrk : rank.length < 1000000000000000) (l : List Int) (hll : l.length < 1000000000000000) : Acts Try.prog 11 [.sl none .no 1 (hd1 H), ints rank, ints l] [.hds none 1 m] [] (fun r _ => r = .s (.v (.bool true))) := by
  have h1 := cutR hr
  have h2 := fitR hr
  obtain ⟨N3, hN3, _, hn3, hr3, h3⟩ := downG hr rank hrk
  clear hr
  have hs1 : SmallG (cutG g) := ⟨cutG_len g, fun r => cutG_row⟩
  have hs2 : SmallG (fitG g) := ⟨by rw [fitG, List.length_map]; exact cutG_len g, fun r hr => by
    obtain ⟨q, hq, rfl⟩ := List.mem_map.1 hr
    rw [List.length_map]; exact cutG_row hq⟩
  have hs3 : SmallG (intG N3) := ⟨by rw [intG, List.length_map]; exact hn3, fun r hr => by
    obtain ⟨q, hq, rfl⟩ := List.mem_map.1 hr
    rw [intR, List.length_map]; exact hr3 q hq⟩
  generalize fitG g = g2 at *
  generalize cutG g = g1 at *
  generalize intG N3 = g3 at *
  clear hN3 hn3 hr3
  have haw := ordAwake
  have htk := take_min l 30
  have hl30 : (l.take 30).length ≤ 30 := by rw [List.length_take]; omega
  have e1 : min ((l.map ival).length : Int) 30 = ((min l.length 30 : Nat) : Int) := by rw [List.length_map]; omega
  refine acts_of_wt Try.func11 rfl (by decide) _ Try.ntmps11 rfl Try.results11 rfl (by simp [ownOf]) fun w0 W => ?_
  repeat' (first
    | (refine stopQ 2 ?_) | (apply RunK.sliceTo (l := min l.length 30); exact rfl; exact rfl; exact rfl; exact e1; (simp; omega))
    | refine Wt.seq ?_
    | (apply Wt.regionK; exact rfl)
    | refine RunK.nil ?_
    | (apply RunK.assignV; exact rfl; exact rfl)
    | (apply RunK.moveS; exact rfl; exact rfl)
    | (apply RunK.assignS; exact rfl; exact rfl)
    | (apply RunK.len; exact rfl; exact rfl)
    | (apply RunK.min; exact rfl; exact rfl; exact rfl))
  refine StoppedQ.mk' ?_
  rw [htk]
  refine Wt.le ⟨[(0, .s (.sl none .no 1 (hd1 H))), (1, .s (ints rank)), (2, .s (ints (l.take 30))), (2000000, .hds none 1 m), (2999999, .old W (keptOf [.hds none 1 m]))], []⟩ (by (refine Le.mk ?_ ?_; (repeat' (first | exact LeEnv.done | refine LeEnv.cons ?_ ?_ | exact PVLe.refl _ | exact PVLe.s (SVLe.nil _ _ _) | exact PVLe.s (SVLe.no _ _ _ _) | (refine PVLe.int ?_; first | rfl | omega | (simp; done) | (simp; omega)) | (refine PVLe.els ?_; first | rfl | assumption | (simp; done)) | (refine PVLe.bool ?_; first | rfl | assumption) | (refine PVLe.bsl ?_; first | rfl | assumption | (simp; done))));  (repeat' (first | exact LeBox.done | refine LeBox.cons ?_ ?_ | exact rfl)))) ?_
  clear e1 htk hll
  generalize l.take 30 = l at *
  repeat' (first
    | (apply RunK.indexN; exact rfl; exact rfl; exact rfl; (first | exact rfl | exact (rfl : (0 : Int) = ((0 : Nat) : Int)) | exact (rfl : (1 : Int) = ((1 : Nat) : Int)) | exact (rfl : (2 : Int) = ((2 : Nat) : Int)) | exact (rfl : (3 : Int) = ((3 : Nat) : Int)) | assumption); (first | omega | exact lt_of_get ‹_› | (rw [List.length_map]; omega) | (simp; omega))) | (apply RunK.loadNS; exact rfl; exact rfl; assumption; exact rfl) | (apply RunK.lenNs; exact rfl; exact rfl) | (apply RunK.moveNs; exact rfl; exact rfl) | (apply RunK.assignNs; exact rfl; exact rfl)
    | (apply Wt.regionK; exact rfl)
    | refine Wt.block ?_
    | refine RunK.nil ?_
    | (apply RunK.assignV; exact rfl; exact rfl))
  refine Wt.loop (fun k : Nat => ⟨[(0, .s (.sl none .no 1 (hd1 H))), (1, .s (ints rank)), (2, .s (ints l)), (7, .s (.v (.int .i64 k))), (2000000, .hds none 1 m), (2999999, .old W (keptOf [.hds none 1 m]))], []⟩) (fun k => k ≤ 4) (fun k => 4 - k) 0 (Nat.zero_le _) ?_ ?_
  · (refine Le.mk ?_ ?_; (repeat' (first | exact LeEnv.done | refine LeEnv.cons ?_ ?_ | exact PVLe.refl _ | exact PVLe.s (SVLe.nil _ _ _) | exact PVLe.s (SVLe.no _ _ _ _) | (refine PVLe.int ?_; first | rfl | omega | (simp; done) | (simp; omega)) | (refine PVLe.els ?_; first | rfl | assumption | (simp; done)) | (refine PVLe.bool ?_; first | rfl | assumption) | (refine PVLe.bsl ?_; first | rfl | assumption | (simp; done))));  (repeat' (first | exact LeBox.done | refine LeBox.cons ?_ ?_ | exact rfl)))
  · intro k hk
    by_cases hlt : k < 4
    · repeat' (first
    | (refine seqAt 6 ?_) | (apply RunK.indexN; exact rfl; exact rfl; exact rfl; (first | exact rfl | exact (rfl : (0 : Int) = ((0 : Nat) : Int)) | exact (rfl : (1 : Int) = ((1 : Nat) : Int)) | exact (rfl : (2 : Int) = ((2 : Nat) : Int)) | exact (rfl : (3 : Int) = ((3 : Nat) : Int)) | assumption); (first | omega | exact lt_of_get ‹_› | (rw [List.length_map]; omega) | (simp; omega))) | (apply RunK.loadNS; exact rfl; exact rfl; assumption; exact rfl) | (apply RunK.lenNs; exact rfl; exact rfl) | (apply RunK.moveNs; exact rfl; exact rfl) | (apply RunK.assignNs; exact rfl; exact rfl) | (apply RunK.actR _ h1 (fun _ _ h => h); (case hn => exact rfl); (case hw => exact rfl); (case he => exact rfl); (case hx => exact rfl); (case ha => (repeat (first | exact ArgsLe.nil | refine ArgsLe.cons ?_ ?_ | exact ArgLe.v _ | exact ArgLe.sl _ _ _ _ | exact ArgLe.nil _ | exact ArgLe.nil' | exact ArgLe.nsl _ _ _ _ _ | exact ArgLe.nsn _ | (apply ArgLe.bsl; exact rfl; (first | exact rfl | (rw [List.length_map]; done) | (simp only [List.length_map]; done) | (simp; done) | (simp; omega)); (first | assumption | exact map_len (fun _ => rfl)))))); (case hgs => exact rfl); (case hf => exact .hds 2000000 rfl rfl .nil))
    | refine Wt.seq ?_
    | (apply Wt.regionK; exact rfl)
    | refine Wt.block ?_
    | refine Wt.skip ?_
    | refine RunK.nil ?_
    | (apply RunK.moveV; exact rfl; exact rfl)
    | (apply RunK.moveS; exact rfl; exact rfl)
    | (apply RunK.lss; exact rfl; exact rfl; exact rfl)
    | (apply Wt.cond; exact rfl; all_goals (intro hg; (first | exact absurd hg (by decide) | skip); (first | (with_reducible replace hg := not_t hg) | (with_reducible replace hg := not_f hg) | skip); (first | (with_reducible replace hg := dec_t hg) | (with_reducible replace hg := dec_f hg) | skip); (first | (with_reducible exact absurd rfl hg) | skip); (repeat rw [List.length_map] at hg); try (exfalso; omega))))
      refine StoppedQ.mk' ?_
      refine Wt.seq (Wt.mono (N := fun s => ∃ (l0 : List (List Int)) (tg : Option Nat), SmallG l0 ∧ Le s ⟨[(0, .s (.sl none .no 1 (hd1 H))), (1, .s (ints rank)), (2, .s (ints l)), (7, .s (.v (.int .i64 k))), (8, .s (.nsl tg [tg] true 1 (gE l0))), (2000000, .hds none 1 m), (2999999, .old W (keptOf [.hds none 1 m]))], []⟩) ?_ ?_ (fun _ h => h) (fun _ _ h => h))
      · repeat' (first
    | (exfalso; omega) | (apply RunK.indexN; exact rfl; exact rfl; exact rfl; (first | exact rfl | exact (rfl : (0 : Int) = ((0 : Nat) : Int)) | exact (rfl : (1 : Int) = ((1 : Nat) : Int)) | exact (rfl : (2 : Int) = ((2 : Nat) : Int)) | exact (rfl : (3 : Int) = ((3 : Nat) : Int)) | assumption); (first | omega | exact lt_of_get ‹_› | (rw [List.length_map]; omega) | (simp; omega))) | (apply RunK.loadNS; exact rfl; exact rfl; assumption; exact rfl) | (apply RunK.lenNs; exact rfl; exact rfl) | (apply RunK.moveNs; exact rfl; exact rfl) | (apply RunK.assignNs; exact rfl; exact rfl) | (apply RunK.actR _ h2 (fun _ _ h => h); (case hn => exact rfl); (case hw => exact rfl); (case he => exact rfl); (case hx => exact rfl); (case ha => (repeat (first | exact ArgsLe.nil | refine ArgsLe.cons ?_ ?_ | exact ArgLe.v _ | exact ArgLe.sl _ _ _ _ | exact ArgLe.nil _ | exact ArgLe.nil' | exact ArgLe.nsl _ _ _ _ _ | exact ArgLe.nsn _ | (apply ArgLe.bsl; exact rfl; (first | exact rfl | (rw [List.length_map]; done) | (simp only [List.length_map]; done) | (simp; done) | (simp; omega)); (first | assumption | exact map_len (fun _ => rfl)))))); (case hgs => exact rfl); (case hf => exact .hds 2000000 rfl rfl .nil)) | (apply RunK.actR _ h3 (fun _ _ h => h); (case hn => exact rfl); (case hw => exact rfl); (case he => exact rfl); (case hx => exact rfl); (case ha => (repeat (first | exact ArgsLe.nil | refine ArgsLe.cons ?_ ?_ | exact ArgLe.v _ | exact ArgLe.sl _ _ _ _ | exact ArgLe.nil _ | exact ArgLe.nil' | exact ArgLe.nsl _ _ _ _ _ | exact ArgLe.nsn _ | (apply ArgLe.bsl; exact rfl; (first | exact rfl | (rw [List.length_map]; done) | (simp only [List.length_map]; done) | (simp; done) | (simp; omega)); (first | assumption | exact map_len (fun _ => rfl)))))); (case hgs => exact rfl); (case hf => exact .hds 2000000 rfl rfl .nil))
    | refine Wt.seq ?_
    | (apply Wt.regionK; exact rfl)
    | refine Wt.block ?_
    | refine Wt.skip ?_
    | refine RunK.nil ?_
    | (apply RunK.moveV; exact rfl; exact rfl)
    | (apply RunK.assignV; exact rfl; exact rfl)
    | (apply RunK.moveS; exact rfl; exact rfl)
    | (apply RunK.eql; exact rfl; exact rfl; exact rfl)
    | (apply Wt.cond; exact rfl; all_goals (intro hg; (first | exact absurd hg (by decide) | skip); (first | (with_reducible replace hg := not_t hg) | (with_reducible replace hg := not_f hg) | skip); (first | (with_reducible replace hg := dec_t hg) | (with_reducible replace hg := dec_f hg) | skip); (first | (with_reducible exact absurd rfl hg) | skip); (repeat rw [List.length_map] at hg); try (exfalso; omega))))
        · exact ⟨g2, _, hs2, by (refine Le.mk ?_ ?_; (repeat' (first | exact LeEnv.done | refine LeEnv.cons ?_ ?_ | exact PVLe.refl _ | exact PVLe.s (SVLe.nil _ _ _) | exact PVLe.s (SVLe.no _ _ _ _) | (refine PVLe.int ?_; first | rfl | omega | (simp; done) | (simp; omega)) | (refine PVLe.els ?_; first | rfl | assumption | (simp; done)) | (refine PVLe.bool ?_; first | rfl | assumption) | (refine PVLe.bsl ?_; first | rfl | assumption | (simp; done))));  (repeat' (first | exact LeBox.done | refine LeBox.cons ?_ ?_ | exact rfl)))⟩
        · exact ⟨g3, _, hs3, by (refine Le.mk ?_ ?_; (repeat' (first | exact LeEnv.done | refine LeEnv.cons ?_ ?_ | exact PVLe.refl _ | exact PVLe.s (SVLe.nil _ _ _) | exact PVLe.s (SVLe.no _ _ _ _) | (refine PVLe.int ?_; first | rfl | omega | (simp; done) | (simp; omega)) | (refine PVLe.els ?_; first | rfl | assumption | (simp; done)) | (refine PVLe.bool ?_; first | rfl | assumption) | (refine PVLe.bsl ?_; first | rfl | assumption | (simp; done))));  (repeat' (first | exact LeBox.done | refine LeBox.cons ?_ ?_ | exact rfl)))⟩
        · exact ⟨g3, _, hs3, by (refine Le.mk ?_ ?_; (repeat' (first | exact LeEnv.done | refine LeEnv.cons ?_ ?_ | exact PVLe.refl _ | exact PVLe.s (SVLe.nil _ _ _) | exact PVLe.s (SVLe.no _ _ _ _) | (refine PVLe.int ?_; first | rfl | omega | (simp; done) | (simp; omega)) | (refine PVLe.els ?_; first | rfl | assumption | (simp; done)) | (refine PVLe.bool ?_; first | rfl | assumption) | (refine PVLe.bsl ?_; first | rfl | assumption | (simp; done))));  (repeat' (first | exact LeBox.done | refine LeBox.cons ?_ ?_ | exact rfl)))⟩
        · exact ⟨g1, _, hs1, by (refine Le.mk ?_ ?_; (repeat' (first | exact LeEnv.done | refine LeEnv.cons ?_ ?_ | exact PVLe.refl _ | exact PVLe.s (SVLe.nil _ _ _) | exact PVLe.s (SVLe.no _ _ _ _) | (refine PVLe.int ?_; first | rfl | omega | (simp; done) | (simp; omega)) | (refine PVLe.els ?_; first | rfl | assumption | (simp; done)) | (refine PVLe.bool ?_; first | rfl | assumption) | (refine PVLe.bsl ?_; first | rfl | assumption | (simp; done))));  (repeat' (first | exact LeBox.done | refine LeBox.cons ?_ ?_ | exact rfl)))⟩
      · rintro s ⟨l0, tg, hl, hle⟩
        refine Wt.le _ hle ?_
        clear hle h1 h2 h3 hs1 hs2 hs3
        obtain ⟨A, B, e, c, d, c1, c2, c3, c4, c5, c6, c7, c8, hA, hB⟩ := bothO l0 hl l hl30
        have hcp := copyInts2 l0 (by have := hl.len; omega) (fun r h => by have := hl.row r h; omega)
        have hcp2 := copyInts l (by omega)
        have q1 := equalInts A A (by omega) (by omega)
        have q2 := equalInts B B (by omega) (by omega)
        have q3 := hl.same
        have q4 := equalInts l l (by omega) (by omega)
        rw [decide_eq_true rfl] at q1 q2 q4
        repeat' (first
    | (exact absurd rfl hg) | (refine stopQ 19 ?_) | (apply RunK.indexN; exact rfl; exact rfl; exact rfl; (first | exact rfl | exact (rfl : (0 : Int) = ((0 : Nat) : Int)) | exact (rfl : (1 : Int) = ((1 : Nat) : Int)) | exact (rfl : (2 : Int) = ((2 : Nat) : Int)) | exact (rfl : (3 : Int) = ((3 : Nat) : Int)) | assumption); (first | omega | exact lt_of_get ‹_› | (rw [List.length_map]; omega) | (simp; omega))) | (apply RunK.loadNS; exact rfl; exact rfl; assumption; exact rfl) | (apply RunK.lenNs; exact rfl; exact rfl) | (apply RunK.moveNs; exact rfl; exact rfl) | (apply RunK.assignNs; exact rfl; exact rfl) | (apply RunK.callS; exact rfl; exact rfl; exact hcp; (repeat (first | exact ArgsLe.nil | refine ArgsLe.cons ?_ ?_ | exact ArgLe.v _ | exact ArgLe.sl _ _ _ _ | exact ArgLe.nil _ | exact ArgLe.nil' | exact ArgLe.nsl _ _ _ _ _ | exact ArgLe.nsn _ | (apply ArgLe.bsl; exact rfl; (first | exact rfl | (rw [List.length_map]; done) | (simp only [List.length_map]; done) | (simp; done) | (simp; omega)); (first | assumption | exact map_len (fun _ => rfl))))); exact rfl) | (apply RunK.callS; exact rfl; exact rfl; exact hcp2; (repeat (first | exact ArgsLe.nil | refine ArgsLe.cons ?_ ?_ | exact ArgLe.v _ | exact ArgLe.sl _ _ _ _ | exact ArgLe.nil _ | exact ArgLe.nil' | exact ArgLe.nsl _ _ _ _ _ | exact ArgLe.nsn _ | (apply ArgLe.bsl; exact rfl; (first | exact rfl | (rw [List.length_map]; done) | (simp only [List.length_map]; done) | (simp; done) | (simp; omega)); (first | assumption | exact map_len (fun _ => rfl))))); exact rfl) | (apply RunK.callT; exact rfl; exact rfl; exact c1; (repeat (first | exact ArgsLe.nil | refine ArgsLe.cons ?_ ?_ | exact ArgLe.v _ | exact ArgLe.sl _ _ _ _ | exact ArgLe.nil _ | exact ArgLe.nil' | exact ArgLe.nsl _ _ _ _ _ | exact ArgLe.nsn _ | (apply ArgLe.bsl; exact rfl; (first | exact rfl | (rw [List.length_map]; done) | (simp only [List.length_map]; done) | (simp; done) | (simp; omega)); (first | assumption | exact map_len (fun _ => rfl))))); exact rfl) | (apply RunK.callT; exact rfl; exact rfl; exact c2; (repeat (first | exact ArgsLe.nil | refine ArgsLe.cons ?_ ?_ | exact ArgLe.v _ | exact ArgLe.sl _ _ _ _ | exact ArgLe.nil _ | exact ArgLe.nil' | exact ArgLe.nsl _ _ _ _ _ | exact ArgLe.nsn _ | (apply ArgLe.bsl; exact rfl; (first | exact rfl | (rw [List.length_map]; done) | (simp only [List.length_map]; done) | (simp; done) | (simp; omega)); (first | assumption | exact map_len (fun _ => rfl))))); exact rfl) | (apply RunK.callT; exact rfl; exact rfl; exact c3; (repeat (first | exact ArgsLe.nil | refine ArgsLe.cons ?_ ?_ | exact ArgLe.v _ | exact ArgLe.sl _ _ _ _ | exact ArgLe.nil _ | exact ArgLe.nil' | exact ArgLe.nsl _ _ _ _ _ | exact ArgLe.nsn _ | (apply ArgLe.bsl; exact rfl; (first | exact rfl | (rw [List.length_map]; done) | (simp only [List.length_map]; done) | (simp; done) | (simp; omega)); (first | assumption | exact map_len (fun _ => rfl))))); exact rfl) | (apply RunK.callT; exact rfl; exact rfl; exact c4; (repeat (first | exact ArgsLe.nil | refine ArgsLe.cons ?_ ?_ | exact ArgLe.v _ | exact ArgLe.sl _ _ _ _ | exact ArgLe.nil _ | exact ArgLe.nil' | exact ArgLe.nsl _ _ _ _ _ | exact ArgLe.nsn _ | (apply ArgLe.bsl; exact rfl; (first | exact rfl | (rw [List.length_map]; done) | (simp only [List.length_map]; done) | (simp; done) | (simp; omega)); (first | assumption | exact map_len (fun _ => rfl))))); exact rfl) | (apply RunK.callS; exact rfl; exact rfl; exact q1; (repeat (first | exact ArgsLe.nil | refine ArgsLe.cons ?_ ?_ | exact ArgLe.v _ | exact ArgLe.sl _ _ _ _ | exact ArgLe.nil _ | exact ArgLe.nil' | exact ArgLe.nsl _ _ _ _ _ | exact ArgLe.nsn _ | (apply ArgLe.bsl; exact rfl; (first | exact rfl | (rw [List.length_map]; done) | (simp only [List.length_map]; done) | (simp; done) | (simp; omega)); (first | assumption | exact map_len (fun _ => rfl))))); exact rfl) | (apply RunK.callS; exact rfl; exact rfl; exact q2; (repeat (first | exact ArgsLe.nil | refine ArgsLe.cons ?_ ?_ | exact ArgLe.v _ | exact ArgLe.sl _ _ _ _ | exact ArgLe.nil _ | exact ArgLe.nil' | exact ArgLe.nsl _ _ _ _ _ | exact ArgLe.nsn _ | (apply ArgLe.bsl; exact rfl; (first | exact rfl | (rw [List.length_map]; done) | (simp only [List.length_map]; done) | (simp; done) | (simp; omega)); (first | assumption | exact map_len (fun _ => rfl))))); exact rfl) | (apply RunK.callS; exact rfl; exact rfl; exact q3; (repeat (first | exact ArgsLe.nil | refine ArgsLe.cons ?_ ?_ | exact ArgLe.v _ | exact ArgLe.sl _ _ _ _ | exact ArgLe.nil _ | exact ArgLe.nil' | exact ArgLe.nsl _ _ _ _ _ | exact ArgLe.nsn _ | (apply ArgLe.bsl; exact rfl; (first | exact rfl | (rw [List.length_map]; done) | (simp only [List.length_map]; done) | (simp; done) | (simp; omega)); (first | assumption | exact map_len (fun _ => rfl))))); exact rfl) | (apply RunK.callS; exact rfl; exact rfl; exact q4; (repeat (first | exact ArgsLe.nil | refine ArgsLe.cons ?_ ?_ | exact ArgLe.v _ | exact ArgLe.sl _ _ _ _ | exact ArgLe.nil _ | exact ArgLe.nil' | exact ArgLe.nsl _ _ _ _ _ | exact ArgLe.nsn _ | (apply ArgLe.bsl; exact rfl; (first | exact rfl | (rw [List.length_map]; done) | (simp only [List.length_map]; done) | (simp; done) | (simp; omega)); (first | assumption | exact map_len (fun _ => rfl))))); exact rfl) | (apply RunK.callS; exact rfl; exact rfl; exact c5; (repeat (first | exact ArgsLe.nil | refine ArgsLe.cons ?_ ?_ | exact ArgLe.v _ | exact ArgLe.sl _ _ _ _ | exact ArgLe.nil _ | exact ArgLe.nil' | exact ArgLe.nsl _ _ _ _ _ | exact ArgLe.nsn _ | (apply ArgLe.bsl; exact rfl; (first | exact rfl | (rw [List.length_map]; done) | (simp only [List.length_map]; done) | (simp; done) | (simp; omega)); (first | assumption | exact map_len (fun _ => rfl))))); exact rfl) | (apply RunK.callS; exact rfl; exact rfl; exact c6; (repeat (first | exact ArgsLe.nil | refine ArgsLe.cons ?_ ?_ | exact ArgLe.v _ | exact ArgLe.sl _ _ _ _ | exact ArgLe.nil _ | exact ArgLe.nil' | exact ArgLe.nsl _ _ _ _ _ | exact ArgLe.nsn _ | (apply ArgLe.bsl; exact rfl; (first | exact rfl | (rw [List.length_map]; done) | (simp only [List.length_map]; done) | (simp; done) | (simp; omega)); (first | assumption | exact map_len (fun _ => rfl))))); exact rfl) | (apply RunK.callS; exact rfl; exact rfl; exact c7; (repeat (first | exact ArgsLe.nil | refine ArgsLe.cons ?_ ?_ | exact ArgLe.v _ | exact ArgLe.sl _ _ _ _ | exact ArgLe.nil _ | exact ArgLe.nil' | exact ArgLe.nsl _ _ _ _ _ | exact ArgLe.nsn _ | (apply ArgLe.bsl; exact rfl; (first | exact rfl | (rw [List.length_map]; done) | (simp only [List.length_map]; done) | (simp; done) | (simp; omega)); (first | assumption | exact map_len (fun _ => rfl))))); exact rfl) | (apply RunK.callS; exact rfl; exact rfl; exact c8; (repeat (first | exact ArgsLe.nil | refine ArgsLe.cons ?_ ?_ | exact ArgLe.v _ | exact ArgLe.sl _ _ _ _ | exact ArgLe.nil _ | exact ArgLe.nil' | exact ArgLe.nsl _ _ _ _ _ | exact ArgLe.nsn _ | (apply ArgLe.bsl; exact rfl; (first | exact rfl | (rw [List.length_map]; done) | (simp only [List.length_map]; done) | (simp; done) | (simp; omega)); (first | assumption | exact map_len (fun _ => rfl))))); exact rfl)
    | refine Wt.seq ?_
    | (apply Wt.regionK; exact rfl)
    | refine Wt.skip ?_
    | refine RunK.nil ?_
    | (apply RunK.moveV; exact rfl; exact rfl)
    | (apply RunK.assignV; exact rfl; exact rfl)
    | (apply RunK.moveS; exact rfl; exact rfl)
    | (apply RunK.moveT; exact rfl; exact rfl)
    | (apply RunK.assignS; exact rfl; exact rfl)
    | (apply RunK.pickF; exact rfl; exact rfl; exact rfl)
    | (apply RunK.neq; exact rfl; exact rfl; exact rfl)
    | (apply RunK.not; exact rfl; exact rfl)
    | (apply RunK.extract; exact rfl; exact rfl; exact rfl)
    | (apply RunK.guard; exact rfl; exact rfl; exact rfl; all_goals (intro hg; (first | exact absurd hg (by decide) | skip); (first | (with_reducible replace hg := not_t hg) | (with_reducible replace hg := not_f hg) | skip); (first | (with_reducible replace hg := dec_t hg) | (with_reducible replace hg := dec_f hg) | skip); (first | (with_reducible exact absurd rfl hg) | skip); (repeat rw [List.length_map] at hg); try (exfalso; omega)))
    | (apply Wt.cond; exact rfl; all_goals (intro hg; (first | exact absurd hg (by decide) | skip); (first | (with_reducible replace hg := not_t hg) | (with_reducible replace hg := not_f hg) | skip); (first | (with_reducible replace hg := dec_t hg) | (with_reducible replace hg := dec_f hg) | skip); (first | (with_reducible exact absurd rfl hg) | skip); (repeat rw [List.length_map] at hg); try (exfalso; omega))))
        refine StoppedQ.mk' ?_
        refine Wt.le ⟨[(11, .s (.sl (some 49) (.front 3) 1 (A.map ival))), (15, .s (.sl (some 59) (.front 3) 1 (B.map ival))), (0, .s (.sl none .no 1 (hd1 H))), (1, .s (ints rank)), (2, .s (ints l)), (7, .s (.v (.int .i64 k))), (2000000, .hds none 1 m), (2999999, .old W (keptOf [.hds none 1 m]))], []⟩ (by (refine Le.mk ?_ ?_; (repeat' (first | exact LeEnv.done | refine LeEnv.cons ?_ ?_ | exact PVLe.refl _ | exact PVLe.s (SVLe.nil _ _ _) | exact PVLe.s (SVLe.no _ _ _ _) | (refine PVLe.int ?_; first | rfl | omega | (simp; done) | (simp; omega)) | (refine PVLe.els ?_; first | rfl | assumption | (simp; done)) | (refine PVLe.bool ?_; first | rfl | assumption) | (refine PVLe.bsl ?_; first | rfl | assumption | (simp; done))));  (repeat' (first | exact LeBox.done | refine LeBox.cons ?_ ?_ | exact rfl)))) ?_
        clear c1 c2 c3 c4 c5 c6 c7 c8 hcp hcp2 q1 q2 q3 q4
        repeat' (first
    | (apply RunK.indexN; exact rfl; exact rfl; exact rfl; (first | exact rfl | exact (rfl : (0 : Int) = ((0 : Nat) : Int)) | exact (rfl : (1 : Int) = ((1 : Nat) : Int)) | exact (rfl : (2 : Int) = ((2 : Nat) : Int)) | exact (rfl : (3 : Int) = ((3 : Nat) : Int)) | assumption); (first | omega | exact lt_of_get ‹_› | (rw [List.length_map]; omega) | (simp; omega))) | (apply RunK.loadNS; exact rfl; exact rfl; assumption; exact rfl) | (apply RunK.lenNs; exact rfl; exact rfl) | (apply RunK.moveNs; exact rfl; exact rfl) | (apply RunK.assignNs; exact rfl; exact rfl)
    | (apply Wt.regionK; exact rfl)
    | refine Wt.block ?_
    | refine RunK.nil ?_
    | (apply RunK.assignV; exact rfl; exact rfl))
        refine Wt.thaw 11 11 rfl rfl rfl ?_
        refine Wt.loop (fun i : Nat × List Int => ⟨[(15, .s (.sl (some 59) (.front 3) 1 (B.map ival))), (11, .bsl 11 0 1 A.length), (19, .s (.v (.int .i64 i.1))), (0, .s (.sl none .no 1 (hd1 H))), (1, .s (ints rank)), (2, .s (ints l)), (7, .s (.v (.int .i64 k))), (2000000, .hds none 1 m), (2999999, .old W (keptOf [.hds none 1 m]))], [(11, (i.2.map ival).flatten)]⟩) (fun i => i.1 ≤ A.length ∧ i.2.length = A.length) (fun i => A.length - i.1) (0, A) ⟨Nat.zero_le _, rfl⟩ ?_ ?_
        · (refine Le.mk ?_ ?_; (repeat' (first | exact LeEnv.done | (refine LeEnv.consN ?_ ?_; exact rfl) | refine LeEnv.cons ?_ ?_ | exact PVLe.refl _ | exact PVLe.s (SVLe.nil _ _ _) | exact PVLe.s (SVLe.no _ _ _ _) | (refine PVLe.int ?_; first | rfl | omega | (simp; done) | (simp; omega)) | (refine PVLe.els ?_; first | rfl | assumption | (simp; done)) | (refine PVLe.bool ?_; first | rfl | assumption) | (refine PVLe.hdE ?_; first | rfl | assumption) | (refine PVLe.bsl ?_; first | rfl | assumption | (simp; done) | (simp; omega)))); (repeat' (first | exact LeBox.done | (refine LeBox.consN ?_ ?_; exact rfl) | (refine LeBox.cons ?_ ?_; exact rfl) | (refine LeBox.consE rfl ?_ ?_; first | assumption | (refine congrArg List.flatten ?_; first | rfl | assumption | (symm; assumption))))))
        · rintro ⟨i, L2⟩ ⟨hi, hL2⟩
          dsimp only at hi hL2 ⊢
          by_cases hit : i < A.length
          · obtain ⟨y, hy⟩ := exists_at (l := L2) (k := i) (by omega)
            have hy2 := get_map (f := ival) hy
            have hset : (L2.map ival).set i [.int .i64 (-7)] = (L2.set i (-7)).map ival := by rw [List.map_set]; rfl
            repeat' (first
    | (apply RunK.indexN; exact rfl; exact rfl; exact rfl; (first | exact rfl | exact (rfl : (0 : Int) = ((0 : Nat) : Int)) | exact (rfl : (1 : Int) = ((1 : Nat) : Int)) | exact (rfl : (2 : Int) = ((2 : Nat) : Int)) | exact (rfl : (3 : Int) = ((3 : Nat) : Int)) | assumption); (first | omega | exact lt_of_get ‹_› | (rw [List.length_map]; omega) | (simp; omega))) | (apply RunK.loadNS; exact rfl; exact rfl; assumption; exact rfl) | (apply RunK.lenNs; exact rfl; exact rfl) | (apply RunK.moveNs; exact rfl; exact rfl) | (apply RunK.assignNs; exact rfl; exact rfl)
    | refine Wt.seq ?_
    | (apply Wt.regionK; exact rfl)
    | refine Wt.block ?_
    | refine Wt.skip ?_
    | refine RunK.nil ?_
    | (apply RunK.moveV; exact rfl; exact rfl)
    | (apply RunK.assignV; exact rfl; exact rfl)
    | (apply RunK.moveBs; exact rfl; exact rfl)
    | (apply RunK.indexS; exact rfl; exact rfl; exact rfl; (first | exact rfl | exact (rfl : (0 : Int) = ((0 : Nat) : Int)) | exact (rfl : (1 : Int) = ((1 : Nat) : Int)) | exact (rfl : (2 : Int) = ((2 : Nat) : Int)) | exact (rfl : (3 : Int) = ((3 : Nat) : Int)) | assumption); (first | omega | exact lt_of_get ‹_› | (rw [List.length_map]; omega) | (simp; omega)))
    | (apply RunK.lenS; exact rfl; exact rfl)
    | (apply RunK.lss; exact rfl; exact rfl; exact rfl)
    | (apply RunK.add; exact rfl; exact rfl; exact rfl; (first | omega | (simp only [List.length_map]; omega)))
    | (apply RunK.storeF; exact rfl; exact rfl; exact rfl; exact rfl; (first | exact off0 _ _ | exact off1 _ _ _ | exact off2 _ _ _ _ | exact off3 _ _ _ _ _ | omega); (first | assumption | exact map_len (fun _ => rfl)); assumption; exact rfl; exact rfl; exact rfl; (first | exact Cells.agg _ | exact Cells.int _ _ | exact Cells.bool _ | exact Cells.one _ rfl); (repeat (first | exact Upd.nil _ | apply Upd.cons | apply Upd.skip)))
    | (apply Wt.cond; exact rfl; all_goals (intro hg; (first | exact absurd hg (by decide) | skip); (first | (with_reducible replace hg := not_t hg) | (with_reducible replace hg := not_f hg) | skip); (first | (with_reducible replace hg := dec_t hg) | (with_reducible replace hg := dec_f hg) | skip); (first | (with_reducible exact absurd rfl hg) | skip); (repeat rw [List.length_map] at hg); try (exfalso; omega))))
            refine ⟨(i + 1, L2.set i (-7)), ⟨hit, (List.length_set ..).trans hL2⟩, by dsimp only; omega, ?_⟩
            dsimp only
            rw [← hset]
            (refine Le.mk ?_ ?_; (repeat' (first | exact LeEnv.done | (refine LeEnv.consN ?_ ?_; exact rfl) | refine LeEnv.cons ?_ ?_ | exact PVLe.refl _ | exact PVLe.s (SVLe.nil _ _ _) | exact PVLe.s (SVLe.no _ _ _ _) | (refine PVLe.int ?_; first | rfl | omega | (simp; done) | (simp; omega)) | (refine PVLe.els ?_; first | rfl | assumption | (simp; done)) | (refine PVLe.bool ?_; first | rfl | assumption) | (refine PVLe.hdE ?_; first | rfl | assumption) | (refine PVLe.bsl ?_; first | rfl | assumption | (simp; done) | (simp; omega)))); (repeat' (first | exact LeBox.done | (refine LeBox.consN ?_ ?_; exact rfl) | (refine LeBox.cons ?_ ?_; exact rfl) | (refine LeBox.consE rfl ?_ ?_; first | assumption | (refine congrArg List.flatten ?_; first | rfl | assumption | (symm; assumption))))))
          · repeat' (first
    | (refine stopQ 23 ?_) | (apply RunK.indexN; exact rfl; exact rfl; exact rfl; (first | exact rfl | exact (rfl : (0 : Int) = ((0 : Nat) : Int)) | exact (rfl : (1 : Int) = ((1 : Nat) : Int)) | exact (rfl : (2 : Int) = ((2 : Nat) : Int)) | exact (rfl : (3 : Int) = ((3 : Nat) : Int)) | assumption); (first | omega | exact lt_of_get ‹_› | (rw [List.length_map]; omega) | (simp; omega))) | (apply RunK.loadNS; exact rfl; exact rfl; assumption; exact rfl) | (apply RunK.lenNs; exact rfl; exact rfl) | (apply RunK.moveNs; exact rfl; exact rfl) | (apply RunK.assignNs; exact rfl; exact rfl)
    | refine Wt.seq ?_
    | (apply Wt.regionK; exact rfl)
    | refine Wt.exit ?_
    | refine RunK.nil ?_
    | (apply RunK.moveV; exact rfl; exact rfl)
    | (apply RunK.moveBs; exact rfl; exact rfl)
    | (apply RunK.lenS; exact rfl; exact rfl)
    | (apply RunK.lss; exact rfl; exact rfl; exact rfl)
    | (apply Wt.cond; exact rfl; all_goals (intro hg; (first | exact absurd hg (by decide) | skip); (first | (with_reducible replace hg := not_t hg) | (with_reducible replace hg := not_f hg) | skip); (first | (with_reducible replace hg := dec_t hg) | (with_reducible replace hg := dec_f hg) | skip); (first | (with_reducible exact absurd rfl hg) | skip); (repeat rw [List.length_map] at hg); try (exfalso; omega))))
            refine StoppedQ.mk' ?_
            refine Wt.le ⟨[(15, .s (.sl (some 59) (.front 3) 1 (B.map ival))), (0, .s (.sl none .no 1 (hd1 H))), (1, .s (ints rank)), (2, .s (ints l)), (7, .s (.v (.int .i64 k))), (2000000, .hds none 1 m), (2999999, .old W (keptOf [.hds none 1 m]))], []⟩ (by (refine Le.mk ?_ ?_; (repeat' (first | exact LeEnv.done | (refine LeEnv.consN ?_ ?_; exact rfl) | refine LeEnv.cons ?_ ?_ | exact PVLe.refl _ | exact PVLe.s (SVLe.nil _ _ _) | exact PVLe.s (SVLe.no _ _ _ _) | (refine PVLe.int ?_; first | rfl | omega | (simp; done) | (simp; omega)) | (refine PVLe.els ?_; first | rfl | assumption | (simp; done)) | (refine PVLe.bool ?_; first | rfl | assumption) | (refine PVLe.hdE ?_; first | rfl | assumption) | (refine PVLe.bsl ?_; first | rfl | assumption | (simp; done) | (simp; omega)))); (repeat' (first | exact LeBox.done | (refine LeBox.consN ?_ ?_; exact rfl) | (refine LeBox.cons ?_ ?_; exact rfl) | (refine LeBox.consE rfl ?_ ?_; first | assumption | (refine congrArg List.flatten ?_; first | rfl | assumption | (symm; assumption))))))) ?_
            repeat' (first
    | (apply RunK.indexN; exact rfl; exact rfl; exact rfl; (first | exact rfl | exact (rfl : (0 : Int) = ((0 : Nat) : Int)) | exact (rfl : (1 : Int) = ((1 : Nat) : Int)) | exact (rfl : (2 : Int) = ((2 : Nat) : Int)) | exact (rfl : (3 : Int) = ((3 : Nat) : Int)) | assumption); (first | omega | exact lt_of_get ‹_› | (rw [List.length_map]; omega) | (simp; omega))) | (apply RunK.loadNS; exact rfl; exact rfl; assumption; exact rfl) | (apply RunK.lenNs; exact rfl; exact rfl) | (apply RunK.moveNs; exact rfl; exact rfl) | (apply RunK.assignNs; exact rfl; exact rfl)
    | (apply Wt.regionK; exact rfl)
    | refine Wt.block ?_
    | refine RunK.nil ?_
    | (apply RunK.assignV; exact rfl; exact rfl))
            refine Wt.thaw 15 15 rfl rfl rfl ?_
            refine Wt.loop (fun i : Nat × List Int => ⟨[(15, .bsl 15 0 1 B.length), (20, .s (.v (.int .i64 i.1))), (0, .s (.sl none .no 1 (hd1 H))), (1, .s (ints rank)), (2, .s (ints l)), (7, .s (.v (.int .i64 k))), (2000000, .hds none 1 m), (2999999, .old W (keptOf [.hds none 1 m]))], [(15, (i.2.map ival).flatten)]⟩) (fun i => i.1 ≤ B.length ∧ i.2.length = B.length) (fun i => B.length - i.1) (0, B) ⟨Nat.zero_le _, rfl⟩ ?_ ?_
            · (refine Le.mk ?_ ?_; (repeat' (first | exact LeEnv.done | (refine LeEnv.consN ?_ ?_; exact rfl) | refine LeEnv.cons ?_ ?_ | exact PVLe.refl _ | exact PVLe.s (SVLe.nil _ _ _) | exact PVLe.s (SVLe.no _ _ _ _) | (refine PVLe.int ?_; first | rfl | omega | (simp; done) | (simp; omega)) | (refine PVLe.els ?_; first | rfl | assumption | (simp; done)) | (refine PVLe.bool ?_; first | rfl | assumption) | (refine PVLe.hdE ?_; first | rfl | assumption) | (refine PVLe.bsl ?_; first | rfl | assumption | (simp; done) | (simp; omega)))); (repeat' (first | exact LeBox.done | (refine LeBox.consN ?_ ?_; exact rfl) | (refine LeBox.cons ?_ ?_; exact rfl) | (refine LeBox.consE rfl ?_ ?_; first | assumption | (refine congrArg List.flatten ?_; first | rfl | assumption | (symm; assumption))))))
            · rintro ⟨i, L2⟩ ⟨hi, hL2⟩
              dsimp only at hi hL2 ⊢
              by_cases hit : i < B.length
              · obtain ⟨y, hy⟩ := exists_at (l := L2) (k := i) (by omega)
                have hy2 := get_map (f := ival) hy
                have hset : (L2.map ival).set i [.int .i64 (-7)] = (L2.set i (-7)).map ival := by rw [List.map_set]; rfl
                repeat' (first
    | (apply RunK.indexN; exact rfl; exact rfl; exact rfl; (first | exact rfl | exact (rfl : (0 : Int) = ((0 : Nat) : Int)) | exact (rfl : (1 : Int) = ((1 : Nat) : Int)) | exact (rfl : (2 : Int) = ((2 : Nat) : Int)) | exact (rfl : (3 : Int) = ((3 : Nat) : Int)) | assumption); (first | omega | exact lt_of_get ‹_› | (rw [List.length_map]; omega) | (simp; omega))) | (apply RunK.loadNS; exact rfl; exact rfl; assumption; exact rfl) | (apply RunK.lenNs; exact rfl; exact rfl) | (apply RunK.moveNs; exact rfl; exact rfl) | (apply RunK.assignNs; exact rfl; exact rfl)
    | refine Wt.seq ?_
    | (apply Wt.regionK; exact rfl)
    | refine Wt.block ?_
    | refine Wt.skip ?_
    | refine RunK.nil ?_
    | (apply RunK.moveV; exact rfl; exact rfl)
    | (apply RunK.assignV; exact rfl; exact rfl)
    | (apply RunK.moveBs; exact rfl; exact rfl)
    | (apply RunK.indexS; exact rfl; exact rfl; exact rfl; (first | exact rfl | exact (rfl : (0 : Int) = ((0 : Nat) : Int)) | exact (rfl : (1 : Int) = ((1 : Nat) : Int)) | exact (rfl : (2 : Int) = ((2 : Nat) : Int)) | exact (rfl : (3 : Int) = ((3 : Nat) : Int)) | assumption); (first | omega | exact lt_of_get ‹_› | (rw [List.length_map]; omega) | (simp; omega)))
    | (apply RunK.lenS; exact rfl; exact rfl)
    | (apply RunK.lss; exact rfl; exact rfl; exact rfl)
    | (apply RunK.add; exact rfl; exact rfl; exact rfl; (first | omega | (simp only [List.length_map]; omega)))
    | (apply RunK.storeF; exact rfl; exact rfl; exact rfl; exact rfl; (first | exact off0 _ _ | exact off1 _ _ _ | exact off2 _ _ _ _ | exact off3 _ _ _ _ _ | omega); (first | assumption | exact map_len (fun _ => rfl)); assumption; exact rfl; exact rfl; exact rfl; (first | exact Cells.agg _ | exact Cells.int _ _ | exact Cells.bool _ | exact Cells.one _ rfl); (repeat (first | exact Upd.nil _ | apply Upd.cons | apply Upd.skip)))
    | (apply Wt.cond; exact rfl; all_goals (intro hg; (first | exact absurd hg (by decide) | skip); (first | (with_reducible replace hg := not_t hg) | (with_reducible replace hg := not_f hg) | skip); (first | (with_reducible replace hg := dec_t hg) | (with_reducible replace hg := dec_f hg) | skip); (first | (with_reducible exact absurd rfl hg) | skip); (repeat rw [List.length_map] at hg); try (exfalso; omega))))
                refine ⟨(i + 1, L2.set i (-7)), ⟨hit, (List.length_set ..).trans hL2⟩, by dsimp only; omega, ?_⟩
                dsimp only
                rw [← hset]
                (refine Le.mk ?_ ?_; (repeat' (first | exact LeEnv.done | (refine LeEnv.consN ?_ ?_; exact rfl) | refine LeEnv.cons ?_ ?_ | exact PVLe.refl _ | exact PVLe.s (SVLe.nil _ _ _) | exact PVLe.s (SVLe.no _ _ _ _) | (refine PVLe.int ?_; first | rfl | omega | (simp; done) | (simp; omega)) | (refine PVLe.els ?_; first | rfl | assumption | (simp; done)) | (refine PVLe.bool ?_; first | rfl | assumption) | (refine PVLe.hdE ?_; first | rfl | assumption) | (refine PVLe.bsl ?_; first | rfl | assumption | (simp; done) | (simp; omega)))); (repeat' (first | exact LeBox.done | (refine LeBox.consN ?_ ?_; exact rfl) | (refine LeBox.cons ?_ ?_; exact rfl) | (refine LeBox.consE rfl ?_ ?_; first | assumption | (refine congrArg List.flatten ?_; first | rfl | assumption | (symm; assumption))))))
              · repeat' (first
    | (apply RunK.indexN; exact rfl; exact rfl; exact rfl; (first | exact rfl | exact (rfl : (0 : Int) = ((0 : Nat) : Int)) | exact (rfl : (1 : Int) = ((1 : Nat) : Int)) | exact (rfl : (2 : Int) = ((2 : Nat) : Int)) | exact (rfl : (3 : Int) = ((3 : Nat) : Int)) | assumption); (first | omega | exact lt_of_get ‹_› | (rw [List.length_map]; omega) | (simp; omega))) | (apply RunK.loadNS; exact rfl; exact rfl; assumption; exact rfl) | (apply RunK.lenNs; exact rfl; exact rfl) | (apply RunK.moveNs; exact rfl; exact rfl) | (apply RunK.assignNs; exact rfl; exact rfl)
    | refine Wt.seq ?_
    | (apply Wt.regionK; exact rfl)
    | refine Wt.exit ?_
    | refine RunK.nil ?_
    | (apply RunK.moveV; exact rfl; exact rfl)
    | (apply RunK.assignV; exact rfl; exact rfl)
    | (apply RunK.moveBs; exact rfl; exact rfl)
    | (apply RunK.lenS; exact rfl; exact rfl)
    | (apply RunK.lss; exact rfl; exact rfl; exact rfl)
    | (apply RunK.add; exact rfl; exact rfl; exact rfl; (first | omega | (simp only [List.length_map]; omega)))
    | (apply Wt.cond; exact rfl; all_goals (intro hg; (first | exact absurd hg (by decide) | skip); (first | (with_reducible replace hg := not_t hg) | (with_reducible replace hg := not_f hg) | skip); (first | (with_reducible replace hg := dec_t hg) | (with_reducible replace hg := dec_f hg) | skip); (first | (with_reducible exact absurd rfl hg) | skip); (repeat rw [List.length_map] at hg); try (exfalso; omega))))
                exact ⟨k + 1, hlt, by omega, by (refine Le.mk ?_ ?_; (repeat' (first | exact LeEnv.done | (refine LeEnv.consN ?_ ?_; exact rfl) | refine LeEnv.cons ?_ ?_ | exact PVLe.refl _ | exact PVLe.s (SVLe.nil _ _ _) | exact PVLe.s (SVLe.no _ _ _ _) | (refine PVLe.int ?_; first | rfl | omega | (simp; done) | (simp; omega)) | (refine PVLe.els ?_; first | rfl | assumption | (simp; done)) | (refine PVLe.bool ?_; first | rfl | assumption) | (refine PVLe.hdE ?_; first | rfl | assumption) | (refine PVLe.bsl ?_; first | rfl | assumption | (simp; done) | (simp; omega)))); (repeat' (first | exact LeBox.done | (refine LeBox.consN ?_ ?_; exact rfl) | (refine LeBox.cons ?_ ?_; exact rfl) | (refine LeBox.consE rfl ?_ ?_; first | assumption | (refine congrArg List.flatten ?_; first | rfl | assumption | (symm; assumption))))))⟩
    · repeat' (first
    | (exfalso; omega) | (apply RunK.indexN; exact rfl; exact rfl; exact rfl; (first | exact rfl | exact (rfl : (0 : Int) = ((0 : Nat) : Int)) | exact (rfl : (1 : Int) = ((1 : Nat) : Int)) | exact (rfl : (2 : Int) = ((2 : Nat) : Int)) | exact (rfl : (3 : Int) = ((3 : Nat) : Int)) | assumption); (first | omega | exact lt_of_get ‹_› | (rw [List.length_map]; omega) | (simp; omega))) | (apply RunK.loadNS; exact rfl; exact rfl; assumption; exact rfl) | (apply RunK.lenNs; exact rfl; exact rfl) | (apply RunK.moveNs; exact rfl; exact rfl) | (apply RunK.assignNs; exact rfl; exact rfl) | (apply RunK.callS; exact rfl; exact rfl; exact haw; (repeat (first | exact ArgsLe.nil | refine ArgsLe.cons ?_ ?_ | exact ArgLe.v _ | exact ArgLe.sl _ _ _ _ | exact ArgLe.nil _ | exact ArgLe.nil' | exact ArgLe.nsl _ _ _ _ _ | exact ArgLe.nsn _ | (apply ArgLe.bsl; exact rfl; (first | exact rfl | (rw [List.length_map]; done) | (simp only [List.length_map]; done) | (simp; done) | (simp; omega)); (first | assumption | exact map_len (fun _ => rfl))))); exact rfl)
    | refine Wt.seq ?_
    | (apply Wt.regionK; exact rfl)
    | refine Wt.ret ?_
    | refine Wt.exit ?_
    | refine RunK.nil ?_
    | (apply RunK.moveV; exact rfl; exact rfl)
    | (apply RunK.assignV; exact rfl; exact rfl)
    | (apply RunK.lss; exact rfl; exact rfl; exact rfl)
    | (apply Wt.cond; exact rfl; all_goals (intro hg; (first | exact absurd hg (by decide) | skip); (first | (with_reducible replace hg := not_t hg) | (with_reducible replace hg := not_f hg) | skip); (first | (with_reducible replace hg := dec_t hg) | (with_reducible replace hg := dec_f hg) | skip); (first | (with_reducible exact absurd rfl hg) | skip); (repeat rw [List.length_map] at hg); try (exfalso; omega))))
      all_goals exact ActEnd.mk (.s (.v (.bool true))) [] rfl (by apply ResOk.v1; exact rfl; exact rfl) rfl rfl .nil (.hds .nil)
set_option maxRecDepth 100000 in
theorem matchRow {H : List Value} {m : List (Value × List (List Value))} {g : List (List Int)} (hr : RawG H m g) (rank : List Int) (hb : rank.length * 8 ≤ 140737488351232) (_ok : ∀ y ∈ rank, i64 y) (l : List Int) (hb2 : l.length * 8 ≤ 140737488351232) (_ok2 : ∀ y ∈ l, i64 y) : Acts Try.prog 11 [.sl none .no 1 (hd1 H), ints rank, ints l] [.hds none 1 m] [] (fun r _ => r = .s (.v (.bool true))) := ordMatchG hr rank (by omega) l (by omega)
end Go.Proofs.Ytfokjpmcifkoeaa
