/- The law OrderMore, walked. No condition. -/
import Derived.Test.YtfokjpmcifkoeaaOP
import Derived.Test.YtfokjpmcifkoeaaPlain
namespace Go.Proofs.Ytfokjpmcifkoeaa
open Pv Go.RowKit Scc
def kpRow (d : Nat) (N : G) (i k x : Nat) : List (List Value) := (intR (kpP d N i k x)).map ival
set_option maxRecDepth 100000 in
theorem u8_shrI {d n : Nat} (h : n < 8) : (d : Int).fdiv (2 ^ (min ((n : Int)).toNat IntKind.u8.bits)) = ((d / 2 ^ n : Nat) : Int) := by
  have e : min ((n : Int)).toNat IntKind.u8.bits = n := by rw [Int.toNat_natCast]; show min n 8 = n; omega
  rw [e, Int.fdiv_eq_ediv_of_nonneg _ (by exact_mod_cast Nat.zero_le (2 ^ n))]
  norm_cast
set_option maxHeartbeats 8000000 in
set_option maxRecDepth 100000 in
theorem moreG {H : List Value} {m : List (Value × List (List Value))} {g : List (List Int)} (hr : RawG H m g) (rank : List Int) (hrk : rank.length < 1000000000000000) (d : Nat) (_hd : d < 256) : Acts Try.prog 4 [.sl none .no 1 (hd1 H), ints rank, .v (.int .u8 (d : Int))] [.hds none 1 m] [] (fun r _ => r = .s (.v (.bool true))) := by
  have hm2 : Try.prog.follows .mixedOrders = true := by kernel_rfl
  obtain ⟨N, hN, hlo, hn, hr30, h1⟩ := downG hr rank hrk
  clear hr
  have ha := acyc_of hN hlo
  have hrow : ∀ j, (N.getD j []).length ≤ 30 := fun j => by
    rw [List.getD_eq_getElem?_getD]
    cases hx : N[j]? with
    | none => exact Nat.zero_le _
    | some r => exact hr30 r (List.mem_of_getElem? hx)
  have hD := drop_ok hN d
  have hDl := drop_len d N
  have haD := sub_acyc hN hD drop_edge ha
  have c1 := ordTopo N hN (by omega) (fun r h => by have := hr30 r h; omega) hlo
  have c2 := ordLevels N hN (by omega) (fun r h => by have := hr30 r h; omega) hlo
  have c3 := ordLevels (dropN d N) hD (by omega) (fun r h => by have := drop_rows (d := d) hrow r h; omega) (acyc_loops haD)
  have c4 := ordCheck (dropN d N) hD (by omega) (fun r h => by have := drop_rows (d := d) hrow r h; omega) (intR (topo N)) (by rw [intR, List.length_map, topo_len hN hlo]; omega)
  rw [if_pos ⟨by rw [intR, List.length_map, topo_len hN hlo, hDl], chk_of (sub_stp hDl drop_edge (topo_stp hN ha))⟩] at c4
  have hle := sub_levels hN hD hDl drop_edge ha
  have hLl : (levels N).length = N.length := levels_len N
  have hMl : (levels (dropN d N)).length = N.length := (levels_len _).trans hDl
  have hLi : (intR (levels N)).length = N.length := by rw [intR, List.length_map]; exact hLl
  have hMi : (intR (levels (dropN d N))).length = N.length := by rw [intR, List.length_map]; exact hMl
  have hgl : (gE (intG N)).length = N.length := by simp [gE, intG]
  have haw := ordAwake
  have hcnt := cntE_le hrow
  clear haD
  refine acts_of_wt Try.func4 rfl (by decide) _ Try.ntmps4 rfl Try.results4 rfl (by simp [ownOf]) fun w0 W => ?_
  repeat' (first
    | (refine stopQ 4 ?_) | (apply RunK.indexN; exact rfl; exact rfl; exact rfl; (first | exact rfl | exact (rfl : (0 : Int) = ((0 : Nat) : Int)) | exact (rfl : (1 : Int) = ((1 : Nat) : Int)) | exact (rfl : (2 : Int) = ((2 : Nat) : Int)) | exact (rfl : (3 : Int) = ((3 : Nat) : Int)) | assumption); (first | omega | exact lt_of_get ‹_› | (rw [List.length_map]; omega) | (simp; omega))) | (apply RunK.loadNS; exact rfl; exact rfl; assumption; exact rfl) | (apply RunK.lenNs; exact rfl; exact rfl) | (apply RunK.moveNs; exact rfl; exact rfl) | (apply RunK.assignNs; exact rfl; exact rfl) | (apply RunK.actR _ h1 (fun _ _ h => h); (case hn => exact rfl); (case hw => exact rfl); (case he => exact rfl); (case hx => exact rfl); (case ha => (repeat (first | exact ArgsLe.nil | refine ArgsLe.cons ?_ ?_ | exact ArgLe.v _ | exact ArgLe.sl _ _ _ _ | exact ArgLe.nil _ | exact ArgLe.nil' | exact ArgLe.nsl _ _ _ _ _ | exact ArgLe.nsn _ | (apply ArgLe.bsl; exact rfl; (first | exact rfl | (rw [List.length_map]; done) | (simp only [List.length_map]; done) | (simp; done) | (simp; omega)); (first | assumption | exact map_len (fun _ => rfl)))))); (case hgs => exact rfl); (case hf => exact .hds 2000000 rfl rfl .nil)) | (apply RunK.callT; exact rfl; exact rfl; exact c1; (repeat (first | exact ArgsLe.nil | refine ArgsLe.cons ?_ ?_ | exact ArgLe.v _ | exact ArgLe.sl _ _ _ _ | exact ArgLe.nil _ | exact ArgLe.nil' | exact ArgLe.nsl _ _ _ _ _ | exact ArgLe.nsn _ | (apply ArgLe.bsl; exact rfl; (first | exact rfl | (rw [List.length_map]; done) | (simp only [List.length_map]; done) | (simp; done) | (simp; omega)); (first | assumption | exact map_len (fun _ => rfl))))); exact rfl) | (apply RunK.callT; exact rfl; exact rfl; exact c2; (repeat (first | exact ArgsLe.nil | refine ArgsLe.cons ?_ ?_ | exact ArgLe.v _ | exact ArgLe.sl _ _ _ _ | exact ArgLe.nil _ | exact ArgLe.nil' | exact ArgLe.nsl _ _ _ _ _ | exact ArgLe.nsn _ | (apply ArgLe.bsl; exact rfl; (first | exact rfl | (rw [List.length_map]; done) | (simp only [List.length_map]; done) | (simp; done) | (simp; omega)); (first | assumption | exact map_len (fun _ => rfl))))); exact rfl)
    | refine Wt.seq ?_
    | (apply Wt.regionK; exact rfl)
    | refine RunK.nil ?_
    | (apply RunK.assignV; exact rfl; exact rfl)
    | (apply RunK.moveS; exact rfl; exact rfl)
    | (apply RunK.moveT; exact rfl; exact rfl)
    | (apply RunK.assignS; exact rfl; exact rfl)
    | (apply RunK.extract; exact rfl; exact rfl; exact rfl))
  refine StoppedQ.mk' ?_
  refine Wt.le ⟨[(7, .s (.nsl (some 20) [some 20] true 1 (gE (intG N)))), (9, .s (.v (.int .i64 0))), (11, .s (.v (.int .i64 0))), (2, .s (.v (.int .u8 (d : Int)))), (8, .s (.sl (some 23) .no 1 ((intR (topo N)).map ival))), (10, .s (.sl (some 28) .no 1 ((intR (levels N)).map ival))), (2999999, .old W (keptOf [.hds none 1 m]))], []⟩ (by (refine Le.mk ?_ ?_; (repeat' (first | exact LeEnv.done | refine LeEnv.cons ?_ ?_ | exact PVLe.refl _ | exact PVLe.s (SVLe.nil _ _ _) | exact PVLe.s (SVLe.no _ _ _ _) | (refine PVLe.int ?_; first | rfl | omega | (simp; done) | (simp; omega)) | (refine PVLe.els ?_; first | rfl | assumption | (simp; done)) | (refine PVLe.bool ?_; first | rfl | assumption) | (refine PVLe.bsl ?_; first | rfl | assumption | (simp; done))));  (repeat' (first | exact LeBox.done | refine LeBox.cons ?_ ?_ | exact rfl)))) ?_
  clear h1 c1 c2
  repeat' (first
    | (exfalso; omega) | (refine stopQ 8 ?_) | (apply RunK.indexN; exact rfl; exact rfl; exact rfl; (first | exact rfl | exact (rfl : (0 : Int) = ((0 : Nat) : Int)) | exact (rfl : (1 : Int) = ((1 : Nat) : Int)) | exact (rfl : (2 : Int) = ((2 : Nat) : Int)) | exact (rfl : (3 : Int) = ((3 : Nat) : Int)) | assumption); (first | omega | exact lt_of_get ‹_› | (rw [List.length_map]; omega) | (simp; omega))) | (apply RunK.loadNS; exact rfl; exact rfl; assumption; exact rfl) | (apply RunK.lenNs; exact rfl; exact rfl) | (apply RunK.moveNs; exact rfl; exact rfl) | (apply RunK.assignNs; exact rfl; exact rfl) | (apply RunK.makeSlE (n := N.length); exact rfl; exact rfl; exact rfl; exact (by simp); exact (by simp); exact (by omega); exact rfl)
    | refine Wt.seq ?_
    | (apply Wt.regionK; exact rfl)
    | refine Wt.skip ?_
    | refine RunK.nil ?_
    | (apply RunK.moveV; exact rfl; exact rfl)
    | (apply RunK.assignV; exact rfl; exact rfl)
    | (apply RunK.moveS; exact rfl; exact rfl)
    | (apply RunK.assignS; exact rfl; exact rfl)
    | (apply RunK.pickF; exact rfl; exact rfl; exact rfl)
    | (apply RunK.neq; exact rfl; exact rfl; exact rfl)
    | (apply RunK.len; exact rfl; exact rfl)
    | (apply Wt.cond; exact rfl; all_goals (intro hg; (first | exact absurd hg (by decide) | skip); (first | (with_reducible replace hg := not_t hg) | (with_reducible replace hg := not_f hg) | skip); (first | (with_reducible replace hg := dec_t hg) | (with_reducible replace hg := dec_f hg) | skip); (first | (with_reducible exact absurd rfl hg) | skip); (repeat rw [List.length_map] at hg); try (exfalso; omega))))
  all_goals try (exfalso; omega)
  refine StoppedQ.mk' ?_
  rw [nilsD]
  refine Wt.weakS (Turns.thawN 7 3000001 4 (τ := 20) rfl (gE_L (intG N)) rfl) ?_
  rintro s1 ⟨rowsL, hL, _, rfl⟩
  refine Wt.le ⟨[(7, .s (.sl (some 20) .no 1 (hds rowsL))), (12, .s (.sl (some 46) (.front 23) 1 (hds (List.replicate N.length NRow.nl)))), (13, .s (.v (.int .i64 0))), (3000001, .nest 4 1 rowsL), (2, .s (.v (.int .u8 (d : Int)))), (8, .s (.sl (some 23) .no 1 ((intR (topo N)).map ival))), (10, .s (.sl (some 28) .no 1 ((intR (levels N)).map ival))), (2999999, .old W (keptOf [.hds none 1 m]))], []⟩ (by (refine Le.mk ?_ ?_; (repeat' (first | exact LeEnv.done | refine LeEnv.cons ?_ ?_ | exact PVLe.refl _ | exact PVLe.s (SVLe.nil _ _ _) | exact PVLe.s (SVLe.no _ _ _ _) | (refine PVLe.int ?_; first | rfl | omega | (simp; done) | (simp; omega)) | (refine PVLe.els ?_; first | rfl | assumption | (simp; done)) | (refine PVLe.bool ?_; first | rfl | assumption) | (refine PVLe.bsl ?_; first | rfl | assumption | (simp; done))));  (repeat' (first | exact LeBox.done | refine LeBox.cons ?_ ?_ | exact rfl)))) ?_
  have hrl : (List.replicate N.length NRow.nl).length = N.length := List.length_replicate
  have hG : (List.replicate N.length NRow.nl).map (·.els) = (List.range N.length).map (kpRow d N 0 0) := nils_elsD _ _ fun x => by unfold kpRow; rw [kpP_zero]; rfl
  refine Wt.weak (Turns.nestNils 3000000 3 1 0) ?_
  refine Wt.weakS (Turns.pushN 7 3000000 rfl rfl rfl rfl) ?_
  rintro s1 ⟨sp, hsp, _, rfl⟩
  refine Wt.weak (Turns.nestNils 2000001 5 1 0) ?_
  refine Wt.weakS (Turns.pushN 12 2000001 rfl rfl rfl rfl) ?_
  rintro s1 ⟨⟨A8, c8, e8⟩, hs8, _, rfl⟩
  dsimp only at hs8
  subst hs8
  refine Wt.weak (Turns.nestNils 2000002 6 1 N.length) ?_
  obtain ⟨H8, hH8⟩ : ∃ H8, ∀ rb : List NRow, rb.length = N.length → (NRow.mk A8 c8 (hds rb)).hdr = H8 := ⟨(NRow.mk A8 c8 (hds (List.replicate N.length NRow.nl))).hdr, fun rb h => by unfold NRow.hdr; rw [hdsD_len, hdsD_len, h, hrl]⟩
  rw [hH8 _ hrl]
  refine Wt.le ⟨[(7, .s (.v sp.hdr)), (12, .s (.v H8)), (13, .s (.v (.int .i64 0))), (3000000, .nest 3 1 [sp]), (3000001, .nest 4 1 rowsL), (2000001, .nest 5 1 [⟨A8, c8, hds (List.replicate N.length NRow.nl)⟩]), (2000002, .nest 6 1 (List.replicate N.length NRow.nl)), (2, .s (.v (.int .u8 (d : Int)))), (8, .s (.sl (some 23) .no 1 ((intR (topo N)).map ival))), (10, .s (.sl (some 28) .no 1 ((intR (levels N)).map ival))), (2999999, .old W (keptOf [.hds none 1 m]))], []⟩ (by (refine Le.mk ?_ ?_; (repeat' (first | exact LeEnv.done | refine LeEnv.cons ?_ ?_ | exact PVLe.refl _ | exact PVLe.s (SVLe.nil _ _ _) | exact PVLe.s (SVLe.no _ _ _ _) | (refine PVLe.int ?_; first | rfl | omega | (simp; done) | (simp; omega)) | (refine PVLe.els ?_; first | rfl | assumption | (simp; done)) | (refine PVLe.bool ?_; first | rfl | assumption) | (refine PVLe.bsl ?_; first | rfl | assumption | (simp; done))));  (repeat' (first | exact LeBox.done | refine LeBox.cons ?_ ?_ | exact rfl)))) ?_
  have hspl : sp.els.length = N.length := by rw [hsp, hdsD_len]; have := congrArg List.length hL; simpa [intG] using this
  have hspm : sp ∈ [sp] := List.mem_singleton.2 rfl
  repeat' (first
    | (apply RunK.indexN; exact rfl; exact rfl; exact rfl; (first | exact rfl | exact (rfl : (0 : Int) = ((0 : Nat) : Int)) | exact (rfl : (1 : Int) = ((1 : Nat) : Int)) | exact (rfl : (2 : Int) = ((2 : Nat) : Int)) | exact (rfl : (3 : Int) = ((3 : Nat) : Int)) | assumption); (first | omega | exact lt_of_get ‹_› | (rw [List.length_map]; omega) | (simp; omega))) | (apply RunK.loadNS; exact rfl; exact rfl; assumption; exact rfl) | (apply RunK.lenNs; exact rfl; exact rfl) | (apply RunK.moveNs; exact rfl; exact rfl) | (apply RunK.assignNs; exact rfl; exact rfl)
    | (apply Wt.regionK; exact rfl)
    | refine Wt.block ?_
    | refine RunK.nil ?_
    | (apply RunK.assignV; exact rfl; exact rfl))
  refine Wt.loop (fun i : Nat × List NRow => ⟨[(7, .s (.v sp.hdr)), (12, .s (.v H8)), (13, .s (.v (.int .i64 (cntE N i.1 : Nat)))), (14, .s (.v (.int .i64 i.1))), (3000000, .nest 3 1 [sp]), (3000001, .nest 4 1 rowsL), (2000001, .nest 5 1 [⟨A8, c8, hds i.2⟩]), (2000002, .nest 6 1 i.2), (2, .s (.v (.int .u8 (d : Int)))), (8, .s (.sl (some 23) .no 1 ((intR (topo N)).map ival))), (10, .s (.sl (some 28) .no 1 ((intR (levels N)).map ival))), (2999999, .old W (keptOf [.hds none 1 m]))], []⟩) (fun i => i.1 ≤ N.length ∧ i.2.map (·.els) = (List.range N.length).map (kpRow d N i.1 0)) (fun i => N.length - i.1) (0, List.replicate N.length NRow.nl) ⟨Nat.zero_le _, hG⟩ ?_ ?_
  · (refine Le.mk ?_ ?_; (repeat' (first | exact LeEnv.done | refine LeEnv.cons ?_ ?_ | exact PVLe.refl _ | exact PVLe.s (SVLe.nil _ _ _) | exact PVLe.s (SVLe.no _ _ _ _) | (refine PVLe.int ?_; first | rfl | omega | (simp; done) | (simp; omega)) | (refine PVLe.els ?_; first | rfl | assumption | (simp; done)) | (refine PVLe.bool ?_; first | rfl | assumption) | (refine PVLe.bsl ?_; first | rfl | assumption | (simp; done))));  (repeat' (first | exact LeBox.done | refine LeBox.cons ?_ ?_ | exact rfl)))
  · clear hG
    rintro ⟨i, rb⟩ ⟨hi, hG⟩
    dsimp only at hi hG ⊢
    by_cases hlt : i < N.length
    ·
      --<
      obtain ⟨r, hri⟩ := exists_at hlt
      have hgd := getD_of hri (d := [])
      obtain ⟨q, hq, hqm, hqe, hqh⟩ := els_at hL (intG_at hri)
      have hspi : sp.els[i]? = some [q.hdr] := by rw [hsp]; exact hqh
      have hql : q.els.length = r.length := by rw [hqe]; simp [intR]
      have hr30 := hr30 r (List.mem_of_getElem? hri)
      have hci := hcnt i
      refine Wt.weakS (rowSomeD 2000001 rfl) ?_
      rintro s1 ⟨rfl, hA8⟩
      obtain ⟨⟨pb, ob⟩, hA8⟩ := hA8 _ (List.mem_singleton.2 rfl) (fun h => by have h : hds rb = [] := h; have := congrArg List.length h; rw [hdsD_len, rowsD_len hG] at this; rw [this] at hlt; exact absurd hlt (Nat.not_lt_zero _))
      dsimp only at hA8
      subst hA8
      have e8 : ∀ rb : List NRow, rb.length = N.length → (NRow.mk (some (pb, ob)) c8 (hds rb)).hdr = Value.slice (some ⟨pb, ob, none⟩) N.length c8 := fun rb h => by unfold NRow.hdr; rw [hdsD_len, h]; rfl
      obtain rfl : H8 = Value.slice (some ⟨pb, ob, none⟩) N.length c8 := by rw [← hH8 rb (rowsD_len hG), e8 rb (rowsD_len hG)]
      clear hH8
      repeat' (first
    | (apply RunK.indexN; exact rfl; exact rfl; exact rfl; (first | exact rfl | exact (rfl : (0 : Int) = ((0 : Nat) : Int)) | exact (rfl : (1 : Int) = ((1 : Nat) : Int)) | exact (rfl : (2 : Int) = ((2 : Nat) : Int)) | exact (rfl : (3 : Int) = ((3 : Nat) : Int)) | assumption); (first | omega | exact lt_of_get ‹_› | (rw [List.length_map]; omega) | (simp; omega))) | (apply RunK.loadNS; exact rfl; exact rfl; assumption; exact rfl) | (apply RunK.lenNs; exact rfl; exact rfl) | (apply RunK.moveNs; exact rfl; exact rfl) | (apply RunK.assignNs; exact rfl; exact rfl) | (apply RunK.lenK; exact rfl; exact rfl)
    | refine Wt.seq ?_
    | (apply Wt.regionK; exact rfl)
    | refine Wt.block ?_
    | refine Wt.skip ?_
    | refine RunK.nil ?_
    | (apply RunK.moveV; exact rfl; exact rfl)
    | (apply RunK.assignV; exact rfl; exact rfl)
    | (apply RunK.lss; exact rfl; exact rfl; exact rfl)
    | (apply Wt.cond; exact rfl; all_goals (intro hg; (first | exact absurd hg (by decide) | skip); (first | (with_reducible replace hg := not_t hg) | (with_reducible replace hg := not_f hg) | skip); (first | (with_reducible replace hg := dec_t hg) | (with_reducible replace hg := dec_f hg) | skip); (first | (with_reducible exact absurd rfl hg) | skip); (repeat rw [List.length_map] at hg); try (exfalso; omega))))
      refine Wt.loop (fun k : Nat × List NRow => ⟨[(7, .s (.v sp.hdr)), (12, .s (.v (.slice (some ⟨pb, ob, none⟩) N.length c8))), (13, .s (.v (.int .i64 (cntE N i + k.1 : Nat)))), (14, .s (.v (.int .i64 i))), (15, .s (.v (.int .i64 k.1))), (3000000, .nest 3 1 [sp]), (3000001, .nest 4 1 rowsL), (2000001, .nest 5 1 [⟨some (pb, ob), c8, hds k.2⟩]), (2000002, .nest 6 1 k.2), (2, .s (.v (.int .u8 (d : Int)))), (8, .s (.sl (some 23) .no 1 ((intR (topo N)).map ival))), (10, .s (.sl (some 28) .no 1 ((intR (levels N)).map ival))), (2999999, .old W (keptOf [.hds none 1 m]))], []⟩) (fun k => k.1 ≤ r.length ∧ k.2.map (·.els) = (List.range N.length).map (kpRow d N i k.1)) (fun k => r.length - k.1) (0, rb) ⟨Nat.zero_le _, hG⟩ ?_ ?_
      · (refine Le.mk ?_ ?_; (repeat' (first | exact LeEnv.done | refine LeEnv.cons ?_ ?_ | exact PVLe.refl _ | exact PVLe.s (SVLe.nil _ _ _) | exact PVLe.s (SVLe.no _ _ _ _) | (refine PVLe.int ?_; first | rfl | omega | (simp; done) | (simp; omega)) | (refine PVLe.els ?_; first | rfl | assumption | (simp; done)) | (refine PVLe.bool ?_; first | rfl | assumption) | (refine PVLe.bsl ?_; first | rfl | assumption | (simp; done))));  (repeat' (first | exact LeBox.done | refine LeBox.cons ?_ ?_ | exact rfl)))
      · clear hA8 hG rb
        rintro ⟨k, rb⟩ ⟨hk, hG⟩
        dsimp only at hk hG ⊢
        by_cases hkt : k < r.length
        · obtain ⟨x, hxk⟩ := exists_at hkt
          have hqk : q.els[k]? = some [.int .i64 (x : Int)] := by rw [hqe]; exact int_get hxk
          obtain ⟨qo, hoa, hom, hoe, hoh⟩ := rowsD_at hG hlt
          have hol : qo.els.length ≤ 30 := by
            rw [hoe]; unfold kpRow; rw [List.length_map, intR, List.length_map]; exact kpP_len hrow i k i
          have hi24 : i * 30 ≤ 24 * 30 := Nat.mul_le_mul_right _ (by omega)
          have b1 : ∀ t o o2, BinRun Try.prog .rem t o o2 (.int .i64 ((cntE N i + k : Nat) : Int)) (.int .i64 7) (.int .i64 (((cntE N i + k) % 7 : Nat) : Int)) := fun t o o2 => BinRun.rem (P := Try.prog) (t := t) (x := o) (y := o2) (k := .i64) (a := ((cntE N i + k : Nat) : Int)) (b := 7) (by decide)
          have b2 : ∀ t o o2, BinRun Try.prog .shr t o o2 (.int .u8 (d : Int)) (.int .i64 (((cntE N i + k) % 7 : Nat) : Int)) (.int .u8 ((d / 2 ^ ((cntE N i + k) % 7) : Nat) : Int)) := fun t o o2 => by
            have := BinRun.shr (P := Try.prog) (t := t) (x := o) (y := o2) (k := .u8) (k' := .i64) (a := (d : Int)) (b := (((cntE N i + k) % 7 : Nat) : Int)) (Int.natCast_nonneg _)
            rwa [u8_shrI (by omega)] at this
          have b3 : ∀ t o o2, BinRun Try.prog .rem t o o2 (.int .u8 ((d / 2 ^ ((cntE N i + k) % 7) : Nat) : Int)) (.int .u8 2) (.int .u8 ((d / 2 ^ ((cntE N i + k) % 7) % 2 : Nat) : Int)) := fun t o o2 => BinRun.rem (P := Try.prog) (t := t) (x := o) (y := o2) (k := .u8) (a := ((d / 2 ^ ((cntE N i + k) % 7) : Nat) : Int)) (b := 2) (by decide)
          have hkb : kpB d (cntE N i + k) ↔ ((d / 2 ^ ((cntE N i + k) % 7) % 2 : Nat) : Int) = 0 := by unfold kpB; omega
          generalize ((d / 2 ^ ((cntE N i + k) % 7) % 2 : Nat) : Int) = z at *
          by_cases hpl : z = 0
          · repeat' (first
    | (exact absurd hpl hg) | (refine stopQ 15 ?_) | (apply RunK.bin; exact rfl; exact rfl; exact rfl; first | exact b1 _ _ _ | exact b2 _ _ _ | exact b3 _ _ _) | (apply RunK.indexN; exact rfl; exact rfl; exact rfl; (first | exact rfl | exact (rfl : (0 : Int) = ((0 : Nat) : Int)) | exact (rfl : (1 : Int) = ((1 : Nat) : Int)) | exact (rfl : (2 : Int) = ((2 : Nat) : Int)) | exact (rfl : (3 : Int) = ((3 : Nat) : Int)) | assumption); (first | omega | exact lt_of_get ‹_› | (rw [List.length_map]; omega) | (simp; omega))) | (apply RunK.loadNS; exact rfl; exact rfl; assumption; exact rfl) | (apply RunK.lenNs; exact rfl; exact rfl) | (apply RunK.moveNs; exact rfl; exact rfl) | (apply RunK.assignNs; exact rfl; exact rfl) | (apply RunK.lenK; exact rfl; exact rfl) | (apply RunK.idxN 3000000; exact rfl; exact rfl; exact rfl; (first | exact rfl | exact (rfl : (0 : Int) = ((0 : Nat) : Int)) | exact (rfl : (1 : Int) = ((1 : Nat) : Int)) | exact (rfl : (2 : Int) = ((2 : Nat) : Int)) | exact (rfl : (3 : Int) = ((3 : Nat) : Int)) | assumption); exact rfl; exact rfl; assumption; assumption) | (apply RunK.idxN 3000001; exact rfl; exact rfl; exact rfl; (first | exact rfl | exact (rfl : (0 : Int) = ((0 : Nat) : Int)) | exact (rfl : (1 : Int) = ((1 : Nat) : Int)) | exact (rfl : (2 : Int) = ((2 : Nat) : Int)) | exact (rfl : (3 : Int) = ((3 : Nat) : Int)) | assumption); exact rfl; exact rfl; assumption; assumption) | (apply RunK.loadRN 3000000; exact rfl; exact rfl; exact rfl; exact rfl; assumption; assumption) | (apply RunK.loadRN 3000001; exact rfl; exact rfl; exact rfl; exact rfl; assumption; assumption)
    | refine Wt.seq ?_
    | (apply Wt.regionK; exact rfl)
    | refine Wt.block ?_
    | refine Wt.skip ?_
    | refine RunK.nil ?_
    | (apply RunK.moveV; exact rfl; exact rfl)
    | (apply RunK.lss; exact rfl; exact rfl; exact rfl)
    | (apply RunK.eql; exact rfl; exact rfl; exact rfl)
    | (apply Wt.cond; exact rfl; all_goals (intro hg; (first | exact absurd hg (by decide) | skip); (first | (with_reducible replace hg := not_t hg) | (with_reducible replace hg := not_f hg) | skip); (first | (with_reducible replace hg := dec_t hg) | (with_reducible replace hg := dec_f hg) | skip); (first | (with_reducible exact absurd rfl hg) | skip); (repeat rw [List.length_map] at hg); try (exfalso; omega))))
            refine StoppedQ.mk' ?_
            refine Wt.le ⟨[(7, .s (.v sp.hdr)), (12, .s (.v (.slice (some ⟨pb, ob, none⟩) N.length c8))), (13, .s (.v (.int .i64 (cntE N i + k : Nat)))), (14, .s (.v (.int .i64 i))), (15, .s (.v (.int .i64 k))), (3000000, .nest 3 1 [sp]), (3000001, .nest 4 1 rowsL), (2000001, .nest 5 1 [⟨some (pb, ob), c8, hds rb⟩]), (2000002, .nest 6 1 rb), (2, .s (.v (.int .u8 (d : Int)))), (8, .s (.sl (some 23) .no 1 ((intR (topo N)).map ival))), (10, .s (.sl (some 28) .no 1 ((intR (levels N)).map ival))), (2999999, .old W (keptOf [.hds none 1 m]))], []⟩ (by (refine Le.mk ?_ ?_; (repeat' (first | exact LeEnv.done | refine LeEnv.cons ?_ ?_ | exact PVLe.refl _ | exact PVLe.s (SVLe.nil _ _ _) | exact PVLe.s (SVLe.no _ _ _ _) | (refine PVLe.int ?_; first | rfl | omega | (simp; done) | (simp; omega)) | (refine PVLe.els ?_; first | rfl | assumption | (simp; done)) | (refine PVLe.bool ?_; first | rfl | assumption) | (refine PVLe.bsl ?_; first | rfl | assumption | (simp; done))));  (repeat' (first | exact LeBox.done | refine LeBox.cons ?_ ?_ | exact rfl)))) ?_
            refine Wt.regionS (i := 15) ⟨[(7, .s (.v sp.hdr)), (12, .s (.v (.slice (some ⟨pb, ob, none⟩) N.length c8))), (14, .s (.v (.int .i64 i))), (15, .s (.v (.int .i64 k))), (3000000, .nest 3 1 [sp]), (3000001, .nest 4 1 rowsL)], []⟩ [0, 1, 2, 3, 4, 6, 7, 8, 9, 10, 11, 12] [5, 13, 14, 15, 16] hm2 rfl (by decide +kernel) (by kernel_rfl) (CalmLe.of rfl fun p hp => (by simp only [List.mem_cons, List.not_mem_nil, or_false] at hp; rcases hp with rfl | rfl | rfl | rfl | rfl | rfl <;> exact ⟨by dsimp only; omega, rfl, rfl⟩)) fun K hK hN => ?_
            iterate 12 (apply CalmRun.cons; (case hi => exact rfl); (case hp => (apply PStep.of_run; exact rfl; exact rfl; exact rfl; exact rfl; exact rfl; (first | (first | (apply RunK.moveV; exact rfl; exact rfl) | (apply idxD; exact rfl; exact rfl; exact rfl; (first | exact rfl | exact (rfl : (0 : Int) = ((0 : Nat) : Int)) | exact (rfl : (1 : Int) = ((1 : Nat) : Int)) | exact (rfl : (2 : Int) = ((2 : Nat) : Int)) | exact (rfl : (3 : Int) = ((3 : Nat) : Int)) | assumption); assumption) | (apply RunK.idxN 3000000; exact rfl; exact rfl; exact rfl; (first | exact rfl | exact (rfl : (0 : Int) = ((0 : Nat) : Int)) | exact (rfl : (1 : Int) = ((1 : Nat) : Int)) | exact (rfl : (2 : Int) = ((2 : Nat) : Int)) | exact (rfl : (3 : Int) = ((3 : Nat) : Int)) | assumption); exact rfl; exact rfl; assumption; assumption) | (apply RunK.idxN 3000001; exact rfl; exact rfl; exact rfl; (first | exact rfl | exact (rfl : (0 : Int) = ((0 : Nat) : Int)) | exact (rfl : (1 : Int) = ((1 : Nat) : Int)) | exact (rfl : (2 : Int) = ((2 : Nat) : Int)) | exact (rfl : (3 : Int) = ((3 : Nat) : Int)) | assumption); exact rfl; exact rfl; assumption; assumption) | (apply RunK.loadRN 3000000; exact rfl; exact rfl; exact rfl; exact rfl; assumption; assumption) | (apply RunK.loadRN 3000001; exact rfl; exact rfl; exact rfl; exact rfl; assumption; assumption))); (refine RunK.nil ?_); exact rfl)); (case hb => kernel_rfl))
            dsimp only [St.put]
            refine CalmRun.rest [5, 13, 14, 15, 16] (by decide +kernel) hK rfl rfl (by kernel_rfl) (by kernel_rfl) ?_
            repeat' (first
    | (apply RunK.loadRN 2000001 (r := ⟨some (pb, ob), c8, hds rb⟩); exact rfl; exact rfl; exact rfl; exact rfl; exact List.mem_singleton.2 rfl; exact hoh) | (apply idxD; exact rfl; exact rfl; exact rfl; (first | exact rfl | exact (rfl : (0 : Int) = ((0 : Nat) : Int)) | exact (rfl : (1 : Int) = ((1 : Nat) : Int)) | exact (rfl : (2 : Int) = ((2 : Nat) : Int)) | exact (rfl : (3 : Int) = ((3 : Nat) : Int)) | assumption); assumption) | (apply RunK.appendRN 2000002 900001 (i := i); (case hw => exact rfl); (case he => (first | exact (fun _ => rfl) | exact (fun h => nomatch h))); (case hx => exact rfl); (case htx => exact rfl); (case hk => exact rfl); (case hi => exact hoa); (case hh => exact rfl); (case hn => exact rfl); (case hnt => exact rfl); (case hd0 => exact rfl); (case hdx => exact rfl); (case hy => (first | exact ReadLe.sl _ _ _ _ | exact ReadLe.nil _)); (case hone => exact one_rows rfl); (case hb => (simp only [List.length_cons, List.length_nil]; omega)); intro ra hra hrc) | (apply RunK.storeRN 2000001 (i := 0) (j := i) (r := ⟨some (pb, ob), c8, hds rb⟩); (case hw => exact rfl); (case hx => exact rfl); (case hy => exact rfl); (case hk => exact rfl); (case hi => exact rfl); (case hj => exact hoh); (case hc => exact rfl); (case ho => exact NRow.hdr_one _); (case hn => exact rfl); (case hh => exact rfl)) | (refine hN _ ?_) | (refine stopQ 16 ?_)
    | refine RunK.nil ?_
    | (apply RunK.rows; exact rfl; exact rfl; (repeat (first | exact PartsOk.nil | (apply PartsOk.cons; exact rfl) | (apply PartsOk.consN; exact rfl))); (repeat (first | exact Rows.nil _ | (apply Rows.cons; (first | exact Cells.agg _ | exact Cells.int _ _ | exact Cells.bool _ | exact Cells.one _ rfl); exact rfl))); exact rfl; exact rfl))
            refine StoppedQ.mk' ?_
            repeat' (first
    | (apply RunK.indexN; exact rfl; exact rfl; exact rfl; (first | exact rfl | exact (rfl : (0 : Int) = ((0 : Nat) : Int)) | exact (rfl : (1 : Int) = ((1 : Nat) : Int)) | exact (rfl : (2 : Int) = ((2 : Nat) : Int)) | exact (rfl : (3 : Int) = ((3 : Nat) : Int)) | assumption); (first | omega | exact lt_of_get ‹_› | (rw [List.length_map]; omega) | (simp; omega))) | (apply RunK.loadNS; exact rfl; exact rfl; assumption; exact rfl) | (apply RunK.lenNs; exact rfl; exact rfl) | (apply RunK.moveNs; exact rfl; exact rfl) | (apply RunK.assignNs; exact rfl; exact rfl)
    | (apply Wt.regionK; exact rfl)
    | refine RunK.nil ?_
    | (apply RunK.moveV; exact rfl; exact rfl)
    | (apply RunK.assignV; exact rfl; exact rfl)
    | (apply RunK.add; exact rfl; exact rfl; exact rfl; (first | omega | (simp only [List.length_map]; omega))))
            refine ⟨(k + 1, rb.set i ra), ⟨hkt, ?_⟩, by dsimp only; omega, ?_⟩
            · refine rowsD_set hG (fun z hz hne => ?_) ?_
              · unfold kpRow; rw [kpP_next (by rw [hgd]; exact hxk), if_neg fun q => hne q.1]
              · unfold kpRow; rw [kpP_next (by rw [hgd]; exact hxk), if_pos ⟨rfl, hkb.2 hpl⟩, hra, hoe]; simp [kpRow, intR, ival]
            · dsimp only
              rw [← hdsD_set, show ((cntE N i + (k + 1) : Nat) : Int) = ((cntE N i + k : Nat) : Int) + 1 by omega]
              (refine Le.mk ?_ ?_; (repeat' (first | exact LeEnv.done | refine LeEnv.cons ?_ ?_ | exact PVLe.refl _ | exact PVLe.s (SVLe.nil _ _ _) | exact PVLe.s (SVLe.no _ _ _ _) | (refine PVLe.int ?_; first | rfl | omega | (simp; done) | (simp; omega)) | (refine PVLe.els ?_; first | rfl | assumption | (simp; done)) | (refine PVLe.bool ?_; first | rfl | assumption) | (refine PVLe.bsl ?_; first | rfl | assumption | (simp; done))));  (repeat' (first | exact LeBox.done | refine LeBox.cons ?_ ?_ | exact rfl)))
          · repeat' (first
    | (exact absurd hg hpl) | (apply RunK.bin; exact rfl; exact rfl; exact rfl; first | exact b1 _ _ _ | exact b2 _ _ _ | exact b3 _ _ _) | (apply RunK.indexN; exact rfl; exact rfl; exact rfl; (first | exact rfl | exact (rfl : (0 : Int) = ((0 : Nat) : Int)) | exact (rfl : (1 : Int) = ((1 : Nat) : Int)) | exact (rfl : (2 : Int) = ((2 : Nat) : Int)) | exact (rfl : (3 : Int) = ((3 : Nat) : Int)) | assumption); (first | omega | exact lt_of_get ‹_› | (rw [List.length_map]; omega) | (simp; omega))) | (apply RunK.loadNS; exact rfl; exact rfl; assumption; exact rfl) | (apply RunK.lenNs; exact rfl; exact rfl) | (apply RunK.moveNs; exact rfl; exact rfl) | (apply RunK.assignNs; exact rfl; exact rfl) | (apply RunK.lenK; exact rfl; exact rfl) | (apply RunK.idxN 3000000; exact rfl; exact rfl; exact rfl; (first | exact rfl | exact (rfl : (0 : Int) = ((0 : Nat) : Int)) | exact (rfl : (1 : Int) = ((1 : Nat) : Int)) | exact (rfl : (2 : Int) = ((2 : Nat) : Int)) | exact (rfl : (3 : Int) = ((3 : Nat) : Int)) | assumption); exact rfl; exact rfl; assumption; assumption) | (apply RunK.idxN 3000001; exact rfl; exact rfl; exact rfl; (first | exact rfl | exact (rfl : (0 : Int) = ((0 : Nat) : Int)) | exact (rfl : (1 : Int) = ((1 : Nat) : Int)) | exact (rfl : (2 : Int) = ((2 : Nat) : Int)) | exact (rfl : (3 : Int) = ((3 : Nat) : Int)) | assumption); exact rfl; exact rfl; assumption; assumption) | (apply RunK.loadRN 3000000; exact rfl; exact rfl; exact rfl; exact rfl; assumption; assumption) | (apply RunK.loadRN 3000001; exact rfl; exact rfl; exact rfl; exact rfl; assumption; assumption)
    | refine Wt.seq ?_
    | (apply Wt.regionK; exact rfl)
    | refine Wt.block ?_
    | refine Wt.skip ?_
    | refine RunK.nil ?_
    | (apply RunK.moveV; exact rfl; exact rfl)
    | (apply RunK.assignV; exact rfl; exact rfl)
    | (apply RunK.lss; exact rfl; exact rfl; exact rfl)
    | (apply RunK.eql; exact rfl; exact rfl; exact rfl)
    | (apply RunK.add; exact rfl; exact rfl; exact rfl; (first | omega | (simp only [List.length_map]; omega)))
    | (apply Wt.cond; exact rfl; all_goals (intro hg; (first | exact absurd hg (by decide) | skip); (first | (with_reducible replace hg := not_t hg) | (with_reducible replace hg := not_f hg) | skip); (first | (with_reducible replace hg := dec_t hg) | (with_reducible replace hg := dec_f hg) | skip); (first | (with_reducible exact absurd rfl hg) | skip); (repeat rw [List.length_map] at hg); try (exfalso; omega))))
            refine ⟨(k + 1, rb), ⟨hkt, ?_⟩, by dsimp only; omega, ?_⟩
            · dsimp only; rw [hG]; refine List.map_congr_left fun z _ => ?_; unfold kpRow; rw [kpP_next (by rw [hgd]; exact hxk), if_neg fun q => hpl (hkb.1 q.2)]
            · dsimp only
              rw [show ((cntE N i + (k + 1) : Nat) : Int) = ((cntE N i + k : Nat) : Int) + 1 by omega]
              (refine Le.mk ?_ ?_; (repeat' (first | exact LeEnv.done | refine LeEnv.cons ?_ ?_ | exact PVLe.refl _ | exact PVLe.s (SVLe.nil _ _ _) | exact PVLe.s (SVLe.no _ _ _ _) | (refine PVLe.int ?_; first | rfl | omega | (simp; done) | (simp; omega)) | (refine PVLe.els ?_; first | rfl | assumption | (simp; done)) | (refine PVLe.bool ?_; first | rfl | assumption) | (refine PVLe.bsl ?_; first | rfl | assumption | (simp; done))));  (repeat' (first | exact LeBox.done | refine LeBox.cons ?_ ?_ | exact rfl)))
        · obtain rfl : k = r.length := by omega
          repeat' (first
    | (apply RunK.indexN; exact rfl; exact rfl; exact rfl; (first | exact rfl | exact (rfl : (0 : Int) = ((0 : Nat) : Int)) | exact (rfl : (1 : Int) = ((1 : Nat) : Int)) | exact (rfl : (2 : Int) = ((2 : Nat) : Int)) | exact (rfl : (3 : Int) = ((3 : Nat) : Int)) | assumption); (first | omega | exact lt_of_get ‹_› | (rw [List.length_map]; omega) | (simp; omega))) | (apply RunK.loadNS; exact rfl; exact rfl; assumption; exact rfl) | (apply RunK.lenNs; exact rfl; exact rfl) | (apply RunK.moveNs; exact rfl; exact rfl) | (apply RunK.assignNs; exact rfl; exact rfl) | (apply RunK.lenK; exact rfl; exact rfl) | (apply RunK.idxN 3000000; exact rfl; exact rfl; exact rfl; (first | exact rfl | exact (rfl : (0 : Int) = ((0 : Nat) : Int)) | exact (rfl : (1 : Int) = ((1 : Nat) : Int)) | exact (rfl : (2 : Int) = ((2 : Nat) : Int)) | exact (rfl : (3 : Int) = ((3 : Nat) : Int)) | assumption); exact rfl; exact rfl; assumption; assumption) | (apply RunK.idxN 3000001; exact rfl; exact rfl; exact rfl; (first | exact rfl | exact (rfl : (0 : Int) = ((0 : Nat) : Int)) | exact (rfl : (1 : Int) = ((1 : Nat) : Int)) | exact (rfl : (2 : Int) = ((2 : Nat) : Int)) | exact (rfl : (3 : Int) = ((3 : Nat) : Int)) | assumption); exact rfl; exact rfl; assumption; assumption) | (apply RunK.loadRN 3000000; exact rfl; exact rfl; exact rfl; exact rfl; assumption; assumption) | (apply RunK.loadRN 3000001; exact rfl; exact rfl; exact rfl; exact rfl; assumption; assumption)
    | refine Wt.seq ?_
    | (apply Wt.regionK; exact rfl)
    | refine Wt.exit ?_
    | refine RunK.nil ?_
    | (apply RunK.moveV; exact rfl; exact rfl)
    | (apply RunK.assignV; exact rfl; exact rfl)
    | (apply RunK.lss; exact rfl; exact rfl; exact rfl)
    | (apply RunK.add; exact rfl; exact rfl; exact rfl; (first | omega | (simp only [List.length_map]; omega)))
    | (apply Wt.cond; exact rfl; all_goals (intro hg; (first | exact absurd hg (by decide) | skip); (first | (with_reducible replace hg := not_t hg) | (with_reducible replace hg := not_f hg) | skip); (first | (with_reducible replace hg := dec_t hg) | (with_reducible replace hg := dec_f hg) | skip); (first | (with_reducible exact absurd rfl hg) | skip); (repeat rw [List.length_map] at hg); try (exfalso; omega))))
          refine ⟨(i + 1, rb), ⟨hlt, ?_⟩, by dsimp only; omega, ?_⟩
          · dsimp only; rw [hG]; refine List.map_congr_left fun z _ => ?_; unfold kpRow; rw [← hgd, kpP_row]
          · dsimp only
            rw [show (cntE N (i + 1) : Nat) = cntE N i + r.length by rw [cntE, hgd]]
            (refine Le.mk ?_ ?_; (repeat' (first | exact LeEnv.done | refine LeEnv.cons ?_ ?_ | exact PVLe.refl _ | exact PVLe.s (SVLe.nil _ _ _) | exact PVLe.s (SVLe.no _ _ _ _) | (refine PVLe.int ?_; first | rfl | omega | (simp; done) | (simp; omega)) | (refine PVLe.els ?_; first | rfl | assumption | (simp; done)) | (refine PVLe.bool ?_; first | rfl | assumption) | (refine PVLe.bsl ?_; first | rfl | assumption | (simp; done))));  (repeat' (first | exact LeBox.done | refine LeBox.cons ?_ ?_ | exact rfl)))
      -->
    · obtain rfl : i = N.length := by omega
      have hbl := rowsD_len hG
      repeat' (first
    | (refine stopQ 17 ?_) | (apply RunK.indexN; exact rfl; exact rfl; exact rfl; (first | exact rfl | exact (rfl : (0 : Int) = ((0 : Nat) : Int)) | exact (rfl : (1 : Int) = ((1 : Nat) : Int)) | exact (rfl : (2 : Int) = ((2 : Nat) : Int)) | exact (rfl : (3 : Int) = ((3 : Nat) : Int)) | assumption); (first | omega | exact lt_of_get ‹_› | (rw [List.length_map]; omega) | (simp; omega))) | (apply RunK.loadNS; exact rfl; exact rfl; assumption; exact rfl) | (apply RunK.lenNs; exact rfl; exact rfl) | (apply RunK.moveNs; exact rfl; exact rfl) | (apply RunK.assignNs; exact rfl; exact rfl) | (apply RunK.lenK; exact rfl; exact rfl)
    | refine Wt.seq ?_
    | (apply Wt.regionK; exact rfl)
    | refine Wt.exit ?_
    | refine RunK.nil ?_
    | (apply RunK.moveV; exact rfl; exact rfl)
    | (apply RunK.lss; exact rfl; exact rfl; exact rfl)
    | (apply Wt.cond; exact rfl; all_goals (intro hg; (first | exact absurd hg (by decide) | skip); (first | (with_reducible replace hg := not_t hg) | (with_reducible replace hg := not_f hg) | skip); (first | (with_reducible replace hg := dec_t hg) | (with_reducible replace hg := dec_f hg) | skip); (first | (with_reducible exact absurd rfl hg) | skip); (repeat rw [List.length_map] at hg); try (exfalso; omega))))
      refine StoppedQ.mk' ?_
      rw [← hH8 rb hbl]
      refine Wt.weak (Turns.takeN 12 2000001 12 0 23 (r := ⟨A8, c8, hds rb⟩) rfl rfl rfl rfl rfl rfl) ?_
      refine Wt.weak (Turns.freezeN 12 2000002 12 rfl rfl rfl hG rfl) ?_
      have eB : ((List.range N.length).map (kpRow d N N.length 0)).map (fun e => [EV.sl 1 e]) = gE (intG (dropN d N)) := by
        have : (List.range N.length).map (kpRow d N N.length 0) = (List.range N.length).map (fun x => (intR (kp d (cntE N x) (N.getD x []))).map ival) := List.map_congr_left fun x hx => by unfold kpRow; rw [kpP_all (List.mem_range.1 hx)]
        rw [this]; unfold dropN; simp only [gE, intG, List.map_map]; rfl
      rw [eB]
      refine Wt.le ⟨[(12, .s (.nsl (some 12) [some 12] true 1 (gE (intG (dropN d N))))), (8, .s (.sl (some 23) .no 1 ((intR (topo N)).map ival))), (10, .s (.sl (some 28) .no 1 ((intR (levels N)).map ival))), (2999999, .old W (keptOf [.hds none 1 m]))], []⟩ (by (refine Le.mk ?_ ?_; (repeat' (first | exact LeEnv.done | refine LeEnv.cons ?_ ?_ | exact PVLe.refl _ | exact PVLe.s (SVLe.nil _ _ _) | exact PVLe.s (SVLe.no _ _ _ _) | (refine PVLe.int ?_; first | rfl | omega | (simp; done) | (simp; omega)) | (refine PVLe.els ?_; first | rfl | assumption | (simp; done)) | (refine PVLe.bool ?_; first | rfl | assumption) | (refine PVLe.bsl ?_; first | rfl | assumption | (simp; done))));  (repeat' (first | exact LeBox.done | refine LeBox.cons ?_ ?_ | exact rfl)))) ?_
      have hLat := fun x (h : x < N.length) => get_map (f := ival) (int_atD (L := levels N) (x := x) (by omega))
      have hMat := fun x (h : x < N.length) => get_map (f := ival) (int_atD (L := levels (dropN d N)) (x := x) (by omega))
      generalize levels (dropN d N) = M at *
      generalize levels N = L at *
      repeat' (first
    | (exfalso; omega) | (refine stopQ 20 ?_) | (apply RunK.indexN; exact rfl; exact rfl; exact rfl; (first | exact rfl | exact (rfl : (0 : Int) = ((0 : Nat) : Int)) | exact (rfl : (1 : Int) = ((1 : Nat) : Int)) | exact (rfl : (2 : Int) = ((2 : Nat) : Int)) | exact (rfl : (3 : Int) = ((3 : Nat) : Int)) | assumption); (first | omega | exact lt_of_get ‹_› | (rw [List.length_map]; omega) | (simp; omega))) | (apply RunK.loadNS; exact rfl; exact rfl; assumption; exact rfl) | (apply RunK.lenNs; exact rfl; exact rfl) | (apply RunK.moveNs; exact rfl; exact rfl) | (apply RunK.assignNs; exact rfl; exact rfl) | (apply RunK.callT; exact rfl; exact rfl; exact c3; (repeat (first | exact ArgsLe.nil | refine ArgsLe.cons ?_ ?_ | exact ArgLe.v _ | exact ArgLe.sl _ _ _ _ | exact ArgLe.nil _ | exact ArgLe.nil' | exact ArgLe.nsl _ _ _ _ _ | exact ArgLe.nsn _ | (apply ArgLe.bsl; exact rfl; (first | exact rfl | (rw [List.length_map]; done) | (simp only [List.length_map]; done) | (simp; done) | (simp; omega)); (first | assumption | exact map_len (fun _ => rfl))))); exact rfl) | (apply RunK.callS; exact rfl; exact rfl; exact c4; (repeat (first | exact ArgsLe.nil | refine ArgsLe.cons ?_ ?_ | exact ArgLe.v _ | exact ArgLe.sl _ _ _ _ | exact ArgLe.nil _ | exact ArgLe.nil' | exact ArgLe.nsl _ _ _ _ _ | exact ArgLe.nsn _ | (apply ArgLe.bsl; exact rfl; (first | exact rfl | (rw [List.length_map]; done) | (simp only [List.length_map]; done) | (simp; done) | (simp; omega)); (first | assumption | exact map_len (fun _ => rfl))))); exact rfl)
    | refine Wt.seq ?_
    | (apply Wt.regionK; exact rfl)
    | refine Wt.skip ?_
    | refine RunK.nil ?_
    | (apply RunK.moveV; exact rfl; exact rfl)
    | (apply RunK.assignV; exact rfl; exact rfl)
    | (apply RunK.moveS; exact rfl; exact rfl)
    | (apply RunK.moveT; exact rfl; exact rfl)
    | (apply RunK.assignS; exact rfl; exact rfl)
    | (apply RunK.pickF; exact rfl; exact rfl; exact rfl)
    | (apply RunK.neq; exact rfl; exact rfl; exact rfl)
    | (apply RunK.len; exact rfl; exact rfl)
    | (apply RunK.extract; exact rfl; exact rfl; exact rfl)
    | (apply RunK.guard; exact rfl; exact rfl; exact rfl; all_goals (intro hg; (first | exact absurd hg (by decide) | skip); (first | (with_reducible replace hg := not_t hg) | (with_reducible replace hg := not_f hg) | skip); (first | (with_reducible replace hg := dec_t hg) | (with_reducible replace hg := dec_f hg) | skip); (first | (with_reducible exact absurd rfl hg) | skip); (repeat rw [List.length_map] at hg); try (exfalso; omega)))
    | (apply Wt.cond; exact rfl; all_goals (intro hg; (first | exact absurd hg (by decide) | skip); (first | (with_reducible replace hg := not_t hg) | (with_reducible replace hg := not_f hg) | skip); (first | (with_reducible replace hg := dec_t hg) | (with_reducible replace hg := dec_f hg) | skip); (first | (with_reducible exact absurd rfl hg) | skip); (repeat rw [List.length_map] at hg); try (exfalso; omega))))
      all_goals try (exfalso; omega)
      refine StoppedQ.mk' ?_
      refine Wt.le ⟨[(16, .s (.sl (some 88) .no 1 ((intR M).map ival))), (10, .s (.sl (some 28) .no 1 ((intR L).map ival))), (2999999, .old W (keptOf [.hds none 1 m]))], []⟩ (by (refine Le.mk ?_ ?_; (repeat' (first | exact LeEnv.done | refine LeEnv.cons ?_ ?_ | exact PVLe.refl _ | exact PVLe.s (SVLe.nil _ _ _) | exact PVLe.s (SVLe.no _ _ _ _) | (refine PVLe.int ?_; first | rfl | omega | (simp; done) | (simp; omega)) | (refine PVLe.els ?_; first | rfl | assumption | (simp; done)) | (refine PVLe.bool ?_; first | rfl | assumption) | (refine PVLe.bsl ?_; first | rfl | assumption | (simp; done))));  (repeat' (first | exact LeBox.done | refine LeBox.cons ?_ ?_ | exact rfl)))) ?_
      repeat' (first
    | (apply RunK.indexN; exact rfl; exact rfl; exact rfl; (first | exact rfl | exact (rfl : (0 : Int) = ((0 : Nat) : Int)) | exact (rfl : (1 : Int) = ((1 : Nat) : Int)) | exact (rfl : (2 : Int) = ((2 : Nat) : Int)) | exact (rfl : (3 : Int) = ((3 : Nat) : Int)) | assumption); (first | omega | exact lt_of_get ‹_› | (rw [List.length_map]; omega) | (simp; omega))) | (apply RunK.loadNS; exact rfl; exact rfl; assumption; exact rfl) | (apply RunK.lenNs; exact rfl; exact rfl) | (apply RunK.moveNs; exact rfl; exact rfl) | (apply RunK.assignNs; exact rfl; exact rfl)
    | (apply Wt.regionK; exact rfl)
    | refine Wt.block ?_
    | refine RunK.nil ?_
    | (apply RunK.assignV; exact rfl; exact rfl))
      refine Wt.loop (fun i : Nat => ⟨[(16, .s (.sl (some 88) .no 1 ((intR M).map ival))), (10, .s (.sl (some 28) .no 1 ((intR L).map ival))), (17, .s (.v (.int .i64 i))), (2999999, .old W (keptOf [.hds none 1 m]))], []⟩) (fun i => i ≤ N.length) (fun i => N.length - i) 0 (Nat.zero_le _) ?_ ?_
      · (refine Le.mk ?_ ?_; (repeat' (first | exact LeEnv.done | refine LeEnv.cons ?_ ?_ | exact PVLe.refl _ | exact PVLe.s (SVLe.nil _ _ _) | exact PVLe.s (SVLe.no _ _ _ _) | (refine PVLe.int ?_; first | rfl | omega | (simp; done) | (simp; omega)) | (refine PVLe.els ?_; first | rfl | assumption | (simp; done)) | (refine PVLe.bool ?_; first | rfl | assumption) | (refine PVLe.bsl ?_; first | rfl | assumption | (simp; done))));  (repeat' (first | exact LeBox.done | refine LeBox.cons ?_ ?_ | exact rfl)))
      · intro i hi
        by_cases hit : i < N.length
        · have hx1 := hLat i hit
          have hx2 := hMat i hit
          have hx3 := hle i hit
          repeat' (first
    | (exfalso; omega) | (apply RunK.indexN; exact rfl; exact rfl; exact rfl; (first | exact rfl | exact (rfl : (0 : Int) = ((0 : Nat) : Int)) | exact (rfl : (1 : Int) = ((1 : Nat) : Int)) | exact (rfl : (2 : Int) = ((2 : Nat) : Int)) | exact (rfl : (3 : Int) = ((3 : Nat) : Int)) | assumption); (first | omega | exact lt_of_get ‹_› | (rw [List.length_map]; omega) | (simp; omega))) | (apply RunK.loadNS; exact rfl; exact rfl; assumption; exact rfl) | (apply RunK.lenNs; exact rfl; exact rfl) | (apply RunK.moveNs; exact rfl; exact rfl) | (apply RunK.assignNs; exact rfl; exact rfl)
    | refine Wt.seq ?_
    | (apply Wt.regionK; exact rfl)
    | (apply Wt.regionD; kernel_rfl; kernel_rfl; exact rfl; exact rfl)
    | refine Wt.block ?_
    | refine Wt.skip ?_
    | refine RunK.nil ?_
    | (apply RunK.moveV; exact rfl; exact rfl)
    | (apply RunK.index; exact rfl; exact rfl; exact rfl; (first | exact rfl | exact (rfl : (0 : Int) = ((0 : Nat) : Int)) | exact (rfl : (1 : Int) = ((1 : Nat) : Int)) | exact (rfl : (2 : Int) = ((2 : Nat) : Int)) | exact (rfl : (3 : Int) = ((3 : Nat) : Int)) | assumption); (first | omega | exact lt_of_get ‹_› | (rw [List.length_map]; omega) | (simp; omega)))
    | (apply RunK.loadE1; exact rfl; exact rfl; assumption; exact rfl)
    | (apply RunK.assignV; exact rfl; exact rfl)
    | (apply RunK.moveS; exact rfl; exact rfl)
    | (apply RunK.lss; exact rfl; exact rfl; exact rfl)
    | (apply RunK.gtr; exact rfl; exact rfl; exact rfl)
    | (apply RunK.add; exact rfl; exact rfl; exact rfl; (first | omega | (simp only [List.length_map]; omega)))
    | (apply RunK.len; exact rfl; exact rfl)
    | (apply Wt.cond; exact rfl; all_goals (intro hg; (first | exact absurd hg (by decide) | skip); (first | (with_reducible replace hg := not_t hg) | (with_reducible replace hg := not_f hg) | skip); (first | (with_reducible replace hg := dec_t hg) | (with_reducible replace hg := dec_f hg) | skip); (first | (with_reducible exact absurd rfl hg) | skip); (repeat rw [List.length_map] at hg); try (exfalso; omega))))
          all_goals first
            | (exfalso; omega)
            | (refine ⟨i + 1, hit, by omega, ?_⟩; (refine Le.mk ?_ ?_; (repeat' (first | exact LeEnv.done | refine LeEnv.cons ?_ ?_ | exact PVLe.refl _ | exact PVLe.s (SVLe.nil _ _ _) | exact PVLe.s (SVLe.no _ _ _ _) | (refine PVLe.int ?_; first | rfl | omega | (simp; done) | (simp; omega)) | (refine PVLe.els ?_; first | rfl | assumption | (simp; done)) | (refine PVLe.bool ?_; first | rfl | assumption) | (refine PVLe.bsl ?_; first | rfl | assumption | (simp; done))));  (repeat' (first | exact LeBox.done | refine LeBox.cons ?_ ?_ | exact rfl))))
        · obtain rfl : i = N.length := by omega
          repeat' (first
    | (exfalso; omega) | (apply RunK.indexN; exact rfl; exact rfl; exact rfl; (first | exact rfl | exact (rfl : (0 : Int) = ((0 : Nat) : Int)) | exact (rfl : (1 : Int) = ((1 : Nat) : Int)) | exact (rfl : (2 : Int) = ((2 : Nat) : Int)) | exact (rfl : (3 : Int) = ((3 : Nat) : Int)) | assumption); (first | omega | exact lt_of_get ‹_› | (rw [List.length_map]; omega) | (simp; omega))) | (apply RunK.loadNS; exact rfl; exact rfl; assumption; exact rfl) | (apply RunK.lenNs; exact rfl; exact rfl) | (apply RunK.moveNs; exact rfl; exact rfl) | (apply RunK.assignNs; exact rfl; exact rfl) | (apply RunK.callS; exact rfl; exact rfl; exact haw; (repeat (first | exact ArgsLe.nil | refine ArgsLe.cons ?_ ?_ | exact ArgLe.v _ | exact ArgLe.sl _ _ _ _ | exact ArgLe.nil _ | exact ArgLe.nil' | exact ArgLe.nsl _ _ _ _ _ | exact ArgLe.nsn _ | (apply ArgLe.bsl; exact rfl; (first | exact rfl | (rw [List.length_map]; done) | (simp only [List.length_map]; done) | (simp; done) | (simp; omega)); (first | assumption | exact map_len (fun _ => rfl))))); exact rfl)
    | refine Wt.seq ?_
    | (apply Wt.regionK; exact rfl)
    | refine Wt.ret ?_
    | refine Wt.exit ?_
    | refine RunK.nil ?_
    | (apply RunK.moveV; exact rfl; exact rfl)
    | (apply RunK.assignV; exact rfl; exact rfl)
    | (apply RunK.moveS; exact rfl; exact rfl)
    | (apply RunK.lss; exact rfl; exact rfl; exact rfl)
    | (apply RunK.len; exact rfl; exact rfl)
    | (apply Wt.cond; exact rfl; all_goals (intro hg; (first | exact absurd hg (by decide) | skip); (first | (with_reducible replace hg := not_t hg) | (with_reducible replace hg := not_f hg) | skip); (first | (with_reducible replace hg := dec_t hg) | (with_reducible replace hg := dec_f hg) | skip); (first | (with_reducible exact absurd rfl hg) | skip); (repeat rw [List.length_map] at hg); try (exfalso; omega))))
          all_goals exact ActEnd.mk (.s (.v (.bool true))) [] rfl (by apply ResOk.v1; exact rfl; exact rfl) rfl rfl .nil (.hds .nil)
set_option maxRecDepth 100000 in
theorem wf_u8n {n : Int} (h : (Lit.int .u8 n).wf = true) : ∃ m : Nat, n = m ∧ m < 256 := by
  simp [Lit.wf, IntKind.min, IntKind.max, IntKind.signed, IntKind.bits] at h
  exact ⟨n.toNat, by omega, by omega⟩
set_option maxRecDepth 100000 in
theorem moreRow {H : List Value} {m : List (Value × List (List Value))} {g : List (List Int)} (hr : RawG H m g) (rank : List Int) (hb : rank.length * 8 ≤ 140737488351232) (_ok : ∀ y ∈ rank, i64 y) (d : Nat) (hd : d < 256) : Acts Try.prog 4 [.sl none .no 1 (hd1 H), ints rank, .v (.int .u8 (d : Int))] [.hds none 1 m] [] (fun r _ => r = .s (.v (.bool true))) := moreG hr rank (by omega) d hd
end Go.Proofs.Ytfokjpmcifkoeaa
