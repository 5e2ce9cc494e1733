/- The walk of Down. No condition. -/
import Derived.Test.YtfokjpmcifkoeaaDownM
import Derived.Test.YtfokjpmcifkoeaaCW
import Derived.Test.YtfokjpmcifkoeaaRaw
import Derived.Test.YtfokjpmcifkoeaaCV0
namespace Go.Proofs.Ytfokjpmcifkoeaa
open Pv Go.RowKit Scc
set_option maxRecDepth 100000 in
/-- A nest's slice that has elements lies somewhere. -/
theorem rowSomeD {env : List (Nat × PV)} {bs : List (Nat × List Value)} (h : Nat) {g k : Nat} {rows : List NRow} (hk : Pv.look env h = PV.nest g k rows) : Turns ⟨env, bs⟩ (fun s1 => s1 = ⟨env, bs⟩ ∧ ∀ r ∈ rows, r.els ≠ [] → ∃ p, r.A = some p) := by
  rintro w0 n a w ⟨T, F, ρ, hr⟩
  refine ⟨_, ⟨rfl, fun r hm hne => ?_⟩, T, F, ρ, hr⟩
  have h1 := hr.env h
  rw [show (St.mk env bs).look h = Pv.look env h from rfl, hk] at h1
  obtain ⟨_, q2, _, q4⟩ := h1.2 r hm
  rcases q4 with ⟨_, hc⟩ | ⟨b, o, _, _, hA, _⟩
  · exact absurd (List.eq_nil_of_length_eq_zero (by omega)) hne
  · exact ⟨_, hA⟩
def dnRow (N : G) (p : Nat → Int) (i k x : Nat) : List (List Value) := (intR (dnP N p i k x)).map ival
set_option maxRecDepth 100000 in
theorem nilsD (n : Nat) : List.replicate n [Value.slice none 0 0] = hds (List.replicate n NRow.nl) := by unfold hds; rw [List.map_replicate]; rfl
set_option maxRecDepth 100000 in
theorem nils_elsD (n : Nat) (f : Nat → List (List Value)) (hf : ∀ x, f x = []) : (List.replicate n NRow.nl).map (·.els) = (List.range n).map f := by
  rw [List.map_replicate]
  symm
  refine List.eq_replicate_iff.2 ⟨by simp, fun b hb => ?_⟩
  obtain ⟨x, _, rfl⟩ := List.mem_map.1 hb
  exact hf x
set_option maxRecDepth 100000 in
theorem rowsD_at {rows : List NRow} {n : Nat} {f : Nat → List (List Value)} (h : rows.map (·.els) = (List.range n).map f) {i : Nat} (hi : i < n) : ∃ q, rows[i]? = some q ∧ q ∈ rows ∧ q.els = f i ∧ (hds rows)[i]? = some [q.hdr] := by
  have h1 : (rows.map (·.els))[i]? = some (f i) := by rw [h, List.getElem?_map, List.getElem?_range hi]; rfl
  rw [List.getElem?_map] at h1
  cases hq : rows[i]? with
  | none => rw [hq] at h1; cases h1
  | some q =>
    rw [hq] at h1
    injection h1 with h1
    exact ⟨q, rfl, List.mem_of_getElem? hq, h1, hds_at hq⟩
set_option maxRecDepth 100000 in
theorem rowsD_set {rows : List NRow} {n : Nat} {f f' : Nat → List (List Value)} (h : rows.map (·.els) = (List.range n).map f) {i : Nat} {q : NRow} (hf : ∀ x, x < n → x ≠ i → f' x = f x) (hq : q.els = f' i) : (rows.set i q).map (·.els) = (List.range n).map f' := by
  rw [List.map_set, h]
  refine List.ext_getElem? fun y => ?_
  rw [List.getElem?_set]
  by_cases hy : y < n
  · rw [List.getElem?_map, List.getElem?_map, List.getElem?_range hy]
    split
    · rename_i e; subst e; rw [if_pos (by simpa using hy), hq]; rfl
    · rename_i e; show some (f y) = some (f' y); rw [hf y hy fun e' => e e'.symm]
  · rw [List.getElem?_eq_none (l := (List.range n).map f') (by simp; omega)]
    split
    · rw [if_neg (by simp; omega)]
    · exact List.getElem?_eq_none (by simp; omega)
set_option maxRecDepth 100000 in
theorem hdsD_set (rows : List NRow) (i : Nat) (r : NRow) : (hds rows).set i [r.hdr] = hds (rows.set i r) := by unfold hds; rw [List.map_set]
set_option maxRecDepth 100000 in
theorem hdsD_len (rows : List NRow) : (hds rows).length = rows.length := List.length_map ..
set_option maxRecDepth 100000 in
theorem rowsD_len {rows : List NRow} {n : Nat} {f : Nat → List (List Value)} (h : rows.map (·.els) = (List.range n).map f) : rows.length = n := by have := congrArg List.length h; simpa using this
set_option maxRecDepth 100000 in
theorem idxD {P : Program} {dr : Bool} {ops : Array Oper} {rest : List Oper} {env : List (Nat × PV)} {bs : List (Nat × List Value)} {K : St → Prop} {d : Nat} {ty : TypeId} {pos : String} {aft : Array Edge} {gd : Option (Nat × Bool)} {t e by0 : Nat} [hT : TySl P t e 1 by0] {x y : Operand} {b o n c : Nat} {kd : IntKind} {i : Int} {j : Nat} (hw : wantedS ops ⟨env, bs⟩ ⟨some d, .indexAddr t x y, ty, pos, aft, gd⟩ = some true) (hx : (St.mk env bs).ev x = .s (.v (.slice (some ⟨b, o, none⟩) n c))) (hy : (St.mk env bs).ev y = .s (.v (.int kd i))) (hij : i = (j : Int)) (hj : j < n)
    (k : RunK dr P ops rest ⟨(d, .s (.v (.pointer (some ⟨b, o + j, none⟩)))) :: env, bs⟩ K) : RunK dr P ops (⟨some d, .indexAddr t x y, ty, pos, aft, gd⟩ :: rest) ⟨env, bs⟩ K :=
  RunK.idxP hw hx hy hij hj (by rw [Nat.mul_one]; exact k)
set_option maxHeartbeats 8000000 in
set_option maxRecDepth 100000 in
theorem downR {H : List Value} {m : List (Value × List (List Value))} {g : List (List Int)} (hr : RawG H m g) (N : G) (hN : GOk N) (e : fitG g = intG N) (hn : N.length ≤ 24) (hr30 : ∀ r ∈ N, r.length ≤ 30) (rank : List Int) (hrk : rank.length < 1000000000000000) : Acts Try.prog 13 [.sl none .no 1 (hd1 H), ints rank] [.hds none 1 m] [] (fun r _ => r = .s (graphR (intG (downN N (placeF rank))))) := by
  have hm2 : Try.prog.follows .mixedOrders = true := by kernel_rfl
  have h1 := fitR hr
  clear hr
  rw [e] at h1
  clear e
  have hgl : (gE (intG N)).length = N.length := by simp [gE, intG]
  have hrow : ∀ j, (N.getD j []).length ≤ 30 := fun j => by
    rw [List.getD_eq_getElem?_getD]
    cases hx : N[j]? with
    | none => exact Nat.zero_le _
    | some r => exact hr30 r (List.mem_of_getElem? hx)
  refine acts_of_wt Try.func13 rfl (by decide) _ Try.ntmps13 rfl Try.results13 rfl (by simp [ownOf]) fun w0 W => ?_
  repeat' (first
    | (refine stopQ 2 ?_) | (apply RunK.indexN; exact rfl; exact rfl; exact rfl; (first | exact rfl | exact (rfl : (0 : Int) = ((0 : Nat) : Int)) | exact (rfl : (1 : Int) = ((1 : Nat) : Int)) | exact (rfl : (2 : Int) = ((2 : Nat) : Int)) | exact (rfl : (3 : Int) = ((3 : Nat) : Int)) | assumption); (first | omega | exact lt_of_get ‹_› | (rw [List.length_map]; omega) | (simp; omega))) | (apply RunK.loadNS; exact rfl; exact rfl; assumption; exact rfl) | (apply RunK.lenNs; exact rfl; exact rfl) | (apply RunK.moveNs; exact rfl; exact rfl) | (apply RunK.assignNs; exact rfl; exact rfl) | (apply RunK.actR _ h1 (fun _ _ h => h); (case hn => exact rfl); (case hw => exact rfl); (case he => exact rfl); (case hx => exact rfl); (case ha => (repeat (first | exact ArgsLe.nil | refine ArgsLe.cons ?_ ?_ | exact ArgLe.v _ | exact ArgLe.sl _ _ _ _ | exact ArgLe.nil _ | exact ArgLe.nil' | exact ArgLe.nsl _ _ _ _ _ | exact ArgLe.nsn _ | (apply ArgLe.bsl; exact rfl; (first | exact rfl | (rw [List.length_map]; done) | (simp only [List.length_map]; done) | (simp; done) | (simp; omega)); (first | assumption | exact map_len (fun _ => rfl)))))); (case hgs => exact rfl); (case hf => exact .hds 2000000 rfl rfl .nil))
    | refine Wt.seq ?_
    | (apply Wt.regionK; exact rfl)
    | refine RunK.nil ?_
    | (apply RunK.moveS; exact rfl; exact rfl)
    | (apply RunK.assignN; exact rfl; exact rfl))
  refine StoppedQ.mk' ?_
  refine Wt.le ⟨[(1, .s (ints rank)), (5, .s (.nsl (some 12) [some 12] true 1 (gE (intG N)))), (2999999, .old W (keptOf [.hds none 1 m]))], []⟩ (by (refine Le.mk ?_ ?_; (repeat' (first | exact LeEnv.done | refine LeEnv.cons ?_ ?_ | exact PVLe.refl _ | exact PVLe.s (SVLe.nil _ _ _) | exact PVLe.s (SVLe.no _ _ _ _) | (refine PVLe.int ?_; first | rfl | omega | (simp; done) | (simp; omega)) | (refine PVLe.els ?_; first | rfl | assumption | (simp; done)) | (refine PVLe.bool ?_; first | rfl | assumption) | (refine PVLe.bsl ?_; first | rfl | assumption | (simp; done))));  (repeat' (first | exact LeBox.done | refine LeBox.cons ?_ ?_ | exact rfl)))) ?_
  clear h1
  repeat' (first
    | (apply RunK.indexN; exact rfl; exact rfl; exact rfl; (first | exact rfl | exact (rfl : (0 : Int) = ((0 : Nat) : Int)) | exact (rfl : (1 : Int) = ((1 : Nat) : Int)) | exact (rfl : (2 : Int) = ((2 : Nat) : Int)) | exact (rfl : (3 : Int) = ((3 : Nat) : Int)) | assumption); (first | omega | exact lt_of_get ‹_› | (rw [List.length_map]; omega) | (simp; omega))) | (apply RunK.loadNS; exact rfl; exact rfl; assumption; exact rfl) | (apply RunK.lenNs; exact rfl; exact rfl) | (apply RunK.moveNs; exact rfl; exact rfl) | (apply RunK.assignNs; exact rfl; exact rfl) | (apply RunK.makeSlE (n := N.length); exact rfl; exact rfl; exact rfl; exact (by simp); exact (by simp); exact (by omega); exact rfl)
    | refine Wt.seq ?_
    | (apply Wt.regionK; exact rfl)
    | refine Wt.block ?_
    | refine RunK.nil ?_
    | (apply RunK.assignV; exact rfl; exact rfl)
    | (apply RunK.assignS; exact rfl; exact rfl))
  rw [arr_rep]
  have hal0 := arr_len N.length (fun _ => (0 : Int))
  refine Wt.thaw 6 6 rfl rfl rfl ?_
  rw [show arr N.length (fun _ => (0 : Int)) = arr N.length (placeU rank 0) from arr_ext fun x _ => by unfold placeU; rw [if_neg (Nat.not_lt_zero _)]] at hal0 ⊢
  refine Wt.loop (fun i : Nat => ⟨[(1, .s (ints rank)), (5, .s (.nsl (some 12) [some 12] true 1 (gE (intG N)))), (2999999, .old W (keptOf [.hds none 1 m])), (6, .bsl 6 0 1 N.length), (7, .s (.v (.int .i64 i)))], [(6, (arr N.length (placeU rank i)).flatten)]⟩) (fun i => i ≤ N.length) (fun i => N.length - i) 0 (Nat.zero_le _) ?_ ?_
  · (refine Le.mk ?_ ?_; (repeat' (first | exact LeEnv.done | (refine LeEnv.consN ?_ ?_; exact rfl) | refine LeEnv.cons ?_ ?_ | exact PVLe.refl _ | exact PVLe.s (SVLe.nil _ _ _) | exact PVLe.s (SVLe.no _ _ _ _) | (refine PVLe.int ?_; first | rfl | omega | (simp; done) | (simp; omega)) | (refine PVLe.els ?_; first | rfl | assumption | (simp; done)) | (refine PVLe.bool ?_; first | rfl | assumption) | (refine PVLe.hdE ?_; first | rfl | assumption) | (refine PVLe.bsl ?_; first | rfl | assumption | (simp; done) | (simp; omega)))); (repeat' (first | exact LeBox.done | (refine LeBox.consN ?_ ?_; exact rfl) | (refine LeBox.cons ?_ ?_; exact rfl) | (refine LeBox.consE rfl ?_ ?_; first | assumption | (refine congrArg List.flatten ?_; first | rfl | assumption | (symm; assumption))))))
  · intro i hi
    by_cases hit : i < N.length
    · have hs1 : (arr N.length (placeU rank i)).set i [.int .i64 (i : Int)] = arr N.length (fun x => if x = i then (i : Int) else placeU rank i x) := arr_set (fun x _ hne => by rw [if_neg hne]) (by rw [if_pos rfl])
      have hal := arr_len N.length (placeU rank i)
      have haw := arr_wid N.length (placeU rank i)
      have hat := arr_at (placeU rank i) hit
      generalize hA : arr N.length (placeU rank i) = A at *
      repeat' (first
    | (refine stopQ 7 ?_) | (apply RunK.indexN; exact rfl; exact rfl; exact rfl; (first | exact rfl | exact (rfl : (0 : Int) = ((0 : Nat) : Int)) | exact (rfl : (1 : Int) = ((1 : Nat) : Int)) | exact (rfl : (2 : Int) = ((2 : Nat) : Int)) | exact (rfl : (3 : Int) = ((3 : Nat) : Int)) | assumption); (first | omega | exact lt_of_get ‹_› | (rw [List.length_map]; omega) | (simp; omega))) | (apply RunK.loadNS; exact rfl; exact rfl; assumption; exact rfl) | (apply RunK.lenNs; exact rfl; exact rfl) | (apply RunK.moveNs; exact rfl; exact rfl) | (apply RunK.assignNs; exact rfl; exact rfl)
    | refine Wt.seq ?_
    | (apply Wt.regionK; exact rfl)
    | refine Wt.block ?_
    | refine Wt.skip ?_
    | refine RunK.nil ?_
    | (apply RunK.moveV; exact rfl; exact rfl)
    | (apply RunK.moveBs; exact rfl; exact rfl)
    | (apply RunK.indexS; exact rfl; exact rfl; exact rfl; (first | exact rfl | exact (rfl : (0 : Int) = ((0 : Nat) : Int)) | exact (rfl : (1 : Int) = ((1 : Nat) : Int)) | exact (rfl : (2 : Int) = ((2 : Nat) : Int)) | exact (rfl : (3 : Int) = ((3 : Nat) : Int)) | assumption); (first | omega | exact lt_of_get ‹_› | (rw [List.length_map]; omega) | (simp; omega)))
    | (apply RunK.lss; exact rfl; exact rfl; exact rfl)
    | (apply RunK.storeF; exact rfl; exact rfl; exact rfl; exact rfl; (first | exact off0 _ _ | exact off1 _ _ _ | exact off2 _ _ _ _ | exact off3 _ _ _ _ _ | omega); (first | assumption | exact map_len (fun _ => rfl)); assumption; exact rfl; exact rfl; exact rfl; (first | exact Cells.agg _ | exact Cells.int _ _ | exact Cells.bool _ | exact Cells.one _ rfl); (repeat (first | exact Upd.nil _ | apply Upd.cons | apply Upd.skip)))
    | (apply Wt.cond; exact rfl; all_goals (intro hg; (first | exact absurd hg (by decide) | skip); (first | (with_reducible replace hg := not_t hg) | (with_reducible replace hg := not_f hg) | skip); (first | (with_reducible replace hg := dec_t hg) | (with_reducible replace hg := dec_f hg) | skip); (first | (with_reducible exact absurd rfl hg) | skip); (repeat rw [List.length_map] at hg); try (exfalso; omega))))
      refine StoppedQ.mk' ?_
      refine Wt.le ⟨[(1, .s (ints rank)), (5, .s (.nsl (some 12) [some 12] true 1 (gE (intG N)))), (2999999, .old W (keptOf [.hds none 1 m])), (6, .bsl 6 0 1 N.length), (7, .s (.v (.int .i64 i)))], [(6, (arr N.length (fun x => if x = i then (i : Int) else placeU rank i x)).flatten)]⟩ (by rw [← hs1]; (refine Le.mk ?_ ?_; (repeat' (first | exact LeEnv.done | (refine LeEnv.consN ?_ ?_; exact rfl) | refine LeEnv.cons ?_ ?_ | exact PVLe.refl _ | exact PVLe.s (SVLe.nil _ _ _) | exact PVLe.s (SVLe.no _ _ _ _) | (refine PVLe.int ?_; first | rfl | omega | (simp; done) | (simp; omega)) | (refine PVLe.els ?_; first | rfl | assumption | (simp; done)) | (refine PVLe.bool ?_; first | rfl | assumption) | (refine PVLe.hdE ?_; first | rfl | assumption) | (refine PVLe.bsl ?_; first | rfl | assumption | (simp; done) | (simp; omega)))); (repeat' (first | exact LeBox.done | (refine LeBox.consN ?_ ?_; exact rfl) | (refine LeBox.cons ?_ ?_; exact rfl) | (refine LeBox.consE rfl ?_ ?_; first | assumption | (refine congrArg List.flatten ?_; first | rfl | assumption | (symm; assumption))))))) ?_
      clear hs1 hal haw hat hA A
      have hal := arr_len N.length (fun x => if x = i then (i : Int) else placeU rank i x)
      have haw := arr_wid N.length (fun x => if x = i then (i : Int) else placeU rank i x)
      have hat := arr_at (fun x => if x = i then (i : Int) else placeU rank i x) hit
      by_cases hk : i < rank.length
      · obtain ⟨y, hy⟩ := exists_at hk
        have hy2 := get_map (f := ival) hy
        have hb1 := tmod_bd y (n := 100) (by decide)
        have hn0 : (100 : Int) ≠ 0 := by decide
        have hs2 : (arr N.length (fun x => if x = i then (i : Int) else placeU rank i x)).set i [.int .i64 (y.tmod 100 * 100 + (i : Int))] = arr N.length (placeU rank (i + 1)) := arr_set (fun x _ hne => by
          rw [if_neg hne]
          unfold placeU
          by_cases h1 : x < i
          · rw [if_pos h1, if_pos (by omega)]
          · rw [if_neg h1, if_neg (by omega)]) (by unfold placeU placeF; rw [if_pos (by omega), hy])
        generalize arr N.length (fun x => if x = i then (i : Int) else placeU rank i x) = A at *
        have hb1 : -100 < y.tmod 100 ∧ y.tmod 100 < 100 := hb1
        repeat' (first
    | (exfalso; omega) | (apply RunK.indexN; exact rfl; exact rfl; exact rfl; (first | exact rfl | exact (rfl : (0 : Int) = ((0 : Nat) : Int)) | exact (rfl : (1 : Int) = ((1 : Nat) : Int)) | exact (rfl : (2 : Int) = ((2 : Nat) : Int)) | exact (rfl : (3 : Int) = ((3 : Nat) : Int)) | assumption); (first | omega | exact lt_of_get ‹_› | (rw [List.length_map]; omega) | (simp; omega))) | (apply RunK.loadNS; exact rfl; exact rfl; assumption; exact rfl) | (apply RunK.lenNs; exact rfl; exact rfl) | (apply RunK.moveNs; exact rfl; exact rfl) | (apply RunK.assignNs; exact rfl; exact rfl) | (apply RunK.bin; exact rfl; exact rfl; exact rfl; exact BinRun.rem hn0) | (apply RunK.mul; exact rfl; exact rfl; exact rfl; (first | omega | (simp only [List.length_map]; omega)))
    | (apply Wt.regionK; exact rfl)
    | refine RunK.nil ?_
    | (apply RunK.moveV; exact rfl; exact rfl)
    | (apply RunK.index; exact rfl; exact rfl; exact rfl; (first | exact rfl | exact (rfl : (0 : Int) = ((0 : Nat) : Int)) | exact (rfl : (1 : Int) = ((1 : Nat) : Int)) | exact (rfl : (2 : Int) = ((2 : Nat) : Int)) | exact (rfl : (3 : Int) = ((3 : Nat) : Int)) | assumption); (first | omega | exact lt_of_get ‹_› | (rw [List.length_map]; omega) | (simp; omega)))
    | (apply RunK.loadE1; exact rfl; exact rfl; assumption; exact rfl)
    | (apply RunK.assignV; exact rfl; exact rfl)
    | (apply RunK.moveS; exact rfl; exact rfl)
    | (apply RunK.moveBs; exact rfl; exact rfl)
    | (apply RunK.indexS; exact rfl; exact rfl; exact rfl; (first | exact rfl | exact (rfl : (0 : Int) = ((0 : Nat) : Int)) | exact (rfl : (1 : Int) = ((1 : Nat) : Int)) | exact (rfl : (2 : Int) = ((2 : Nat) : Int)) | exact (rfl : (3 : Int) = ((3 : Nat) : Int)) | assumption); (first | omega | exact lt_of_get ‹_› | (rw [List.length_map]; omega) | (simp; omega)))
    | (apply RunK.lss; exact rfl; exact rfl; exact rfl)
    | (apply RunK.add; exact rfl; exact rfl; exact rfl; (first | omega | (simp only [List.length_map]; omega)))
    | (apply RunK.len; exact rfl; exact rfl)
    | (apply RunK.storeF; exact rfl; exact rfl; exact rfl; exact rfl; (first | exact off0 _ _ | exact off1 _ _ _ | exact off2 _ _ _ _ | exact off3 _ _ _ _ _ | omega); (first | assumption | exact map_len (fun _ => rfl)); assumption; exact rfl; exact rfl; exact rfl; (first | exact Cells.agg _ | exact Cells.int _ _ | exact Cells.bool _ | exact Cells.one _ rfl); (repeat (first | exact Upd.nil _ | apply Upd.cons | apply Upd.skip)))
    | (apply Wt.cond; exact rfl; all_goals (intro hg; (first | exact absurd hg (by decide) | skip); (first | (with_reducible replace hg := not_t hg) | (with_reducible replace hg := not_f hg) | skip); (first | (with_reducible replace hg := dec_t hg) | (with_reducible replace hg := dec_f hg) | skip); (first | (with_reducible exact absurd rfl hg) | skip); (repeat rw [List.length_map] at hg); try (exfalso; omega))))
        all_goals (refine ⟨i + 1, hit, by omega, ?_⟩; rw [← hs2]; (refine Le.mk ?_ ?_; (repeat' (first | exact LeEnv.done | (refine LeEnv.consN ?_ ?_; exact rfl) | refine LeEnv.cons ?_ ?_ | exact PVLe.refl _ | exact PVLe.s (SVLe.nil _ _ _) | exact PVLe.s (SVLe.no _ _ _ _) | (refine PVLe.int ?_; first | rfl | omega | (simp; done) | (simp; omega)) | (refine PVLe.els ?_; first | rfl | assumption | (simp; done)) | (refine PVLe.bool ?_; first | rfl | assumption) | (refine PVLe.hdE ?_; first | rfl | assumption) | (refine PVLe.bsl ?_; first | rfl | assumption | (simp; done) | (simp; omega)))); (repeat' (first | exact LeBox.done | (refine LeBox.consN ?_ ?_; exact rfl) | (refine LeBox.cons ?_ ?_; exact rfl) | (refine LeBox.consE rfl ?_ ?_; first | assumption | (refine congrArg List.flatten ?_; first | rfl | assumption | (symm; assumption)))))))
      · have hs2 : arr N.length (fun x => if x = i then (i : Int) else placeU rank i x) = arr N.length (placeU rank (i + 1)) := arr_ext fun x _ => by
          unfold placeU
          by_cases h1 : x = i
          · subst h1
            rw [if_pos rfl, if_pos (by omega)]
            unfold placeF
            rw [List.getElem?_eq_none (by omega)]
          · rw [if_neg h1]
            by_cases h2 : x < i
            · rw [if_pos h2, if_pos (by omega)]
            · rw [if_neg h2, if_neg (by omega)]
        rw [hs2]
        repeat' (first
    | (exfalso; omega) | (apply RunK.indexN; exact rfl; exact rfl; exact rfl; (first | exact rfl | exact (rfl : (0 : Int) = ((0 : Nat) : Int)) | exact (rfl : (1 : Int) = ((1 : Nat) : Int)) | exact (rfl : (2 : Int) = ((2 : Nat) : Int)) | exact (rfl : (3 : Int) = ((3 : Nat) : Int)) | assumption); (first | omega | exact lt_of_get ‹_› | (rw [List.length_map]; omega) | (simp; omega))) | (apply RunK.loadNS; exact rfl; exact rfl; assumption; exact rfl) | (apply RunK.lenNs; exact rfl; exact rfl) | (apply RunK.moveNs; exact rfl; exact rfl) | (apply RunK.assignNs; exact rfl; exact rfl)
    | (apply Wt.regionK; exact rfl)
    | refine Wt.skip ?_
    | refine RunK.nil ?_
    | (apply RunK.moveV; exact rfl; exact rfl)
    | (apply RunK.assignV; exact rfl; exact rfl)
    | (apply RunK.moveS; exact rfl; exact rfl)
    | (apply RunK.lss; exact rfl; exact rfl; exact rfl)
    | (apply RunK.add; exact rfl; exact rfl; exact rfl; (first | omega | (simp only [List.length_map]; omega)))
    | (apply RunK.len; exact rfl; exact rfl)
    | (apply Wt.cond; exact rfl; all_goals (intro hg; (first | exact absurd hg (by decide) | skip); (first | (with_reducible replace hg := not_t hg) | (with_reducible replace hg := not_f hg) | skip); (first | (with_reducible replace hg := dec_t hg) | (with_reducible replace hg := dec_f hg) | skip); (first | (with_reducible exact absurd rfl hg) | skip); (repeat rw [List.length_map] at hg); try (exfalso; omega))))
        all_goals (refine ⟨i + 1, hit, by omega, ?_⟩; (refine Le.mk ?_ ?_; (repeat' (first | exact LeEnv.done | (refine LeEnv.consN ?_ ?_; exact rfl) | refine LeEnv.cons ?_ ?_ | exact PVLe.refl _ | exact PVLe.s (SVLe.nil _ _ _) | exact PVLe.s (SVLe.no _ _ _ _) | (refine PVLe.int ?_; first | rfl | omega | (simp; done) | (simp; omega)) | (refine PVLe.els ?_; first | rfl | assumption | (simp; done)) | (refine PVLe.bool ?_; first | rfl | assumption) | (refine PVLe.hdE ?_; first | rfl | assumption) | (refine PVLe.bsl ?_; first | rfl | assumption | (simp; done) | (simp; omega)))); (repeat' (first | exact LeBox.done | (refine LeBox.consN ?_ ?_; exact rfl) | (refine LeBox.cons ?_ ?_; exact rfl) | (refine LeBox.consE rfl ?_ ?_; first | assumption | (refine congrArg List.flatten ?_; first | rfl | assumption | (symm; assumption)))))))
    · obtain rfl : i = N.length := by omega
      rw [show arr N.length (placeU rank N.length) = arr N.length (placeF rank) from arr_ext fun x hx => by unfold placeU; rw [if_pos hx]]
      clear hal0
      have hsz := (arr_len N.length (placeF rank)).symm
      refine Wt.freeze 6 6 3 rfl rfl hsz (map_len fun _ => rfl) ?_
      have hat := fun x (h : x < N.length) => arr_at (placeF rank) h
      generalize placeF rank = p at *
      generalize arr N.length p = A at *
      repeat' (first
    | (refine stopQ 10 ?_) | (apply RunK.indexN; exact rfl; exact rfl; exact rfl; (first | exact rfl | exact (rfl : (0 : Int) = ((0 : Nat) : Int)) | exact (rfl : (1 : Int) = ((1 : Nat) : Int)) | exact (rfl : (2 : Int) = ((2 : Nat) : Int)) | exact (rfl : (3 : Int) = ((3 : Nat) : Int)) | assumption); (first | omega | exact lt_of_get ‹_› | (rw [List.length_map]; omega) | (simp; omega))) | (apply RunK.loadNS; exact rfl; exact rfl; assumption; exact rfl) | (apply RunK.lenNs; exact rfl; exact rfl) | (apply RunK.moveNs; exact rfl; exact rfl) | (apply RunK.assignNs; exact rfl; exact rfl) | (apply RunK.makeSlE (n := N.length); exact rfl; exact rfl; exact rfl; exact (by simp); exact (by simp); exact (by omega); exact rfl)
    | refine Wt.seq ?_
    | (apply Wt.regionK; exact rfl)
    | refine Wt.exit ?_
    | refine RunK.nil ?_
    | (apply RunK.moveV; exact rfl; exact rfl)
    | (apply RunK.assignS; exact rfl; exact rfl)
    | (apply RunK.lss; exact rfl; exact rfl; exact rfl)
    | (apply Wt.cond; exact rfl; all_goals (intro hg; (first | exact absurd hg (by decide) | skip); (first | (with_reducible replace hg := not_t hg) | (with_reducible replace hg := not_f hg) | skip); (first | (with_reducible replace hg := dec_t hg) | (with_reducible replace hg := dec_f hg) | skip); (first | (with_reducible exact absurd rfl hg) | skip); (repeat rw [List.length_map] at hg); try (exfalso; omega))))
      refine StoppedQ.mk' ?_
      rw [nilsD]
      refine Wt.weakS (Turns.thawN 5 3000001 4 (τ := 12) rfl (gE_L (intG N)) rfl) ?_
      rintro s1 ⟨rowsL, hL, _, rfl⟩
      refine Wt.le ⟨[(5, .s (.sl (some 12) .no 1 (hds rowsL))), (6, .s (.sl (some 6) .no 1 A)), (8, .s (.sl (some 43) (.front 23) 1 (hds (List.replicate N.length NRow.nl)))), (3000001, .nest 4 1 rowsL), (2999999, .old W (keptOf [.hds none 1 m]))], []⟩ (by (refine Le.mk ?_ ?_; (repeat' (first | exact LeEnv.done | refine LeEnv.cons ?_ ?_ | exact PVLe.refl _ | exact PVLe.s (SVLe.nil _ _ _) | exact PVLe.s (SVLe.no _ _ _ _) | (refine PVLe.int ?_; first | rfl | omega | (simp; done) | (simp; omega)) | (refine PVLe.els ?_; first | rfl | assumption | (simp; done)) | (refine PVLe.bool ?_; first | rfl | assumption) | (refine PVLe.bsl ?_; first | rfl | assumption | (simp; done))));  (repeat' (first | exact LeBox.done | refine LeBox.cons ?_ ?_ | exact rfl)))) ?_
      have hrl : (List.replicate N.length NRow.nl).length = N.length := List.length_replicate
      have hG : (List.replicate N.length NRow.nl).map (·.els) = (List.range N.length).map (dnRow N p 0 0) := nils_elsD _ _ fun x => by unfold dnRow; rw [dnP_zero]; rfl
      refine Wt.weak (Turns.nestNils 3000000 3 1 0) ?_
      refine Wt.weakS (Turns.pushN 5 3000000 rfl rfl rfl rfl) ?_
      rintro s1 ⟨sp, hsp, _, rfl⟩
      refine Wt.weak (Turns.nestNils 2000001 5 1 0) ?_
      refine Wt.weakS (Turns.pushN 8 2000001 rfl rfl rfl rfl) ?_
      rintro s1 ⟨⟨A8, c8, e8⟩, hs8, _, rfl⟩
      dsimp only at hs8
      subst hs8
      refine Wt.weak (Turns.nestNils 2000002 6 1 N.length) ?_
      obtain ⟨H8, hH8⟩ : ∃ H8, ∀ rb : List NRow, rb.length = N.length → (NRow.mk A8 c8 (hds rb)).hdr = H8 := ⟨(NRow.mk A8 c8 (hds (List.replicate N.length NRow.nl))).hdr, fun rb h => by unfold NRow.hdr; rw [hdsD_len, hdsD_len, h, hrl]⟩
      rw [hH8 _ hrl]
      refine Wt.le ⟨[(5, .s (.v sp.hdr)), (6, .s (.sl (some 6) .no 1 A)), (8, .s (.v H8)), (3000000, .nest 3 1 [sp]), (3000001, .nest 4 1 rowsL), (2000001, .nest 5 1 [⟨A8, c8, hds (List.replicate N.length NRow.nl)⟩]), (2000002, .nest 6 1 (List.replicate N.length NRow.nl)), (2999999, .old W (keptOf [.hds none 1 m]))], []⟩ (by (refine Le.mk ?_ ?_; (repeat' (first | exact LeEnv.done | refine LeEnv.cons ?_ ?_ | exact PVLe.refl _ | exact PVLe.s (SVLe.nil _ _ _) | exact PVLe.s (SVLe.no _ _ _ _) | (refine PVLe.int ?_; first | rfl | omega | (simp; done) | (simp; omega)) | (refine PVLe.els ?_; first | rfl | assumption | (simp; done)) | (refine PVLe.bool ?_; first | rfl | assumption) | (refine PVLe.bsl ?_; first | rfl | assumption | (simp; done))));  (repeat' (first | exact LeBox.done | refine LeBox.cons ?_ ?_ | exact rfl)))) ?_
      have hspl : sp.els.length = N.length := by rw [hsp, hdsD_len]; have := congrArg List.length hL; simpa [intG] using this
      have hspm : sp ∈ [sp] := List.mem_singleton.2 rfl
      repeat' (first
    | (apply RunK.indexN; exact rfl; exact rfl; exact rfl; (first | exact rfl | exact (rfl : (0 : Int) = ((0 : Nat) : Int)) | exact (rfl : (1 : Int) = ((1 : Nat) : Int)) | exact (rfl : (2 : Int) = ((2 : Nat) : Int)) | exact (rfl : (3 : Int) = ((3 : Nat) : Int)) | assumption); (first | omega | exact lt_of_get ‹_› | (rw [List.length_map]; omega) | (simp; omega))) | (apply RunK.loadNS; exact rfl; exact rfl; assumption; exact rfl) | (apply RunK.lenNs; exact rfl; exact rfl) | (apply RunK.moveNs; exact rfl; exact rfl) | (apply RunK.assignNs; exact rfl; exact rfl)
    | (apply Wt.regionK; exact rfl)
    | refine Wt.block ?_
    | refine RunK.nil ?_
    | (apply RunK.assignV; exact rfl; exact rfl))
      refine Wt.loop (fun i : Nat × List NRow => ⟨[(5, .s (.v sp.hdr)), (6, .s (.sl (some 6) .no 1 A)), (8, .s (.v H8)), (9, .s (.v (.int .i64 i.1))), (3000000, .nest 3 1 [sp]), (3000001, .nest 4 1 rowsL), (2000001, .nest 5 1 [⟨A8, c8, hds i.2⟩]), (2000002, .nest 6 1 i.2), (2999999, .old W (keptOf [.hds none 1 m]))], []⟩) (fun i => i.1 ≤ N.length ∧ i.2.map (·.els) = (List.range N.length).map (dnRow N p i.1 0)) (fun i => N.length - i.1) (0, List.replicate N.length NRow.nl) ⟨Nat.zero_le _, hG⟩ ?_ ?_
      · (refine Le.mk ?_ ?_; (repeat' (first | exact LeEnv.done | refine LeEnv.cons ?_ ?_ | exact PVLe.refl _ | exact PVLe.s (SVLe.nil _ _ _) | exact PVLe.s (SVLe.no _ _ _ _) | (refine PVLe.int ?_; first | rfl | omega | (simp; done) | (simp; omega)) | (refine PVLe.els ?_; first | rfl | assumption | (simp; done)) | (refine PVLe.bool ?_; first | rfl | assumption) | (refine PVLe.bsl ?_; first | rfl | assumption | (simp; done))));  (repeat' (first | exact LeBox.done | refine LeBox.cons ?_ ?_ | exact rfl)))
      · clear hG
        rintro ⟨i, rb⟩ ⟨hi, hG⟩
        dsimp only at hi hG ⊢
        by_cases hlt : i < N.length
        · obtain ⟨r, hri⟩ := exists_at hlt
          have hgd := getD_of hri (d := [])
          obtain ⟨q, hq, hqm, hqe, hqh⟩ := els_at hL (intG_at hri)
          have hspi : sp.els[i]? = some [q.hdr] := by rw [hsp]; exact hqh
          have hql : q.els.length = r.length := by rw [hqe]; simp [intR]
          have hr30 := hr30 r (List.mem_of_getElem? hri)
          refine Wt.weakS (rowSomeD 2000001 rfl) ?_
          rintro s1 ⟨rfl, hA8⟩
          obtain ⟨⟨pb, ob⟩, hA8⟩ := hA8 _ (List.mem_singleton.2 rfl) (fun h => by have h : hds rb = [] := h; have := congrArg List.length h; rw [hdsD_len, rowsD_len hG] at this; rw [this] at hlt; exact absurd hlt (Nat.not_lt_zero _))
          dsimp only at hA8
          subst hA8
          have e8 : ∀ rb : List NRow, rb.length = N.length → (NRow.mk (some (pb, ob)) c8 (hds rb)).hdr = Value.slice (some ⟨pb, ob, none⟩) N.length c8 := fun rb h => by unfold NRow.hdr; rw [hdsD_len, h]; rfl
          obtain rfl : H8 = Value.slice (some ⟨pb, ob, none⟩) N.length c8 := by rw [← hH8 rb (rowsD_len hG), e8 rb (rowsD_len hG)]
          clear hH8
          repeat' (first
    | (apply RunK.indexN; exact rfl; exact rfl; exact rfl; (first | exact rfl | exact (rfl : (0 : Int) = ((0 : Nat) : Int)) | exact (rfl : (1 : Int) = ((1 : Nat) : Int)) | exact (rfl : (2 : Int) = ((2 : Nat) : Int)) | exact (rfl : (3 : Int) = ((3 : Nat) : Int)) | assumption); (first | omega | exact lt_of_get ‹_› | (rw [List.length_map]; omega) | (simp; omega))) | (apply RunK.loadNS; exact rfl; exact rfl; assumption; exact rfl) | (apply RunK.lenNs; exact rfl; exact rfl) | (apply RunK.moveNs; exact rfl; exact rfl) | (apply RunK.assignNs; exact rfl; exact rfl) | (apply RunK.lenK; exact rfl; exact rfl)
    | refine Wt.seq ?_
    | (apply Wt.regionK; exact rfl)
    | refine Wt.block ?_
    | refine Wt.skip ?_
    | refine RunK.nil ?_
    | (apply RunK.moveV; exact rfl; exact rfl)
    | (apply RunK.assignV; exact rfl; exact rfl)
    | (apply RunK.lss; exact rfl; exact rfl; exact rfl)
    | (apply Wt.cond; exact rfl; all_goals (intro hg; (first | exact absurd hg (by decide) | skip); (first | (with_reducible replace hg := not_t hg) | (with_reducible replace hg := not_f hg) | skip); (first | (with_reducible replace hg := dec_t hg) | (with_reducible replace hg := dec_f hg) | skip); (first | (with_reducible exact absurd rfl hg) | skip); (repeat rw [List.length_map] at hg); try (exfalso; omega))))
          refine Wt.loop (fun k : Nat × List NRow => ⟨[(5, .s (.v sp.hdr)), (6, .s (.sl (some 6) .no 1 A)), (8, .s (.v (.slice (some ⟨pb, ob, none⟩) N.length c8))), (9, .s (.v (.int .i64 i))), (10, .s (.v (.int .i64 k.1))), (3000000, .nest 3 1 [sp]), (3000001, .nest 4 1 rowsL), (2000001, .nest 5 1 [⟨some (pb, ob), c8, hds k.2⟩]), (2000002, .nest 6 1 k.2), (2999999, .old W (keptOf [.hds none 1 m]))], []⟩) (fun k => k.1 ≤ r.length ∧ k.2.map (·.els) = (List.range N.length).map (dnRow N p i k.1)) (fun k => r.length - k.1) (0, rb) ⟨Nat.zero_le _, hG⟩ ?_ ?_
          · (refine Le.mk ?_ ?_; (repeat' (first | exact LeEnv.done | refine LeEnv.cons ?_ ?_ | exact PVLe.refl _ | exact PVLe.s (SVLe.nil _ _ _) | exact PVLe.s (SVLe.no _ _ _ _) | (refine PVLe.int ?_; first | rfl | omega | (simp; done) | (simp; omega)) | (refine PVLe.els ?_; first | rfl | assumption | (simp; done)) | (refine PVLe.bool ?_; first | rfl | assumption) | (refine PVLe.bsl ?_; first | rfl | assumption | (simp; done))));  (repeat' (first | exact LeBox.done | refine LeBox.cons ?_ ?_ | exact rfl)))
          · clear hA8 hG rb
            rintro ⟨k, rb⟩ ⟨hk, hG⟩
            dsimp only at hk hG ⊢
            by_cases hkt : k < r.length
            · obtain ⟨x, hxk⟩ := exists_at hkt
              have hxn : x < N.length := hN _ _ (edge_of hri hxk)
              have hqk : q.els[k]? = some [.int .i64 (x : Int)] := by rw [hqe]; exact int_get hxk
              have hax := hat x hxn
              have hai := hat i hlt
              obtain ⟨qo, hoa, hom, hoe, hoh⟩ := rowsD_at hG hlt
              have hol : qo.els.length ≤ 30 := by
                rw [hoe]; unfold dnRow; rw [List.length_map, intR, List.length_map]; exact dnP_len hrow i k i
              by_cases hpl : p x < p i
              · repeat' (first
    | (exact absurd hpl hg) | (refine stopQ 17 ?_) | (apply Wt.regionQ; exact hm2; kernel_rfl; exact rfl; exact rfl; exact rfl) | (apply RunK.indexN; exact rfl; exact rfl; exact rfl; (first | exact rfl | exact (rfl : (0 : Int) = ((0 : Nat) : Int)) | exact (rfl : (1 : Int) = ((1 : Nat) : Int)) | exact (rfl : (2 : Int) = ((2 : Nat) : Int)) | exact (rfl : (3 : Int) = ((3 : Nat) : Int)) | assumption); (first | omega | exact lt_of_get ‹_› | (rw [List.length_map]; omega) | (simp; omega))) | (apply RunK.loadNS; exact rfl; exact rfl; assumption; exact rfl) | (apply RunK.lenNs; exact rfl; exact rfl) | (apply RunK.moveNs; exact rfl; exact rfl) | (apply RunK.assignNs; exact rfl; exact rfl) | (apply RunK.lenK; exact rfl; exact rfl) | (apply RunK.idxN 3000000; exact rfl; exact rfl; exact rfl; (first | exact rfl | exact (rfl : (0 : Int) = ((0 : Nat) : Int)) | exact (rfl : (1 : Int) = ((1 : Nat) : Int)) | exact (rfl : (2 : Int) = ((2 : Nat) : Int)) | exact (rfl : (3 : Int) = ((3 : Nat) : Int)) | assumption); exact rfl; exact rfl; assumption; assumption) | (apply RunK.idxN 3000001; exact rfl; exact rfl; exact rfl; (first | exact rfl | exact (rfl : (0 : Int) = ((0 : Nat) : Int)) | exact (rfl : (1 : Int) = ((1 : Nat) : Int)) | exact (rfl : (2 : Int) = ((2 : Nat) : Int)) | exact (rfl : (3 : Int) = ((3 : Nat) : Int)) | assumption); exact rfl; exact rfl; assumption; assumption) | (apply RunK.loadRN 3000000; exact rfl; exact rfl; exact rfl; exact rfl; assumption; assumption) | (apply RunK.loadRN 3000001; exact rfl; exact rfl; exact rfl; exact rfl; assumption; assumption)
    | refine Wt.seq ?_
    | (apply Wt.regionK; exact rfl)
    | refine Wt.block ?_
    | refine Wt.skip ?_
    | refine RunK.nil ?_
    | (apply RunK.moveV; exact rfl; exact rfl)
    | (apply RunK.index; exact rfl; exact rfl; exact rfl; (first | exact rfl | exact (rfl : (0 : Int) = ((0 : Nat) : Int)) | exact (rfl : (1 : Int) = ((1 : Nat) : Int)) | exact (rfl : (2 : Int) = ((2 : Nat) : Int)) | exact (rfl : (3 : Int) = ((3 : Nat) : Int)) | assumption); (first | omega | exact lt_of_get ‹_› | (rw [List.length_map]; omega) | (simp; omega)))
    | (apply RunK.loadE1; exact rfl; exact rfl; assumption; exact rfl)
    | (apply RunK.moveS; exact rfl; exact rfl)
    | (apply RunK.lss; exact rfl; exact rfl; exact rfl)
    | (apply Wt.cond; exact rfl; all_goals (intro hg; (first | exact absurd hg (by decide) | skip); (first | (with_reducible replace hg := not_t hg) | (with_reducible replace hg := not_f hg) | skip); (first | (with_reducible replace hg := dec_t hg) | (with_reducible replace hg := dec_f hg) | skip); (first | (with_reducible exact absurd rfl hg) | skip); (repeat rw [List.length_map] at hg); try (exfalso; omega))))
                refine StoppedQ.mk' ?_
                refine Wt.le ⟨[(5, .s (.v sp.hdr)), (6, .s (.sl (some 6) .no 1 A)), (8, .s (.v (.slice (some ⟨pb, ob, none⟩) N.length c8))), (9, .s (.v (.int .i64 i))), (10, .s (.v (.int .i64 k))), (3000000, .nest 3 1 [sp]), (3000001, .nest 4 1 rowsL), (2000001, .nest 5 1 [⟨some (pb, ob), c8, hds rb⟩]), (2000002, .nest 6 1 rb), (2999999, .old W (keptOf [.hds none 1 m]))], []⟩ (by (refine Le.mk ?_ ?_; (repeat' (first | exact LeEnv.done | refine LeEnv.cons ?_ ?_ | exact PVLe.refl _ | exact PVLe.s (SVLe.nil _ _ _) | exact PVLe.s (SVLe.no _ _ _ _) | (refine PVLe.int ?_; first | rfl | omega | (simp; done) | (simp; omega)) | (refine PVLe.els ?_; first | rfl | assumption | (simp; done)) | (refine PVLe.bool ?_; first | rfl | assumption) | (refine PVLe.bsl ?_; first | rfl | assumption | (simp; done))));  (repeat' (first | exact LeBox.done | refine LeBox.cons ?_ ?_ | exact rfl)))) ?_
                refine Wt.regionS (i := 17) ⟨[(5, .s (.v sp.hdr)), (8, .s (.v (.slice (some ⟨pb, ob, none⟩) N.length c8))), (9, .s (.v (.int .i64 i))), (10, .s (.v (.int .i64 k))), (3000000, .nest 3 1 [sp]), (3000001, .nest 4 1 rowsL)], []⟩ [0, 1, 2, 3, 4, 6, 7, 8, 9, 10, 11, 12] [5, 13, 14, 15, 16] hm2 rfl (by decide +kernel) (by kernel_rfl) (CalmLe.of rfl fun p hp => (by simp only [List.mem_cons, List.not_mem_nil, or_false] at hp; rcases hp with rfl | rfl | rfl | rfl | rfl | rfl <;> exact ⟨by dsimp only; omega, rfl, rfl⟩)) fun K hK hN => ?_
                iterate 12 (apply CalmRun.cons; (case hi => exact rfl); (case hp => (apply PStep.of_run; exact rfl; exact rfl; exact rfl; exact rfl; exact rfl; (first | (first | (apply RunK.moveV; exact rfl; exact rfl) | (apply idxD; exact rfl; exact rfl; exact rfl; (first | exact rfl | exact (rfl : (0 : Int) = ((0 : Nat) : Int)) | exact (rfl : (1 : Int) = ((1 : Nat) : Int)) | exact (rfl : (2 : Int) = ((2 : Nat) : Int)) | exact (rfl : (3 : Int) = ((3 : Nat) : Int)) | assumption); assumption) | (apply RunK.idxN 3000000; exact rfl; exact rfl; exact rfl; (first | exact rfl | exact (rfl : (0 : Int) = ((0 : Nat) : Int)) | exact (rfl : (1 : Int) = ((1 : Nat) : Int)) | exact (rfl : (2 : Int) = ((2 : Nat) : Int)) | exact (rfl : (3 : Int) = ((3 : Nat) : Int)) | assumption); exact rfl; exact rfl; assumption; assumption) | (apply RunK.idxN 3000001; exact rfl; exact rfl; exact rfl; (first | exact rfl | exact (rfl : (0 : Int) = ((0 : Nat) : Int)) | exact (rfl : (1 : Int) = ((1 : Nat) : Int)) | exact (rfl : (2 : Int) = ((2 : Nat) : Int)) | exact (rfl : (3 : Int) = ((3 : Nat) : Int)) | assumption); exact rfl; exact rfl; assumption; assumption) | (apply RunK.loadRN 3000000; exact rfl; exact rfl; exact rfl; exact rfl; assumption; assumption) | (apply RunK.loadRN 3000001; exact rfl; exact rfl; exact rfl; exact rfl; assumption; assumption))); (refine RunK.nil ?_); exact rfl)); (case hb => kernel_rfl))
                dsimp only [St.put]
                refine CalmRun.rest [5, 13, 14, 15, 16] (by decide +kernel) hK rfl rfl (by kernel_rfl) (by kernel_rfl) ?_
                repeat' (first
    | (apply RunK.loadRN 2000001 (r := ⟨some (pb, ob), c8, hds rb⟩); exact rfl; exact rfl; exact rfl; exact rfl; exact List.mem_singleton.2 rfl; exact hoh) | (apply idxD; exact rfl; exact rfl; exact rfl; (first | exact rfl | exact (rfl : (0 : Int) = ((0 : Nat) : Int)) | exact (rfl : (1 : Int) = ((1 : Nat) : Int)) | exact (rfl : (2 : Int) = ((2 : Nat) : Int)) | exact (rfl : (3 : Int) = ((3 : Nat) : Int)) | assumption); assumption) | (apply RunK.appendRN 2000002 900001 (i := i); (case hw => exact rfl); (case he => (first | exact (fun _ => rfl) | exact (fun h => nomatch h))); (case hx => exact rfl); (case htx => exact rfl); (case hk => exact rfl); (case hi => exact hoa); (case hh => exact rfl); (case hn => exact rfl); (case hnt => exact rfl); (case hd0 => exact rfl); (case hdx => exact rfl); (case hy => (first | exact ReadLe.sl _ _ _ _ | exact ReadLe.nil _)); (case hone => exact one_rows rfl); (case hb => (simp only [List.length_cons, List.length_nil]; omega)); intro ra hra hrc) | (apply RunK.storeRN 2000001 (i := 0) (j := i) (r := ⟨some (pb, ob), c8, hds rb⟩); (case hw => exact rfl); (case hx => exact rfl); (case hy => exact rfl); (case hk => exact rfl); (case hi => exact rfl); (case hj => exact hoh); (case hc => exact rfl); (case ho => exact NRow.hdr_one _); (case hn => exact rfl); (case hh => exact rfl)) | (refine hN _ ?_) | (refine stopQ 15 ?_)
    | refine RunK.nil ?_
    | (apply RunK.rows; exact rfl; exact rfl; (repeat (first | exact PartsOk.nil | (apply PartsOk.cons; exact rfl) | (apply PartsOk.consN; exact rfl))); (repeat (first | exact Rows.nil _ | (apply Rows.cons; (first | exact Cells.agg _ | exact Cells.int _ _ | exact Cells.bool _ | exact Cells.one _ rfl); exact rfl))); exact rfl; exact rfl))
                refine StoppedQ.mk' ?_
                repeat' (first
    | (apply RunK.indexN; exact rfl; exact rfl; exact rfl; (first | exact rfl | exact (rfl : (0 : Int) = ((0 : Nat) : Int)) | exact (rfl : (1 : Int) = ((1 : Nat) : Int)) | exact (rfl : (2 : Int) = ((2 : Nat) : Int)) | exact (rfl : (3 : Int) = ((3 : Nat) : Int)) | assumption); (first | omega | exact lt_of_get ‹_› | (rw [List.length_map]; omega) | (simp; omega))) | (apply RunK.loadNS; exact rfl; exact rfl; assumption; exact rfl) | (apply RunK.lenNs; exact rfl; exact rfl) | (apply RunK.moveNs; exact rfl; exact rfl) | (apply RunK.assignNs; exact rfl; exact rfl)
    | (apply Wt.regionK; exact rfl)
    | refine RunK.nil ?_
    | (apply RunK.moveV; exact rfl; exact rfl)
    | (apply RunK.assignV; exact rfl; exact rfl)
    | (apply RunK.add; exact rfl; exact rfl; exact rfl; (first | omega | (simp only [List.length_map]; omega))))
                refine ⟨(k + 1, rb.set i ra), ⟨hkt, ?_⟩, by dsimp only; omega, ?_⟩
                · refine rowsD_set hG (fun z hz hne => ?_) ?_
                  · unfold dnRow; rw [dnP_next (by rw [hgd]; exact hxk), if_neg fun q => hne q.1]
                  · unfold dnRow; rw [dnP_next (by rw [hgd]; exact hxk), if_pos ⟨rfl, hpl⟩, hra, hoe]; simp [dnRow, intR, ival]
                · dsimp only
                  rw [← hdsD_set]
                  (refine Le.mk ?_ ?_; (repeat' (first | exact LeEnv.done | refine LeEnv.cons ?_ ?_ | exact PVLe.refl _ | exact PVLe.s (SVLe.nil _ _ _) | exact PVLe.s (SVLe.no _ _ _ _) | (refine PVLe.int ?_; first | rfl | omega | (simp; done) | (simp; omega)) | (refine PVLe.els ?_; first | rfl | assumption | (simp; done)) | (refine PVLe.bool ?_; first | rfl | assumption) | (refine PVLe.bsl ?_; first | rfl | assumption | (simp; done))));  (repeat' (first | exact LeBox.done | refine LeBox.cons ?_ ?_ | exact rfl)))
              · repeat' (first
    | (exact absurd hg hpl) | (apply Wt.regionQ; exact hm2; kernel_rfl; exact rfl; exact rfl; exact rfl) | (apply RunK.indexN; exact rfl; exact rfl; exact rfl; (first | exact rfl | exact (rfl : (0 : Int) = ((0 : Nat) : Int)) | exact (rfl : (1 : Int) = ((1 : Nat) : Int)) | exact (rfl : (2 : Int) = ((2 : Nat) : Int)) | exact (rfl : (3 : Int) = ((3 : Nat) : Int)) | assumption); (first | omega | exact lt_of_get ‹_› | (rw [List.length_map]; omega) | (simp; omega))) | (apply RunK.loadNS; exact rfl; exact rfl; assumption; exact rfl) | (apply RunK.lenNs; exact rfl; exact rfl) | (apply RunK.moveNs; exact rfl; exact rfl) | (apply RunK.assignNs; exact rfl; exact rfl) | (apply RunK.lenK; exact rfl; exact rfl) | (apply RunK.idxN 3000000; exact rfl; exact rfl; exact rfl; (first | exact rfl | exact (rfl : (0 : Int) = ((0 : Nat) : Int)) | exact (rfl : (1 : Int) = ((1 : Nat) : Int)) | exact (rfl : (2 : Int) = ((2 : Nat) : Int)) | exact (rfl : (3 : Int) = ((3 : Nat) : Int)) | assumption); exact rfl; exact rfl; assumption; assumption) | (apply RunK.idxN 3000001; exact rfl; exact rfl; exact rfl; (first | exact rfl | exact (rfl : (0 : Int) = ((0 : Nat) : Int)) | exact (rfl : (1 : Int) = ((1 : Nat) : Int)) | exact (rfl : (2 : Int) = ((2 : Nat) : Int)) | exact (rfl : (3 : Int) = ((3 : Nat) : Int)) | assumption); exact rfl; exact rfl; assumption; assumption) | (apply RunK.loadRN 3000000; exact rfl; exact rfl; exact rfl; exact rfl; assumption; assumption) | (apply RunK.loadRN 3000001; exact rfl; exact rfl; exact rfl; exact rfl; assumption; assumption)
    | refine Wt.seq ?_
    | (apply Wt.regionK; exact rfl)
    | refine Wt.block ?_
    | refine Wt.skip ?_
    | refine RunK.nil ?_
    | (apply RunK.moveV; exact rfl; exact rfl)
    | (apply RunK.index; exact rfl; exact rfl; exact rfl; (first | exact rfl | exact (rfl : (0 : Int) = ((0 : Nat) : Int)) | exact (rfl : (1 : Int) = ((1 : Nat) : Int)) | exact (rfl : (2 : Int) = ((2 : Nat) : Int)) | exact (rfl : (3 : Int) = ((3 : Nat) : Int)) | assumption); (first | omega | exact lt_of_get ‹_› | (rw [List.length_map]; omega) | (simp; omega)))
    | (apply RunK.loadE1; exact rfl; exact rfl; assumption; exact rfl)
    | (apply RunK.assignV; exact rfl; exact rfl)
    | (apply RunK.moveS; exact rfl; exact rfl)
    | (apply RunK.lss; exact rfl; exact rfl; exact rfl)
    | (apply RunK.add; exact rfl; exact rfl; exact rfl; (first | omega | (simp only [List.length_map]; omega)))
    | (apply Wt.cond; exact rfl; all_goals (intro hg; (first | exact absurd hg (by decide) | skip); (first | (with_reducible replace hg := not_t hg) | (with_reducible replace hg := not_f hg) | skip); (first | (with_reducible replace hg := dec_t hg) | (with_reducible replace hg := dec_f hg) | skip); (first | (with_reducible exact absurd rfl hg) | skip); (repeat rw [List.length_map] at hg); try (exfalso; omega))))
                refine ⟨(k + 1, rb), ⟨hkt, ?_⟩, by dsimp only; omega, ?_⟩
                · dsimp only; rw [hG]; refine List.map_congr_left fun z _ => ?_; unfold dnRow; rw [dnP_next (by rw [hgd]; exact hxk), if_neg fun q => hpl q.2]
                · dsimp only
                  (refine Le.mk ?_ ?_; (repeat' (first | exact LeEnv.done | refine LeEnv.cons ?_ ?_ | exact PVLe.refl _ | exact PVLe.s (SVLe.nil _ _ _) | exact PVLe.s (SVLe.no _ _ _ _) | (refine PVLe.int ?_; first | rfl | omega | (simp; done) | (simp; omega)) | (refine PVLe.els ?_; first | rfl | assumption | (simp; done)) | (refine PVLe.bool ?_; first | rfl | assumption) | (refine PVLe.bsl ?_; first | rfl | assumption | (simp; done))));  (repeat' (first | exact LeBox.done | refine LeBox.cons ?_ ?_ | exact rfl)))
            · obtain rfl : k = r.length := by omega
              repeat' (first
    | (apply Wt.regionQ; exact hm2; kernel_rfl; exact rfl; exact rfl; exact rfl) | (apply RunK.indexN; exact rfl; exact rfl; exact rfl; (first | exact rfl | exact (rfl : (0 : Int) = ((0 : Nat) : Int)) | exact (rfl : (1 : Int) = ((1 : Nat) : Int)) | exact (rfl : (2 : Int) = ((2 : Nat) : Int)) | exact (rfl : (3 : Int) = ((3 : Nat) : Int)) | assumption); (first | omega | exact lt_of_get ‹_› | (rw [List.length_map]; omega) | (simp; omega))) | (apply RunK.loadNS; exact rfl; exact rfl; assumption; exact rfl) | (apply RunK.lenNs; exact rfl; exact rfl) | (apply RunK.moveNs; exact rfl; exact rfl) | (apply RunK.assignNs; exact rfl; exact rfl) | (apply RunK.lenK; exact rfl; exact rfl) | (apply RunK.idxN 3000000; exact rfl; exact rfl; exact rfl; (first | exact rfl | exact (rfl : (0 : Int) = ((0 : Nat) : Int)) | exact (rfl : (1 : Int) = ((1 : Nat) : Int)) | exact (rfl : (2 : Int) = ((2 : Nat) : Int)) | exact (rfl : (3 : Int) = ((3 : Nat) : Int)) | assumption); exact rfl; exact rfl; assumption; assumption) | (apply RunK.idxN 3000001; exact rfl; exact rfl; exact rfl; (first | exact rfl | exact (rfl : (0 : Int) = ((0 : Nat) : Int)) | exact (rfl : (1 : Int) = ((1 : Nat) : Int)) | exact (rfl : (2 : Int) = ((2 : Nat) : Int)) | exact (rfl : (3 : Int) = ((3 : Nat) : Int)) | assumption); exact rfl; exact rfl; assumption; assumption) | (apply RunK.loadRN 3000000; exact rfl; exact rfl; exact rfl; exact rfl; assumption; assumption) | (apply RunK.loadRN 3000001; exact rfl; exact rfl; exact rfl; exact rfl; assumption; assumption)
    | refine Wt.seq ?_
    | (apply Wt.regionK; exact rfl)
    | refine Wt.exit ?_
    | refine RunK.nil ?_
    | (apply RunK.moveV; exact rfl; exact rfl)
    | (apply RunK.assignV; exact rfl; exact rfl)
    | (apply RunK.lss; exact rfl; exact rfl; exact rfl)
    | (apply RunK.add; exact rfl; exact rfl; exact rfl; (first | omega | (simp only [List.length_map]; omega)))
    | (apply Wt.cond; exact rfl; all_goals (intro hg; (first | exact absurd hg (by decide) | skip); (first | (with_reducible replace hg := not_t hg) | (with_reducible replace hg := not_f hg) | skip); (first | (with_reducible replace hg := dec_t hg) | (with_reducible replace hg := dec_f hg) | skip); (first | (with_reducible exact absurd rfl hg) | skip); (repeat rw [List.length_map] at hg); try (exfalso; omega))))
              refine ⟨(i + 1, rb), ⟨hlt, ?_⟩, by dsimp only; omega, ?_⟩
              · dsimp only; rw [hG]; refine List.map_congr_left fun z _ => ?_; unfold dnRow; rw [← hgd, dnP_row]
              · dsimp only
                (refine Le.mk ?_ ?_; (repeat' (first | exact LeEnv.done | refine LeEnv.cons ?_ ?_ | exact PVLe.refl _ | exact PVLe.s (SVLe.nil _ _ _) | exact PVLe.s (SVLe.no _ _ _ _) | (refine PVLe.int ?_; first | rfl | omega | (simp; done) | (simp; omega)) | (refine PVLe.els ?_; first | rfl | assumption | (simp; done)) | (refine PVLe.bool ?_; first | rfl | assumption) | (refine PVLe.bsl ?_; first | rfl | assumption | (simp; done))));  (repeat' (first | exact LeBox.done | refine LeBox.cons ?_ ?_ | exact rfl)))
        · obtain rfl : i = N.length := by omega
          have hbl := rowsD_len hG
          repeat' (first
    | (refine stopQ 18 ?_) | (apply RunK.indexN; exact rfl; exact rfl; exact rfl; (first | exact rfl | exact (rfl : (0 : Int) = ((0 : Nat) : Int)) | exact (rfl : (1 : Int) = ((1 : Nat) : Int)) | exact (rfl : (2 : Int) = ((2 : Nat) : Int)) | exact (rfl : (3 : Int) = ((3 : Nat) : Int)) | assumption); (first | omega | exact lt_of_get ‹_› | (rw [List.length_map]; omega) | (simp; omega))) | (apply RunK.loadNS; exact rfl; exact rfl; assumption; exact rfl) | (apply RunK.lenNs; exact rfl; exact rfl) | (apply RunK.moveNs; exact rfl; exact rfl) | (apply RunK.assignNs; exact rfl; exact rfl) | (apply RunK.lenK; exact rfl; exact rfl)
    | refine Wt.seq ?_
    | (apply Wt.regionK; exact rfl)
    | refine Wt.exit ?_
    | refine RunK.nil ?_
    | (apply RunK.moveV; exact rfl; exact rfl)
    | (apply RunK.lss; exact rfl; exact rfl; exact rfl)
    | (apply Wt.cond; exact rfl; all_goals (intro hg; (first | exact absurd hg (by decide) | skip); (first | (with_reducible replace hg := not_t hg) | (with_reducible replace hg := not_f hg) | skip); (first | (with_reducible replace hg := dec_t hg) | (with_reducible replace hg := dec_f hg) | skip); (first | (with_reducible exact absurd rfl hg) | skip); (repeat rw [List.length_map] at hg); try (exfalso; omega))))
          refine StoppedQ.mk' ?_
          rw [← hH8 rb hbl]
          refine Wt.weak (Turns.takeN 8 2000001 8 0 23 (r := ⟨A8, c8, hds rb⟩) rfl rfl rfl rfl rfl rfl) ?_
          refine Wt.weak (Turns.freezeN 8 2000002 8 rfl rfl rfl hG rfl) ?_
          have eB : ((List.range N.length).map (dnRow N p N.length 0)).map (fun e => [EV.sl 1 e]) = gE (intG (downN N p)) := by
            have : (List.range N.length).map (dnRow N p N.length 0) = (List.range N.length).map (fun x => (intR (dnf p x (N.getD x []))).map ival) := List.map_congr_left fun x hx => by unfold dnRow; rw [dnP_all (List.mem_range.1 hx)]
            rw [this]; unfold downN; simp only [gE, intG, List.map_map]; rfl
          rw [eB]
          repeat' (first
    | (apply RunK.indexN; exact rfl; exact rfl; exact rfl; (first | exact rfl | exact (rfl : (0 : Int) = ((0 : Nat) : Int)) | exact (rfl : (1 : Int) = ((1 : Nat) : Int)) | exact (rfl : (2 : Int) = ((2 : Nat) : Int)) | exact (rfl : (3 : Int) = ((3 : Nat) : Int)) | assumption); (first | omega | exact lt_of_get ‹_› | (rw [List.length_map]; omega) | (simp; omega))) | (apply RunK.loadNS; exact rfl; exact rfl; assumption; exact rfl) | (apply RunK.lenNs; exact rfl; exact rfl) | (apply RunK.moveNs; exact rfl; exact rfl) | (apply RunK.assignNs; exact rfl; exact rfl)
    | (apply Wt.regionK; exact rfl)
    | refine Wt.ret ?_
    | refine RunK.nil ?_)
          all_goals exact ActEnd.mk (.s (graphR (intG (downN N p)))) [] rfl (by apply ResOk.g1; exact rfl; exact rfl; exact rfl) rfl rfl .nil (.hds .nil)
end Go.Proofs.Ytfokjpmcifkoeaa
