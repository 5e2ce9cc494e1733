/- The walk of the law SheetNew. -/
import Derived.Test.YtnpbnlmhmjejhaaSX
namespace Go.Proofs.Ytnpbnlmhmjejhaa
open Pv Go.RowKit
set_option maxRecDepth 100000 in
theorem list5 {e : List Value} (h : e.length = 5) : ∃ a1 a2 a3 a4 a5, e = [a1, a2, a3, a4, a5] := by
  match e, h with
  | [a1, a2, a3, a4, a5], _ => exact ⟨a1, a2, a3, a4, a5, rfl⟩
set_option maxRecDepth 100000 in
theorem eqGuard_bool {op : BinOp} {t : TypeId} {x y : Operand} {a b : Bool} (w : World) : (eqGuard op t x y (.bool a) (.bool b)).run Try.prog w = .ok () w := by
  unfold eqGuard
  cases op <;> rfl
set_option maxRecDepth 100000 in
theorem neqBool_ {x y : Operand} (a : Bool) : BinRun Try.prog .neq 4 x y (.bool a) (.bool a) (.bool false) := fun w => by
  rw [Sem.run_bind, eqGuard_bool]
  cases a <;> go_simp
set_option maxRecDepth 100000 in
theorem lawSNew (l : List Cell) (hl : l.length * 48 ≤ 140737488351232) (hok : ∀ c ∈ l, c.ok) : Pure Try.prog 3 [cells l] (.s (.v (.bool true))) := by
  by_cases h80 : l.length ≤ 80
  · have hn1 := shNew l (by omega)
    have hn2 := rfNew l (by omega) hok
    have e1 := equalCells l l (by omega) (by omega)
    rw [decide_eq_true rfl] at e1
    refine pure_of_wt Try.func3 rfl (by decide) _ Try.ntmps3 rfl Try.results3 fun w0 => ?_
    repeat' (first
    | (apply RunK.callS; exact rfl; exact rfl; exact lawKnown; (repeat (first | exact ArgsLe.nil | refine ArgsLe.cons ?_ ?_ | exact ArgLe.v _ | exact ArgLe.sl _ _ _ _ | exact ArgLe.nil _ | exact ArgLe.nil' | (apply ArgLe.bsl; exact rfl; (first | exact rfl | (rw [List.length_map]; done) | (simp only [List.length_map]; done) | (simp; done) | (simp; omega)); (first | assumption | exact map_len (fun _ => rfl))))); exact rfl) | (apply RunK.append; exact rfl; exact rfl; exact rfl; (first | exact ReadLe.sl _ _ _ _ | exact ReadLe.nil _); exact rfl; exact one_map (fun _ => rfl) _; (show (0 + (l.map Cell.vals).length) * _ ≤ _; rw [List.length_map]; omega)) | (apply RunK.actF [2000010, 2000011] 900001 hn1; (case hw => exact rfl); (case he => first | exact (fun h => by cases h) | exact fun _ => rfl); (case hx => exact rfl); (case ha => (repeat (first | exact ArgsLe.nil | refine ArgsLe.cons ?_ ?_ | exact ArgLe.v _ | exact ArgLe.sl _ _ _ _ | exact ArgLe.nil _ | exact ArgLe.nil' | (apply ArgLe.bsl; exact rfl; (first | exact rfl | (rw [List.length_map]; done) | (simp only [List.length_map]; done) | (simp; done) | (simp; omega)); (first | assumption | exact map_len (fun _ => rfl)))))); (case hf => exact .nil); (case hap => exact ApartE.nil _))
    | refine Wt.seq ?_
    | (apply Wt.regionK; exact rfl)
    | refine Wt.skip ?_
    | refine RunK.nil ?_
    | (apply RunK.assignV; exact rfl; exact rfl)
    | (apply RunK.moveS; exact rfl; exact rfl)
    | (apply RunK.assignS; exact rfl; exact rfl)
    | (apply RunK.gtr; exact rfl; exact rfl; exact rfl)
    | (apply RunK.len; exact rfl; exact rfl)
    | (apply RunK.rows; exact rfl; (repeat (first | exact PartsOk.nil | (apply PartsOk.cons; exact rfl))); (repeat (first | exact Rows.nil _ | (apply Rows.cons; (first | exact Cells.agg _ | exact Cells.int _ _ | exact Cells.bool _ | exact Cells.one _ rfl); exact rfl))); exact rfl; exact rfl)
    | (apply Wt.cond; exact rfl; all_goals (intro hg; (first | exact absurd hg (by decide) | skip); (first | (with_reducible replace hg := not_t hg) | (with_reducible replace hg := not_f hg) | skip); (first | (with_reducible replace hg := dec_t hg) | (with_reducible replace hg := dec_f hg) | skip); (first | (with_reducible exact absurd rfl hg) | skip); (repeat rw [List.length_map] at hg); try (exfalso; omega))))
    intro r1 f1 hK1 _
    unfold NewK at hK1
    by_cases hE : newE [] l = 0
    · rw [if_pos hE] at hK1
      obtain ⟨pb, b, es, cl, hS, hne, rfl, rfl⟩ := hK1
      repeat' (first
    | (apply RunK.actF [2000020, 2000021] 900002 hn2; (case hw => exact rfl); (case he => first | exact (fun h => by cases h) | exact fun _ => rfl); (case hx => exact rfl); (case ha => (repeat (first | exact ArgsLe.nil | refine ArgsLe.cons ?_ ?_ | exact ArgLe.v _ | exact ArgLe.sl _ _ _ _ | exact ArgLe.nil _ | exact ArgLe.nil' | (apply ArgLe.bsl; exact rfl; (first | exact rfl | (rw [List.length_map]; done) | (simp only [List.length_map]; done) | (simp; done) | (simp; omega)); (first | assumption | exact map_len (fun _ => rfl)))))); (case hf => exact .nil); (case hap => exact ApartE.nil _))
    | refine Wt.seq ?_
    | (apply Wt.regionK; exact rfl)
    | refine RunK.nil ?_
    | (apply RunK.assignV; exact rfl; exact rfl)
    | (apply RunK.moveS; exact rfl; exact rfl)
    | (apply RunK.moveT; exact rfl; exact rfl)
    | (apply RunK.extract; exact rfl; exact rfl; exact rfl))
      intro r2 f2 hK2 _
      unfold RefK at hK2
      rw [if_pos hE] at hK2
      obtain ⟨rb, hdr, rfl, rfl⟩ := hK2
      have hM : (putAll l).length ≤ 1000 := by
        have := fold_len l []
        simp only [List.length_nil] at this
        show (List.foldl putL [] l).length ≤ _
        omega
      have e2 := equalCells (putAll l) (putAll l) (by omega) (by omega)
      rw [decide_eq_true rfl] at e2
      have hc1 := shCells pb b es cl _ hS (by omega)
      have hc2 := rfCells rb hdr (putAll l) (by omega)
      have hl1 := shLen pb b es cl _ hS
      clear hS
      generalize putAll l = M at *
      repeat' (first
    | (apply RunK.bin; exact rfl; exact rfl; exact rfl; first | exact BinRun.eqlP0 ⟨_, Try.underlying24⟩ | exact BinRun.eqlP0 ⟨_, Try.underlying28⟩ | exact BinRun.eqlP1 ⟨_, Try.underlying24⟩ | exact BinRun.eqlP1 ⟨_, Try.underlying28⟩) | (apply RunK.callS; exact rfl; exact rfl; exact e1; (repeat (first | exact ArgsLe.nil | refine ArgsLe.cons ?_ ?_ | exact ArgLe.v _ | exact ArgLe.sl _ _ _ _ | exact ArgLe.nil _ | exact ArgLe.nil' | (apply ArgLe.bsl; exact rfl; (first | exact rfl | (rw [List.length_map]; done) | (simp only [List.length_map]; done) | (simp; done) | (simp; omega)); (first | assumption | exact map_len (fun _ => rfl))))); exact rfl) | (apply RunK.callS; exact rfl; exact rfl; exact e2; (repeat (first | exact ArgsLe.nil | refine ArgsLe.cons ?_ ?_ | exact ArgLe.v _ | exact ArgLe.sl _ _ _ _ | exact ArgLe.nil _ | exact ArgLe.nil' | (apply ArgLe.bsl; exact rfl; (first | exact rfl | (rw [List.length_map]; done) | (simp only [List.length_map]; done) | (simp; done) | (simp; omega)); (first | assumption | exact map_len (fun _ => rfl))))); exact rfl) | (apply RunK.actR _ hc1 (fun _ _ h => h.1); (case hn => exact rfl); (case hw => exact rfl); (case he => exact rfl); (case hx => exact rfl); (case ha => (repeat (first | exact ArgsLe.nil | refine ArgsLe.cons ?_ ?_ | exact ArgLe.v _ | exact ArgLe.sl _ _ _ _ | exact ArgLe.nil _ | exact ArgLe.nil' | (apply ArgLe.bsl; exact rfl; (first | exact rfl | (rw [List.length_map]; done) | (simp only [List.length_map]; done) | (simp; done) | (simp; omega)); (first | assumption | exact map_len (fun _ => rfl)))))); (case hf => exact .kept 2000010 rfl rfl (.kept 2000011 rfl rfl .nil))) | (apply RunK.actR _ hc2 (fun _ _ h => h.1); (case hn => exact rfl); (case hw => exact rfl); (case he => exact rfl); (case hx => exact rfl); (case ha => (repeat (first | exact ArgsLe.nil | refine ArgsLe.cons ?_ ?_ | exact ArgLe.v _ | exact ArgLe.sl _ _ _ _ | exact ArgLe.nil _ | exact ArgLe.nil' | (apply ArgLe.bsl; exact rfl; (first | exact rfl | (rw [List.length_map]; done) | (simp only [List.length_map]; done) | (simp; done) | (simp; omega)); (first | assumption | exact map_len (fun _ => rfl)))))); (case hf => exact .kept 2000020 rfl rfl (.hd 2000021 rfl rfl .nil))) | (apply RunK.actR _ hl1 (fun _ _ h => h.1); (case hn => exact rfl); (case hw => exact rfl); (case he => exact rfl); (case hx => exact rfl); (case ha => (repeat (first | exact ArgsLe.nil | refine ArgsLe.cons ?_ ?_ | exact ArgLe.v _ | exact ArgLe.sl _ _ _ _ | exact ArgLe.nil _ | exact ArgLe.nil' | (apply ArgLe.bsl; exact rfl; (first | exact rfl | (rw [List.length_map]; done) | (simp only [List.length_map]; done) | (simp; done) | (simp; omega)); (first | assumption | exact map_len (fun _ => rfl)))))); (case hf => exact .kept 2000010 rfl rfl (.kept 2000011 rfl rfl .nil))) | (apply RunK.bin; exact rfl; exact rfl; exact rfl; exact neqBool_ _)
    | refine Wt.seq ?_
    | (apply Wt.regionK; exact rfl)
    | refine Wt.block ?_
    | refine Wt.skip ?_
    | refine RunK.nil ?_
    | (apply RunK.moveV; exact rfl; exact rfl)
    | (apply RunK.assignV; exact rfl; exact rfl)
    | (apply RunK.moveS; exact rfl; exact rfl)
    | (apply RunK.moveT; exact rfl; exact rfl)
    | (apply RunK.assignS; exact rfl; exact rfl)
    | (apply RunK.pickF; exact rfl; exact rfl; exact rfl)
    | (apply RunK.neq; exact rfl; exact rfl; exact rfl)
    | (apply RunK.not; exact rfl; exact rfl)
    | (apply RunK.extract; exact rfl; exact rfl; exact rfl)
    | (apply Wt.cond; exact rfl; all_goals (intro hg; (first | exact absurd hg (by decide) | skip); (first | (with_reducible replace hg := not_t hg) | (with_reducible replace hg := not_f hg) | skip); (first | (with_reducible replace hg := dec_t hg) | (with_reducible replace hg := dec_f hg) | skip); (first | (with_reducible exact absurd rfl hg) | skip); (repeat rw [List.length_map] at hg); try (exfalso; omega))))
      all_goals first | (apply ResOk.v1; exact rfl; exact rfl; done) | skip
      refine Wt.le ⟨[(0, .s (cells l)), (4, .s (.v (ptr pb))), (6, .s (.v (ptr rb))), (3, .s (.sl (some 15) (.front 38) 5 (l.map Cell.vals))), (8, .s (.sl (some 45) (.front 38) 5 (M.map Cell.vals))), (9, .s (.v (.int .i64 0))), (2000010, ptrO pb b), (2000011, mapO b es cl), (2000020, refO rb hdr), (2000021, .hd hdr (.sl (some 900002) .no 5 (M.map Cell.vals)))], []⟩ ?_ ?_
      · (refine Le.mk ?_ ?_; (repeat' (first | exact LeEnv.done | refine LeEnv.cons ?_ ?_ | exact PVLe.refl _ | exact PVLe.s (SVLe.nil _ _ _) | exact PVLe.s (SVLe.no _ _ _ _) | (refine PVLe.int ?_; first | rfl | omega | (simp; done) | (simp; omega)) | (refine PVLe.els ?_; first | rfl | assumption | (simp; done)) | (refine PVLe.bool ?_; first | rfl | assumption) | (refine PVLe.bsl ?_; first | rfl | assumption | (simp; done))));  (repeat' (first | exact LeBox.done | refine LeBox.cons ?_ ?_ | exact rfl)))
      refine Wt.thaw 8 8 rfl rfl rfl ?_
      refine Wt.loop (fun i : Nat × List (List Value) => ⟨[(0, .s (cells l)), (4, .s (.v (ptr pb))), (6, .s (.v (ptr rb))), (3, .s (.sl (some 15) (.front 38) 5 (l.map Cell.vals))), (8, .bsl 8 0 5 M.length), (9, .s (.v (.int .i64 i.1))), (2000010, ptrO pb b), (2000011, mapO b es cl), (2000020, refO rb hdr), (2000021, .hd hdr (.sl (some 900002) .no 5 (M.map Cell.vals)))], [(8, i.2.flatten)]⟩) (fun i => i.1 ≤ M.length ∧ i.2.length = M.length ∧ ∀ e ∈ i.2, e.length = 5) (fun i => M.length - i.1) (0, M.map Cell.vals) ⟨Nat.zero_le _, List.length_map .., map_len (fun _ => rfl)⟩ ?_ ?_
      · (refine Le.mk ?_ ?_; (repeat' (first | exact LeEnv.done | refine LeEnv.cons ?_ ?_ | exact PVLe.refl _ | exact PVLe.s (SVLe.nil _ _ _) | exact PVLe.s (SVLe.no _ _ _ _) | (refine PVLe.int ?_; first | rfl | omega | (simp; done) | (simp; omega)) | (refine PVLe.els ?_; first | rfl | assumption | (simp; done)) | (refine PVLe.bool ?_; first | rfl | assumption) | (refine PVLe.bsl ?_; first | rfl | assumption | (simp; done))));  (repeat' (first | exact LeBox.done | refine LeBox.cons ?_ ?_ | exact rfl)))
      · rintro ⟨k, Z⟩ ⟨hk, hZ, hw⟩
        dsimp only at hk hZ hw ⊢
        by_cases hlt : k < M.length
        · obtain ⟨z, hz⟩ := exists_at (l := Z) (k := k) (by omega)
          have hzw := hw z (List.mem_of_getElem? hz)
          obtain ⟨a1, a2, a3, a4, a5, rfl⟩ := list5 hzw
          repeat' (first
    | refine Wt.seq ?_
    | (apply Wt.regionK; exact rfl)
    | refine Wt.block ?_
    | refine Wt.skip ?_
    | refine RunK.nil ?_
    | (apply RunK.moveV; exact rfl; exact rfl)
    | (apply RunK.assignV; exact rfl; exact rfl)
    | (apply RunK.moveBs; exact rfl; exact rfl)
    | (apply RunK.indexS; exact rfl; exact rfl; exact rfl; (first | exact rfl | exact (rfl : (0 : Int) = ((0 : Nat) : Int)) | exact (rfl : (1 : Int) = ((1 : Nat) : Int)) | exact (rfl : (2 : Int) = ((2 : Nat) : Int)) | exact (rfl : (3 : Int) = ((3 : Nat) : Int)) | assumption); (first | omega | exact lt_of_get ‹_› | (rw [List.length_map]; omega) | (simp; omega)))
    | (apply RunK.lenS; exact rfl; exact rfl)
    | (apply RunK.lss; exact rfl; exact rfl; exact rfl)
    | (apply RunK.add; exact rfl; exact rfl; exact rfl; (first | omega | (simp only [List.length_map]; omega)))
    | (apply RunK.build; exact rfl; (repeat (first | exact PartsOk.nil | (apply PartsOk.cons; exact rfl))); (repeat (first | exact fill_nil | (apply fill_cons; exact rfl; (first | exact Cells.agg _ | exact Cells.int _ _ | exact Cells.bool _ | exact Cells.one _ rfl); exact rfl; (repeat (first | exact Upd.nil _ | apply Upd.cons | apply Upd.skip))))))
    | (apply RunK.storeF; exact rfl; exact rfl; exact rfl; exact rfl; (first | exact off0 _ _ | exact off1 _ _ _ | exact off2 _ _ _ _ | exact off3 _ _ _ _ _ | omega); (first | assumption | exact map_len (fun _ => rfl)); assumption; exact rfl; exact rfl; exact rfl; (first | exact Cells.agg _ | exact Cells.int _ _ | exact Cells.bool _ | exact Cells.one _ rfl); (repeat (first | exact Upd.nil _ | apply Upd.cons | apply Upd.skip)))
    | (apply Wt.cond; exact rfl; all_goals (intro hg; (first | exact absurd hg (by decide) | skip); (first | (with_reducible replace hg := not_t hg) | (with_reducible replace hg := not_f hg) | skip); (first | (with_reducible replace hg := dec_t hg) | (with_reducible replace hg := dec_f hg) | skip); (first | (with_reducible exact absurd rfl hg) | skip); (repeat rw [List.length_map] at hg); try (exfalso; omega))))
          refine ⟨(k + 1, Z.set k (Cell.mk ⟨0, 0⟩ blankV).vals), ⟨hlt, (List.length_set ..).trans hZ, set_len hw rfl⟩, by show M.length - (k + 1) < M.length - k; omega, ?_⟩
          dsimp only
          (refine Le.mk ?_ ?_; (repeat' (first | exact LeEnv.done | refine LeEnv.cons ?_ ?_ | exact PVLe.refl _ | exact PVLe.s (SVLe.nil _ _ _) | exact PVLe.s (SVLe.no _ _ _ _) | (refine PVLe.int ?_; first | rfl | omega | (simp; done) | (simp; omega)) | (refine PVLe.els ?_; first | rfl | assumption | (simp; done)) | (refine PVLe.bool ?_; first | rfl | assumption) | (refine PVLe.bsl ?_; first | rfl | assumption | (simp; done))));  (repeat' (first | exact LeBox.done | refine LeBox.cons ?_ ?_ | exact rfl)))
        · clear hZ hw
          repeat' (first
    | refine Wt.seq ?_
    | (apply Wt.regionK; exact rfl)
    | refine Wt.block ?_
    | refine Wt.exit ?_
    | refine RunK.nil ?_
    | (apply RunK.moveV; exact rfl; exact rfl)
    | (apply RunK.assignV; exact rfl; exact rfl)
    | (apply RunK.moveBs; exact rfl; exact rfl)
    | (apply RunK.lenS; exact rfl; exact rfl)
    | (apply RunK.lss; exact rfl; exact rfl; exact rfl)
    | (apply Wt.cond; exact rfl; all_goals (intro hg; (first | exact absurd hg (by decide) | skip); (first | (with_reducible replace hg := not_t hg) | (with_reducible replace hg := not_f hg) | skip); (first | (with_reducible replace hg := dec_t hg) | (with_reducible replace hg := dec_f hg) | skip); (first | (with_reducible exact absurd rfl hg) | skip); (repeat rw [List.length_map] at hg); try (exfalso; omega))))
          refine Wt.le ⟨[(0, .s (cells l)), (4, .s (.v (ptr pb))), (6, .s (.v (ptr rb))), (3, .s (.sl (some 15) (.front 38) 5 (l.map Cell.vals))), (10, .s (.v (.int .i64 0))), (2000010, ptrO pb b), (2000011, mapO b es cl), (2000020, refO rb hdr), (2000021, .hd hdr (.sl (some 900002) .no 5 (M.map Cell.vals)))], []⟩ ?_ ?_
          · (refine Le.mk ?_ ?_; (repeat' (first | exact LeEnv.done | refine LeEnv.cons ?_ ?_ | exact PVLe.refl _ | exact PVLe.s (SVLe.nil _ _ _) | exact PVLe.s (SVLe.no _ _ _ _) | (refine PVLe.int ?_; first | rfl | omega | (simp; done) | (simp; omega)) | (refine PVLe.els ?_; first | rfl | assumption | (simp; done)) | (refine PVLe.bool ?_; first | rfl | assumption) | (refine PVLe.bsl ?_; first | rfl | assumption | (simp; done))));  (repeat' (first | exact LeBox.done | refine LeBox.cons ?_ ?_ | exact rfl)))
          refine Wt.thaw 3 3 rfl rfl rfl ?_
          refine Wt.loop (fun i : Nat × List (List Value) => ⟨[(0, .s (cells l)), (4, .s (.v (ptr pb))), (6, .s (.v (ptr rb))), (3, .bsl 3 0 5 l.length), (10, .s (.v (.int .i64 i.1))), (2000010, ptrO pb b), (2000011, mapO b es cl), (2000020, refO rb hdr), (2000021, .hd hdr (.sl (some 900002) .no 5 (M.map Cell.vals)))], [(3, i.2.flatten)]⟩) (fun i => i.1 ≤ l.length ∧ i.2.length = l.length ∧ ∀ e ∈ i.2, e.length = 5) (fun i => l.length - i.1) (0, l.map Cell.vals) ⟨Nat.zero_le _, List.length_map .., map_len (fun _ => rfl)⟩ ?_ ?_
          · (refine Le.mk ?_ ?_; (repeat' (first | exact LeEnv.done | refine LeEnv.cons ?_ ?_ | exact PVLe.refl _ | exact PVLe.s (SVLe.nil _ _ _) | exact PVLe.s (SVLe.no _ _ _ _) | (refine PVLe.int ?_; first | rfl | omega | (simp; done) | (simp; omega)) | (refine PVLe.els ?_; first | rfl | assumption | (simp; done)) | (refine PVLe.bool ?_; first | rfl | assumption) | (refine PVLe.bsl ?_; first | rfl | assumption | (simp; done))));  (repeat' (first | exact LeBox.done | refine LeBox.cons ?_ ?_ | exact rfl)))
          · clear hk hlt Z hg k
            rintro ⟨k, Z⟩ ⟨hk, hZ, hw⟩
            dsimp only at hk hZ hw ⊢
            by_cases hlt : k < l.length
            · obtain ⟨z, hz⟩ := exists_at (l := Z) (k := k) (by omega)
              have hzw := hw z (List.mem_of_getElem? hz)
              obtain ⟨a1, a2, a3, a4, a5, rfl⟩ := list5 hzw
              repeat' (first
    | refine Wt.seq ?_
    | (apply Wt.regionK; exact rfl)
    | refine Wt.block ?_
    | refine Wt.skip ?_
    | refine RunK.nil ?_
    | (apply RunK.moveV; exact rfl; exact rfl)
    | (apply RunK.assignV; exact rfl; exact rfl)
    | (apply RunK.moveBs; exact rfl; exact rfl)
    | (apply RunK.indexS; exact rfl; exact rfl; exact rfl; (first | exact rfl | exact (rfl : (0 : Int) = ((0 : Nat) : Int)) | exact (rfl : (1 : Int) = ((1 : Nat) : Int)) | exact (rfl : (2 : Int) = ((2 : Nat) : Int)) | exact (rfl : (3 : Int) = ((3 : Nat) : Int)) | assumption); (first | omega | exact lt_of_get ‹_› | (rw [List.length_map]; omega) | (simp; omega)))
    | (apply RunK.lenS; exact rfl; exact rfl)
    | (apply RunK.lss; exact rfl; exact rfl; exact rfl)
    | (apply RunK.add; exact rfl; exact rfl; exact rfl; (first | omega | (simp only [List.length_map]; omega)))
    | (apply RunK.build; exact rfl; (repeat (first | exact PartsOk.nil | (apply PartsOk.cons; exact rfl))); (repeat (first | exact fill_nil | (apply fill_cons; exact rfl; (first | exact Cells.agg _ | exact Cells.int _ _ | exact Cells.bool _ | exact Cells.one _ rfl); exact rfl; (repeat (first | exact Upd.nil _ | apply Upd.cons | apply Upd.skip))))))
    | (apply RunK.storeF; exact rfl; exact rfl; exact rfl; exact rfl; (first | exact off0 _ _ | exact off1 _ _ _ | exact off2 _ _ _ _ | exact off3 _ _ _ _ _ | omega); (first | assumption | exact map_len (fun _ => rfl)); assumption; exact rfl; exact rfl; exact rfl; (first | exact Cells.agg _ | exact Cells.int _ _ | exact Cells.bool _ | exact Cells.one _ rfl); (repeat (first | exact Upd.nil _ | apply Upd.cons | apply Upd.skip)))
    | (apply Wt.cond; exact rfl; all_goals (intro hg; (first | exact absurd hg (by decide) | skip); (first | (with_reducible replace hg := not_t hg) | (with_reducible replace hg := not_f hg) | skip); (first | (with_reducible replace hg := dec_t hg) | (with_reducible replace hg := dec_f hg) | skip); (first | (with_reducible exact absurd rfl hg) | skip); (repeat rw [List.length_map] at hg); try (exfalso; omega))))
              refine ⟨(k + 1, Z.set k (Cell.mk ⟨0, 0⟩ blankV).vals), ⟨hlt, (List.length_set ..).trans hZ, set_len hw rfl⟩, by show l.length - (k + 1) < l.length - k; omega, ?_⟩
              dsimp only
              (refine Le.mk ?_ ?_; (repeat' (first | exact LeEnv.done | refine LeEnv.cons ?_ ?_ | exact PVLe.refl _ | exact PVLe.s (SVLe.nil _ _ _) | exact PVLe.s (SVLe.no _ _ _ _) | (refine PVLe.int ?_; first | rfl | omega | (simp; done) | (simp; omega)) | (refine PVLe.els ?_; first | rfl | assumption | (simp; done)) | (refine PVLe.bool ?_; first | rfl | assumption) | (refine PVLe.bsl ?_; first | rfl | assumption | (simp; done))));  (repeat' (first | exact LeBox.done | refine LeBox.cons ?_ ?_ | exact rfl)))
            · repeat' (first
    | (apply RunK.bin; exact rfl; exact rfl; exact rfl; first | exact BinRun.eqlP0 ⟨_, Try.underlying24⟩ | exact BinRun.eqlP0 ⟨_, Try.underlying28⟩ | exact BinRun.eqlP1 ⟨_, Try.underlying24⟩ | exact BinRun.eqlP1 ⟨_, Try.underlying28⟩) | (apply RunK.callS; exact rfl; exact rfl; exact e2; (repeat (first | exact ArgsLe.nil | refine ArgsLe.cons ?_ ?_ | exact ArgLe.v _ | exact ArgLe.sl _ _ _ _ | exact ArgLe.nil _ | exact ArgLe.nil' | (apply ArgLe.bsl; exact rfl; (first | exact rfl | (rw [List.length_map]; done) | (simp only [List.length_map]; done) | (simp; done) | (simp; omega)); (first | assumption | exact map_len (fun _ => rfl))))); exact rfl) | (apply RunK.actR _ hc1 (fun _ _ h => h.1); (case hn => exact rfl); (case hw => exact rfl); (case he => exact rfl); (case hx => exact rfl); (case ha => (repeat (first | exact ArgsLe.nil | refine ArgsLe.cons ?_ ?_ | exact ArgLe.v _ | exact ArgLe.sl _ _ _ _ | exact ArgLe.nil _ | exact ArgLe.nil' | (apply ArgLe.bsl; exact rfl; (first | exact rfl | (rw [List.length_map]; done) | (simp only [List.length_map]; done) | (simp; done) | (simp; omega)); (first | assumption | exact map_len (fun _ => rfl)))))); (case hf => exact .kept 2000010 rfl rfl (.kept 2000011 rfl rfl .nil))) | (apply RunK.actR _ hc2 (fun _ _ h => h.1); (case hn => exact rfl); (case hw => exact rfl); (case he => exact rfl); (case hx => exact rfl); (case ha => (repeat (first | exact ArgsLe.nil | refine ArgsLe.cons ?_ ?_ | exact ArgLe.v _ | exact ArgLe.sl _ _ _ _ | exact ArgLe.nil _ | exact ArgLe.nil' | (apply ArgLe.bsl; exact rfl; (first | exact rfl | (rw [List.length_map]; done) | (simp only [List.length_map]; done) | (simp; done) | (simp; omega)); (first | assumption | exact map_len (fun _ => rfl)))))); (case hf => exact .kept 2000020 rfl rfl (.hd 2000021 rfl rfl .nil))) | (apply RunK.actR _ hl1 (fun _ _ h => h.1); (case hn => exact rfl); (case hw => exact rfl); (case he => exact rfl); (case hx => exact rfl); (case ha => (repeat (first | exact ArgsLe.nil | refine ArgsLe.cons ?_ ?_ | exact ArgLe.v _ | exact ArgLe.sl _ _ _ _ | exact ArgLe.nil _ | exact ArgLe.nil' | (apply ArgLe.bsl; exact rfl; (first | exact rfl | (rw [List.length_map]; done) | (simp only [List.length_map]; done) | (simp; done) | (simp; omega)); (first | assumption | exact map_len (fun _ => rfl)))))); (case hf => exact .kept 2000010 rfl rfl (.kept 2000011 rfl rfl .nil)))
    | refine Wt.seq ?_
    | (apply Wt.regionK; exact rfl)
    | refine Wt.ret ?_
    | refine Wt.exit ?_
    | refine RunK.nil ?_
    | (apply RunK.moveV; exact rfl; exact rfl)
    | (apply RunK.assignV; exact rfl; exact rfl)
    | (apply RunK.moveBs; exact rfl; exact rfl)
    | (apply RunK.lenS; exact rfl; exact rfl)
    | (apply RunK.pickT; exact rfl; exact rfl; exact rfl)
    | (apply RunK.lss; exact rfl; exact rfl; exact rfl)
    | (apply RunK.eql; exact rfl; exact rfl; exact rfl)
    | (apply RunK.len; exact rfl; exact rfl)
    | (apply Wt.cond; exact rfl; all_goals (intro hg; (first | exact absurd hg (by decide) | skip); (first | (with_reducible replace hg := not_t hg) | (with_reducible replace hg := not_f hg) | skip); (first | (with_reducible replace hg := dec_t hg) | (with_reducible replace hg := dec_f hg) | skip); (first | (with_reducible exact absurd rfl hg) | skip); (repeat rw [List.length_map] at hg); try (exfalso; omega))))
              all_goals (apply ResOk.v1; exact rfl; (first | exact rfl | (refine bool_v ?_; simp)))
    · rw [if_neg hE] at hK1
      obtain ⟨rfl, rfl⟩ := hK1
      repeat' (first
    | (apply RunK.actF [2000020, 2000021] 900002 hn2; (case hw => exact rfl); (case he => first | exact (fun h => by cases h) | exact fun _ => rfl); (case hx => exact rfl); (case ha => (repeat (first | exact ArgsLe.nil | refine ArgsLe.cons ?_ ?_ | exact ArgLe.v _ | exact ArgLe.sl _ _ _ _ | exact ArgLe.nil _ | exact ArgLe.nil' | (apply ArgLe.bsl; exact rfl; (first | exact rfl | (rw [List.length_map]; done) | (simp only [List.length_map]; done) | (simp; done) | (simp; omega)); (first | assumption | exact map_len (fun _ => rfl)))))); (case hf => exact .nil); (case hap => exact ApartE.nil _))
    | refine Wt.seq ?_
    | (apply Wt.regionK; exact rfl)
    | refine RunK.nil ?_
    | (apply RunK.assignV; exact rfl; exact rfl)
    | (apply RunK.moveS; exact rfl; exact rfl)
    | (apply RunK.moveT; exact rfl; exact rfl)
    | (apply RunK.extract; exact rfl; exact rfl; exact rfl))
      intro r2 f2 hK2 _
      unfold RefK at hK2
      rw [if_neg hE] at hK2
      obtain ⟨rfl, rfl⟩ := hK2
      obtain ⟨M, hM0⟩ : ∃ M : List Cell, [] = M := ⟨_, rfl⟩
      have hc1 := shCellsN
      have hc2 := rfCellsN
      have hl1 := shLenN
      rw [hM0] at hc1 hc2
      rw [show (0 : Int) = ((([] : List Cell).length : Nat) : Int) from rfl, hM0] at hl1
      have hM : M.length ≤ 1000 := by rw [← hM0]; decide
      have e2 := equalCells M M (by omega) (by omega)
      rw [decide_eq_true rfl] at e2
      clear hM0
      generalize newE [] l = E at *
      repeat' (first
    | (apply RunK.bin; exact rfl; exact rfl; exact rfl; first | exact BinRun.eqlP0 ⟨_, Try.underlying24⟩ | exact BinRun.eqlP0 ⟨_, Try.underlying28⟩ | exact BinRun.eqlP1 ⟨_, Try.underlying24⟩ | exact BinRun.eqlP1 ⟨_, Try.underlying28⟩) | (apply RunK.callS; exact rfl; exact rfl; exact e1; (repeat (first | exact ArgsLe.nil | refine ArgsLe.cons ?_ ?_ | exact ArgLe.v _ | exact ArgLe.sl _ _ _ _ | exact ArgLe.nil _ | exact ArgLe.nil' | (apply ArgLe.bsl; exact rfl; (first | exact rfl | (rw [List.length_map]; done) | (simp only [List.length_map]; done) | (simp; done) | (simp; omega)); (first | assumption | exact map_len (fun _ => rfl))))); exact rfl) | (apply RunK.callS; exact rfl; exact rfl; exact e2; (repeat (first | exact ArgsLe.nil | refine ArgsLe.cons ?_ ?_ | exact ArgLe.v _ | exact ArgLe.sl _ _ _ _ | exact ArgLe.nil _ | exact ArgLe.nil' | (apply ArgLe.bsl; exact rfl; (first | exact rfl | (rw [List.length_map]; done) | (simp only [List.length_map]; done) | (simp; done) | (simp; omega)); (first | assumption | exact map_len (fun _ => rfl))))); exact rfl) | (apply RunK.callS; exact rfl; exact rfl; exact hc1; (repeat (first | exact ArgsLe.nil | refine ArgsLe.cons ?_ ?_ | exact ArgLe.v _ | exact ArgLe.sl _ _ _ _ | exact ArgLe.nil _ | exact ArgLe.nil' | (apply ArgLe.bsl; exact rfl; (first | exact rfl | (rw [List.length_map]; done) | (simp only [List.length_map]; done) | (simp; done) | (simp; omega)); (first | assumption | exact map_len (fun _ => rfl))))); exact rfl) | (apply RunK.callS; exact rfl; exact rfl; exact hc2; (repeat (first | exact ArgsLe.nil | refine ArgsLe.cons ?_ ?_ | exact ArgLe.v _ | exact ArgLe.sl _ _ _ _ | exact ArgLe.nil _ | exact ArgLe.nil' | (apply ArgLe.bsl; exact rfl; (first | exact rfl | (rw [List.length_map]; done) | (simp only [List.length_map]; done) | (simp; done) | (simp; omega)); (first | assumption | exact map_len (fun _ => rfl))))); exact rfl) | (apply RunK.callS; exact rfl; exact rfl; exact hl1; (repeat (first | exact ArgsLe.nil | refine ArgsLe.cons ?_ ?_ | exact ArgLe.v _ | exact ArgLe.sl _ _ _ _ | exact ArgLe.nil _ | exact ArgLe.nil' | (apply ArgLe.bsl; exact rfl; (first | exact rfl | (rw [List.length_map]; done) | (simp only [List.length_map]; done) | (simp; done) | (simp; omega)); (first | assumption | exact map_len (fun _ => rfl))))); exact rfl) | (apply RunK.bin; exact rfl; exact rfl; exact rfl; exact neqBool_ _)
    | refine Wt.seq ?_
    | (apply Wt.regionK; exact rfl)
    | refine Wt.block ?_
    | refine Wt.skip ?_
    | refine RunK.nil ?_
    | (apply RunK.moveV; exact rfl; exact rfl)
    | (apply RunK.assignV; exact rfl; exact rfl)
    | (apply RunK.moveS; exact rfl; exact rfl)
    | (apply RunK.moveT; exact rfl; exact rfl)
    | (apply RunK.assignS; exact rfl; exact rfl)
    | (apply RunK.pickF; exact rfl; exact rfl; exact rfl)
    | (apply RunK.neq; exact rfl; exact rfl; exact rfl)
    | (apply RunK.not; exact rfl; exact rfl)
    | (apply RunK.extract; exact rfl; exact rfl; exact rfl)
    | (apply RunK.guard; exact rfl; exact rfl; exact rfl; all_goals (intro hg; (first | exact absurd hg (by decide) | skip); (first | (with_reducible replace hg := not_t hg) | (with_reducible replace hg := not_f hg) | skip); (first | (with_reducible replace hg := dec_t hg) | (with_reducible replace hg := dec_f hg) | skip); (first | (with_reducible exact absurd rfl hg) | skip); (repeat rw [List.length_map] at hg); try (exfalso; omega)))
    | (apply Wt.cond; exact rfl; all_goals (intro hg; (first | exact absurd hg (by decide) | skip); (first | (with_reducible replace hg := not_t hg) | (with_reducible replace hg := not_f hg) | skip); (first | (with_reducible replace hg := dec_t hg) | (with_reducible replace hg := dec_f hg) | skip); (first | (with_reducible exact absurd rfl hg) | skip); (repeat rw [List.length_map] at hg); try (exfalso; omega))))
      all_goals first | (apply ResOk.v1; exact rfl; exact rfl; done) | skip
      refine Wt.le ⟨[(0, .s (cells l)), (4, .s (.v nilP)), (6, .s (.v nilP)), (3, .s (.sl (some 15) (.front 38) 5 (l.map Cell.vals))), (8, .s (.sl (some 45) (.front 38) 5 (M.map Cell.vals))), (9, .s (.v (.int .i64 0)))], []⟩ ?_ ?_
      · (refine Le.mk ?_ ?_; (repeat' (first | exact LeEnv.done | refine LeEnv.cons ?_ ?_ | exact PVLe.refl _ | exact PVLe.s (SVLe.nil _ _ _) | exact PVLe.s (SVLe.no _ _ _ _) | (refine PVLe.int ?_; first | rfl | omega | (simp; done) | (simp; omega)) | (refine PVLe.els ?_; first | rfl | assumption | (simp; done)) | (refine PVLe.bool ?_; first | rfl | assumption) | (refine PVLe.bsl ?_; first | rfl | assumption | (simp; done))));  (repeat' (first | exact LeBox.done | refine LeBox.cons ?_ ?_ | exact rfl)))
      refine Wt.thaw 8 8 rfl rfl rfl ?_
      refine Wt.loop (fun i : Nat × List (List Value) => ⟨[(0, .s (cells l)), (4, .s (.v nilP)), (6, .s (.v nilP)), (3, .s (.sl (some 15) (.front 38) 5 (l.map Cell.vals))), (8, .bsl 8 0 5 M.length), (9, .s (.v (.int .i64 i.1)))], [(8, i.2.flatten)]⟩) (fun i => i.1 ≤ M.length ∧ i.2.length = M.length ∧ ∀ e ∈ i.2, e.length = 5) (fun i => M.length - i.1) (0, M.map Cell.vals) ⟨Nat.zero_le _, List.length_map .., map_len (fun _ => rfl)⟩ ?_ ?_
      · (refine Le.mk ?_ ?_; (repeat' (first | exact LeEnv.done | refine LeEnv.cons ?_ ?_ | exact PVLe.refl _ | exact PVLe.s (SVLe.nil _ _ _) | exact PVLe.s (SVLe.no _ _ _ _) | (refine PVLe.int ?_; first | rfl | omega | (simp; done) | (simp; omega)) | (refine PVLe.els ?_; first | rfl | assumption | (simp; done)) | (refine PVLe.bool ?_; first | rfl | assumption) | (refine PVLe.bsl ?_; first | rfl | assumption | (simp; done))));  (repeat' (first | exact LeBox.done | refine LeBox.cons ?_ ?_ | exact rfl)))
      · rintro ⟨k, Z⟩ ⟨hk, hZ, hw⟩
        dsimp only at hk hZ hw ⊢
        by_cases hlt : k < M.length
        · obtain ⟨z, hz⟩ := exists_at (l := Z) (k := k) (by omega)
          have hzw := hw z (List.mem_of_getElem? hz)
          obtain ⟨a1, a2, a3, a4, a5, rfl⟩ := list5 hzw
          repeat' (first
    | refine Wt.seq ?_
    | (apply Wt.regionK; exact rfl)
    | refine Wt.block ?_
    | refine Wt.skip ?_
    | refine RunK.nil ?_
    | (apply RunK.moveV; exact rfl; exact rfl)
    | (apply RunK.assignV; exact rfl; exact rfl)
    | (apply RunK.moveBs; exact rfl; exact rfl)
    | (apply RunK.indexS; exact rfl; exact rfl; exact rfl; (first | exact rfl | exact (rfl : (0 : Int) = ((0 : Nat) : Int)) | exact (rfl : (1 : Int) = ((1 : Nat) : Int)) | exact (rfl : (2 : Int) = ((2 : Nat) : Int)) | exact (rfl : (3 : Int) = ((3 : Nat) : Int)) | assumption); (first | omega | exact lt_of_get ‹_› | (rw [List.length_map]; omega) | (simp; omega)))
    | (apply RunK.lenS; exact rfl; exact rfl)
    | (apply RunK.lss; exact rfl; exact rfl; exact rfl)
    | (apply RunK.add; exact rfl; exact rfl; exact rfl; (first | omega | (simp only [List.length_map]; omega)))
    | (apply RunK.build; exact rfl; (repeat (first | exact PartsOk.nil | (apply PartsOk.cons; exact rfl))); (repeat (first | exact fill_nil | (apply fill_cons; exact rfl; (first | exact Cells.agg _ | exact Cells.int _ _ | exact Cells.bool _ | exact Cells.one _ rfl); exact rfl; (repeat (first | exact Upd.nil _ | apply Upd.cons | apply Upd.skip))))))
    | (apply RunK.storeF; exact rfl; exact rfl; exact rfl; exact rfl; (first | exact off0 _ _ | exact off1 _ _ _ | exact off2 _ _ _ _ | exact off3 _ _ _ _ _ | omega); (first | assumption | exact map_len (fun _ => rfl)); assumption; exact rfl; exact rfl; exact rfl; (first | exact Cells.agg _ | exact Cells.int _ _ | exact Cells.bool _ | exact Cells.one _ rfl); (repeat (first | exact Upd.nil _ | apply Upd.cons | apply Upd.skip)))
    | (apply Wt.cond; exact rfl; all_goals (intro hg; (first | exact absurd hg (by decide) | skip); (first | (with_reducible replace hg := not_t hg) | (with_reducible replace hg := not_f hg) | skip); (first | (with_reducible replace hg := dec_t hg) | (with_reducible replace hg := dec_f hg) | skip); (first | (with_reducible exact absurd rfl hg) | skip); (repeat rw [List.length_map] at hg); try (exfalso; omega))))
          refine ⟨(k + 1, Z.set k (Cell.mk ⟨0, 0⟩ blankV).vals), ⟨hlt, (List.length_set ..).trans hZ, set_len hw rfl⟩, by show M.length - (k + 1) < M.length - k; omega, ?_⟩
          dsimp only
          (refine Le.mk ?_ ?_; (repeat' (first | exact LeEnv.done | refine LeEnv.cons ?_ ?_ | exact PVLe.refl _ | exact PVLe.s (SVLe.nil _ _ _) | exact PVLe.s (SVLe.no _ _ _ _) | (refine PVLe.int ?_; first | rfl | omega | (simp; done) | (simp; omega)) | (refine PVLe.els ?_; first | rfl | assumption | (simp; done)) | (refine PVLe.bool ?_; first | rfl | assumption) | (refine PVLe.bsl ?_; first | rfl | assumption | (simp; done))));  (repeat' (first | exact LeBox.done | refine LeBox.cons ?_ ?_ | exact rfl)))
        · clear hZ hw
          repeat' (first
    | refine Wt.seq ?_
    | (apply Wt.regionK; exact rfl)
    | refine Wt.block ?_
    | refine Wt.exit ?_
    | refine RunK.nil ?_
    | (apply RunK.moveV; exact rfl; exact rfl)
    | (apply RunK.assignV; exact rfl; exact rfl)
    | (apply RunK.moveBs; exact rfl; exact rfl)
    | (apply RunK.lenS; exact rfl; exact rfl)
    | (apply RunK.lss; exact rfl; exact rfl; exact rfl)
    | (apply Wt.cond; exact rfl; all_goals (intro hg; (first | exact absurd hg (by decide) | skip); (first | (with_reducible replace hg := not_t hg) | (with_reducible replace hg := not_f hg) | skip); (first | (with_reducible replace hg := dec_t hg) | (with_reducible replace hg := dec_f hg) | skip); (first | (with_reducible exact absurd rfl hg) | skip); (repeat rw [List.length_map] at hg); try (exfalso; omega))))
          refine Wt.le ⟨[(0, .s (cells l)), (4, .s (.v nilP)), (6, .s (.v nilP)), (3, .s (.sl (some 15) (.front 38) 5 (l.map Cell.vals))), (10, .s (.v (.int .i64 0)))], []⟩ ?_ ?_
          · (refine Le.mk ?_ ?_; (repeat' (first | exact LeEnv.done | refine LeEnv.cons ?_ ?_ | exact PVLe.refl _ | exact PVLe.s (SVLe.nil _ _ _) | exact PVLe.s (SVLe.no _ _ _ _) | (refine PVLe.int ?_; first | rfl | omega | (simp; done) | (simp; omega)) | (refine PVLe.els ?_; first | rfl | assumption | (simp; done)) | (refine PVLe.bool ?_; first | rfl | assumption) | (refine PVLe.bsl ?_; first | rfl | assumption | (simp; done))));  (repeat' (first | exact LeBox.done | refine LeBox.cons ?_ ?_ | exact rfl)))
          refine Wt.thaw 3 3 rfl rfl rfl ?_
          refine Wt.loop (fun i : Nat × List (List Value) => ⟨[(0, .s (cells l)), (4, .s (.v nilP)), (6, .s (.v nilP)), (3, .bsl 3 0 5 l.length), (10, .s (.v (.int .i64 i.1)))], [(3, i.2.flatten)]⟩) (fun i => i.1 ≤ l.length ∧ i.2.length = l.length ∧ ∀ e ∈ i.2, e.length = 5) (fun i => l.length - i.1) (0, l.map Cell.vals) ⟨Nat.zero_le _, List.length_map .., map_len (fun _ => rfl)⟩ ?_ ?_
          · (refine Le.mk ?_ ?_; (repeat' (first | exact LeEnv.done | refine LeEnv.cons ?_ ?_ | exact PVLe.refl _ | exact PVLe.s (SVLe.nil _ _ _) | exact PVLe.s (SVLe.no _ _ _ _) | (refine PVLe.int ?_; first | rfl | omega | (simp; done) | (simp; omega)) | (refine PVLe.els ?_; first | rfl | assumption | (simp; done)) | (refine PVLe.bool ?_; first | rfl | assumption) | (refine PVLe.bsl ?_; first | rfl | assumption | (simp; done))));  (repeat' (first | exact LeBox.done | refine LeBox.cons ?_ ?_ | exact rfl)))
          · clear hk hlt Z hg k
            rintro ⟨k, Z⟩ ⟨hk, hZ, hw⟩
            dsimp only at hk hZ hw ⊢
            by_cases hlt : k < l.length
            · obtain ⟨z, hz⟩ := exists_at (l := Z) (k := k) (by omega)
              have hzw := hw z (List.mem_of_getElem? hz)
              obtain ⟨a1, a2, a3, a4, a5, rfl⟩ := list5 hzw
              repeat' (first
    | refine Wt.seq ?_
    | (apply Wt.regionK; exact rfl)
    | refine Wt.block ?_
    | refine Wt.skip ?_
    | refine RunK.nil ?_
    | (apply RunK.moveV; exact rfl; exact rfl)
    | (apply RunK.assignV; exact rfl; exact rfl)
    | (apply RunK.moveBs; exact rfl; exact rfl)
    | (apply RunK.indexS; exact rfl; exact rfl; exact rfl; (first | exact rfl | exact (rfl : (0 : Int) = ((0 : Nat) : Int)) | exact (rfl : (1 : Int) = ((1 : Nat) : Int)) | exact (rfl : (2 : Int) = ((2 : Nat) : Int)) | exact (rfl : (3 : Int) = ((3 : Nat) : Int)) | assumption); (first | omega | exact lt_of_get ‹_› | (rw [List.length_map]; omega) | (simp; omega)))
    | (apply RunK.lenS; exact rfl; exact rfl)
    | (apply RunK.lss; exact rfl; exact rfl; exact rfl)
    | (apply RunK.add; exact rfl; exact rfl; exact rfl; (first | omega | (simp only [List.length_map]; omega)))
    | (apply RunK.build; exact rfl; (repeat (first | exact PartsOk.nil | (apply PartsOk.cons; exact rfl))); (repeat (first | exact fill_nil | (apply fill_cons; exact rfl; (first | exact Cells.agg _ | exact Cells.int _ _ | exact Cells.bool _ | exact Cells.one _ rfl); exact rfl; (repeat (first | exact Upd.nil _ | apply Upd.cons | apply Upd.skip))))))
    | (apply RunK.storeF; exact rfl; exact rfl; exact rfl; exact rfl; (first | exact off0 _ _ | exact off1 _ _ _ | exact off2 _ _ _ _ | exact off3 _ _ _ _ _ | omega); (first | assumption | exact map_len (fun _ => rfl)); assumption; exact rfl; exact rfl; exact rfl; (first | exact Cells.agg _ | exact Cells.int _ _ | exact Cells.bool _ | exact Cells.one _ rfl); (repeat (first | exact Upd.nil _ | apply Upd.cons | apply Upd.skip)))
    | (apply Wt.cond; exact rfl; all_goals (intro hg; (first | exact absurd hg (by decide) | skip); (first | (with_reducible replace hg := not_t hg) | (with_reducible replace hg := not_f hg) | skip); (first | (with_reducible replace hg := dec_t hg) | (with_reducible replace hg := dec_f hg) | skip); (first | (with_reducible exact absurd rfl hg) | skip); (repeat rw [List.length_map] at hg); try (exfalso; omega))))
              refine ⟨(k + 1, Z.set k (Cell.mk ⟨0, 0⟩ blankV).vals), ⟨hlt, (List.length_set ..).trans hZ, set_len hw rfl⟩, by show l.length - (k + 1) < l.length - k; omega, ?_⟩
              dsimp only
              (refine Le.mk ?_ ?_; (repeat' (first | exact LeEnv.done | refine LeEnv.cons ?_ ?_ | exact PVLe.refl _ | exact PVLe.s (SVLe.nil _ _ _) | exact PVLe.s (SVLe.no _ _ _ _) | (refine PVLe.int ?_; first | rfl | omega | (simp; done) | (simp; omega)) | (refine PVLe.els ?_; first | rfl | assumption | (simp; done)) | (refine PVLe.bool ?_; first | rfl | assumption) | (refine PVLe.bsl ?_; first | rfl | assumption | (simp; done))));  (repeat' (first | exact LeBox.done | refine LeBox.cons ?_ ?_ | exact rfl)))
            · repeat' (first
    | (apply RunK.bin; exact rfl; exact rfl; exact rfl; first | exact BinRun.eqlP0 ⟨_, Try.underlying24⟩ | exact BinRun.eqlP0 ⟨_, Try.underlying28⟩ | exact BinRun.eqlP1 ⟨_, Try.underlying24⟩ | exact BinRun.eqlP1 ⟨_, Try.underlying28⟩) | (apply RunK.callS; exact rfl; exact rfl; exact e2; (repeat (first | exact ArgsLe.nil | refine ArgsLe.cons ?_ ?_ | exact ArgLe.v _ | exact ArgLe.sl _ _ _ _ | exact ArgLe.nil _ | exact ArgLe.nil' | (apply ArgLe.bsl; exact rfl; (first | exact rfl | (rw [List.length_map]; done) | (simp only [List.length_map]; done) | (simp; done) | (simp; omega)); (first | assumption | exact map_len (fun _ => rfl))))); exact rfl) | (apply RunK.callS; exact rfl; exact rfl; exact hc1; (repeat (first | exact ArgsLe.nil | refine ArgsLe.cons ?_ ?_ | exact ArgLe.v _ | exact ArgLe.sl _ _ _ _ | exact ArgLe.nil _ | exact ArgLe.nil' | (apply ArgLe.bsl; exact rfl; (first | exact rfl | (rw [List.length_map]; done) | (simp only [List.length_map]; done) | (simp; done) | (simp; omega)); (first | assumption | exact map_len (fun _ => rfl))))); exact rfl) | (apply RunK.callS; exact rfl; exact rfl; exact hc2; (repeat (first | exact ArgsLe.nil | refine ArgsLe.cons ?_ ?_ | exact ArgLe.v _ | exact ArgLe.sl _ _ _ _ | exact ArgLe.nil _ | exact ArgLe.nil' | (apply ArgLe.bsl; exact rfl; (first | exact rfl | (rw [List.length_map]; done) | (simp only [List.length_map]; done) | (simp; done) | (simp; omega)); (first | assumption | exact map_len (fun _ => rfl))))); exact rfl) | (apply RunK.callS; exact rfl; exact rfl; exact hl1; (repeat (first | exact ArgsLe.nil | refine ArgsLe.cons ?_ ?_ | exact ArgLe.v _ | exact ArgLe.sl _ _ _ _ | exact ArgLe.nil _ | exact ArgLe.nil' | (apply ArgLe.bsl; exact rfl; (first | exact rfl | (rw [List.length_map]; done) | (simp only [List.length_map]; done) | (simp; done) | (simp; omega)); (first | assumption | exact map_len (fun _ => rfl))))); exact rfl)
    | refine Wt.seq ?_
    | (apply Wt.regionK; exact rfl)
    | refine Wt.ret ?_
    | refine Wt.exit ?_
    | refine RunK.nil ?_
    | (apply RunK.moveV; exact rfl; exact rfl)
    | (apply RunK.assignV; exact rfl; exact rfl)
    | (apply RunK.moveBs; exact rfl; exact rfl)
    | (apply RunK.lenS; exact rfl; exact rfl)
    | (apply RunK.pickT; exact rfl; exact rfl; exact rfl)
    | (apply RunK.lss; exact rfl; exact rfl; exact rfl)
    | (apply RunK.eql; exact rfl; exact rfl; exact rfl)
    | (apply RunK.len; exact rfl; exact rfl)
    | (apply Wt.cond; exact rfl; all_goals (intro hg; (first | exact absurd hg (by decide) | skip); (first | (with_reducible replace hg := not_t hg) | (with_reducible replace hg := not_f hg) | skip); (first | (with_reducible replace hg := dec_t hg) | (with_reducible replace hg := dec_f hg) | skip); (first | (with_reducible exact absurd rfl hg) | skip); (repeat rw [List.length_map] at hg); try (exfalso; omega))))
              all_goals (apply ResOk.v1; exact rfl; (first | exact rfl | (refine bool_v ?_; simp)))
  · refine pure_of_wt Try.func3 rfl (by decide) _ Try.ntmps3 rfl Try.results3 fun w0 => ?_
    repeat' (first
    | (apply RunK.callS; exact rfl; exact rfl; exact lawKnown; (repeat (first | exact ArgsLe.nil | refine ArgsLe.cons ?_ ?_ | exact ArgLe.v _ | exact ArgLe.sl _ _ _ _ | exact ArgLe.nil _ | exact ArgLe.nil' | (apply ArgLe.bsl; exact rfl; (first | exact rfl | (rw [List.length_map]; done) | (simp only [List.length_map]; done) | (simp; done) | (simp; omega)); (first | assumption | exact map_len (fun _ => rfl))))); exact rfl)
    | refine Wt.seq ?_
    | (apply Wt.regionK; exact rfl)
    | refine Wt.ret ?_
    | refine RunK.nil ?_
    | (apply RunK.assignV; exact rfl; exact rfl)
    | (apply RunK.moveS; exact rfl; exact rfl)
    | (apply RunK.gtr; exact rfl; exact rfl; exact rfl)
    | (apply RunK.len; exact rfl; exact rfl)
    | (apply Wt.cond; exact rfl; all_goals (intro hg; (first | exact absurd hg (by decide) | skip); (first | (with_reducible replace hg := not_t hg) | (with_reducible replace hg := not_f hg) | skip); (first | (with_reducible replace hg := dec_t hg) | (with_reducible replace hg := dec_f hg) | skip); (first | (with_reducible exact absurd rfl hg) | skip); (repeat rw [List.length_map] at hg); try (exfalso; omega))))
    all_goals (apply ResOk.v1; exact rfl; exact rfl)
end Go.Proofs.Ytnpbnlmhmjejhaa
