/- The walk of the reference's For. -/
import Derived.Test.YtfacimebfdeaeaaF20
namespace Go.Proofs.Ytfacimebfdeaeaa
namespace Pv
open Go Go.RowKit
section
variable {P : Program} {s : St}
set_option maxRecDepth 100000 in
theorem ResOk.vnv {t1 t2 t3 k : Nat} {app : App} {b : List (List Value)} {u1 v1 u3 v3 : Value} (h1 : s.ev (.tmp t1) = .s (.v u1)) (e1 : u1 = v1) (h2 : s.ev (.tmp t2) = .s .nil) (e2 : [] = b) (h3 : s.ev (.tmp t3) = .s (.v u3)) (e3 : u3 = v3) : ResOk P s [.tmp t1, .tmp t2, .tmp t3] (.tup [.v v1, .sl (some 0) app k b, .v v3]) :=
  e1 ▸ e2 ▸ e3 ▸ .three (.tmp h1) (.refl _) (.tmp h2) (.nil _ _ _) (.tmp h3) (.refl _)
set_option maxRecDepth 100000 in
theorem ResOk.vsv {t1 t2 t3 τ k : Nat} {app : App} {a b : List (List Value)} {u1 v1 u3 v3 : Value} (h1 : s.ev (.tmp t1) = .s (.v u1)) (e1 : u1 = v1) (h2 : s.ev (.tmp t2) = .s (.sl (some τ) app k a)) (e2 : a = b) (h3 : s.ev (.tmp t3) = .s (.v u3)) (e3 : u3 = v3) : ResOk P s [.tmp t1, .tmp t2, .tmp t3] (.tup [.v v1, .sl (some 0) app k b, .v v3]) :=
  e1 ▸ e2 ▸ e3 ▸ .three (.tmp h1) (.refl _) (.tmp h2) (.refl _) (.tmp h3) (.refl _)
end
end Pv
open Pv Go.RowKit

abbrev forR (x : Nat × List Int × Int) : PV := .tup [.v (.int .u64 (x.1 : Int)), intsR x.2.1, .v (.int .i64 x.2.2)]
set_option maxRecDepth 100000 in
theorem forS_rel {fn : Nat} {r : Rect} {a : List Rule} {l : List Grant} (h : relB fn = false) : forS fn r a l = (0, [], 2) := by unfold forS; rw [h]; rfl
set_option maxRecDepth 100000 in
theorem forS_rect {fn : Nat} {r : Rect} {a : List Rule} {l : List Grant} (h : relB fn = true) (h2 : rectOk r = false) : forS fn r a l = (0, [], 3) := by unfold forS; rw [h, h2]; rfl
set_option maxRecDepth 100000 in
theorem forS_rules {fn : Nat} {r : Rect} {a : List Rule} {l : List Grant} (h : relB fn = true) (h2 : rectOk r = true) (h3 : ¬chkE a = 0) : forS fn r a l = (0, [], chkE a) := by unfold forS; rw [if_pos h, if_pos h2, if_neg h3]
set_option maxRecDepth 100000 in
theorem forS_grants {fn : Nat} {r : Rect} {a : List Rule} {l : List Grant} (h : relB fn = true) (h2 : rectOk r = true) (h3 : chkE a = 0) (h4 : ¬chkG l = 0) : forS fn r a l = (0, [], chkG l) := by unfold forS; rw [if_pos h, if_pos h2, if_pos h3, if_neg h4]
set_option maxRecDepth 100000 in
theorem forS_ok {fn : Nat} {r : Rect} {a : List Rule} {l : List Grant} (h : relB fn = true) (h2 : rectOk r = true) (h3 : chkE a = 0) (h4 : chkG l = 0) : forS fn r a l = (toN (selB fn r a) l l.length, byN (selB fn r a) l l.length, 0) := by unfold forS; rw [if_pos h, if_pos h2, if_pos h3, if_pos h4]
set_option maxRecDepth 100000 in
theorem liveS_ok {g : Grant} {a : List Rule} (h3 : chkE a = 0) (hg : goodG 64 g = true) : liveS g a = (liveB a g, 0) := by unfold liveS; rw [if_pos (goodG_one.2 hg), if_pos h3]
set_option maxRecDepth 100000 in
theorem refFor (fn : Nat) (r : Rect) (a : List Rule) (l : List Grant) (ha : a.length < 1000000000000000) (hL : l.length * 64 ≤ 140737488351232) (hoa : ∀ x ∈ a, x.ok) (hol : ∀ x ∈ l, x.ok) : Pure Try.prog 29 [.v (.int .u8 fn), .v r.v, rules a, grants l] (forR (forS fn r a l)) := by
  have hrel := released fn
  have hr := range r
  have hca := refCheck 64 a ha hoa
  have hcl := refGCheck 64 l (by omega) hol
  rw [show (checkG 64 l).2 = chkG l from rfl] at hcl
  rw [show (checkS 64 a).2 = chkE a from rfl] at hca
  generalize (checkG 64 l).1 = q at *
  generalize (checkS 64 a).1 = q2 at *
  cases h1 : relB fn with
  | false =>
    rw [h1] at hrel
    rw [forS_rel h1]
    refine pure_of_wt Try.func29 rfl (by decide) _ Try.ntmps29 rfl Try.results29 fun w0 => ?_
    repeat' (first
    | (apply RunK.callS; exact rfl; exact hrel; (repeat (first | exact ArgsLe.nil | refine ArgsLe.cons ?_ ?_ | exact ArgLe.v _ | exact ArgLe.sl _ _ _ _ | exact ArgLe.nil _ | exact ArgLe.nil' | (apply ArgLe.bsl; exact rfl; (first | exact rfl | (rw [List.length_map]; done) | (simp only [List.length_map]; done) | (simp; done) | (simp; omega)); (first | assumption | exact map_len (fun _ => rfl))))); exact rfl)
    | refine Wt.seq ?_
    | (apply Wt.regionK; exact rfl)
    | refine Wt.ret ?_
    | refine RunK.nil ?_
    | (apply RunK.moveV; exact rfl; exact rfl)
    | (apply RunK.assignV; exact rfl; exact rfl)
    | (apply RunK.box; exact rfl; exact rfl; apply Cells.eq; (first | exact Cells.agg _ | exact Cells.int _ _ | exact Cells.bool _ | exact Cells.one _ rfl); exact rfl)
    | (apply RunK.assignN; exact rfl; exact rfl)
    | (apply RunK.not; exact rfl; exact rfl)
    | (apply Wt.cond; exact rfl; all_goals (intro hg; (first | exact absurd hg (by decide) | skip); (first | (with_reducible replace hg := not_t hg) | (with_reducible replace hg := not_f hg) | skip); (first | (with_reducible replace hg := dec_t hg) | (with_reducible replace hg := dec_f hg) | skip); (first | (with_reducible exact absurd rfl hg) | skip); (repeat rw [List.length_map] at hg); try (exfalso; omega))))
    all_goals (apply ResOk.vnv <;> exact rfl)
  | true =>
    rw [h1] at hrel
    cases h2 : rectOk r with
    | false =>
      rw [h2] at hr
      rw [forS_rect h1 h2]
      refine pure_of_wt Try.func29 rfl (by decide) _ Try.ntmps29 rfl Try.results29 fun w0 => ?_
      repeat' (first
    | (apply RunK.callS; exact rfl; exact hrel; (repeat (first | exact ArgsLe.nil | refine ArgsLe.cons ?_ ?_ | exact ArgLe.v _ | exact ArgLe.sl _ _ _ _ | exact ArgLe.nil _ | exact ArgLe.nil' | (apply ArgLe.bsl; exact rfl; (first | exact rfl | (rw [List.length_map]; done) | (simp only [List.length_map]; done) | (simp; done) | (simp; omega)); (first | assumption | exact map_len (fun _ => rfl))))); exact rfl) | (apply RunK.callS; exact rfl; exact hr; (repeat (first | exact ArgsLe.nil | refine ArgsLe.cons ?_ ?_ | exact ArgLe.v _ | exact ArgLe.sl _ _ _ _ | exact ArgLe.nil _ | exact ArgLe.nil' | (apply ArgLe.bsl; exact rfl; (first | exact rfl | (rw [List.length_map]; done) | (simp only [List.length_map]; done) | (simp; done) | (simp; omega)); (first | assumption | exact map_len (fun _ => rfl))))); exact rfl)
    | refine Wt.seq ?_
    | (apply Wt.regionK; exact rfl)
    | refine Wt.ret ?_
    | refine Wt.skip ?_
    | refine RunK.nil ?_
    | (apply RunK.moveV; exact rfl; exact rfl)
    | (apply RunK.assignV; exact rfl; exact rfl)
    | (apply RunK.box; exact rfl; exact rfl; apply Cells.eq; (first | exact Cells.agg _ | exact Cells.int _ _ | exact Cells.bool _ | exact Cells.one _ rfl); exact rfl)
    | (apply RunK.assignN; exact rfl; exact rfl)
    | (apply RunK.loadR; exact rfl; exact rfl; exact rfl; exact rfl; (apply cut_eq; repeat (first | exact Cut.nil _ | apply Cut.cons | apply Cut.skip)))
    | (apply RunK.not; exact rfl; exact rfl)
    | (apply Wt.cond; exact rfl; all_goals (intro hg; (first | exact absurd hg (by decide) | skip); (first | (with_reducible replace hg := not_t hg) | (with_reducible replace hg := not_f hg) | skip); (first | (with_reducible replace hg := dec_t hg) | (with_reducible replace hg := dec_f hg) | skip); (first | (with_reducible exact absurd rfl hg) | skip); (repeat rw [List.length_map] at hg); try (exfalso; omega))))
      all_goals (apply ResOk.vnv <;> exact rfl)
    | true =>
      rw [h2] at hr
      by_cases h3 : chkE a = 0
      · rw [h3] at hca
        by_cases h4 : chkG l = 0
        · rw [h4] at hcl
          rw [forS_ok h1 h2 h3 h4]
          have hgood := chkG_good h4
          refine pure_of_wt Try.func29 rfl (by decide) _ Try.ntmps29 rfl Try.results29 fun w0 => ?_
          repeat' (first
    | (apply RunK.callS; exact rfl; exact hrel; (repeat (first | exact ArgsLe.nil | refine ArgsLe.cons ?_ ?_ | exact ArgLe.v _ | exact ArgLe.sl _ _ _ _ | exact ArgLe.nil _ | exact ArgLe.nil' | (apply ArgLe.bsl; exact rfl; (first | exact rfl | (rw [List.length_map]; done) | (simp only [List.length_map]; done) | (simp; done) | (simp; omega)); (first | assumption | exact map_len (fun _ => rfl))))); exact rfl) | (apply RunK.callS; exact rfl; exact hr; (repeat (first | exact ArgsLe.nil | refine ArgsLe.cons ?_ ?_ | exact ArgLe.v _ | exact ArgLe.sl _ _ _ _ | exact ArgLe.nil _ | exact ArgLe.nil' | (apply ArgLe.bsl; exact rfl; (first | exact rfl | (rw [List.length_map]; done) | (simp only [List.length_map]; done) | (simp; done) | (simp; omega)); (first | assumption | exact map_len (fun _ => rfl))))); exact rfl) | (apply RunK.callT; exact rfl; exact hca; (repeat (first | exact ArgsLe.nil | refine ArgsLe.cons ?_ ?_ | exact ArgLe.v _ | exact ArgLe.sl _ _ _ _ | exact ArgLe.nil _ | exact ArgLe.nil' | (apply ArgLe.bsl; exact rfl; (first | exact rfl | (rw [List.length_map]; done) | (simp only [List.length_map]; done) | (simp; done) | (simp; omega)); (first | assumption | exact map_len (fun _ => rfl))))); exact rfl) | (apply RunK.callT; exact rfl; exact hcl; (repeat (first | exact ArgsLe.nil | refine ArgsLe.cons ?_ ?_ | exact ArgLe.v _ | exact ArgLe.sl _ _ _ _ | exact ArgLe.nil _ | exact ArgLe.nil' | (apply ArgLe.bsl; exact rfl; (first | exact rfl | (rw [List.length_map]; done) | (simp only [List.length_map]; done) | (simp; done) | (simp; omega)); (first | assumption | exact map_len (fun _ => rfl))))); exact rfl)
    | refine Wt.seq ?_
    | (apply Wt.regionK; exact rfl)
    | refine Wt.block ?_
    | refine Wt.skip ?_
    | refine RunK.nil ?_
    | (apply RunK.moveV; exact rfl; exact rfl)
    | (apply RunK.assignV; exact rfl; exact rfl)
    | (apply RunK.box; exact rfl; exact rfl; apply Cells.eq; (first | exact Cells.agg _ | exact Cells.int _ _ | exact Cells.bool _ | exact Cells.one _ rfl); exact rfl)
    | (apply RunK.moveS; exact rfl; exact rfl)
    | (apply RunK.moveT; exact rfl; exact rfl)
    | (apply RunK.assignN; exact rfl; exact rfl)
    | (apply RunK.loadR; exact rfl; exact rfl; exact rfl; exact rfl; (apply cut_eq; repeat (first | exact Cut.nil _ | apply Cut.cons | apply Cut.skip)))
    | (apply RunK.neq; exact rfl; exact rfl; exact rfl)
    | (apply RunK.not; exact rfl; exact rfl)
    | (apply RunK.extract; exact rfl; exact rfl; exact rfl)
    | (apply Wt.cond; exact rfl; all_goals (intro hg; (first | exact absurd hg (by decide) | skip); (first | (with_reducible replace hg := not_t hg) | (with_reducible replace hg := not_f hg) | skip); (first | (with_reducible replace hg := dec_t hg) | (with_reducible replace hg := dec_f hg) | skip); (first | (with_reducible exact absurd rfl hg) | skip); (repeat rw [List.length_map] at hg); try (exfalso; omega))))
          refine Wt.loop (fun k : Nat => ⟨[(0, .s (.v (.int .u8 fn))), (2, .s (rules a)), (3, .s (grants l)), (5, .box 5 0), (15, .s (.v (.int .u64 ((toN (selB fn r a) l k : Nat) : Int)))), (16, .s (intsR (byN (selB fn r a) l k))), (17, .s (.v (.int .i64 k)))], [(5, r.vals)]⟩) (fun k => k ≤ l.length) (fun k => l.length - k) 0 (Nat.zero_le _) ?_ ?_
          · (refine Le.mk ?_ ?_; (repeat' (first | exact LeEnv.done | refine LeEnv.cons ?_ ?_ | exact PVLe.refl _ | exact PVLe.s (SVLe.nil _ _ _) | exact PVLe.s (SVLe.no _ _ _ _) | (refine PVLe.int ?_; first | rfl | omega | (simp; done) | (simp; omega)) | (refine PVLe.els ?_; first | rfl | assumption | (simp; done)) | (refine PVLe.bool ?_; first | rfl | assumption) | (refine PVLe.bsl ?_; first | rfl | assumption | (simp; done))));  (repeat' (first | exact LeBox.done | refine LeBox.cons ?_ ?_ | exact rfl)))
          · rintro k hk
            by_cases hlt : k < l.length
            · obtain ⟨g, hgk⟩ := exists_at hlt
              have hx := get_map (f := Grant.vals) hgk
              have hgm := List.mem_of_getElem? hgk
              have hgo := hol g hgm
              have hlv := refGLive g hgo a ha hoa
              rw [liveS_ok h3 (hgood g hgm)] at hlv
              have hnm := refNames g.fns fn hgo.fns
              have hor := u64_or_nat _ _ (toN_lt (p := selB fn r a) (fun g hg => (hol g hg).to) k) hgo.to
              have hlen := byN_len (p := selB fn r a) (l := l) k
              dsimp only at hlv
              repeat' (first
    | (apply RunK.callT; exact rfl; exact hlv; (repeat (first | exact ArgsLe.nil | refine ArgsLe.cons ?_ ?_ | exact ArgLe.v _ | exact ArgLe.sl _ _ _ _ | exact ArgLe.nil _ | exact ArgLe.nil' | (apply ArgLe.bsl; exact rfl; (first | exact rfl | (rw [List.length_map]; done) | (simp only [List.length_map]; done) | (simp; done) | (simp; omega)); (first | assumption | exact map_len (fun _ => rfl))))); exact rfl) | (apply RunK.callS; exact rfl; exact hnm; (repeat (first | exact ArgsLe.nil | refine ArgsLe.cons ?_ ?_ | exact ArgLe.v _ | exact ArgLe.sl _ _ _ _ | exact ArgLe.nil _ | exact ArgLe.nil' | (apply ArgLe.bsl; exact rfl; (first | exact rfl | (rw [List.length_map]; done) | (simp only [List.length_map]; done) | (simp; done) | (simp; omega)); (first | assumption | exact map_len (fun _ => rfl))))); exact rfl) | (first | (apply RunK.append; exact rfl; exact rfl; exact rfl; (first | exact ReadLe.sl _ _ _ _ | exact ReadLe.nil _); exact rfl; (first | exact one_rows rfl | exact one_map (fun _ => rfl) _); (first | exact app_b1 (by omega) | exact app_b2 (by omega) | exact app_b3 (by omega) | exact app_b4 (by omega) | exact app_b5 (by omega))) | (apply RunK.appendN; exact rfl; exact rfl; exact rfl; (first | exact ReadLe.sl _ _ _ _ | exact ReadLe.nil _); exact rfl; (first | exact one_rows rfl | exact one_map (fun _ => rfl) _); (first | exact app_b1 (by omega) | exact app_b2 (by omega) | exact app_b3 (by omega) | exact app_b4 (by omega) | exact app_b5 (by omega))) | (apply RunK.appendF; exact rfl; exact rfl; exact rfl; (first | exact ReadLe.sl _ _ _ _ | exact ReadLe.nil _); (first | exact one_rows rfl | exact one_map (fun _ => rfl) _); (first | exact app_b1 (by omega) | exact app_b2 (by omega) | exact app_b3 (by omega) | exact app_b4 (by omega) | exact app_b5 (by omega)))) | (apply RunK.bin; exact rfl; exact rfl; exact rfl; exact eqlRect g.rect r) | (apply RunK.bin; exact rfl; exact rfl; exact rfl; exact runBits (.inr (.inl rfl)) hor)
    | refine Wt.seq ?_
    | (apply Wt.regionK; exact rfl)
    | refine Wt.block ?_
    | refine Wt.skip ?_
    | refine RunK.nil ?_
    | (apply RunK.moveV; exact rfl; exact rfl)
    | (apply RunK.index; exact rfl; exact rfl; exact rfl; (first | exact rfl | exact (rfl : (0 : Int) = ((0 : Nat) : Int)) | exact (rfl : (1 : Int) = ((1 : Nat) : Int)) | exact (rfl : (2 : Int) = ((2 : Nat) : Int)) | exact (rfl : (3 : Int) = ((3 : Nat) : Int)) | assumption); (first | omega | exact lt_of_get ‹_› | (rw [List.length_map]; omega) | (simp; omega)))
    | (apply RunK.load1; exact rfl; exact rfl; exact rfl; exact rfl)
    | (apply RunK.field; exact rfl; exact rfl)
    | (apply RunK.assignV; exact rfl; exact rfl)
    | (apply RunK.alloc; exact rfl; apply Cells.eq; (first | exact Cells.agg _ | exact Cells.int _ _ | exact Cells.bool _ | exact Cells.one _ rfl); exact rfl)
    | (apply RunK.moveS; exact rfl; exact rfl)
    | (apply RunK.moveT; exact rfl; exact rfl)
    | (apply RunK.assignS; exact rfl; exact rfl)
    | (apply RunK.loadR; exact rfl; exact rfl; exact rfl; exact rfl; (apply cut_eq; repeat (first | exact Cut.nil _ | apply Cut.cons | apply Cut.skip)))
    | (apply RunK.loadER; exact rfl; exact rfl; assumption; exact rfl; (apply cut_eq; repeat (first | exact Cut.nil _ | apply Cut.cons | apply Cut.skip)))
    | (apply RunK.pickT; exact rfl; exact rfl; exact rfl)
    | (apply RunK.pickF; exact rfl; exact rfl; exact rfl)
    | (apply RunK.lss; exact rfl; exact rfl; exact rfl)
    | (apply RunK.add; exact rfl; exact rfl; exact rfl; (first | omega | (simp only [List.length_map]; omega)))
    | (apply RunK.len; exact rfl; exact rfl)
    | (apply RunK.extract; exact rfl; exact rfl; exact rfl)
    | (apply RunK.rows; exact rfl; (repeat (first | exact PartsOk.nil | (apply PartsOk.cons; exact rfl))); (repeat (first | exact Rows.nil _ | (apply Rows.cons; (first | exact Cells.agg _ | exact Cells.int _ _ | exact Cells.bool _ | exact Cells.one _ rfl); exact rfl))); exact rfl; exact rfl)
    | (apply RunK.store; exact rfl; exact rfl; exact rfl; exact rfl; exact rfl; exact rfl; exact rfl; apply upd_eq; exact rfl; (first | exact Cells.agg _ | exact Cells.int _ _ | exact Cells.bool _ | exact Cells.one _ rfl); (repeat (first | exact Upd.nil _ | apply Upd.cons | apply Upd.skip)))
    | (apply RunK.skip; exact rfl; exact rfl)
    | (apply RunK.guard; exact rfl; exact rfl; exact rfl; all_goals (intro hg; (first | exact absurd hg (by decide) | skip); (first | (with_reducible replace hg := not_t hg) | (with_reducible replace hg := not_f hg) | skip); (first | (with_reducible replace hg := dec_t hg) | (with_reducible replace hg := dec_f hg) | skip); (first | (with_reducible exact absurd rfl hg) | skip); (repeat rw [List.length_map] at hg); try (exfalso; omega)))
    | (apply Wt.cond; exact rfl; all_goals (intro hg; (first | exact absurd hg (by decide) | skip); (first | (with_reducible replace hg := not_t hg) | (with_reducible replace hg := not_f hg) | skip); (first | (with_reducible replace hg := dec_t hg) | (with_reducible replace hg := dec_f hg) | skip); (first | (with_reducible exact absurd rfl hg) | skip); (repeat rw [List.length_map] at hg); try (exfalso; omega))))
              · have hs : selB fn r a g = true := by unfold selB; rw [decide_eq_true ‹g.rect = r›, ‹namesB g.fns fn = true›, ‹liveB a g = true›]; rfl
                have he : (byN (selB fn r a) l k).map ival ++ [[.int .i64 (k : Int)]] = (byN (selB fn r a) l (k + 1)).map ival := by rw [byN_yes hgk hs, List.map_append]; rfl
                refine ⟨k + 1, hlt, by omega, ?_⟩
                rw [toN_yes hgk hs]
                (refine Le.mk ?_ ?_; (repeat' (first | exact LeEnv.done | refine LeEnv.cons ?_ ?_ | exact PVLe.refl _ | exact PVLe.s (SVLe.nil _ _ _) | exact PVLe.s (SVLe.no _ _ _ _) | (refine PVLe.int ?_; first | rfl | omega | (simp; done) | (simp; omega)) | (refine PVLe.els ?_; first | rfl | assumption | (simp; done)) | (refine PVLe.bool ?_; first | rfl | assumption) | (refine PVLe.bsl ?_; first | rfl | assumption | (simp; done))));  (repeat' (first | exact LeBox.done | refine LeBox.cons ?_ ?_ | exact rfl)))
              all_goals
                have hs : selB fn r a g = false := by unfold selB; simp [*]
                refine ⟨k + 1, hlt, by omega, ?_⟩
                rw [toN_no hgk hs, byN_no hgk hs]
                (refine Le.mk ?_ ?_; (repeat' (first | exact LeEnv.done | refine LeEnv.cons ?_ ?_ | exact PVLe.refl _ | exact PVLe.s (SVLe.nil _ _ _) | exact PVLe.s (SVLe.no _ _ _ _) | (refine PVLe.int ?_; first | rfl | omega | (simp; done) | (simp; omega)) | (refine PVLe.els ?_; first | rfl | assumption | (simp; done)) | (refine PVLe.bool ?_; first | rfl | assumption) | (refine PVLe.bsl ?_; first | rfl | assumption | (simp; done))));  (repeat' (first | exact LeBox.done | refine LeBox.cons ?_ ?_ | exact rfl)))
            · repeat' (first
    | refine Wt.seq ?_
    | (apply Wt.regionK; exact rfl)
    | refine Wt.ret ?_
    | refine Wt.exit ?_
    | refine RunK.nil ?_
    | (apply RunK.moveV; exact rfl; exact rfl)
    | (apply RunK.assignV; exact rfl; exact rfl)
    | (apply RunK.moveS; exact rfl; exact rfl)
    | (apply RunK.assignS; exact rfl; exact rfl)
    | (apply RunK.lss; exact rfl; exact rfl; exact rfl)
    | (apply RunK.len; exact rfl; exact rfl)
    | (apply Wt.cond; exact rfl; all_goals (intro hg; (first | exact absurd hg (by decide) | skip); (first | (with_reducible replace hg := not_t hg) | (with_reducible replace hg := not_f hg) | skip); (first | (with_reducible replace hg := dec_t hg) | (with_reducible replace hg := dec_f hg) | skip); (first | (with_reducible exact absurd rfl hg) | skip); (repeat rw [List.length_map] at hg); try (exfalso; omega))))
              obtain rfl : k = l.length := by omega
              apply ResOk.vsv <;> exact rfl
        · rw [forS_grants h1 h2 h3 h4]
          generalize chkG l = E at *
          refine pure_of_wt Try.func29 rfl (by decide) _ Try.ntmps29 rfl Try.results29 fun w0 => ?_
          repeat' (first
    | (apply RunK.callS; exact rfl; exact hrel; (repeat (first | exact ArgsLe.nil | refine ArgsLe.cons ?_ ?_ | exact ArgLe.v _ | exact ArgLe.sl _ _ _ _ | exact ArgLe.nil _ | exact ArgLe.nil' | (apply ArgLe.bsl; exact rfl; (first | exact rfl | (rw [List.length_map]; done) | (simp only [List.length_map]; done) | (simp; done) | (simp; omega)); (first | assumption | exact map_len (fun _ => rfl))))); exact rfl) | (apply RunK.callS; exact rfl; exact hr; (repeat (first | exact ArgsLe.nil | refine ArgsLe.cons ?_ ?_ | exact ArgLe.v _ | exact ArgLe.sl _ _ _ _ | exact ArgLe.nil _ | exact ArgLe.nil' | (apply ArgLe.bsl; exact rfl; (first | exact rfl | (rw [List.length_map]; done) | (simp only [List.length_map]; done) | (simp; done) | (simp; omega)); (first | assumption | exact map_len (fun _ => rfl))))); exact rfl) | (apply RunK.callT; exact rfl; exact hca; (repeat (first | exact ArgsLe.nil | refine ArgsLe.cons ?_ ?_ | exact ArgLe.v _ | exact ArgLe.sl _ _ _ _ | exact ArgLe.nil _ | exact ArgLe.nil' | (apply ArgLe.bsl; exact rfl; (first | exact rfl | (rw [List.length_map]; done) | (simp only [List.length_map]; done) | (simp; done) | (simp; omega)); (first | assumption | exact map_len (fun _ => rfl))))); exact rfl) | (apply RunK.callT; exact rfl; exact hcl; (repeat (first | exact ArgsLe.nil | refine ArgsLe.cons ?_ ?_ | exact ArgLe.v _ | exact ArgLe.sl _ _ _ _ | exact ArgLe.nil _ | exact ArgLe.nil' | (apply ArgLe.bsl; exact rfl; (first | exact rfl | (rw [List.length_map]; done) | (simp only [List.length_map]; done) | (simp; done) | (simp; omega)); (first | assumption | exact map_len (fun _ => rfl))))); exact rfl)
    | refine Wt.seq ?_
    | (apply Wt.regionK; exact rfl)
    | refine Wt.ret ?_
    | refine Wt.skip ?_
    | refine RunK.nil ?_
    | (apply RunK.moveV; exact rfl; exact rfl)
    | (apply RunK.assignV; exact rfl; exact rfl)
    | (apply RunK.box; exact rfl; exact rfl; apply Cells.eq; (first | exact Cells.agg _ | exact Cells.int _ _ | exact Cells.bool _ | exact Cells.one _ rfl); exact rfl)
    | (apply RunK.moveS; exact rfl; exact rfl)
    | (apply RunK.moveT; exact rfl; exact rfl)
    | (apply RunK.assignN; exact rfl; exact rfl)
    | (apply RunK.loadR; exact rfl; exact rfl; exact rfl; exact rfl; (apply cut_eq; repeat (first | exact Cut.nil _ | apply Cut.cons | apply Cut.skip)))
    | (apply RunK.neq; exact rfl; exact rfl; exact rfl)
    | (apply RunK.not; exact rfl; exact rfl)
    | (apply RunK.extract; exact rfl; exact rfl; exact rfl)
    | (apply Wt.cond; exact rfl; all_goals (intro hg; (first | exact absurd hg (by decide) | skip); (first | (with_reducible replace hg := not_t hg) | (with_reducible replace hg := not_f hg) | skip); (first | (with_reducible replace hg := dec_t hg) | (with_reducible replace hg := dec_f hg) | skip); (first | (with_reducible exact absurd rfl hg) | skip); (repeat rw [List.length_map] at hg); try (exfalso; omega))))
          all_goals (apply ResOk.vnv <;> exact rfl)
      · rw [forS_rules h1 h2 h3]
        generalize chkE a = E at *
        refine pure_of_wt Try.func29 rfl (by decide) _ Try.ntmps29 rfl Try.results29 fun w0 => ?_
        repeat' (first
    | (apply RunK.callS; exact rfl; exact hrel; (repeat (first | exact ArgsLe.nil | refine ArgsLe.cons ?_ ?_ | exact ArgLe.v _ | exact ArgLe.sl _ _ _ _ | exact ArgLe.nil _ | exact ArgLe.nil' | (apply ArgLe.bsl; exact rfl; (first | exact rfl | (rw [List.length_map]; done) | (simp only [List.length_map]; done) | (simp; done) | (simp; omega)); (first | assumption | exact map_len (fun _ => rfl))))); exact rfl) | (apply RunK.callS; exact rfl; exact hr; (repeat (first | exact ArgsLe.nil | refine ArgsLe.cons ?_ ?_ | exact ArgLe.v _ | exact ArgLe.sl _ _ _ _ | exact ArgLe.nil _ | exact ArgLe.nil' | (apply ArgLe.bsl; exact rfl; (first | exact rfl | (rw [List.length_map]; done) | (simp only [List.length_map]; done) | (simp; done) | (simp; omega)); (first | assumption | exact map_len (fun _ => rfl))))); exact rfl) | (apply RunK.callT; exact rfl; exact hca; (repeat (first | exact ArgsLe.nil | refine ArgsLe.cons ?_ ?_ | exact ArgLe.v _ | exact ArgLe.sl _ _ _ _ | exact ArgLe.nil _ | exact ArgLe.nil' | (apply ArgLe.bsl; exact rfl; (first | exact rfl | (rw [List.length_map]; done) | (simp only [List.length_map]; done) | (simp; done) | (simp; omega)); (first | assumption | exact map_len (fun _ => rfl))))); exact rfl)
    | refine Wt.seq ?_
    | (apply Wt.regionK; exact rfl)
    | refine Wt.ret ?_
    | refine Wt.skip ?_
    | refine RunK.nil ?_
    | (apply RunK.moveV; exact rfl; exact rfl)
    | (apply RunK.assignV; exact rfl; exact rfl)
    | (apply RunK.box; exact rfl; exact rfl; apply Cells.eq; (first | exact Cells.agg _ | exact Cells.int _ _ | exact Cells.bool _ | exact Cells.one _ rfl); exact rfl)
    | (apply RunK.moveS; exact rfl; exact rfl)
    | (apply RunK.moveT; exact rfl; exact rfl)
    | (apply RunK.assignN; exact rfl; exact rfl)
    | (apply RunK.loadR; exact rfl; exact rfl; exact rfl; exact rfl; (apply cut_eq; repeat (first | exact Cut.nil _ | apply Cut.cons | apply Cut.skip)))
    | (apply RunK.neq; exact rfl; exact rfl; exact rfl)
    | (apply RunK.not; exact rfl; exact rfl)
    | (apply RunK.extract; exact rfl; exact rfl; exact rfl)
    | (apply Wt.cond; exact rfl; all_goals (intro hg; (first | exact absurd hg (by decide) | skip); (first | (with_reducible replace hg := not_t hg) | (with_reducible replace hg := not_f hg) | skip); (first | (with_reducible replace hg := dec_t hg) | (with_reducible replace hg := dec_f hg) | skip); (first | (with_reducible exact absurd rfl hg) | skip); (repeat rw [List.length_map] at hg); try (exfalso; omega))))
        all_goals (apply ResOk.vnv <;> exact rfl)
end Go.Proofs.Ytfacimebfdeaeaa
