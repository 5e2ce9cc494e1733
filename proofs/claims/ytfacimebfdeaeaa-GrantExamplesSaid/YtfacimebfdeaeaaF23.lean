/- The walk of For: a loop over a function. -/
import Derived.Test.YtfacimebfdeaeaaF22
namespace Go.Proofs.Ytfacimebfdeaeaa
open Pv Go.RowKit
def endFor (res : PV) (D : Nat) (s : St) : Prop := Pv.look s.env 2000051 = .kept D (.deferred (some [])) ∧ notDef 2000051 s.env = true ∧ ResOk Try.prog ⟨(2000051, .kept D (.deferred none)) :: s.env, s.boxes⟩ [.cell 8 38, .cell 9 43, .tmp 10] res
abbrev intsR1 (l : List Int) : SV := .sl (some 1) (.front 3) 1 (l.map ival)
/-- The iterator's frame, and what is known of the caller's. -/
abbrev relB0 (l : List Grant) (a : List Rule) (hdr1 hdr2 : Value) (L D : Nat) (tm : Array Value) (Rd : Loop) (hdr : Value) (by_ : List Int) : List (Nat × PV) :=
  [(0, .s (.v (.func (.yield L) #[] #[]))), (1, .box 107 0), (2, .box 105 0), (3, .box 104 0), (4, .box 106 0), (2000020, .hd hdr1 (rules a)), (2000021, .hd hdr2 (grants l)), (2000030, .hd hdr (intsR1 by_)), (2000040, .hb (tm.getD 8 undef) 8 0), (2000041, .hb (tm.getD 9 undef) 9 0), (2000050, .kept L (.loop Rd)), (2000051, .kept D (.deferred (some [])))]
abbrev relBx (fn : Nat) (r : Rect) (hdr1 hdr2 : Value) (to : Nat) (hdr : Value) : List (Nat × List Value) := [(8, [.int .u64 to]), (9, [hdr]), (104, [.int .u8 fn]), (105, r.vals), (106, [hdr1]), (107, [hdr2])]
abbrev relI (l : List Grant) (a : List Rule) (fn : Nat) (r : Rect) (hdr1 hdr2 : Value) (L D : Nat) (tm : Array Value) (Rd : Loop) (to : Nat) (hdr : Value) (by_ : List Int) : St := ⟨relB0 l a hdr1 hdr2 L D tm Rd hdr by_, relBx fn r hdr1 hdr2 to hdr⟩
set_option maxHeartbeats 4000000 in
set_option maxRecDepth 100000 in
theorem grantFor_ok (fn : Nat) (r : Rect) (a : List Rule) (l : List Grant) (ha : a.length < 1000000000000000) (hL : l.length * 64 ≤ 140737488351232) (hoa : ∀ x ∈ a, x.ok) (hol : ∀ x ∈ l, x.ok) (h1 : relB fn = true) (h2 : rectOk r = true) (h3 : chkE a = 0) (h4 : chkG l = 0) : Pure Try.prog 25 [.v (.int .u8 fn), .v r.v, rules a, grants l] (forR (toN (selB fn r a) l l.length, byN (selB fn r a) l l.length, 0)) := by
  have h1' := rel_iff h1
  have hr := rectCheck r
  have hca := aclCheck 64 a ha hoa
  have hcl := grantCheck 64 l (by omega) hol
  rw [show (checkG 64 l).2 = chkG l from rfl, h4] at hcl
  rw [show (checkS 64 a).2 = chkE a from rfl, h3] at hca
  rw [show chk r = 0 from by unfold chk; rw [h2]; rfl] at hr
  generalize (checkG 64 l).1 = q at *
  generalize (checkS 64 a).1 = q2 at *
  have hgood := chkG_good h4
  refine pure_of_wtM 2000051 Try.func25 rfl (by decide) _ Try.ntmps25 rfl Try.results25 fun w0 hm hfin => ?_
  generalize hres : forR (toN (selB fn r a) l l.length, byN (selB fn r a) l l.length, 0) = res at *
  replace hfin : ∀ D s a w, endFor res D s → w0.w.heap.size ≤ D → RS ⟨w0.w, w0.fr, [markOf D], fun _ _ => False⟩ 59 s a w → w0.fin a w := fun D s a w h => hfin D s a w h
  refine Wt.factN 2000030 1 (.front 3) 1 rfl ?_
  repeat' (first
    | (refine Wt.ranges (endFor res) hm hfin ?_) | (apply RunK.callS; exact rfl; exact rfl; exact hr; (repeat (first | exact ArgsLe.nil | refine ArgsLe.cons ?_ ?_ | exact ArgLe.v _ | exact ArgLe.sl _ _ _ _ | exact ArgLe.nil _ | exact ArgLe.nil' | exact ArgLe.nsl _ _ _ _ _ | exact ArgLe.nsn _ | (apply ArgLe.bsl; exact rfl; (first | exact rfl | (rw [List.length_map]; done) | (simp only [List.length_map]; done) | (simp; done) | (simp; omega)); (first | assumption | exact map_len (fun _ => rfl))))); exact rfl) | (apply RunK.callT; exact rfl; exact rfl; exact hca; (repeat (first | exact ArgsLe.nil | refine ArgsLe.cons ?_ ?_ | exact ArgLe.v _ | exact ArgLe.sl _ _ _ _ | exact ArgLe.nil _ | exact ArgLe.nil' | exact ArgLe.nsl _ _ _ _ _ | exact ArgLe.nsn _ | (apply ArgLe.bsl; exact rfl; (first | exact rfl | (rw [List.length_map]; done) | (simp only [List.length_map]; done) | (simp; done) | (simp; omega)); (first | assumption | exact map_len (fun _ => rfl))))); exact rfl) | (apply RunK.callT; exact rfl; exact rfl; exact hcl; (repeat (first | exact ArgsLe.nil | refine ArgsLe.cons ?_ ?_ | exact ArgLe.v _ | exact ArgLe.sl _ _ _ _ | exact ArgLe.nil _ | exact ArgLe.nil' | exact ArgLe.nsl _ _ _ _ _ | exact ArgLe.nsn _ | (apply ArgLe.bsl; exact rfl; (first | exact rfl | (rw [List.length_map]; done) | (simp only [List.length_map]; done) | (simp; done) | (simp; omega)); (first | assumption | exact map_len (fun _ => rfl))))); exact rfl)
    | refine Wt.seq ?_
    | (apply Wt.regionK; exact rfl)
    | refine Wt.skip ?_
    | refine RunK.nil ?_
    | (apply RunK.moveV; exact rfl; exact rfl)
    | (apply RunK.assignV; exact rfl; exact rfl)
    | (apply RunK.box; exact rfl; exact rfl; apply Cells.eq; (first | exact Cells.agg _ | exact Cells.int _ _ | exact Cells.bool _ | exact Cells.one _ rfl); exact rfl)
    | (apply RunK.alloc; exact rfl; apply Cells.eq; (first | exact Cells.agg _ | exact Cells.int _ _ | exact Cells.bool _ | exact Cells.one _ rfl); exact rfl)
    | (apply RunK.moveS; exact rfl; exact rfl)
    | (apply RunK.moveT; exact rfl; exact rfl)
    | (apply RunK.loadR; exact rfl; exact rfl; exact rfl; exact rfl; (apply cut_eq; repeat (first | exact Cut.nil _ | apply Cut.cons | apply Cut.skip)))
    | (apply RunK.pickF; exact rfl; exact rfl; exact rfl)
    | (apply RunK.lss; exact rfl; exact rfl; exact rfl)
    | (apply RunK.gtr; exact rfl; exact rfl; exact rfl)
    | (apply RunK.neq; exact rfl; exact rfl; exact rfl)
    | (apply RunK.extract; exact rfl; exact rfl; exact rfl)
    | (apply RunK.guard; exact rfl; exact rfl; exact rfl; all_goals (intro hg; (first | exact absurd hg (by decide) | skip); (first | (with_reducible replace hg := not_t hg) | (with_reducible replace hg := not_f hg) | skip); (first | (with_reducible replace hg := dec_t hg) | (with_reducible replace hg := dec_f hg) | skip); (first | (with_reducible exact absurd rfl hg) | skip); (repeat rw [List.length_map] at hg); try (exfalso; omega)))
    | (apply Wt.cond; exact rfl; all_goals (intro hg; (first | exact absurd hg (by decide) | skip); (first | (with_reducible replace hg := not_t hg) | (with_reducible replace hg := not_f hg) | skip); (first | (with_reducible replace hg := dec_t hg) | (with_reducible replace hg := dec_f hg) | skip); (first | (with_reducible exact absurd rfl hg) | skip); (repeat rw [List.length_map] at hg); try (exfalso; omega))))
  refine RunK.leK ⟨[(42, .s (.v (.int .u8 fn))), (43, .s (.v r.v)), (44, .s (rules a)), (45, .s (grants l)), (8, .box 8 0), (9, .box 9 0), (2000030, .hd (.slice none 0 0) (.sl (some 1) (.front 3) 1 []))], [(8, [.int .u64 0]), (9, [.slice none 0 0])]⟩ (by (refine Le.mk ?_ ?_; (repeat' (first | exact LeEnv.done | refine LeEnv.cons ?_ ?_ | exact PVLe.refl _ | exact PVLe.s (SVLe.nil _ _ _) | exact PVLe.s (SVLe.no _ _ _ _) | (refine PVLe.int ?_; first | rfl | omega | (simp; done) | (simp; omega)) | (refine PVLe.els ?_; first | rfl | assumption | (simp; done)) | (refine PVLe.bool ?_; first | rfl | assumption) | (refine PVLe.bsl ?_; first | rfl | assumption | (simp; done))));  (repeat' (first | exact LeBox.done | refine LeBox.cons ?_ ?_ | exact rfl)))) ?_
  apply RunK.callI
  (case hw => exact rfl)
  (case hf => exact Try.func63)
  (case hb => exact rfl)
  (case hname => decide)
  (case hnt => exact Try.ntmps63)
  (case hl => exact Try.results63)
  (case ha => exact .cons rfl (.cons rfl (.cons rfl (.cons rfl .nil))))
  (case hn => exact rfl)
  (case hg => exact rfl)
  intro w1
  refine Wt.seq ?_
  apply Wt.regionK; exact rfl
  refine RunK.openS 2 2000020 rfl rfl rfl fun hdr1 hc1 ho1 => ?_
  refine RunK.openS 3 2000021 rfl rfl rfl fun hdr2 hc2 ho2 => ?_
  apply RunK.boxAs 104; exact rfl; exact rfl; exact rfl; exact rfl
  apply RunK.boxAs 105; exact rfl; exact rfl; exact rfl; exact rfl
  apply RunK.boxAs 106; exact rfl; exact rfl; exact hc1; exact rfl
  apply RunK.boxAs 107; exact rfl; exact rfl; exact hc2; exact rfl
  repeat' (first
    | (refine ⟨_, .tmp rfl, ?_⟩)
    | refine Wt.seq ?_
    | (apply Wt.regionK; exact rfl)
    | refine Wt.ret ?_
    | refine RunK.nil ?_
    | (apply RunK.assignV; exact rfl; exact rfl)
    | (apply RunK.assignC; exact rfl; exact rfl; exact rfl)
    | (apply RunK.makeFunc; exact rfl; (repeat (first | exact CapsOk.nil | (apply CapsOk.cons; exact rfl)))))
  refine ⟨⟨[(46, .clo 92 [(107, 0), (105, 0), (104, 0), (106, 0)]), (8, .box 8 0), (9, .box 9 0), (2000020, .hd hdr1 (rules a)), (2000021, .hd hdr2 (grants l)), (2000030, .hd (.slice none 0 0) (intsR1 []))], [(8, [.int .u64 0]), (9, [.slice none 0 0]), (104, [.int .u8 fn]), (105, r.vals), (106, [hdr1]), (107, [hdr2])]⟩, ?_, ?_⟩
  · (refine Le.mk ?_ ?_; (repeat' (first | exact LeEnv.done | refine LeEnv.cons ?_ ?_ | exact PVLe.refl _ | exact PVLe.s (SVLe.nil _ _ _) | exact PVLe.s (SVLe.no _ _ _ _) | (refine PVLe.int ?_; first | rfl | omega | (simp; done) | (simp; omega)) | (refine PVLe.els ?_; first | rfl | assumption | (simp; done)) | (refine PVLe.bool ?_; first | rfl | assumption) | (refine PVLe.bsl ?_; first | rfl | assumption | (simp; done))));  (repeat' (first | exact LeBox.done | refine LeBox.cons ?_ ?_ | exact rfl)))
  refine RangeOk.mk' 92 [(107, 0), (105, 0), (104, 0), (106, 0)] 38 [(8, 2000040, 8, 0), (9, 2000041, 9, 0)] 2000050 2000051 rfl Try.func92 rfl (by decide) Try.ntmps92 Try.results92 rfl ⟨rfl, rfl, rfl, rfl, rfl, rfl, trivial⟩ rfl fun w2 fn' L D tm Rd Bs Ex htm hRd hBs => ?_
  refine Wt.le (relI l a fn r hdr1 hdr2 L D tm Rd 0 (.slice none 0 0) []) ?_ ?_
  · (refine Le.mk ?_ ?_; (repeat' (first | exact LeEnv.done | refine LeEnv.cons ?_ ?_ | exact PVLe.refl _ | exact PVLe.s (SVLe.nil _ _ _) | exact PVLe.s (SVLe.no _ _ _ _) | (refine PVLe.int ?_; first | rfl | omega | (simp; done) | (simp; omega)) | (refine PVLe.els ?_; first | rfl | assumption | (simp; done)) | (refine PVLe.bool ?_; first | rfl | assumption) | (refine PVLe.bsl ?_; first | rfl | assumption | (simp; done))));  (repeat' (first | exact LeBox.done | refine LeBox.cons ?_ ?_ | exact rfl)))
  repeat' (first
    | (apply RunK.loadH 2000021; exact rfl; exact rfl; exact rfl; exact rfl; exact rfl; exact rfl)
    | refine Wt.seq ?_
    | (apply Wt.regionK; exact rfl)
    | refine Wt.block ?_
    | refine RunK.nil ?_
    | (apply RunK.moveV; exact rfl; exact rfl)
    | (apply RunK.len; exact rfl; exact rfl))
  refine Wt.loop (fun i : Nat × Value => ⟨(8, .s (grants l)) :: (9, .s (.v (.int .i64 l.length))) :: (10, .s (.v (.int .i64 i.1))) :: relB0 l a hdr1 hdr2 L D tm Rd i.2 (byN (selB fn r a) l i.1), relBx fn r hdr1 hdr2 (toN (selB fn r a) l i.1) i.2⟩) (fun i => i.1 ≤ l.length ∧ i.2.cells.toList = [i.2] ∧ i.2.oneCell' = true) (fun i => l.length - i.1) (0, .slice none 0 0) ⟨Nat.zero_le _, rfl, rfl⟩ ?_ ?_
  · (refine Le.mk ?_ ?_; (repeat' (first | exact LeEnv.done | refine LeEnv.cons ?_ ?_ | exact PVLe.refl _ | exact PVLe.s (SVLe.nil _ _ _) | exact PVLe.s (SVLe.no _ _ _ _) | (refine PVLe.int ?_; first | rfl | omega | (simp; done) | (simp; omega)) | (refine PVLe.els ?_; first | rfl | assumption | (simp; done)) | (refine PVLe.bool ?_; first | rfl | assumption) | (refine PVLe.bsl ?_; first | rfl | assumption | (simp; done))));  (repeat' (first | exact LeBox.done | refine LeBox.cons ?_ ?_ | exact rfl)))
  rintro ⟨k, hdr⟩ ⟨hk, hc, ho⟩
  dsimp only at hk hc ho ⊢
  by_cases hlt : k < l.length
  · obtain ⟨g, hgk⟩ := exists_at hlt
    have hx := get_map (f := Grant.vals) hgk
    have hgm := List.mem_of_getElem? hgk
    have hgo := hol g hgm
    have hlv := grantLive0 g a ha hoa
    have hnm := grantNames g.fns fn hgo.fns
    repeat' (first
    | (apply RunK.loadH 2000020; exact rfl; exact rfl; exact rfl; exact rfl; exact rfl; exact rfl) | (apply RunK.callS; exact rfl; exact rfl; exact hlv; (repeat (first | exact ArgsLe.nil | refine ArgsLe.cons ?_ ?_ | exact ArgLe.v _ | exact ArgLe.sl _ _ _ _ | exact ArgLe.nil _ | exact ArgLe.nil' | exact ArgLe.nsl _ _ _ _ _ | exact ArgLe.nsn _ | (apply ArgLe.bsl; exact rfl; (first | exact rfl | (rw [List.length_map]; done) | (simp only [List.length_map]; done) | (simp; done) | (simp; omega)); (first | assumption | exact map_len (fun _ => rfl))))); exact rfl) | (apply RunK.callS; exact rfl; exact rfl; exact hnm; (repeat (first | exact ArgsLe.nil | refine ArgsLe.cons ?_ ?_ | exact ArgLe.v _ | exact ArgLe.sl _ _ _ _ | exact ArgLe.nil _ | exact ArgLe.nil' | exact ArgLe.nsl _ _ _ _ _ | exact ArgLe.nsn _ | (apply ArgLe.bsl; exact rfl; (first | exact rfl | (rw [List.length_map]; done) | (simp only [List.length_map]; done) | (simp; done) | (simp; omega)); (first | assumption | exact map_len (fun _ => rfl))))); exact rfl) | (refine RunK.stop rfl ?_) | (apply RunK.bin; exact rfl; exact rfl; exact rfl; exact eqlRect g.rect r)
    | refine Wt.seq ?_
    | (apply Wt.regionK; exact rfl)
    | refine Wt.block ?_
    | refine Wt.skip ?_
    | refine RunK.nil ?_
    | (apply RunK.moveV; exact rfl; exact rfl)
    | (apply RunK.index; exact rfl; exact rfl; exact rfl; (first | exact rfl | exact (rfl : (0 : Int) = ((0 : Nat) : Int)) | exact (rfl : (1 : Int) = ((1 : Nat) : Int)) | exact (rfl : (2 : Int) = ((2 : Nat) : Int)) | exact (rfl : (3 : Int) = ((3 : Nat) : Int)) | assumption); (first | omega | exact lt_of_get ‹_› | (rw [List.length_map]; omega) | (simp; omega)))
    | (apply RunK.load1; exact rfl; exact rfl; exact rfl; exact rfl)
    | (apply RunK.field; exact rfl; exact rfl)
    | (apply RunK.assignV; exact rfl; exact rfl)
    | (apply RunK.alloc; exact rfl; apply Cells.eq; (first | exact Cells.agg _ | exact Cells.int _ _ | exact Cells.bool _ | exact Cells.one _ rfl); exact rfl)
    | (apply RunK.loadR; exact rfl; exact rfl; exact rfl; exact rfl; (apply cut_eq; repeat (first | exact Cut.nil _ | apply Cut.cons | apply Cut.skip)))
    | (apply RunK.loadER; exact rfl; exact rfl; assumption; exact rfl; (apply cut_eq; repeat (first | exact Cut.nil _ | apply Cut.cons | apply Cut.skip)))
    | (apply RunK.pickT; exact rfl; exact rfl; exact rfl)
    | (apply RunK.pickF; exact rfl; exact rfl; exact rfl)
    | (apply RunK.lss; exact rfl; exact rfl; exact rfl)
    | (apply RunK.add; exact rfl; exact rfl; exact rfl; (first | omega | (simp only [List.length_map]; omega)))
    | (apply RunK.store; exact rfl; exact rfl; exact rfl; exact rfl; exact rfl; exact rfl; exact rfl; apply upd_eq; exact rfl; (first | exact Cells.agg _ | exact Cells.int _ _ | exact Cells.bool _ | exact Cells.one _ rfl); (repeat (first | exact Upd.nil _ | apply Upd.cons | apply Upd.skip)))
    | (apply RunK.skip; exact rfl; exact rfl)
    | (apply RunK.guard; exact rfl; exact rfl; exact rfl; all_goals (intro hg; (first | exact absurd hg (by decide) | skip); (first | (with_reducible replace hg := not_t hg) | (with_reducible replace hg := not_f hg) | skip); (first | (with_reducible replace hg := dec_t hg) | (with_reducible replace hg := dec_f hg) | skip); (first | (with_reducible exact absurd rfl hg) | skip); (repeat rw [List.length_map] at hg); try (exfalso; omega)))
    | (apply Wt.cond; exact rfl; all_goals (intro hg; (first | exact absurd hg (by decide) | skip); (first | (with_reducible replace hg := not_t hg) | (with_reducible replace hg := not_f hg) | skip); (first | (with_reducible replace hg := dec_t hg) | (with_reducible replace hg := dec_f hg) | skip); (first | (with_reducible exact absurd rfl hg) | skip); (repeat rw [List.length_map] at hg); try (exfalso; omega))))
    · have hor := u64_or_nat _ _ (toN_lt (p := selB fn r a) (fun g hg => (hol g hg).to) k) hgo.to
      have hlen := byN_len (p := selB fn r a) (l := l) k
      have hs : selB fn r a g = true := by unfold selB; rw [decide_eq_true ‹g.rect = r›, ‹namesB g.fns fn = true›, ‹liveB a g = true›]; rfl
      have he : (byN (selB fn r a) l k).map ival ++ [[.int .i64 (k : Int)]] = (byN (selB fn r a) l (k + 1)).map ival := by rw [byN_yes hgk hs, List.map_append]; rfl
      refine Stop.of ?_
      refine RunK.leK ⟨(31, .s (.v (.func (.yield L) #[] #[]))) :: (32, .s (.v (.int .i64 k))) :: (33, .s (.v g.v)) :: (30, .s (.v (.bool true))) :: (8, .s (grants l)) :: (9, .s (.v (.int .i64 l.length))) :: (10, .s (.v (.int .i64 k))) :: relB0 l a hdr1 hdr2 L D tm Rd hdr (byN (selB fn r a) l k), relBx fn r hdr1 hdr2 (toN (selB fn r a) l k) hdr⟩ (by (refine Le.mk ?_ ?_; (repeat' (first | exact LeEnv.done | refine LeEnv.cons ?_ ?_ | exact PVLe.refl _ | exact PVLe.s (SVLe.nil _ _ _) | exact PVLe.s (SVLe.no _ _ _ _) | (refine PVLe.int ?_; first | rfl | omega | (simp; done) | (simp; omega)) | (refine PVLe.els ?_; first | rfl | assumption | (simp; done)) | (refine PVLe.bool ?_; first | rfl | assumption) | (refine PVLe.bsl ?_; first | rfl | assumption | (simp; done))));  (repeat' (first | exact LeBox.done | refine LeBox.cons ?_ ?_ | exact rfl)))) ?_
      refine RunK.yieldR [(8, 2000040, 8, 0), (9, 2000041, 9, 0)] rfl rfl 2000050 hRd hBs rfl rfl rfl rfl rfl htm rfl (.cons rfl (.cons rfl .nil)) rfl rfl ?_
      intro w3 ro
      refine WtR.le ⟨[(47, .s (.v (.int .i64 k))), (48, .s (.v g.v)), (8, .box 8 0), (9, .box 9 0), (1000030, .s (.v (.bool true))), (1000008, .s (grants l)), (1000009, .s (.v (.int .i64 l.length))), (1000010, .s (.v (.int .i64 k))), (1000000, .s (.v (.func (.yield L) #[] #[]))), (1000001, .box 107 0), (1000002, .box 105 0), (1000003, .box 104 0), (1000004, .box 106 0), (2000020, .hd hdr1 (rules a)), (2000021, .hd hdr2 (grants l)), (2000030, .hd hdr (intsR1 (byN (selB fn r a) l k))), (2000040, .hb (tm.getD 8 undef) 8 0), (2000041, .hb (tm.getD 9 undef) 9 0), (2000050, .kept L (.loop Rd)), (2000051, .kept D (.deferred (some [])))], relBx fn r hdr1 hdr2 (toN (selB fn r a) l k) hdr⟩ (by (refine Le.mk ?_ ?_; (repeat' (first | exact LeEnv.done | refine LeEnv.cons ?_ ?_ | exact PVLe.refl _ | exact PVLe.s (SVLe.nil _ _ _) | exact PVLe.s (SVLe.no _ _ _ _) | (refine PVLe.int ?_; first | rfl | omega | (simp; done) | (simp; omega)) | (refine PVLe.els ?_; first | rfl | assumption | (simp; done)) | (refine PVLe.bool ?_; first | rfl | assumption) | (refine PVLe.bsl ?_; first | rfl | assumption | (simp; done))));  (repeat' (first | exact LeBox.done | refine LeBox.cons ?_ ?_ | exact rfl)))) ?_
      repeat' (first
    | (refine RunK.backTo ⟨[(1000030, .s (.v (.bool true))), (1000008, .s (grants l)), (1000009, .s (.v (.int .i64 l.length))), (1000010, .s (.v (.int .i64 k))), (1000000, .s (.v (.func (.yield L) #[] #[]))), (1000001, .box 107 0), (1000002, .box 105 0), (1000003, .box 104 0), (1000004, .box 106 0), (2000020, .hd hdr1 (rules a)), (2000021, .hd hdr2 (grants l)), (2000030, .hd hdr' (intsR1 (byN (selB fn r a) l (k + 1)))), (2000040, .hb (tm.getD 8 undef) 8 0), (2000041, .hb (tm.getD 9 undef) 9 0), (2000050, .kept L (.loop Rd)), (2000051, .kept D (.deferred (some [])))], relBx fn r hdr1 hdr2 (toN (selB fn r a) l (k + 1)) hdr'⟩ ⟨(34, .s (.v (.bool true))) :: [(30, .s (.v (.bool true))), (8, .s (grants l)), (9, .s (.v (.int .i64 l.length))), (10, .s (.v (.int .i64 k))), (0, .s (.v (.func (.yield L) #[] #[]))), (1, .box 107 0), (2, .box 105 0), (3, .box 104 0), (4, .box 106 0), (2000020, .hd hdr1 (rules a)), (2000021, .hd hdr2 (grants l)), (2000030, .hd hdr' (intsR1 (byN (selB fn r a) l (k + 1)))), (2000040, .hb (tm.getD 8 undef) 8 0), (2000041, .hb (tm.getD 9 undef) 9 0), (2000050, .kept L (.loop Rd)), (2000051, .kept D (.deferred (some [])))], relBx fn r hdr1 hdr2 (toN (selB fn r a) l (k + 1)) hdr'⟩ ?_ rfl rfl rfl ?_) | (refine WtR.seq ?_) | (refine WtR.block ?_) | (apply WtR.region; exact rfl) | (refine ⟨rfl, rfl, ?_⟩) | (apply RunK.loadH 2000030; exact rfl; exact rfl; exact rfl; exact rfl; exact rfl; exact rfl) | (first | (apply RunK.append; exact rfl; exact rfl; exact rfl; (first | exact ReadLe.sl _ _ _ _ | exact ReadLe.nil _); exact rfl; (first | exact one_rows rfl | exact one_map (fun _ => rfl) _); (first | exact app_b1 (by omega) | exact app_b2 (by omega) | exact app_b3 (by omega) | exact app_b4 (by omega) | exact app_b5 (by omega))) | (apply RunK.appendN; exact rfl; exact rfl; exact rfl; (first | exact ReadLe.sl _ _ _ _ | exact ReadLe.nil _); exact rfl; (first | exact one_rows rfl | exact one_map (fun _ => rfl) _); (first | exact app_b1 (by omega) | exact app_b2 (by omega) | exact app_b3 (by omega) | exact app_b4 (by omega) | exact app_b5 (by omega))) | (apply RunK.appendF; exact rfl; exact rfl; exact rfl; (first | exact ReadLe.sl _ _ _ _ | exact ReadLe.nil _); (first | exact one_rows rfl | exact one_map (fun _ => rfl) _); (first | exact app_b1 (by omega) | exact app_b2 (by omega) | exact app_b3 (by omega) | exact app_b4 (by omega) | exact app_b5 (by omega)))) | (apply RunK.storeHF 2000030 (yt := 56); (case hw => exact rfl); (case hy => exact rfl); (case hyt => exact rfl); (case hh => exact rfl); (case hx => intro _; exact rfl); (case hb => exact rfl); (case hle => exact rfl); intro hdr' hc' ho') | (apply RunK.bin; exact rfl; exact rfl; exact rfl; exact runBits (.inr (.inl rfl)) hor)
    | (apply Wt.regionK; exact rfl)
    | refine Wt.skip ?_
    | refine RunK.nil ?_
    | (apply RunK.moveV; exact rfl; exact rfl)
    | (apply RunK.load1; exact rfl; exact rfl; exact rfl; exact rfl)
    | (apply RunK.field; exact rfl; exact rfl)
    | (apply RunK.assignV; exact rfl; exact rfl)
    | (apply RunK.alloc; exact rfl; apply Cells.eq; (first | exact Cells.agg _ | exact Cells.int _ _ | exact Cells.bool _ | exact Cells.one _ rfl); exact rfl)
    | (apply RunK.pickT; exact rfl; exact rfl; exact rfl)
    | (apply RunK.add; exact rfl; exact rfl; exact rfl; (first | omega | (simp only [List.length_map]; omega)))
    | (apply RunK.not; exact rfl; exact rfl)
    | (apply RunK.rows; exact rfl; exact rfl; (repeat (first | exact PartsOk.nil | (apply PartsOk.cons; exact rfl) | (apply PartsOk.consN; exact rfl))); (repeat (first | exact Rows.nil _ | (apply Rows.cons; (first | exact Cells.agg _ | exact Cells.int _ _ | exact Cells.bool _ | exact Cells.one _ rfl); exact rfl))); exact rfl; exact rfl)
    | (apply RunK.store; exact rfl; exact rfl; exact rfl; exact rfl; exact rfl; exact rfl; exact rfl; apply upd_eq; exact rfl; (first | exact Cells.agg _ | exact Cells.int _ _ | exact Cells.bool _ | exact Cells.one _ rfl); (repeat (first | exact Upd.nil _ | apply Upd.cons | apply Upd.skip)))
    | (apply Wt.cond; exact rfl; all_goals (intro hg; (first | exact absurd hg (by decide) | skip); (first | (with_reducible replace hg := not_t hg) | (with_reducible replace hg := not_f hg) | skip); (first | (with_reducible replace hg := dec_t hg) | (with_reducible replace hg := dec_f hg) | skip); (first | (with_reducible exact absurd rfl hg) | skip); (repeat rw [List.length_map] at hg); try (exfalso; omega))))
      · rw [toN_yes hgk hs]
        (refine Le.mk ?_ ?_; (repeat' (first | exact LeEnv.done | (refine LeEnv.consN ?_ ?_; exact rfl) | refine LeEnv.cons ?_ ?_ | exact PVLe.refl _ | exact PVLe.s (SVLe.nil _ _ _) | exact PVLe.s (SVLe.no _ _ _ _) | (refine PVLe.int ?_; first | rfl | omega | (simp; done) | (simp; omega)) | (refine PVLe.els ?_; first | rfl | assumption | (simp; done)) | (refine PVLe.bool ?_; first | rfl | assumption) | (refine PVLe.hdE ?_; first | rfl | assumption) | (refine PVLe.bsl ?_; first | rfl | assumption | (simp; done) | (simp; omega)))); (repeat' (first | exact LeBox.done | (refine LeBox.consN ?_ ?_; exact rfl) | (refine LeBox.cons ?_ ?_; exact rfl) | (refine LeBox.consE rfl ?_ ?_; first | assumption | (refine congrArg List.flatten ?_; first | rfl | assumption | (symm; assumption))))))
      · refine ⟨(k + 1, hdr'), ⟨hlt, hc', ho'⟩, by dsimp only; omega, ?_⟩
        dsimp only
        (refine Le.mk ?_ ?_; (repeat' (first | exact LeEnv.done | refine LeEnv.cons ?_ ?_ | exact PVLe.refl _ | exact PVLe.s (SVLe.nil _ _ _) | exact PVLe.s (SVLe.no _ _ _ _) | (refine PVLe.int ?_; first | rfl | omega | (simp; done) | (simp; omega)) | (refine PVLe.els ?_; first | rfl | assumption | (simp; done)) | (refine PVLe.bool ?_; first | rfl | assumption) | (refine PVLe.bsl ?_; first | rfl | assumption | (simp; done))));  (repeat' (first | exact LeBox.done | refine LeBox.cons ?_ ?_ | exact rfl)))
    all_goals
      have hs : selB fn r a g = false := by unfold selB; simp [*]
      refine ⟨(k + 1, hdr), ⟨hlt, hc, ho⟩, by dsimp only; omega, ?_⟩
      dsimp only
      rw [toN_no hgk hs, byN_no hgk hs]
      (refine Le.mk ?_ ?_; (repeat' (first | exact LeEnv.done | refine LeEnv.cons ?_ ?_ | exact PVLe.refl _ | exact PVLe.s (SVLe.nil _ _ _) | exact PVLe.s (SVLe.no _ _ _ _) | (refine PVLe.int ?_; first | rfl | omega | (simp; done) | (simp; omega)) | (refine PVLe.els ?_; first | rfl | assumption | (simp; done)) | (refine PVLe.bool ?_; first | rfl | assumption) | (refine PVLe.bsl ?_; first | rfl | assumption | (simp; done))));  (repeat' (first | exact LeBox.done | refine LeBox.cons ?_ ?_ | exact rfl)))
  · obtain rfl : k = l.length := by omega
    have hm2 : Try.prog.follows .mixedOrders = true := by kernel_rfl
    repeat' (first
    | (refine ⟨rfl, rfl, .cons rfl (.cons rfl .nil), fun w3 => ?_⟩) | (refine Wt.regionA hm2 rfl (by kernel_rfl) (fun K hK hN => ?_))
    | refine Wt.seq ?_
    | (apply Wt.regionK; exact rfl)
    | refine Wt.exit ?_
    | refine RunK.nil ?_
    | (apply RunK.lss; exact rfl; exact rfl; exact rfl)
    | (apply Wt.cond; exact rfl; all_goals (intro hg; (first | exact absurd hg (by decide) | skip); (first | (with_reducible replace hg := not_t hg) | (with_reducible replace hg := not_f hg) | skip); (first | (with_reducible replace hg := dec_t hg) | (with_reducible replace hg := dec_f hg) | skip); (first | (with_reducible exact absurd rfl hg) | skip); (repeat rw [List.length_map] at hg); try (exfalso; omega))))
    repeat' (first
    | (refine AnyA.go [0, 1] hK (wf_of (by kernel_rfl)) (by decide +kernel) rfl ?_) | (refine AnyA.go [1, 2] hK (wf_of (by kernel_rfl)) (by decide +kernel) rfl ?_) | (refine AnyA.go [0] hK (wf_of (by kernel_rfl)) (by decide +kernel) rfl ?_) | (refine AnyA.go [1] hK (wf_of (by kernel_rfl)) (by decide +kernel) rfl ?_) | (refine AnyA.go [2] hK (wf_of (by kernel_rfl)) (by decide +kernel) rfl ?_) | (refine AnyA.go [3] hK (wf_of (by kernel_rfl)) (by decide +kernel) rfl ?_) | (refine AnyA.go [4] hK (wf_of (by kernel_rfl)) (by decide +kernel) rfl ?_) | (refine AnyA.fin (by decide +kernel) (hN _ ?_)) | (refine AllJ.cons ?_ ?_) | exact AllJ.nil | (refine ⟨_, rfl, rfl, ?_⟩) | (apply RunK.store; exact rfl; exact rfl; exact rfl; exact rfl; exact (by rw [hc]; first | done | rfl); exact (by rw [hc]; simp [ho]); exact rfl; exact (by rw [hc]; first | done | exact rfl))
    | refine Wt.ret ?_
    | refine RunK.nil ?_
    | (apply RunK.load1; exact rfl; exact rfl; exact rfl; exact rfl)
    | (apply RunK.assignV; exact rfl; exact rfl)
    | (apply RunK.store; exact rfl; exact rfl; exact rfl; exact rfl; exact rfl; exact rfl; exact rfl; apply upd_eq; exact rfl; (first | exact Cells.agg _ | exact Cells.int _ _ | exact Cells.bool _ | exact Cells.one _ rfl); (repeat (first | exact Upd.nil _ | apply Upd.cons | apply Upd.skip))))
    all_goals
      subst hres
      refine ⟨rfl, rfl, ?_⟩
      apply ResOk.cHv (h := 2000030); exact rfl; exact rfl; exact .one inferInstance rfl; exact rfl; exact rfl; exact rfl; exact .one inferInstance rfl; exact rfl; exact rfl; exact rfl; exact rfl
set_option maxRecDepth 100000 in
theorem grantFor (fn : Nat) (r : Rect) (a : List Rule) (l : List Grant) (ha : a.length < 1000000000000000) (hL : l.length * 64 ≤ 140737488351232) (hoa : ∀ x ∈ a, x.ok) (hol : ∀ x ∈ l, x.ok) : Pure Try.prog 25 [.v (.int .u8 fn), .v r.v, rules a, grants l] (forR (forS fn r a l)) := by
  cases h1 : relB fn with
  | false => exact grantFor_rel fn r a l h1
  | true =>
    cases h2 : rectOk r with
    | false => exact grantFor_rect fn r a l h1 h2
    | true =>
      by_cases h3 : chkE a = 0
      · by_cases h4 : chkG l = 0
        · rw [forS_ok h1 h2 h3 h4]; exact grantFor_ok fn r a l ha hL hoa hol h1 h2 h3 h4
        · exact grantFor_grants fn r a l ha hL hoa hol h1 h2 h3 h4
      · exact grantFor_rules fn r a l ha hoa h1 h2 h3
end Go.Proofs.Ytfacimebfdeaeaa
