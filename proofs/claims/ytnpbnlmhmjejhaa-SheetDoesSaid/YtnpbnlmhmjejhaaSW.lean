/- The walks of New: the sheet's and the specification's. -/
import Derived.Test.YtnpbnlmhmjejhaaSB
import Derived.Test.YtnpbnlmhmjejhaaSR
namespace Go.Proofs.Ytnpbnlmhmjejhaa
open Pv Go.RowKit
instance : TyStruct Try.prog 66 [.map none] [(0, 1)] := .mk' Try.underlying66 (by kernel_rfl) (by kernel_rfl)
def errAt (pre : List Cell) (c : Cell) : Int := if judgeE c.at_ c.v ≠ 0 then judgeE c.at_ c.v else if ∃ d ∈ pre, d.at_ = c.at_ then 8 else 0
def newE : List Cell → List Cell → Int
  | _, [] => 0
  | pre, c :: l => if errAt pre c ≠ 0 then errAt pre c else newE (pre ++ [c]) l
abbrev putAll (l : List Cell) : List Cell := l.foldl putL []
set_option maxRecDepth 100000 in
theorem newE_step {l : List Cell} {k : Nat} {x : Cell} (h : l[k]? = some x) : newE (l.take k) (l.drop k) = if errAt (l.take k) x ≠ 0 then errAt (l.take k) x else newE (l.take (k + 1)) (l.drop (k + 1)) := by
  obtain ⟨hk, he⟩ := List.getElem?_eq_some_iff.1 h
  rw [← List.getElem_cons_drop hk, newE, he, List.take_add_one, h]; rfl
set_option maxRecDepth 100000 in
theorem putAll_take {l : List Cell} {k : Nat} {x : Cell} (h : l[k]? = some x) : putAll (l.take (k + 1)) = putL (putAll (l.take k)) x := by
  unfold putAll
  rw [List.take_add_one, h, List.foldl_append]; rfl
set_option maxRecDepth 100000 in
theorem goP_len (c : Cell) : ∀ (done : Bool) (l : List Cell), (goP c done l).length ≤ l.length + if done = true then 0 else 1
  | done, [] => by cases done <;> simp [goP]
  | done, x :: l => by
    have h1 := goP_len c true l
    have h2 := goP_len c false l
    rw [goP]
    generalize lessR c.at_ x.at_ = R
    simp only [if_true, Bool.false_eq_true, if_false] at h1 h2
    cases done <;> cases R <;> by_cases h4 : x.at_ = c.at_ <;> simp [h4] <;> omega
set_option maxRecDepth 100000 in
theorem putL_len (L : List Cell) (c : Cell) : (putL L c).length ≤ L.length + 1 := by
  rw [putL_go]
  have := goP_len c (decide (c.v.kind = 0)) L
  split at this <;> omega
set_option maxRecDepth 100000 in
theorem fold_len : ∀ (l L : List Cell), (l.foldl putL L).length ≤ L.length + l.length
  | [], L => Nat.le_refl _
  | c :: l, L => by
    rw [List.foldl_cons]
    have h1 := fold_len l (putL L c)
    have h2 := putL_len L c
    rw [List.length_cons]
    omega
structure SeenOk (ss : Array MapEntry) (sc : Nat) (P : List Cell) : Prop where
  at_ : MapAt Kref ss sc
  has : ∀ k v, Has ss k v ↔ v = .bool true ∧ ∃ c ∈ P, k = c.at_.v
set_option maxRecDepth 100000 in
theorem SeenOk.empty : SeenOk #[] 0 [] := ⟨.empty _, fun k v => ⟨fun ⟨e, he, _⟩ => (by cases he), fun ⟨_, c, hc, _⟩ => (by cases hc)⟩⟩
set_option maxRecDepth 100000 in
theorem SeenOk.put {ss ss' : Array MapEntry} {sc sc' : Nat} {P : List Cell} (h : SeenOk ss sc P) {x : Cell} (hM : MapAt Kref ss' sc') (hh : ∀ k' v', Has ss' k' v' ↔ (k' = x.at_.v ∧ v' = .bool true) ∨ (k' ≠ x.at_.v ∧ Has ss k' v')) : SeenOk ss' sc' (P ++ [x]) := by
  refine ⟨hM, fun k' v' => ?_⟩
  rw [hh, h.has]
  constructor
  · rintro (⟨rfl, rfl⟩ | ⟨_, rfl, c, hc, rfl⟩)
    · exact ⟨rfl, x, List.mem_append_right _ (List.mem_singleton_self _), rfl⟩
    · exact ⟨rfl, c, List.mem_append_left _ hc, rfl⟩
  · rintro ⟨rfl, c, hc, rfl⟩
    by_cases he : c.at_.v = x.at_.v
    · exact .inl ⟨he, rfl⟩
    · rcases List.mem_append.1 hc with hc | hc
      · exact .inr ⟨he, rfl, c, hc, rfl⟩
      · rw [List.mem_singleton.1 hc] at he; exact absurd rfl he
structure NewI where
  k : Nat
  es : Array MapEntry
  cl : Nat
  ss : Array MapEntry
  sc : Nat
def NewK (l : List Cell) (r : PV) (fs : List PV) : Prop :=
  if newE [] l = 0 then ∃ pb b es cl, ShOk es cl (putAll l) ∧ pb ≠ b ∧ r = .tup [.v (ptr pb), .v (.int .i64 0)] ∧ fs = [ptrO pb b, mapO b es cl]
  else r = .tup [.v (.pointer none), .v (.int .i64 (newE [] l))] ∧ fs = []
set_option maxRecDepth 100000 in
theorem NewK.err {l : List Cell} {e : Int} (h : e ≠ 0) (he : newE [] l = e) : NewK l (.tup [.v (.pointer none), .v (.int .i64 e)]) [] := by
  unfold NewK; rw [if_neg (by rw [he]; exact h), he]; exact ⟨rfl, rfl⟩
set_option maxRecDepth 100000 in
theorem NewK.ok {l : List Cell} {pb b : Nat} {es : Array MapEntry} {cl : Nat} (he : newE [] l = 0) (h : ShOk es cl (putAll l)) (hne : pb ≠ b) : NewK l (.tup [.v (ptr pb), .v (.int .i64 0)]) [ptrO pb b, mapO b es cl] := by
  unfold NewK; rw [if_pos he]; exact ⟨pb, b, es, cl, h, hne, rfl, rfl⟩
set_option maxRecDepth 100000 in
theorem shNew (l : List Cell) (hl : l.length ≤ 1000) : Acts Try.prog 10 [cells l] [] [] (NewK l) := by
  refine acts_of_wt Try.func10 rfl (by decide) _ Try.ntmps10 rfl Try.results10 rfl (by simp [ownOf]) fun w0 W => ?_
  repeat' (first
    | (apply RunK.makeMap 2000010; exact rfl)
    | refine Wt.seq ?_
    | (apply Wt.regionK; exact rfl)
    | refine RunK.nil ?_
    | (apply RunK.assignV; exact rfl; exact rfl))
  intro b hfb
  repeat' (first
    | (apply RunK.boxK (t := 66) 2000011; exact rfl; exact rfl)
    | (apply RunK.build; exact rfl; (repeat (first | exact PartsOk.nil | (apply PartsOk.cons; exact rfl))); (repeat (first | exact fill_nil | (apply fill_cons; exact rfl; (first | exact Cells.agg _ | exact Cells.int _ _ | exact Cells.bool _ | exact Cells.one _ rfl); exact rfl; (repeat (first | exact Upd.nil _ | apply Upd.cons | apply Upd.skip)))))))
  intro pb hfp
  have hbp : b ≠ pb := hfp 2000010 _ _ rfl
  repeat' (first
    | (apply RunK.makeMap 2000012; exact rfl)
    | refine Wt.seq ?_
    | (apply Wt.regionK; exact rfl)
    | refine RunK.nil ?_
    | (apply RunK.assignV; exact rfl; exact rfl))
  intro sb hfs
  have hsb : b ≠ sb := hfs 2000010 _ _ rfl
  have hsp : pb ≠ sb := hfs 2000011 _ _ rfl
  repeat' (first
    | refine Wt.seq ?_
    | (apply Wt.regionK; exact rfl)
    | refine Wt.block ?_
    | refine RunK.nil ?_
    | (apply RunK.moveV; exact rfl; exact rfl)
    | (apply RunK.assignV; exact rfl; exact rfl)
    | (apply RunK.moveS; exact rfl; exact rfl)
    | (apply RunK.len; exact rfl; exact rfl))
  refine Wt.loop (fun i : NewI => ⟨[(4, .s (.v (ptr pb))), (5, .s (.v (.map (some sb)))), (13, .s (cells l)), (14, .s (.v (.int .i64 l.length))), (15, .s (.v (.int .i64 i.k))), (2000010, mapO b i.es i.cl), (2000011, ptrO pb b), (2000012, .kept sb (.map i.ss i.sc)), (2999999, .old W (keptOf []))], []⟩) (fun i => i.k ≤ l.length ∧ ShOk i.es i.cl (putAll (l.take i.k)) ∧ SeenOk i.ss i.sc (l.take i.k) ∧ newE [] l = newE (l.take i.k) (l.drop i.k)) (fun i => l.length - i.k) ⟨0, #[], 0, #[], 0⟩ ⟨Nat.zero_le _, .empty, .empty, rfl⟩ ?_ ?_
  · (refine Le.mk ?_ ?_; (repeat' (first | exact LeEnv.done | refine LeEnv.cons ?_ ?_ | exact PVLe.refl _ | exact PVLe.s (SVLe.nil _ _ _) | exact PVLe.s (SVLe.no _ _ _ _) | (refine PVLe.int ?_; first | rfl | omega | (simp; done) | (simp; omega)) | (refine PVLe.els ?_; first | rfl | assumption | (simp; done)) | (refine PVLe.bool ?_; first | rfl | assumption) | (refine PVLe.bsl ?_; first | rfl | assumption | (simp; done))));  (repeat' (first | exact LeBox.done | refine LeBox.cons ?_ ?_ | exact rfl)))
  · rintro ⟨k, es, cl, ss, sc⟩ ⟨hk, hS, hN, hE⟩
    dsimp only at *
    by_cases hlt : k < l.length
    · obtain ⟨x, hx0⟩ := exists_at hlt
      have hx := get_map (f := Cell.vals) hx0
      rw [newE_step hx0] at hE
      have hj := judge x.at_ x.v
      have hp := shPut pb b es cl _ hS x.at_ x.v
      rw [← putAll_take hx0] at hp
      unfold errAt at hE
      generalize judgeE x.at_ x.v = J at *
      by_cases hJ : J = 0
      · subst hJ
        simp only [ne_eq, not_true_eq_false, if_false] at hE
        by_cases hs : ∃ d ∈ l.take k, d.at_ = x.at_
        · rw [if_pos hs, if_pos (by decide)] at hE
          obtain ⟨d, hd, hdx⟩ := hs
          have hhas : Has ss x.at_.v (.bool true) := (hN.has _ _).2 ⟨rfl, d, hd, by rw [hdx]⟩
          repeat' (first
    | (apply RunK.callS; exact rfl; exact rfl; exact hj; (repeat (first | exact ArgsLe.nil | refine ArgsLe.cons ?_ ?_ | exact ArgLe.v _ | exact ArgLe.sl _ _ _ _ | exact ArgLe.nil _ | exact ArgLe.nil' | (apply ArgLe.bsl; exact rfl; (first | exact rfl | (rw [List.length_map]; done) | (simp only [List.length_map]; done) | (simp; done) | (simp; omega)); (first | assumption | exact map_len (fun _ => rfl))))); exact rfl) | (apply RunK.lookup1 keyRef Try.underlying67 2000012; exact rfl; exact rfl; exact rfl; exact rfl; exact rfl; exact hN.at_; exact ⟨x.at_, rfl⟩; exact hhas)
    | refine Wt.seq ?_
    | (apply Wt.regionK; exact rfl)
    | refine Wt.ret ?_
    | refine Wt.block ?_
    | refine Wt.skip ?_
    | refine RunK.nil ?_
    | (apply RunK.moveV; exact rfl; exact rfl)
    | (apply RunK.index; exact rfl; exact rfl; exact rfl; (first | exact rfl | exact (rfl : (0 : Int) = ((0 : Nat) : Int)) | exact (rfl : (1 : Int) = ((1 : Nat) : Int)) | exact (rfl : (2 : Int) = ((2 : Nat) : Int)) | exact (rfl : (3 : Int) = ((3 : Nat) : Int)) | assumption); (first | omega | exact lt_of_get ‹_› | (rw [List.length_map]; omega) | (simp; omega)))
    | (apply RunK.field; exact rfl; exact rfl)
    | (apply RunK.assignV; exact rfl; exact rfl)
    | (apply RunK.alloc; exact rfl; apply Cells.eq; (first | exact Cells.agg _ | exact Cells.int _ _ | exact Cells.bool _ | exact Cells.one _ rfl); exact rfl)
    | (apply RunK.loadR; exact rfl; exact rfl; exact rfl; exact rfl; (apply cut_eq; repeat (first | exact Cut.nil _ | apply Cut.cons | apply Cut.skip)))
    | (apply RunK.loadER; exact rfl; exact rfl; assumption; exact rfl; (apply cut_eq; repeat (first | exact Cut.nil _ | apply Cut.cons | apply Cut.skip)))
    | (apply RunK.lss; exact rfl; exact rfl; exact rfl)
    | (apply RunK.neq; exact rfl; exact rfl; exact rfl)
    | (apply RunK.store; exact rfl; exact rfl; exact rfl; exact rfl; exact rfl; exact rfl; exact rfl; apply upd_eq; exact rfl; (first | exact Cells.agg _ | exact Cells.int _ _ | exact Cells.bool _ | exact Cells.one _ rfl); (repeat (first | exact Upd.nil _ | apply Upd.cons | apply Upd.skip)))
    | (apply Wt.cond; exact rfl; all_goals (intro hg; (first | exact absurd hg (by decide) | skip); (first | (with_reducible replace hg := not_t hg) | (with_reducible replace hg := not_f hg) | skip); (first | (with_reducible replace hg := dec_t hg) | (with_reducible replace hg := dec_f hg) | skip); (first | (with_reducible exact absurd rfl hg) | skip); (repeat rw [List.length_map] at hg); try (exfalso; omega))))
          exact ActEnd.mk _ [] (NewK.err (by decide) hE) (.vv rfl rfl rfl rfl) rfl rfl .nil .nil
        · rw [if_neg hs, if_neg (by decide)] at hE
          have hno : ∀ v, ¬Has ss x.at_.v v := fun v hv => by
            obtain ⟨_, c, hc, e⟩ := (hN.has _ _).1 hv
            exact hs ⟨c, hc, (Ref.v_inj e).symm⟩
          repeat' (first
    | (apply RunK.callS; exact rfl; exact rfl; exact hj; (repeat (first | exact ArgsLe.nil | refine ArgsLe.cons ?_ ?_ | exact ArgLe.v _ | exact ArgLe.sl _ _ _ _ | exact ArgLe.nil _ | exact ArgLe.nil' | (apply ArgLe.bsl; exact rfl; (first | exact rfl | (rw [List.length_map]; done) | (simp only [List.length_map]; done) | (simp; done) | (simp; omega)); (first | assumption | exact map_len (fun _ => rfl))))); exact rfl) | (apply RunK.lookup0 keyRef Try.underlying67 2000012; exact rfl; exact rfl; exact rfl; exact rfl; exact rfl; exact hN.at_; exact ⟨x.at_, rfl⟩; exact hno) | (apply RunK.mapUpdate keyRef Try.underlying67 2000012; (case hw => exact rfl); (case h3 => exact rfl); (case hx => exact rfl); (case hy => exact rfl); (case hz => exact rfl); (case hk => exact rfl); (case hM => exact hN.at_); (case hu => exact ⟨x.at_, rfl⟩); (case hap => (repeat' (first | exact trivial | first | exact not_one hsb | exact not_one hsp | refine And.intro ?_ ?_))))
    | refine Wt.seq ?_
    | (apply Wt.regionK; exact rfl)
    | refine Wt.block ?_
    | refine Wt.skip ?_
    | refine RunK.nil ?_
    | (apply RunK.moveV; exact rfl; exact rfl)
    | (apply RunK.index; exact rfl; exact rfl; exact rfl; (first | exact rfl | exact (rfl : (0 : Int) = ((0 : Nat) : Int)) | exact (rfl : (1 : Int) = ((1 : Nat) : Int)) | exact (rfl : (2 : Int) = ((2 : Nat) : Int)) | exact (rfl : (3 : Int) = ((3 : Nat) : Int)) | assumption); (first | omega | exact lt_of_get ‹_› | (rw [List.length_map]; omega) | (simp; omega)))
    | (apply RunK.field; exact rfl; exact rfl)
    | (apply RunK.assignV; exact rfl; exact rfl)
    | (apply RunK.alloc; exact rfl; apply Cells.eq; (first | exact Cells.agg _ | exact Cells.int _ _ | exact Cells.bool _ | exact Cells.one _ rfl); exact rfl)
    | (apply RunK.loadR; exact rfl; exact rfl; exact rfl; exact rfl; (apply cut_eq; repeat (first | exact Cut.nil _ | apply Cut.cons | apply Cut.skip)))
    | (apply RunK.loadER; exact rfl; exact rfl; assumption; exact rfl; (apply cut_eq; repeat (first | exact Cut.nil _ | apply Cut.cons | apply Cut.skip)))
    | (apply RunK.lss; exact rfl; exact rfl; exact rfl)
    | (apply RunK.neq; exact rfl; exact rfl; exact rfl)
    | (apply RunK.store; exact rfl; exact rfl; exact rfl; exact rfl; exact rfl; exact rfl; exact rfl; apply upd_eq; exact rfl; (first | exact Cells.agg _ | exact Cells.int _ _ | exact Cells.bool _ | exact Cells.one _ rfl); (repeat (first | exact Upd.nil _ | apply Upd.cons | apply Upd.skip)))
    | (apply Wt.cond; exact rfl; all_goals (intro hg; (first | exact absurd hg (by decide) | skip); (first | (with_reducible replace hg := not_t hg) | (with_reducible replace hg := not_f hg) | skip); (first | (with_reducible replace hg := dec_t hg) | (with_reducible replace hg := dec_f hg) | skip); (first | (with_reducible exact absurd rfl hg) | skip); (repeat rw [List.length_map] at hg); try (exfalso; omega))))
          intro ss' sc' hM' hh'
          have hN' := hN.put hM' hh'
          repeat' (first
    | (apply RunK.actF [2000010] 900001 hp; (case hw => exact rfl); (case he => first | exact (fun h => by cases h) | exact fun _ => rfl); (case hx => exact rfl); (case ha => (repeat (first | exact ArgsLe.nil | refine ArgsLe.cons ?_ ?_ | exact ArgLe.v _ | exact ArgLe.sl _ _ _ _ | exact ArgLe.nil _ | exact ArgLe.nil' | (apply ArgLe.bsl; exact rfl; (first | exact rfl | (rw [List.length_map]; done) | (simp only [List.length_map]; done) | (simp; done) | (simp; omega)); (first | assumption | exact map_len (fun _ => rfl)))))); (case hng => exact noNest_nil _); (case hf => exact .kept 2000011 rfl rfl (.kept 2000010 rfl rfl .nil)); (case hap => (repeat' (first | exact trivial | first | exact not_one hsb.symm | exact not_one hbp.symm | refine And.intro ?_ ?_))))
    | (apply Wt.regionK; exact rfl)
    | refine RunK.nil ?_
    | (apply RunK.moveV; exact rfl; exact rfl)
    | (apply RunK.field; exact rfl; exact rfl)
    | (apply RunK.loadR; exact rfl; exact rfl; exact rfl; exact rfl; (apply cut_eq; repeat (first | exact Cut.nil _ | apply Cut.cons | apply Cut.skip))))
          rintro _ _ ⟨es', cl', hS', rfl, rfl⟩ _
          repeat' (first
    | refine Wt.seq ?_
    | (apply Wt.regionK; exact rfl)
    | refine RunK.nil ?_
    | (apply RunK.moveV; exact rfl; exact rfl)
    | (apply RunK.add; exact rfl; exact rfl; exact rfl; (first | omega | (simp only [List.length_map]; omega))))
          refine ⟨⟨k + 1, es', cl', ss', sc'⟩, ⟨hlt, hS', ?_, hE⟩, by dsimp only; omega, ?_⟩
          · dsimp only; rw [List.take_add_one, hx0]; exact hN'
          · (refine Le.mk ?_ ?_; (repeat' (first | exact LeEnv.done | refine LeEnv.cons ?_ ?_ | exact PVLe.refl _ | exact PVLe.s (SVLe.nil _ _ _) | exact PVLe.s (SVLe.no _ _ _ _) | (refine PVLe.int ?_; first | rfl | omega | (simp; done) | (simp; omega)) | (refine PVLe.els ?_; first | rfl | assumption | (simp; done)) | (refine PVLe.bool ?_; first | rfl | assumption) | (refine PVLe.bsl ?_; first | rfl | assumption | (simp; done))));  (repeat' (first | exact LeBox.done | refine LeBox.cons ?_ ?_ | exact rfl)))
      · simp only [ne_eq, hJ, not_false_eq_true, if_true] at hE
        repeat' (first
    | (apply RunK.callS; exact rfl; exact rfl; exact hj; (repeat (first | exact ArgsLe.nil | refine ArgsLe.cons ?_ ?_ | exact ArgLe.v _ | exact ArgLe.sl _ _ _ _ | exact ArgLe.nil _ | exact ArgLe.nil' | (apply ArgLe.bsl; exact rfl; (first | exact rfl | (rw [List.length_map]; done) | (simp only [List.length_map]; done) | (simp; done) | (simp; omega)); (first | assumption | exact map_len (fun _ => rfl))))); exact rfl)
    | refine Wt.seq ?_
    | (apply Wt.regionK; exact rfl)
    | refine Wt.ret ?_
    | refine Wt.block ?_
    | refine Wt.skip ?_
    | refine RunK.nil ?_
    | (apply RunK.moveV; exact rfl; exact rfl)
    | (apply RunK.index; exact rfl; exact rfl; exact rfl; (first | exact rfl | exact (rfl : (0 : Int) = ((0 : Nat) : Int)) | exact (rfl : (1 : Int) = ((1 : Nat) : Int)) | exact (rfl : (2 : Int) = ((2 : Nat) : Int)) | exact (rfl : (3 : Int) = ((3 : Nat) : Int)) | assumption); (first | omega | exact lt_of_get ‹_› | (rw [List.length_map]; omega) | (simp; omega)))
    | (apply RunK.field; exact rfl; exact rfl)
    | (apply RunK.assignV; exact rfl; exact rfl)
    | (apply RunK.alloc; exact rfl; apply Cells.eq; (first | exact Cells.agg _ | exact Cells.int _ _ | exact Cells.bool _ | exact Cells.one _ rfl); exact rfl)
    | (apply RunK.loadR; exact rfl; exact rfl; exact rfl; exact rfl; (apply cut_eq; repeat (first | exact Cut.nil _ | apply Cut.cons | apply Cut.skip)))
    | (apply RunK.loadER; exact rfl; exact rfl; assumption; exact rfl; (apply cut_eq; repeat (first | exact Cut.nil _ | apply Cut.cons | apply Cut.skip)))
    | (apply RunK.lss; exact rfl; exact rfl; exact rfl)
    | (apply RunK.neq; exact rfl; exact rfl; exact rfl)
    | (apply RunK.store; exact rfl; exact rfl; exact rfl; exact rfl; exact rfl; exact rfl; exact rfl; apply upd_eq; exact rfl; (first | exact Cells.agg _ | exact Cells.int _ _ | exact Cells.bool _ | exact Cells.one _ rfl); (repeat (first | exact Upd.nil _ | apply Upd.cons | apply Upd.skip)))
    | (apply Wt.cond; exact rfl; all_goals (intro hg; (first | exact absurd hg (by decide) | skip); (first | (with_reducible replace hg := not_t hg) | (with_reducible replace hg := not_f hg) | skip); (first | (with_reducible replace hg := dec_t hg) | (with_reducible replace hg := dec_f hg) | skip); (first | (with_reducible exact absurd rfl hg) | skip); (repeat rw [List.length_map] at hg); try (exfalso; omega))))
        exact ActEnd.mk _ [] (NewK.err hJ hE) (.vv rfl rfl rfl rfl) rfl rfl .nil .nil
    · rw [List.drop_eq_nil_of_le (by omega), show newE (l.take k) [] = 0 from rfl] at hE
      rw [show l.take k = l from List.take_of_length_le (by omega)] at hS
      repeat' (first
    | refine Wt.seq ?_
    | (apply Wt.regionK; exact rfl)
    | refine Wt.ret ?_
    | refine Wt.exit ?_
    | refine RunK.nil ?_
    | (apply RunK.moveV; exact rfl; exact rfl)
    | (apply RunK.assignV; exact rfl; exact rfl)
    | (apply RunK.lss; exact rfl; exact rfl; exact rfl)
    | (apply Wt.cond; exact rfl; all_goals (intro hg; (first | exact absurd hg (by decide) | skip); (first | (with_reducible replace hg := not_t hg) | (with_reducible replace hg := not_f hg) | skip); (first | (with_reducible replace hg := dec_t hg) | (with_reducible replace hg := dec_f hg) | skip); (first | (with_reducible exact absurd rfl hg) | skip); (repeat rw [List.length_map] at hg); try (exfalso; omega))))
      exact ActEnd.mk _ [ptrO pb b, mapO b es cl] (NewK.ok hE hS hbp.symm) (.vv rfl rfl rfl rfl) rfl rfl (.kept 2000011 rfl (.kept 2000010 rfl .nil)) .nil
def RefK (l : List Cell) (r : PV) (fs : List PV) : Prop :=
  if newE [] l = 0 then ∃ rb hdr, r = .tup [.v (ptr rb), .v (.int .i64 0)] ∧ fs = [refO rb hdr, hdrN hdr (putAll l)]
  else r = .tup [.v (.pointer none), .v (.int .i64 (newE [] l))] ∧ fs = []
set_option maxRecDepth 100000 in
theorem RefK.err {l : List Cell} {e : Int} (h : e ≠ 0) (he : newE [] l = e) : RefK l (.tup [.v (.pointer none), .v (.int .i64 e)]) [] := by
  unfold RefK; rw [if_neg (by rw [he]; exact h), he]; exact ⟨rfl, rfl⟩
set_option maxRecDepth 100000 in
theorem RefK.ok {l : List Cell} {rb : Nat} {hdr : Value} (he : newE [] l = 0) : RefK l (.tup [.v (ptr rb), .v (.int .i64 0)]) [refO rb hdr, hdrN hdr (putAll l)] := by
  unfold RefK; rw [if_pos he]; exact ⟨rb, hdr, rfl, rfl⟩
set_option maxRecDepth 100000 in
theorem rfNew (l : List Cell) (hl : l.length ≤ 1000) (hok : ∀ c ∈ l, c.ok) : Acts Try.prog 11 [cells l] [] [] (RefK l) := by
  refine acts_of_wt Try.func11 rfl (by decide) _ Try.ntmps11 rfl Try.results11 rfl (by simp [ownOf]) fun w0 W => ?_
  repeat' (first
    | (apply RunK.boxK (t := 70) 2000010; exact rfl; exact rfl)
    | refine Wt.seq ?_
    | (apply Wt.regionK; exact rfl)
    | refine RunK.nil ?_
    | (apply RunK.assignV; exact rfl; exact rfl)
    | (apply RunK.build; exact rfl; (repeat (first | exact PartsOk.nil | (apply PartsOk.cons; exact rfl))); (repeat (first | exact fill_nil | (apply fill_cons; exact rfl; (first | exact Cells.agg _ | exact Cells.int _ _ | exact Cells.bool _ | exact Cells.one _ rfl); exact rfl; (repeat (first | exact Upd.nil _ | apply Upd.cons | apply Upd.skip)))))))
  intro rb hfb
  refine RunK.factN 2000011 0 .no 5 rfl ?_
  repeat' (first
    | refine Wt.seq ?_
    | (apply Wt.regionK; exact rfl)
    | refine Wt.block ?_
    | refine RunK.nil ?_
    | (apply RunK.assignV; exact rfl; exact rfl))
  refine Wt.loop (fun i : Nat × Value => ⟨[(0, .s (cells l)), (4, .s (.v (ptr rb))), (5, .s (.v (.int .i64 i.1))), (2000010, refO rb i.2), (2000011, hdrN i.2 (putAll (l.take i.1))), (2999999, .old W (keptOf []))], []⟩) (fun i => i.1 ≤ l.length ∧ newE [] l = newE (l.take i.1) (l.drop i.1)) (fun i => l.length - i.1) (0, .slice none 0 0) ⟨Nat.zero_le _, rfl⟩ ?_ ?_
  · (refine Le.mk ?_ ?_; (repeat' (first | exact LeEnv.done | refine LeEnv.cons ?_ ?_ | exact PVLe.refl _ | exact PVLe.s (SVLe.nil _ _ _) | exact PVLe.s (SVLe.no _ _ _ _) | (refine PVLe.int ?_; first | rfl | omega | (simp; done) | (simp; omega)) | (refine PVLe.els ?_; first | rfl | assumption | (simp; done)) | (refine PVLe.bool ?_; first | rfl | assumption) | (refine PVLe.bsl ?_; first | rfl | assumption | (simp; done))));  (repeat' (first | exact LeBox.done | refine LeBox.cons ?_ ?_ | exact rfl)))
  · rintro ⟨k, hdr⟩ ⟨hk, hE⟩
    dsimp only at *
    by_cases hlt : k < l.length
    · obtain ⟨x, hx0⟩ := exists_at hlt
      have hx := get_map (f := Cell.vals) hx0
      have hxo := hok x (List.mem_of_getElem? hx0)
      rw [newE_step hx0] at hE
      have h1 := refValid x.at_
      have h2 := refCheck5 x.v hxo.v.num
      have h3 : chkV x.v = 0 ∨ chkV x.v = 2 := by unfold chkV; split; exact .inl rfl; exact .inr rfl
      have hlen : (putAll (l.take k)).length ≤ 1000000 := by
        have := fold_len (l.take k) []
        have h5 : (l.take k).length ≤ l.length := by rw [List.length_take]; exact Nat.min_le_right ..
        simp only [List.length_nil] at this
        show (List.foldl putL [] (l.take k)).length ≤ _
        omega
      have hp := rfPut rb hdr _ hlen x
      rw [← putAll_take hx0] at hp
      unfold errAt judgeE at hE
      generalize putAll (l.take k) = M at *
      generalize refOk x.at_ = B at *
      generalize chkV x.v = C at *
      cases B with
      | false =>
        simp only [Bool.false_eq_true, if_false, ne_eq, show ¬(3 : Int) = 0 by decide, not_false_eq_true, if_true] at hE
        repeat' (first
    | (apply RunK.callS; exact rfl; exact rfl; exact h1; (repeat (first | exact ArgsLe.nil | refine ArgsLe.cons ?_ ?_ | exact ArgLe.v _ | exact ArgLe.sl _ _ _ _ | exact ArgLe.nil _ | exact ArgLe.nil' | (apply ArgLe.bsl; exact rfl; (first | exact rfl | (rw [List.length_map]; done) | (simp only [List.length_map]; done) | (simp; done) | (simp; omega)); (first | assumption | exact map_len (fun _ => rfl))))); exact rfl)
    | refine Wt.seq ?_
    | (apply Wt.regionK; exact rfl)
    | refine Wt.ret ?_
    | refine Wt.block ?_
    | refine Wt.skip ?_
    | refine RunK.nil ?_
    | (apply RunK.moveV; exact rfl; exact rfl)
    | (apply RunK.index; exact rfl; exact rfl; exact rfl; (first | exact rfl | exact (rfl : (0 : Int) = ((0 : Nat) : Int)) | exact (rfl : (1 : Int) = ((1 : Nat) : Int)) | exact (rfl : (2 : Int) = ((2 : Nat) : Int)) | exact (rfl : (3 : Int) = ((3 : Nat) : Int)) | assumption); (first | omega | exact lt_of_get ‹_› | (rw [List.length_map]; omega) | (simp; omega)))
    | (apply RunK.fieldE; exact rfl; exact rfl)
    | (apply RunK.assignV; exact rfl; exact rfl)
    | (apply RunK.moveS; exact rfl; exact rfl)
    | (apply RunK.loadER; exact rfl; exact rfl; assumption; exact rfl; (apply cut_eq; repeat (first | exact Cut.nil _ | apply Cut.cons | apply Cut.skip)))
    | (apply RunK.lss; exact rfl; exact rfl; exact rfl)
    | (apply RunK.not; exact rfl; exact rfl)
    | (apply RunK.len; exact rfl; exact rfl)
    | (apply Wt.cond; exact rfl; all_goals (intro hg; (first | exact absurd hg (by decide) | skip); (first | (with_reducible replace hg := not_t hg) | (with_reducible replace hg := not_f hg) | skip); (first | (with_reducible replace hg := dec_t hg) | (with_reducible replace hg := dec_f hg) | skip); (first | (with_reducible exact absurd rfl hg) | skip); (repeat rw [List.length_map] at hg); try (exfalso; omega))))
        exact ActEnd.mk _ [] (RefK.err (by decide) hE) (.vv rfl rfl rfl rfl) rfl rfl .nil .nil
      | true =>
        simp only [if_true] at hE
        rcases h3 with rfl | rfl
        · simp only [ne_eq, not_true_eq_false, if_false] at hE
          repeat' (first
    | (apply RunK.callS; exact rfl; exact rfl; exact h1; (repeat (first | exact ArgsLe.nil | refine ArgsLe.cons ?_ ?_ | exact ArgLe.v _ | exact ArgLe.sl _ _ _ _ | exact ArgLe.nil _ | exact ArgLe.nil' | (apply ArgLe.bsl; exact rfl; (first | exact rfl | (rw [List.length_map]; done) | (simp only [List.length_map]; done) | (simp; done) | (simp; omega)); (first | assumption | exact map_len (fun _ => rfl))))); exact rfl) | (apply RunK.callS; exact rfl; exact rfl; exact h2; (repeat (first | exact ArgsLe.nil | refine ArgsLe.cons ?_ ?_ | exact ArgLe.v _ | exact ArgLe.sl _ _ _ _ | exact ArgLe.nil _ | exact ArgLe.nil' | (apply ArgLe.bsl; exact rfl; (first | exact rfl | (rw [List.length_map]; done) | (simp only [List.length_map]; done) | (simp; done) | (simp; omega)); (first | assumption | exact map_len (fun _ => rfl))))); exact rfl)
    | refine Wt.seq ?_
    | (apply Wt.regionK; exact rfl)
    | refine Wt.block ?_
    | refine Wt.skip ?_
    | refine RunK.nil ?_
    | (apply RunK.moveV; exact rfl; exact rfl)
    | (apply RunK.index; exact rfl; exact rfl; exact rfl; (first | exact rfl | exact (rfl : (0 : Int) = ((0 : Nat) : Int)) | exact (rfl : (1 : Int) = ((1 : Nat) : Int)) | exact (rfl : (2 : Int) = ((2 : Nat) : Int)) | exact (rfl : (3 : Int) = ((3 : Nat) : Int)) | assumption); (first | omega | exact lt_of_get ‹_› | (rw [List.length_map]; omega) | (simp; omega)))
    | (apply RunK.fieldE; exact rfl; exact rfl)
    | (apply RunK.assignV; exact rfl; exact rfl)
    | (apply RunK.moveS; exact rfl; exact rfl)
    | (apply RunK.loadER; exact rfl; exact rfl; assumption; exact rfl; (apply cut_eq; repeat (first | exact Cut.nil _ | apply Cut.cons | apply Cut.skip)))
    | (apply RunK.lss; exact rfl; exact rfl; exact rfl)
    | (apply RunK.neq; exact rfl; exact rfl; exact rfl)
    | (apply RunK.not; exact rfl; exact rfl)
    | (apply RunK.len; exact rfl; exact rfl)
    | (apply Wt.cond; exact rfl; all_goals (intro hg; (first | exact absurd hg (by decide) | skip); (first | (with_reducible replace hg := not_t hg) | (with_reducible replace hg := not_f hg) | skip); (first | (with_reducible replace hg := dec_t hg) | (with_reducible replace hg := dec_f hg) | skip); (first | (with_reducible exact absurd rfl hg) | skip); (repeat rw [List.length_map] at hg); try (exfalso; omega))))
          refine Wt.loop (fun j : Nat => ⟨[(0, .s (cells l)), (4, .s (.v (ptr rb))), (5, .s (.v (.int .i64 k))), (6, .s (.v (.int .i64 j))), (2000010, refO rb hdr), (2000011, hdrN hdr M), (2999999, .old W (keptOf []))], []⟩) (fun j => j ≤ k ∧ ∀ (m : Nat) (y : Cell), m < j → l[m]? = some y → y.at_ ≠ x.at_) (fun j => k - j) 0 ⟨Nat.zero_le _, fun j y hj => absurd hj (Nat.not_lt_zero j)⟩ ?_ ?_
          · (refine Le.mk ?_ ?_; (repeat' (first | exact LeEnv.done | refine LeEnv.cons ?_ ?_ | exact PVLe.refl _ | exact PVLe.s (SVLe.nil _ _ _) | exact PVLe.s (SVLe.no _ _ _ _) | (refine PVLe.int ?_; first | rfl | omega | (simp; done) | (simp; omega)) | (refine PVLe.els ?_; first | rfl | assumption | (simp; done)) | (refine PVLe.bool ?_; first | rfl | assumption) | (refine PVLe.bsl ?_; first | rfl | assumption | (simp; done))));  (repeat' (first | exact LeBox.done | refine LeBox.cons ?_ ?_ | exact rfl)))
          · rintro j ⟨hj, hG⟩
            by_cases hjk : j < k
            · obtain ⟨y, hy0⟩ := exists_at (Nat.lt_trans hjk hlt)
              have hy := get_map (f := Cell.vals) hy0
              repeat' (first
    | (apply RunK.bin; exact rfl; exact rfl; exact rfl; exact eqlRef y.at_ x.at_)
    | refine Wt.seq ?_
    | (apply Wt.regionK; exact rfl)
    | (apply Wt.regionD; kernel_rfl; kernel_rfl; exact rfl; exact rfl)
    | refine Wt.ret ?_
    | refine Wt.block ?_
    | refine Wt.skip ?_
    | refine RunK.nil ?_
    | (apply RunK.moveV; exact rfl; exact rfl)
    | (apply RunK.index; exact rfl; exact rfl; exact rfl; (first | exact rfl | exact (rfl : (0 : Int) = ((0 : Nat) : Int)) | exact (rfl : (1 : Int) = ((1 : Nat) : Int)) | exact (rfl : (2 : Int) = ((2 : Nat) : Int)) | exact (rfl : (3 : Int) = ((3 : Nat) : Int)) | assumption); (first | omega | exact lt_of_get ‹_› | (rw [List.length_map]; omega) | (simp; omega)))
    | (apply RunK.fieldE; exact rfl; exact rfl)
    | (apply RunK.assignV; exact rfl; exact rfl)
    | (apply RunK.moveS; exact rfl; exact rfl)
    | (apply RunK.loadER; exact rfl; exact rfl; assumption; exact rfl; (apply cut_eq; repeat (first | exact Cut.nil _ | apply Cut.cons | apply Cut.skip)))
    | (apply RunK.lss; exact rfl; exact rfl; exact rfl)
    | (apply RunK.add; exact rfl; exact rfl; exact rfl; (first | omega | (simp only [List.length_map]; omega)))
    | (apply Wt.cond; exact rfl; all_goals (intro hg; (first | exact absurd hg (by decide) | skip); (first | (with_reducible replace hg := not_t hg) | (with_reducible replace hg := not_f hg) | skip); (first | (with_reducible replace hg := dec_t hg) | (with_reducible replace hg := dec_f hg) | skip); (first | (with_reducible exact absurd rfl hg) | skip); (repeat rw [List.length_map] at hg); try (exfalso; omega))))
              · have hd : ∃ d ∈ l.take k, d.at_ = x.at_ := ⟨y, List.mem_iff_getElem?.2 ⟨j, by rw [List.getElem?_take, if_pos hjk]; exact hy0⟩, hg⟩
                rw [if_pos hd, if_pos (by decide)] at hE
                exact ActEnd.mk _ [] (RefK.err (by decide) hE) (.vv rfl rfl rfl rfl) rfl rfl .nil .nil
              · refine ⟨j + 1, ⟨hjk, upto_succ hG hy0 hg⟩, by omega, ?_⟩
                (refine Le.mk ?_ ?_; (repeat' (first | exact LeEnv.done | refine LeEnv.cons ?_ ?_ | exact PVLe.refl _ | exact PVLe.s (SVLe.nil _ _ _) | exact PVLe.s (SVLe.no _ _ _ _) | (refine PVLe.int ?_; first | rfl | omega | (simp; done) | (simp; omega)) | (refine PVLe.els ?_; first | rfl | assumption | (simp; done)) | (refine PVLe.bool ?_; first | rfl | assumption) | (refine PVLe.bsl ?_; first | rfl | assumption | (simp; done))));  (repeat' (first | exact LeBox.done | refine LeBox.cons ?_ ?_ | exact rfl)))
            · have hd : ¬∃ d ∈ l.take k, d.at_ = x.at_ := fun ⟨d, hd, e⟩ => by
                obtain ⟨m, hm⟩ := List.mem_iff_getElem?.1 hd
                rw [List.getElem?_take] at hm
                split at hm
                · exact hG m d (by omega) hm e
                · cases hm
              rw [if_neg hd, if_neg (by decide)] at hE
              repeat' (first
    | (apply RunK.actF [2000010, 2000011] 0 hp; (case hw => exact rfl); (case he => first | exact (fun h => by cases h) | exact fun _ => rfl); (case hx => exact rfl); (case ha => (repeat (first | exact ArgsLe.nil | refine ArgsLe.cons ?_ ?_ | exact ArgLe.v _ | exact ArgLe.sl _ _ _ _ | exact ArgLe.nil _ | exact ArgLe.nil' | (apply ArgLe.bsl; exact rfl; (first | exact rfl | (rw [List.length_map]; done) | (simp only [List.length_map]; done) | (simp; done) | (simp; omega)); (first | assumption | exact map_len (fun _ => rfl)))))); (case hng => exact noNest_nil _); (case hf => exact .kept 2000010 rfl rfl (.hd 2000011 rfl rfl .nil)); (case hap => (repeat' (first | exact trivial | exact absurd rfl (by assumption) | refine And.intro ?_ ?_))))
    | refine Wt.seq ?_
    | (apply Wt.regionK; exact rfl)
    | refine Wt.exit ?_
    | refine RunK.nil ?_
    | (apply RunK.moveV; exact rfl; exact rfl)
    | (apply RunK.index; exact rfl; exact rfl; exact rfl; (first | exact rfl | exact (rfl : (0 : Int) = ((0 : Nat) : Int)) | exact (rfl : (1 : Int) = ((1 : Nat) : Int)) | exact (rfl : (2 : Int) = ((2 : Nat) : Int)) | exact (rfl : (3 : Int) = ((3 : Nat) : Int)) | assumption); (first | omega | exact lt_of_get ‹_› | (rw [List.length_map]; omega) | (simp; omega)))
    | (apply RunK.moveS; exact rfl; exact rfl)
    | (apply RunK.loadER; exact rfl; exact rfl; assumption; exact rfl; (apply cut_eq; repeat (first | exact Cut.nil _ | apply Cut.cons | apply Cut.skip)))
    | (apply RunK.lss; exact rfl; exact rfl; exact rfl)
    | (apply Wt.cond; exact rfl; all_goals (intro hg; (first | exact absurd hg (by decide) | skip); (first | (with_reducible replace hg := not_t hg) | (with_reducible replace hg := not_f hg) | skip); (first | (with_reducible replace hg := dec_t hg) | (with_reducible replace hg := dec_f hg) | skip); (first | (with_reducible exact absurd rfl hg) | skip); (repeat rw [List.length_map] at hg); try (exfalso; omega))))
              rintro _ _ ⟨hdr', rfl, rfl⟩ _
              repeat' (first
    | refine Wt.seq ?_
    | (apply Wt.regionK; exact rfl)
    | refine RunK.nil ?_
    | (apply RunK.moveV; exact rfl; exact rfl)
    | (apply RunK.assignV; exact rfl; exact rfl)
    | (apply RunK.add; exact rfl; exact rfl; exact rfl; (first | omega | (simp only [List.length_map]; omega))))
              refine ⟨(k + 1, hdr'), ⟨hlt, hE⟩, by dsimp only; omega, ?_⟩
              (refine Le.mk ?_ ?_; (repeat' (first | exact LeEnv.done | refine LeEnv.cons ?_ ?_ | exact PVLe.refl _ | exact PVLe.s (SVLe.nil _ _ _) | exact PVLe.s (SVLe.no _ _ _ _) | (refine PVLe.int ?_; first | rfl | omega | (simp; done) | (simp; omega)) | (refine PVLe.els ?_; first | rfl | assumption | (simp; done)) | (refine PVLe.bool ?_; first | rfl | assumption) | (refine PVLe.bsl ?_; first | rfl | assumption | (simp; done))));  (repeat' (first | exact LeBox.done | refine LeBox.cons ?_ ?_ | exact rfl)))
        · simp only [ne_eq, show ¬(2 : Int) = 0 by decide, not_false_eq_true, if_true] at hE
          repeat' (first
    | (apply RunK.callS; exact rfl; exact rfl; exact h1; (repeat (first | exact ArgsLe.nil | refine ArgsLe.cons ?_ ?_ | exact ArgLe.v _ | exact ArgLe.sl _ _ _ _ | exact ArgLe.nil _ | exact ArgLe.nil' | (apply ArgLe.bsl; exact rfl; (first | exact rfl | (rw [List.length_map]; done) | (simp only [List.length_map]; done) | (simp; done) | (simp; omega)); (first | assumption | exact map_len (fun _ => rfl))))); exact rfl) | (apply RunK.callS; exact rfl; exact rfl; exact h2; (repeat (first | exact ArgsLe.nil | refine ArgsLe.cons ?_ ?_ | exact ArgLe.v _ | exact ArgLe.sl _ _ _ _ | exact ArgLe.nil _ | exact ArgLe.nil' | (apply ArgLe.bsl; exact rfl; (first | exact rfl | (rw [List.length_map]; done) | (simp only [List.length_map]; done) | (simp; done) | (simp; omega)); (first | assumption | exact map_len (fun _ => rfl))))); exact rfl)
    | refine Wt.seq ?_
    | (apply Wt.regionK; exact rfl)
    | refine Wt.ret ?_
    | refine Wt.block ?_
    | refine Wt.skip ?_
    | refine RunK.nil ?_
    | (apply RunK.moveV; exact rfl; exact rfl)
    | (apply RunK.index; exact rfl; exact rfl; exact rfl; (first | exact rfl | exact (rfl : (0 : Int) = ((0 : Nat) : Int)) | exact (rfl : (1 : Int) = ((1 : Nat) : Int)) | exact (rfl : (2 : Int) = ((2 : Nat) : Int)) | exact (rfl : (3 : Int) = ((3 : Nat) : Int)) | assumption); (first | omega | exact lt_of_get ‹_› | (rw [List.length_map]; omega) | (simp; omega)))
    | (apply RunK.fieldE; exact rfl; exact rfl)
    | (apply RunK.assignV; exact rfl; exact rfl)
    | (apply RunK.moveS; exact rfl; exact rfl)
    | (apply RunK.loadER; exact rfl; exact rfl; assumption; exact rfl; (apply cut_eq; repeat (first | exact Cut.nil _ | apply Cut.cons | apply Cut.skip)))
    | (apply RunK.lss; exact rfl; exact rfl; exact rfl)
    | (apply RunK.neq; exact rfl; exact rfl; exact rfl)
    | (apply RunK.not; exact rfl; exact rfl)
    | (apply RunK.len; exact rfl; exact rfl)
    | (apply Wt.cond; exact rfl; all_goals (intro hg; (first | exact absurd hg (by decide) | skip); (first | (with_reducible replace hg := not_t hg) | (with_reducible replace hg := not_f hg) | skip); (first | (with_reducible replace hg := dec_t hg) | (with_reducible replace hg := dec_f hg) | skip); (first | (with_reducible exact absurd rfl hg) | skip); (repeat rw [List.length_map] at hg); try (exfalso; omega))))
          exact ActEnd.mk _ [] (RefK.err (by decide) hE) (.vv rfl rfl rfl rfl) rfl rfl .nil .nil
    · rw [List.drop_eq_nil_of_le (by omega), show newE (l.take k) [] = 0 from rfl] at hE
      rw [show l.take k = l from List.take_of_length_le (by omega)]
      repeat' (first
    | refine Wt.seq ?_
    | (apply Wt.regionK; exact rfl)
    | refine Wt.ret ?_
    | refine Wt.exit ?_
    | refine RunK.nil ?_
    | (apply RunK.moveV; exact rfl; exact rfl)
    | (apply RunK.assignV; exact rfl; exact rfl)
    | (apply RunK.moveS; exact rfl; exact rfl)
    | (apply RunK.lss; exact rfl; exact rfl; exact rfl)
    | (apply RunK.len; exact rfl; exact rfl)
    | (apply Wt.cond; exact rfl; all_goals (intro hg; (first | exact absurd hg (by decide) | skip); (first | (with_reducible replace hg := not_t hg) | (with_reducible replace hg := not_f hg) | skip); (first | (with_reducible replace hg := dec_t hg) | (with_reducible replace hg := dec_f hg) | skip); (first | (with_reducible exact absurd rfl hg) | skip); (repeat rw [List.length_map] at hg); try (exfalso; omega))))
      exact ActEnd.mk _ [refO rb hdr, hdrN hdr (putAll l)] (RefK.ok hE) (.vv rfl rfl rfl rfl) rfl rfl (.kept 2000010 rfl (.hd 2000011 rfl .nil)) .nil
end Go.Proofs.Ytnpbnlmhmjejhaa
