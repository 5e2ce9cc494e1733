/- Sheets that are made by Sets of numbers: which cells they have. No program. -/
import Derived.Test.YtnpbnlmhmjejhaaSX
namespace Go.Proofs.Ytnpbnlmhmjejhaa
open Pv Go.RowKit
def setP (L : List Cell) (p : Put) : List Cell := if refOk p.at_ = true then putL L ⟨p.at_, numV p.n⟩ else L
abbrev setAll (l : List Put) : List Cell := l.foldl setP []
/-- The cells that the last Sets leave. -/
def liveP (l : List Put) (p : Put) : Prop := refOk p.at_ = true ∧ (∀ q ∈ l, q.at_ ≠ p.at_) ∧ (numV p.n).kind ≠ 0
instance (l : List Put) (p : Put) : Decidable (liveP l p) := by unfold liveP; infer_instance
def lastC : List Put → List Cell
  | [] => []
  | p :: l => (if liveP l p then [⟨p.at_, numV p.n⟩] else []) ++ lastC l
set_option maxRecDepth 100000 in
theorem mem_fold : ∀ (l : List Put) (L : List Cell) (y : Cell), y ∈ l.foldl setP L ↔ y ∈ lastC l ∨ (y ∈ L ∧ ∀ q ∈ l, refOk q.at_ = true → q.at_ ≠ y.at_)
  | [], L, y => by simp [lastC]
  | p :: l, L, y => by
    rw [List.foldl_cons, mem_fold l, lastC, List.mem_append]
    have e1 : (∀ q ∈ p :: l, refOk q.at_ = true → q.at_ ≠ y.at_) ↔ (refOk p.at_ = true → p.at_ ≠ y.at_) ∧ ∀ q ∈ l, refOk q.at_ = true → q.at_ ≠ y.at_ := by
      rw [List.forall_mem_cons]
    rw [e1]
    unfold setP
    by_cases hr : refOk p.at_ = true
    · rw [if_pos hr, mem_putL]
      constructor
      · rintro (h | ⟨⟨h1, h2⟩ | ⟨h1, rfl⟩, h3⟩)
        · exact .inl (.inr h)
        · exact .inr ⟨h1, fun _ e => h2 e.symm, h3⟩
        · refine .inl (.inl ?_)
          rw [if_pos (show liveP l p from ⟨hr, fun q hq e => h3 q hq (by rw [e]; exact hr) e, h1⟩)]
          exact List.mem_singleton_self _
      · rintro ((h | h) | ⟨h1, h2, h3⟩)
        · split at h
          · rename_i hp
            have hy := List.mem_singleton.1 h
            subst hy
            exact .inr ⟨.inr ⟨hp.2.2, rfl⟩, fun q hq _ => hp.2.1 q hq⟩
          · cases h
        · exact .inl h
        · exact .inr ⟨.inl ⟨h1, fun e => h2 hr e.symm⟩, h3⟩
    · rw [if_neg hr, if_neg (fun h : liveP l p => hr h.1)]
      constructor
      · rintro (h | ⟨h1, h2⟩)
        · exact .inl (.inr h)
        · exact .inr ⟨h1, fun h => absurd h hr, h2⟩
      · rintro ((h | h) | ⟨h1, _, h3⟩)
        · cases h
        · exact .inl h
        · exact .inr ⟨h1, h3⟩
set_option maxRecDepth 100000 in
theorem mem_setAll {l : List Put} {y : Cell} : y ∈ setAll l ↔ y ∈ lastC l := by
  show y ∈ l.foldl setP [] ↔ _
  rw [mem_fold]
  simp
set_option maxRecDepth 100000 in
theorem lastC_spec : ∀ {l : List Put} {y : Cell}, y ∈ lastC l → ∃ (j : Nat) (p : Put), l[j]? = some p ∧ liveP (l.drop (j + 1)) p ∧ y = ⟨p.at_, numV p.n⟩
  | [], y, h => by cases h
  | p :: l, y, h => by
    rw [lastC, List.mem_append] at h
    rcases h with h | h
    · split at h
      · rename_i hp
        exact ⟨0, p, rfl, hp, List.mem_singleton.1 h⟩
      · cases h
    · obtain ⟨j, q, h1, h2, h3⟩ := lastC_spec h
      exact ⟨j + 1, q, h1, h2, h3⟩
set_option maxRecDepth 100000 in
theorem lastC_mem {l : List Put} {j : Nat} {p : Put} (h : l[j]? = some p) (hp : liveP (l.drop (j + 1)) p) : (⟨p.at_, numV p.n⟩ : Cell) ∈ lastC l := by
  induction l generalizing j with
  | nil => cases h
  | cons q l ih =>
    rw [lastC, List.mem_append]
    cases j with
    | zero =>
      injection h with h
      subst h
      refine .inl ?_
      rw [if_pos (show liveP l q from hp)]
      exact List.mem_singleton_self _
    | succ j => exact .inr (ih h hp)
set_option maxRecDepth 100000 in
theorem lastC_nodup : ∀ (l : List Put), (lastC l).Pairwise fun a b => a.at_ ≠ b.at_
  | [] => .nil
  | p :: l => by
    rw [lastC]
    refine List.pairwise_append.2 ⟨?_, lastC_nodup l, fun a ha b hb e => ?_⟩
    · split
      · exact List.pairwise_singleton ..
      · exact .nil
    · split at ha
      · rename_i hp
        rw [List.mem_singleton.1 ha] at e
        obtain ⟨j, q, h1, _, h3⟩ := lastC_spec hb
        rw [h3] at e
        exact hp.2.1 q (List.mem_of_getElem? h1) e.symm
      · cases ha
set_option maxRecDepth 100000 in
theorem srt_setAll (l : List Put) : ∀ (L : List Cell), Srt L → Srt (l.foldl setP L) := by
  induction l with
  | nil => exact fun _ h => h
  | cons p l ih =>
    intro L h
    rw [List.foldl_cons]
    refine ih _ ?_
    unfold setP
    split
    · exact srt_putL h _
    · exact h
set_option maxRecDepth 100000 in
theorem nb_setAll (l : List Put) : ∀ (L : List Cell), NB L → NB (l.foldl setP L) := by
  induction l with
  | nil => exact fun _ h => h
  | cons p l ih =>
    intro L h
    rw [List.foldl_cons]
    refine ih _ ?_
    unfold setP
    split
    · exact nb_putL h _
    · exact h
set_option maxRecDepth 100000 in
theorem setAll_len (l : List Put) : (setAll l).length = (lastC l).length := by
  refine List.Perm.length_eq (nodup_perm (srt_nodup (srt_setAll l [] .nil)) ?_ fun y => mem_setAll)
  rw [List.nodup_iff_pairwise_ne]
  exact (lastC_nodup l).imp fun h e => h (congrArg Cell.at_ e)
set_option maxRecDepth 100000 in
theorem setP_len (L : List Cell) (p : Put) : (setP L p).length ≤ L.length + 1 := by
  unfold setP
  split
  · exact putL_len _ _
  · exact Nat.le_succ _
set_option maxRecDepth 100000 in
theorem setAll_bound (l : List Put) : ∀ (L : List Cell), (l.foldl setP L).length ≤ L.length + l.length := by
  induction l with
  | nil => exact fun _ => Nat.le_refl _
  | cons p l ih =>
    intro L
    rw [List.foldl_cons]
    have h1 := ih (setP L p)
    have h2 := setP_len L p
    rw [List.length_cons]
    omega
set_option maxRecDepth 100000 in
/-- An address has what was set last. -/
theorem get_last {l : List Put} {j : Nat} {p : Put} (h : l[j]? = some p) (hr : refOk p.at_ = true) (hl : ∀ q ∈ l.drop (j + 1), q.at_ ≠ p.at_) : getL (setAll l) p.at_ = numV p.n := by
  by_cases hk : (numV p.n).kind = 0
  · have hb : numV p.n = blankV := by
      unfold numV at hk ⊢
      split at hk
      · rename_i h; rw [if_pos h]
      · cases hk
    rw [hb]
    refine getL_out fun c hc e => ?_
    obtain ⟨i, q, h1, h2, h3⟩ := lastC_spec (mem_setAll.1 hc)
    rw [h3] at e
    have e' : q.at_ = p.at_ := e
    rcases Nat.lt_trichotomy i j with hij | hij | hij
    · refine h2.2.1 p ?_ e'.symm
      refine List.mem_iff_getElem?.2 ⟨j - (i + 1), ?_⟩
      rw [List.getElem?_drop, show i + 1 + (j - (i + 1)) = j by omega]; exact h
    · subst hij
      rw [h] at h1
      injection h1 with h1
      subst h1
      exact h2.2.2 hk
    · refine hl q ?_ e'
      refine List.mem_iff_getElem?.2 ⟨i - (j + 1), ?_⟩
      rw [List.getElem?_drop, show j + 1 + (i - (j + 1)) = i by omega]; exact h1
  · exact getL_in (c := ⟨p.at_, numV p.n⟩) (srt_setAll l [] .nil) (mem_setAll.2 (lastC_mem h ⟨hr, hl, hk⟩))
/-- Every cell of such a sheet is a number in the sheet. -/
def Nums (L : List Cell) : Prop := ∀ c ∈ L, refOk c.at_ = true ∧ ∃ n, c.v = numV n
set_option maxRecDepth 100000 in
theorem nums_setAll (l : List Put) : Nums (setAll l) := fun c hc => by
  obtain ⟨i, q, _, h2, h3⟩ := lastC_spec (mem_setAll.1 hc)
  rw [h3]
  exact ⟨h2.1, q.n, rfl⟩
set_option maxRecDepth 100000 in
theorem nums_put {L : List Cell} (h : Nums L) {x : Ref} {n : Int} (hx : refOk x = true) : Nums (putL L ⟨x, numV n⟩) := fun c hc => by
  rcases mem_putL.1 hc with ⟨h1, _⟩ | ⟨_, rfl⟩
  · exact h c h1
  · exact ⟨hx, n, rfl⟩
set_option maxRecDepth 100000 in
theorem drop_lastC {l : List Put} {k : Nat} {p : Put} (h : l[k]? = some p) : lastC (l.drop k) = (if liveP (l.drop (k + 1)) p then [⟨p.at_, numV p.n⟩] else []) ++ lastC (l.drop (k + 1)) := by
  obtain ⟨hk, he⟩ := List.getElem?_eq_some_iff.1 h
  rw [← List.getElem_cons_drop hk, lastC, he]
/-! ### parts -/
set_option maxRecDepth 100000 in
theorem filter_cut {p q : Cell → Bool} : ∀ {L : List Cell}, Srt L → (∀ c ∈ L, q c = !p c) → (∀ a b : Cell, a ∈ L → lessR a.at_ b.at_ = true → p b = true → p a = true) → L.filter p ++ L.filter q = L
  | [], _, _, _ => rfl
  | a :: L, h, hq, hp => by
    obtain ⟨h1, h2⟩ := List.pairwise_cons.1 h
    have ih := filter_cut h2 (fun c hc => hq c (List.mem_cons_of_mem _ hc)) (fun a b ha => hp a b (List.mem_cons_of_mem _ ha))
    have hqa := hq a (List.mem_cons_self ..)
    cases hpa : p a with
    | true =>
      rw [hpa] at hqa
      rw [List.filter_cons_of_pos hpa, List.filter_cons_of_neg (by rw [hqa]; decide), List.cons_append, ih]
    | false =>
      rw [hpa] at hqa
      have hn : L.filter p = [] := List.filter_eq_nil_iff.2 fun b hb hpb => by
        rw [hp a b (List.mem_cons_self ..) (h1 b hb) hpb] at hpa; cases hpa
      have hqs : L.filter q = L := List.filter_eq_self.2 fun b hb => by
        rw [hq b (List.mem_cons_of_mem _ hb)]
        cases hpb : p b with
        | false => rfl
        | true => rw [hp a b (List.mem_cons_self ..) (h1 b hb) hpb] at hpa; cases hpa
      rw [List.filter_cons_of_neg (by rw [hpa]; decide), List.filter_cons_of_pos (by rw [hqa]; rfl), hn, hqs]; rfl
set_option maxRecDepth 100000 in
theorem filter_all {p : Cell → Bool} {L : List Cell} (h : ∀ c ∈ L, p c = true) : L.filter p = L := List.filter_eq_self.2 h
/-! ### the same sheet -/
set_option maxRecDepth 100000 in
theorem put_swap {L : List Cell} (h : Srt L) {a b : Cell} (hab : a.at_ ≠ b.at_) : putL (putL L a) b = putL (putL L b) a := by
  refine srt_ext (srt_putL (srt_putL h _) _) (srt_putL (srt_putL h _) _) fun y => ?_
  rw [mem_putL, mem_putL, mem_putL, mem_putL]
  constructor
  · rintro (⟨⟨h1, h2⟩ | ⟨h1, rfl⟩, h3⟩ | ⟨h1, rfl⟩)
    · exact .inl ⟨.inl ⟨h1, h3⟩, h2⟩
    · exact .inr ⟨h1, rfl⟩
    · exact .inl ⟨.inr ⟨h1, rfl⟩, Ne.symm hab⟩
  · rintro (⟨⟨h1, h2⟩ | ⟨h1, rfl⟩, h3⟩ | ⟨h1, rfl⟩)
    · exact .inl ⟨.inl ⟨h1, h3⟩, h2⟩
    · exact .inr ⟨h1, rfl⟩
    · exact .inl ⟨.inr ⟨h1, rfl⟩, hab⟩
set_option maxRecDepth 100000 in
theorem get_put_same {L : List Cell} (h : Srt L) {x : Ref} {n : Int} : getL (putL L ⟨x, numV n⟩) x = numV n := by
  by_cases hk : (numV n).kind = 0
  · have hb : numV n = blankV := by
      unfold numV at hk ⊢
      split at hk
      · rename_i h; rw [if_pos h]
      · cases hk
    rw [hb]
    refine getL_out fun c hc e => ?_
    rcases mem_putL.1 hc with ⟨_, h2⟩ | ⟨h1, _⟩
    · exact h2 e
    · exact h1 (by rw [← hb]; exact hk)
  · exact getL_in (c := ⟨x, numV n⟩) (srt_putL h _) (mem_putL.2 (.inr ⟨hk, rfl⟩))
set_option maxRecDepth 100000 in
theorem get_put_other {L : List Cell} (h : Srt L) {c : Cell} {x : Ref} (hx : x ≠ c.at_) : getL (putL L c) x = getL L x := by
  by_cases hd : ∃ d ∈ L, d.at_ = x
  · obtain ⟨d, hd, rfl⟩ := hd
    rw [getL_in h hd, getL_in (srt_putL h _) (mem_putL.2 (.inl ⟨hd, hx⟩))]
  · rw [getL_out (fun d hd' e => hd ⟨d, hd', e⟩)]
    refine getL_out fun d hd' e => ?_
    rcases mem_putL.1 hd' with ⟨h1, _⟩ | ⟨_, rfl⟩
    · exact hd ⟨d, h1, e⟩
    · exact hx e.symm
set_option maxRecDepth 100000 in
theorem put_noop {L : List Cell} (h : Srt L) (hb : NB L) {x : Ref} {n : Int} (hg : getL L x = numV n) : putL L ⟨x, numV n⟩ = L := by
  refine srt_ext (srt_putL h _) h fun y => ?_
  rw [mem_putL]
  constructor
  · rintro (⟨h1, _⟩ | ⟨h1, rfl⟩)
    · exact h1
    · refine Classical.byContradiction fun hn => ?_
      by_cases hd : ∃ d ∈ L, d.at_ = x
      · obtain ⟨d, hd, rfl⟩ := hd
        rw [getL_in h hd] at hg
        have : d = ⟨d.at_, numV n⟩ := by rcases d with ⟨d1, d2⟩; dsimp only at hg; rw [hg]
        rw [this] at hd
        exact hn hd
      · rw [getL_out (fun d hd' e => hd ⟨d, hd', e⟩)] at hg
        exact h1 (by show (numV n).kind = 0; rw [← hg]; rfl)
  · intro hy
    by_cases he : y.at_ = x
    · refine .inr ?_
      rw [← he, getL_in h hy] at hg
      have : y = ⟨x, numV n⟩ := by rcases y with ⟨y1, y2⟩; dsimp only at hg he; rw [hg, he]
      exact ⟨by show (numV n).kind ≠ 0; rw [← hg]; exact hb y hy, this⟩
    · exact .inl ⟨hy, he⟩
set_option maxRecDepth 100000 in
theorem same_iff {L : List Cell} (h : Srt L) (hb : NB L) {x y : Ref} {m n : Int} (hxy : x ≠ y) : L = putL (putL L ⟨x, numV m⟩) ⟨y, numV n⟩ ↔ getL L x = numV m ∧ getL L y = numV n := by
  constructor
  · intro e
    constructor
    · rw [e, get_put_other (srt_putL h _) hxy, get_put_same h]
    · rw [e, get_put_same (srt_putL h _)]
  · rintro ⟨h1, h2⟩
    rw [put_noop h hb h1, put_noop h hb h2]
set_option maxRecDepth 100000 in
theorem putAll_self {L : List Cell} (h : Srt L) (hb : NB L) : putAll L = L := by
  have key : ∀ (A B : List Cell) (y : Cell), NB A → A.Pairwise (fun a b => a.at_ ≠ b.at_) → (y ∈ A.foldl putL B ↔ y ∈ A ∨ (y ∈ B ∧ ∀ a ∈ A, a.at_ ≠ y.at_)) := by
    intro A
    induction A with
    | nil => intro B y _ _; simp
    | cons a A ih =>
      intro B y hA hd
      obtain ⟨d1, d2⟩ := List.pairwise_cons.1 hd
      rw [List.foldl_cons, ih _ y (fun c hc => hA c (List.mem_cons_of_mem _ hc)) d2, mem_putL, List.mem_cons, List.forall_mem_cons]
      constructor
      · rintro (h | ⟨⟨h1, h2⟩ | ⟨_, rfl⟩, h3⟩)
        · exact .inl (.inr h)
        · exact .inr ⟨h1, Ne.symm h2, h3⟩
        · exact .inl (.inl rfl)
      · rintro ((rfl | h) | ⟨h1, h2, h3⟩)
        · exact .inr ⟨.inr ⟨hA _ (List.mem_cons_self ..), rfl⟩, fun c hc e => d1 c hc e.symm⟩
        · exact .inl h
        · exact .inr ⟨.inl ⟨h1, Ne.symm h2⟩, h3⟩
  have hs : ∀ (A B : List Cell), Srt B → Srt (A.foldl putL B) := by
    intro A
    induction A with
    | nil => exact fun _ h => h
    | cons a A ih => exact fun B hB => ih _ (srt_putL hB _)
  refine srt_ext (hs L [] .nil) h fun y => ?_
  show y ∈ L.foldl putL [] ↔ _
  rw [key L [] y hb ((show L.Pairwise (fun a b => lessR a.at_ b.at_ = true) from h).imp fun {a b} hab e => by rw [e] at hab; exact less_irr _ hab)]
  simp
set_option maxRecDepth 100000 in
theorem newE_nums : ∀ {L pre : List Cell}, Nums L → L.Pairwise (fun a b => a.at_ ≠ b.at_) → (∀ a ∈ pre, ∀ b ∈ L, a.at_ ≠ b.at_) → newE pre L = 0
  | [], _, _, _, _ => rfl
  | c :: L, pre, hN, hd, hp => by
    obtain ⟨d1, d2⟩ := List.pairwise_cons.1 hd
    obtain ⟨h1, n, h2⟩ := hN c (List.mem_cons_self ..)
    have he : errAt pre c = 0 := by
      unfold errAt
      rw [h2, judge_numV h1, if_neg (by decide), if_neg]
      rintro ⟨d, hd', e⟩
      exact hp d hd' c (List.mem_cons_self ..) e
    rw [newE, he, if_neg (by decide)]
    refine newE_nums (fun c hc => hN c (List.mem_cons_of_mem _ hc)) d2 fun a ha b hb => ?_
    rcases List.mem_append.1 ha with ha | ha
    · exact hp a ha b (List.mem_cons_of_mem _ hb)
    · rw [List.mem_singleton.1 ha]; exact d1 b hb
end Go.Proofs.Ytnpbnlmhmjejhaa
