/- Plain laws: addresses counted over a range and over its parts. No program in sight. -/
import Derived.Test.YtgljklggeopolaaPartLaw
namespace Go.Proofs.Ytgljklggeopolaa

def sumN (f : Int → Int) (lo : Int) : Nat → Int
  | 0 => 0
  | n + 1 => sumN f lo n + f (lo + (n : Int))
def sumZ (f : Int → Int) (lo hi : Int) : Int := sumN f lo (hi + 1 - lo).toNat
theorem sumN_add (f : Int → Int) (lo : Int) (m : Nat) : ∀ n : Nat, sumN f lo (m + n) = sumN f lo m + sumN f (lo + (m : Int)) n
  | 0 => by simp [sumN]
  | n + 1 => by
    rw [← Nat.add_assoc, sumN, sumN_add f lo m n, sumN, show lo + ((m + n : Nat) : Int) = lo + (m : Int) + (n : Int) by omega]
    omega
theorem sumZ_split (f : Int → Int) {lo m hi : Int} (h1 : lo ≤ m + 1) (h2 : m ≤ hi) : sumZ f lo hi = sumZ f lo m + sumZ f (m + 1) hi := by
  unfold sumZ
  rw [show (hi + 1 - lo).toNat = (m + 1 - lo).toNat + (hi + 1 - (m + 1)).toNat by omega, sumN_add, show lo + ((m + 1 - lo).toNat : Int) = m + 1 by omega]
theorem sumN_congr {f g : Int → Int} {lo : Int} : ∀ {n : Nat}, (∀ i : Nat, i < n → f (lo + (i : Int)) = g (lo + (i : Int))) → sumN f lo n = sumN g lo n
  | 0, _ => rfl
  | n + 1, h => by rw [sumN, sumN, sumN_congr fun i hi => h i (by omega), h n (by omega)]
theorem sumZ_congr {f g : Int → Int} {lo hi : Int} (h : ∀ k, lo ≤ k → k ≤ hi → f k = g k) : sumZ f lo hi = sumZ g lo hi :=
  sumN_congr fun i hi => h _ (by omega) (by omega)
theorem sumN_const (v lo : Int) : ∀ n : Nat, sumN (fun _ => v) lo n = (n : Int) * v
  | 0 => by simp [sumN]
  | n + 1 => by
    rw [sumN, sumN_const v lo n, Int.natCast_add, Int.add_mul]
    simp
theorem sumZ_const (v : Int) {lo hi : Int} (h : lo ≤ hi + 1) : sumZ (fun _ => v) lo hi = (hi + 1 - lo) * v := by
  unfold sumZ; rw [sumN_const, show ((hi + 1 - lo).toNat : Int) = hi + 1 - lo by omega]
theorem sumZ_none (f : Int → Int) (lo : Int) : sumZ f (lo + 1) lo = 0 := by
  unfold sumZ; rw [show (lo + 1 - (lo + 1)).toNat = 0 by omega]; rfl
theorem tiles_sum (f : Int → Int) : ∀ {B : List (Int × Int)} {lo hi : Int}, Tiles lo hi B → sumZ f lo hi = (B.map fun p => sumZ f p.1 p.2).sum
  | [], lo, hi, h => by
    have : lo = hi + 1 := h
    subst this
    rw [sumZ_none]; rfl
  | q :: B, lo, hi, ⟨h1, h2, h3⟩ => by
    have := (tiles_in h3).1
    rw [List.map_cons, List.sum_cons, ← tiles_sum f h3, ← h1]
    exact sumZ_split f (by omega) (by omega)
theorem sumN_list {α : Type} (g : α → Int → Int) (B : List α) (lo : Int) : ∀ n : Nat, sumN (fun k => (B.map fun p => g p k).sum) lo n = (B.map fun p => sumN (g p) lo n).sum
  | 0 => by
    have : ∀ B : List α, (B.map fun p => sumN (g p) lo 0).sum = 0 := by
      intro B
      induction B with
      | nil => rfl
      | cons p B ih => rw [List.map_cons, List.sum_cons, ih]; rfl
    rw [this]; rfl
  | n + 1 => by
    rw [sumN, sumN_list g B lo n]
    induction B with
    | nil => rfl
    | cons p B ih =>
      simp only [List.map_cons, List.sum_cons] at ih ⊢
      rw [← ih, sumN]
      omega
theorem sumZ_list {α : Type} (g : α → Int → Int) (B : List α) (lo hi : Int) : sumZ (fun k => (B.map fun p => g p k).sum) lo hi = (B.map fun p => sumZ (g p) lo hi).sum := sumN_list g B lo _
theorem sum_flat {α β : Type} (f : β → Int) (g : α → List β) : ∀ l : List α, ((l.flatMap g).map f).sum = (l.map fun y => ((g y).map f).sum).sum
  | [] => rfl
  | y :: l => by rw [List.flatMap_cons, List.map_append, List.sum_append, List.map_cons, List.sum_cons, sum_flat f g l]

/-- The addresses of a range for which something holds, counted. -/
def cnt (P : Ref → Bool) (r : Rect) : Int := sumZ (fun y => sumZ (fun x => if P ⟨x, y⟩ then 1 else 0) r.c1 r.c2) r.r1 r.r2
def areaR (r : Rect) : Int := (r.c2 - r.c1 + 1) * (r.r2 - r.r1 + 1)
def areaS (l : List Rect) : Int := (l.map areaR).sum
theorem cnt_const {P : Ref → Bool} {r : Rect} {b : Bool} (h1 : r.c1 ≤ r.c2 + 1) (h2 : r.r1 ≤ r.r2 + 1) (h : ∀ x, hasB r x = true → P x = b) : cnt P r = if b then areaR r else 0 := by
  have e : cnt P r = sumZ (fun _ => sumZ (fun _ => if b then 1 else 0) r.c1 r.c2) r.r1 r.r2 :=
    sumZ_congr fun y a1 a2 => sumZ_congr fun x b1 b2 => by rw [h ⟨x, y⟩ (has_iff.2 ⟨b1, b2, a1, a2⟩)]
  rw [e, sumZ_const _ h2, sumZ_const _ h1]
  cases b
  · simp
  · rw [if_pos rfl, if_pos rfl, Int.mul_one, Int.mul_comm, areaR, show r.c2 + 1 - r.c1 = r.c2 - r.c1 + 1 by omega, show r.r2 + 1 - r.r1 = r.r2 - r.r1 + 1 by omega]
theorem cnt_row {P : Ref → Bool} {c1 c2 : Int} {y : Int × Int} {Q : List Part} (h : Tiles c1 c2 (Q.map cols)) (hy : ∀ p ∈ Q, p.r.r1 = y.1 ∧ p.r.r2 = y.2) : sumZ (fun v => sumZ (fun x => if P ⟨x, v⟩ then 1 else 0) c1 c2) y.1 y.2 = (Q.map fun p => cnt P p.r).sum := by
  have e : ∀ v, sumZ (fun x => if P ⟨x, v⟩ then 1 else 0) c1 c2 = (Q.map fun p => sumZ (fun x => if P ⟨x, v⟩ then (1 : Int) else 0) p.r.c1 p.r.c2).sum := fun v => by
    rw [tiles_sum _ h, List.map_map]; rfl
  rw [show (fun v => sumZ (fun x => if P ⟨x, v⟩ then 1 else 0) c1 c2) = fun v => (Q.map fun p => sumZ (fun x => if P ⟨x, v⟩ then (1 : Int) else 0) p.r.c1 p.r.c2).sum from funext e]
  rw [sumZ_list (fun (p : Part) v => sumZ (fun x => if P ⟨x, v⟩ then (1 : Int) else 0) p.r.c1 p.r.c2)]
  refine congrArg List.sum (List.map_congr_left fun p hp => ?_)
  rw [← (hy p hp).1, ← (hy p hp).2]; rfl
/-- Each address lies in one part. -/
theorem parts_cnt {r : Rect} (hr : rectOk r = true) {a b : List Rule} (ha : ∀ y ∈ a, rectOk y.rect = true) (hb : ∀ y ∈ b, rectOk y.rect = true) (P : Ref → Bool) : cnt P r = ((partsL r a b).map fun p => cnt P p.r).sum := by
  have hro := ok_iff.1 hr
  have hT := (bandsL_spec (lo := r.r1) (hi := r.r2) (by omega) (noteR r a ++ noteR r b)).1
  unfold cnt partsL
  rw [sum_flat, tiles_sum _ hT]
  refine congrArg List.sum (List.map_congr_left fun y hy => ?_)
  obtain ⟨t1, t2⟩ := rowP_ok hr ha hb hy
  rw [show r.c2 + 1 - 1 = r.c2 by omega] at t1
  exact cnt_row t1 fun p hp => ⟨(t2 p hp).1, (t2 p hp).2.1⟩
theorem parts_area {r : Rect} (hr : rectOk r = true) {a b : List Rule} (ha : ∀ y ∈ a, rectOk y.rect = true) (hb : ∀ y ∈ b, rectOk y.rect = true) : areaS ((partsL r a b).map Part.r) = areaR r := by
  have hro := ok_iff.1 hr
  have h := parts_cnt hr ha hb fun _ => true
  rw [cnt_const (b := true) (by omega) (by omega) fun _ _ => rfl, if_pos rfl] at h
  rw [h, areaS, List.map_map]
  refine congrArg List.sum (List.map_congr_left fun p hp => ?_)
  have ho := ok_iff.1 ((parts_spec hr ha hb).1 p hp).1
  rw [cnt_const (b := true) (by omega) (by omega) fun _ _ => rfl]; rfl
/-- One part behind the other, row by row. -/
def Behind (p q : Rect) : Prop := p.r2 < q.r1 ∨ p.r1 = q.r1 ∧ p.c2 < q.c1
theorem parts_pair {r : Rect} (hr : rectOk r = true) {a b : List Rule} (ha : ∀ y ∈ a, rectOk y.rect = true) (hb : ∀ y ∈ b, rectOk y.rect = true) : ((partsL r a b).map Part.r).Pairwise Behind := by
  have hro := ok_iff.1 hr
  have hT := (bandsL_spec (lo := r.r1) (hi := r.r2) (by omega) (noteR r a ++ noteR r b)).1
  rw [List.pairwise_map]
  unfold partsL
  rw [List.pairwise_flatMap]
  refine ⟨fun y hy => ?_, ?_⟩
  · obtain ⟨t1, t2⟩ := rowP_ok hr ha hb hy
    have h1 := List.pairwise_map.1 (tiles_pair t1)
    refine List.Pairwise.imp_of_mem (fun {p q} hp hq h2 => ?_) h1
    have g1 := t2 p hp
    have g2 := t2 q hq
    simp only [cols] at h2
    exact .inr ⟨by rw [g1.1, g2.1], h2⟩
  · refine List.Pairwise.imp_of_mem (fun {y z} hy hz h2 => ?_) (tiles_pair hT)
    intro p hp q hq
    have g1 := (rowP_ok hr ha hb hy).2 p hp
    have g2 := (rowP_ok hr ha hb hz).2 q hq
    exact .inl (by rw [g1.2.1, g2.1]; exact h2)
end Go.Proofs.Ytgljklggeopolaa
