/- The walks of glyph: which texts are printable. -/
import Derived.Test.YtnpbnlmhmjejhaaF1
import Derived.Test.YtnpbnlmhmjejhaaPvF
namespace Go.Proofs.Ytnpbnlmhmjejhaa
open Pv Go.RowKit
def goodB (b : UInt8) : Bool := decide (32 ≤ b.toNat) && decide (b.toNat ≤ 126)
def plainB (s : ByteArray) : Bool := s.data.toList.all goodB
def maskB (b : UInt8) : UInt8 := if goodB b then 32 else 0
set_option maxRecDepth 100000 in
theorem maskB_t {b : UInt8} (h1 : 32 ≤ b.toNat) (h2 : b.toNat ≤ 126) : maskB b = 32 := by unfold maskB goodB; rw [decide_eq_true h1, decide_eq_true h2]; rfl
set_option maxRecDepth 100000 in
theorem maskB_1 {b : UInt8} (h1 : ¬32 ≤ b.toNat) : maskB b = 0 := by unfold maskB goodB; rw [decide_eq_false h1]; rfl
set_option maxRecDepth 100000 in
theorem maskB_2 {b : UInt8} (h1 : ¬b.toNat ≤ 126) : maskB b = 0 := by unfold maskB goodB; rw [decide_eq_false h1, Bool.and_false]; rfl
set_option maxRecDepth 100000 in
theorem maskB_lt (b : UInt8) : (maskB b).toNat < 128 := by unfold maskB; split <;> decide
def zeroAt (l : List UInt8) : Int := match l.findIdx? (fun b => decide (b.toNat = 0)) with
  | some i => i
  | none => -1
set_option maxRecDepth 100000 in
theorem zeroAt_hit {l : List UInt8} {j : Nat} {c : UInt8} (h : ∀ (i : Nat) (d : UInt8), i < j → l[i]? = some d → ¬d.toNat = 0) (hc : l[j]? = some c) (h0 : c.toNat = 0) : zeroAt l = j := by
  obtain ⟨hj, hcj⟩ := List.getElem?_eq_some_iff.1 hc
  have : l.findIdx? (fun b => decide (b.toNat = 0)) = some j := by
    rw [List.findIdx?_eq_some_iff_getElem]
    refine ⟨hj, by rw [hcj]; exact decide_eq_true h0, fun i hi => ?_⟩
    have := h i _ hi (List.getElem?_eq_getElem (by omega))
    simpa using this
  unfold zeroAt
  rw [this]
set_option maxRecDepth 100000 in
theorem zeroAt_none {l : List UInt8} (h : ∀ (i : Nat) (d : UInt8), l[i]? = some d → ¬d.toNat = 0) : zeroAt l = -1 := by
  have : l.findIdx? (fun b => decide (b.toNat = 0)) = none := by
    rw [List.findIdx?_eq_none_iff]
    intro x hx
    obtain ⟨i, hi⟩ := List.mem_iff_getElem?.1 hx
    exact decide_eq_false (h i x hi)
  unfold zeroAt
  rw [this]
set_option maxRecDepth 100000 in
theorem zeroAt_mask (l : List UInt8) : decide (zeroAt (l.map maskB) < 0) = l.all goodB := by
  by_cases h : ∃ (i : Nat) (d : UInt8), l[i]? = some d ∧ goodB d = false
  · have e : l.all goodB = false := by
      obtain ⟨i, d, hi, hd⟩ := h
      rw [List.all_eq_false]
      exact ⟨d, List.mem_of_getElem? hi, by rw [hd]; decide⟩
    rw [e]
    refine decide_eq_false ?_
    unfold zeroAt
    split
    · omega
    · rename_i hn
      rw [List.findIdx?_eq_none_iff] at hn
      obtain ⟨i, d, hi, hd⟩ := h
      have := hn (maskB d) (List.mem_map.2 ⟨d, List.mem_of_getElem? hi, rfl⟩)
      unfold maskB at this
      rw [hd] at this
      exact absurd this (by decide)
  · have e : l.all goodB = true := by
      rw [List.all_eq_true]
      intro x hx
      obtain ⟨i, hi⟩ := List.mem_iff_getElem?.1 hx
      exact eq_true_of_ne_false fun hf => h ⟨i, x, hi, hf⟩
    rw [e]
    refine decide_eq_true ?_
    rw [zeroAt_none]
    · decide
    · intro i d hi
      rw [List.getElem?_map] at hi
      obtain ⟨x, hx, rfl⟩ := Option.map_eq_some_iff.1 hi
      have hg := List.all_eq_true.1 e x (List.mem_of_getElem? hx)
      unfold maskB
      rw [hg]
      decide
/-- The bytes after k of them are masked. -/
def rowB (l : List UInt8) (k : Nat) : List UInt8 := (l.map maskB).take k ++ l.drop k
set_option maxRecDepth 100000 in
theorem rowB_len (l : List UInt8) (k : Nat) : (rowB l k).length = l.length := by unfold rowB; simp; omega
set_option maxRecDepth 100000 in
theorem rowB_zero (l : List UInt8) : rowB l 0 = l := rfl
set_option maxRecDepth 100000 in
theorem rowB_end (l : List UInt8) {k : Nat} (h : l.length ≤ k) : rowB l k = l.map maskB := by unfold rowB; rw [List.take_of_length_le (by simpa using h), List.drop_of_length_le h, List.append_nil]
set_option maxRecDepth 100000 in
theorem rowB_get {l : List UInt8} {k : Nat} {c : UInt8} (h : l[k]? = some c) : (rowB l k)[k]? = some c := by
  have hk := (List.getElem?_eq_some_iff.1 h).1
  unfold rowB
  rw [List.getElem?_append_right (by simp; omega)]
  rw [List.getElem?_drop]
  rw [← h]
  congr 1
  simp
  omega
set_option maxRecDepth 100000 in
theorem rowB_set {l : List UInt8} {k : Nat} {c : UInt8} (h : l[k]? = some c) : (rowB l k).set k (maskB c) = rowB l (k + 1) := by
  have hk := (List.getElem?_eq_some_iff.1 h).1
  have hc := (List.getElem?_eq_some_iff.1 h).2
  apply List.ext_getElem?
  intro i
  unfold rowB
  rw [List.getElem?_set]
  by_cases hi : k = i
  · subst hi
    rw [if_pos rfl, if_pos (by simp; omega), List.getElem?_append_left (by simp; omega), List.getElem?_take_of_lt (by omega), List.getElem?_map, h]
    rfl
  · rw [if_neg hi]
    rcases Nat.lt_or_gt_of_ne hi with hlt | hgt
    · rw [List.getElem?_append_right (by simp; omega), List.getElem?_append_right (by simp; omega), List.getElem?_drop, List.getElem?_drop]
      congr 1
      simp
      omega
    · rw [List.getElem?_append_left (by simp; omega), List.getElem?_append_left (by simp; omega), List.getElem?_take_of_lt hgt, List.getElem?_take_of_lt (by omega)]
/-- The block that holds them. -/
def blkB (l : List UInt8) (tl : List Value) (k : Nat) : Array Value := ((rowB l k).map byteV ++ tl).toArray
set_option maxRecDepth 100000 in
theorem blkB_get {l : List UInt8} {tl : List Value} {k : Nat} {c : UInt8} (h : l[k]? = some c) : (blkB l tl k)[k]? = some (.int .u8 (c.toNat : Int)) := by
  have hk := (List.getElem?_eq_some_iff.1 h).1
  unfold blkB
  rw [List.getElem?_toArray, List.getElem?_append_left (by rw [List.length_map, rowB_len]; exact hk), List.getElem?_map, rowB_get h]
  rfl
set_option maxRecDepth 100000 in
theorem blkB_set {l : List UInt8} {tl : List Value} {k : Nat} {c : UInt8} (h : l[k]? = some c) : (blkB l tl k).setIfInBounds k (.int .u8 ((maskB c).toNat : Int)) = blkB l tl (k + 1) := by
  have hk := (List.getElem?_eq_some_iff.1 h).1
  unfold blkB
  rw [List.setIfInBounds_toArray, List.set_append_left _ _ (by rw [List.length_map, rowB_len]; exact hk), ← rowB_set h, List.map_set]
  rfl
set_option maxRecDepth 100000 in
theorem blkB_size (l : List UInt8) (tl : List Value) (k : Nat) : (blkB l tl k).size = l.length + tl.length := by unfold blkB; simp [rowB_len]

set_option maxRecDepth 100000 in
theorem eqlBoolH {x y : Operand} (a b : Bool) : BinRun Try.prog .eql 4 x y (.bool a) (.bool b) (.bool (decide (a = b))) := fun w => by
  cases a <;> cases b <;> rfl
set_option maxRecDepth 100000 in
theorem glyphMask (b : UInt8) : Pure Try.prog 70 [.v (.int .u8 (b.toNat : Int))] (.s (.v (.int .u8 ((maskB b).toNat : Int)))) := by
  have hb : b.toNat < 256 := b.toNat_lt
  generalize hm : maskB b = m
  generalize hN : b.toNat = N at hb
  refine pure_of_wt Try.func70 rfl (by decide) _ Try.ntmps70 rfl Try.results70 fun w0 => ?_
  repeat' (first
    | refine Wt.seq ?_
    | (apply Wt.regionK; exact rfl)
    | refine Wt.ret ?_
    | refine Wt.skip ?_
    | refine RunK.nil ?_
    | (apply RunK.moveV; exact rfl; exact rfl)
    | (apply RunK.assignV; exact rfl; exact rfl)
    | (apply RunK.pickT; exact rfl; exact rfl; exact rfl)
    | (apply RunK.pickF; exact rfl; exact rfl; exact rfl)
    | (apply RunK.lss; exact rfl; exact rfl; exact rfl)
    | (apply RunK.gtr; exact rfl; exact rfl; exact rfl)
    | (apply RunK.skip; exact rfl; exact rfl)
    | (apply RunK.guard; exact rfl; exact rfl; exact rfl; all_goals (intro hg; (first | exact absurd hg (by decide) | skip); (first | (with_reducible replace hg := not_t hg) | (with_reducible replace hg := not_f hg) | skip); (first | (with_reducible replace hg := dec_t hg) | (with_reducible replace hg := dec_f hg) | skip); (first | (with_reducible exact absurd rfl hg) | skip); (repeat rw [List.length_map] at hg); try (exfalso; omega)))
    | (apply Wt.cond; exact rfl; all_goals (intro hg; (first | exact absurd hg (by decide) | skip); (first | (with_reducible replace hg := not_t hg) | (with_reducible replace hg := not_f hg) | skip); (first | (with_reducible replace hg := dec_t hg) | (with_reducible replace hg := dec_f hg) | skip); (first | (with_reducible exact absurd rfl hg) | skip); (repeat rw [List.length_map] at hg); try (exfalso; omega))))
  · rw [← hm, maskB_1 (by omega)]; apply ResOk.v1; exact rfl; exact rfl
  · rw [← hm, maskB_2 (by omega)]; apply ResOk.v1; exact rfl; exact rfl
  · rw [← hm, maskB_t (by omega) (by omega)]; apply ResOk.v1; exact rfl; exact rfl
set_option maxRecDepth 100000 in
theorem glyphZero (n : Int) : Pure Try.prog 71 [.v (.int .i32 n)] (.s (.v (.bool (decide (n = 0))))) := by
  refine pure_of_wt Try.func71 rfl (by decide) _ Try.ntmps71 rfl Try.results71 fun w0 => ?_
  repeat' (first
    | refine Wt.seq ?_
    | (apply Wt.regionK; exact rfl)
    | refine Wt.ret ?_
    | refine RunK.nil ?_
    | (apply RunK.moveV; exact rfl; exact rfl)
    | (apply RunK.assignV; exact rfl; exact rfl)
    | (apply RunK.eql; exact rfl; exact rfl; exact rfl))
  apply ResOk.v1; exact rfl; exact rfl
set_option maxRecDepth 100000 in
theorem indexFunc (s : ByteArray) (_hs : s.size < 1000000000000000) (ha : ∀ c ∈ s.data.toList, c.toNat < 128) : Pure Try.prog 77 [.v (.string s), .v (.func (.func 71) #[] #[]), .v (.bool true)] (.s (.v (.int .i64 (zeroAt s.data.toList)))) := by
  have hlen : s.data.toList.length = s.size := rfl
  refine pure_of_wt Try.func77 rfl (by decide) _ Try.ntmps77 rfl Try.results77 fun w0 => ?_
  repeat' (first
    | (apply RunK.rangeS Try.underlying9 2000061; exact rfl; exact rfl; intro it)
    | refine Wt.seq ?_
    | (apply Wt.regionK; exact rfl)
    | refine Wt.block ?_
    | refine RunK.nil ?_
    | (apply RunK.moveV; exact rfl; exact rfl)
    | (apply RunK.assignV; exact rfl; exact rfl))
  refine Wt.loop (fun j : Nat => ⟨[(0, .s (.v (.string s))), (1, .s (.v (.func (.func 71) #[] #[]))), (2, .s (.v (.bool true))), (10, .s (.v (.pointer (some ⟨it, 0, none⟩)))), (2000061, .kept it (.stringIter s j))], []⟩) (fun j => j ≤ s.size ∧ ∀ i d, i < j → s.data.toList[i]? = some d → ¬d.toNat = 0) (fun j => s.size - j) 0 ⟨Nat.zero_le _, fun i d h => absurd h (by omega)⟩ ?_ ?_
  · (refine Le.mk ?_ ?_; (repeat' (first | exact LeEnv.done | refine LeEnv.cons ?_ ?_ | exact PVLe.refl _ | exact PVLe.s (SVLe.nil _ _ _) | exact PVLe.s (SVLe.no _ _ _ _) | (refine PVLe.int ?_; first | rfl | omega | (simp; done) | (simp; omega)) | (refine PVLe.els ?_; first | rfl | assumption | (simp; done)) | (refine PVLe.bool ?_; first | rfl | assumption) | (refine PVLe.bsl ?_; first | rfl | assumption | (simp; done))));  (repeat' (first | exact LeBox.done | refine LeBox.cons ?_ ?_ | exact rfl)))
  · rintro j ⟨hj, hG⟩
    by_cases hlt : j < s.size
    · obtain ⟨c, hc⟩ : ∃ c, s.data.toList[j]? = some c := ⟨_, List.getElem?_eq_getElem (by rw [hlen]; exact hlt)⟩
      have h128 := ha c (List.mem_of_getElem? hc)
      have hz := glyphZero (c.toNat : Int)
      repeat' (first
    | (apply RunK.nextS 2000061; exact rfl; exact rfl; exact rfl; exact rfl; exact rfl; exact hc; exact h128; exact rfl) | (apply RunK.callV; exact rfl; exact rfl; exact rfl; exact hz; (repeat (first | exact ArgsLe.nil | refine ArgsLe.cons ?_ ?_ | exact ArgLe.v _ | exact ArgLe.sl _ _ _ _ | exact ArgLe.nil _ | exact ArgLe.nil' | (apply ArgLe.bsl; exact rfl; (first | exact rfl | (rw [List.length_map]; done) | (simp only [List.length_map]; done) | (simp; done) | (simp; omega)); (first | assumption | exact map_len (fun _ => rfl)))))) | (apply RunK.bin; exact rfl; exact rfl; exact rfl; exact eqlBoolH _ _)
    | refine Wt.seq ?_
    | (apply Wt.regionK; exact rfl)
    | refine Wt.ret ?_
    | refine Wt.block ?_
    | refine Wt.skip ?_
    | refine RunK.nil ?_
    | (apply RunK.moveV; exact rfl; exact rfl)
    | (apply RunK.assignV; exact rfl; exact rfl)
    | (apply RunK.extract; exact rfl; exact rfl; exact rfl)
    | (apply Wt.cond; exact rfl; all_goals (intro hg; (first | exact absurd hg (by decide) | skip); (first | (with_reducible replace hg := not_t hg) | (with_reducible replace hg := not_f hg) | skip); (first | (with_reducible replace hg := dec_t hg) | (with_reducible replace hg := dec_f hg) | skip); (first | (with_reducible exact absurd rfl hg) | skip); (repeat rw [List.length_map] at hg); try (exfalso; omega))))
      · rw [zeroAt_hit hG hc (by simpa using hg)]; apply ResOk.v1; exact rfl; exact rfl
      · refine ⟨j + 1, ⟨hlt, fun i d hi hd => ?_⟩, by omega, ?_⟩
        · rcases Nat.lt_or_ge i j with h | h
          · exact hG i d h hd
          · have : i = j := by omega
            subst this
            rw [hc] at hd
            injection hd with hd
            subst hd
            simpa using hg
        · (refine Le.mk ?_ ?_; (repeat' (first | exact LeEnv.done | refine LeEnv.cons ?_ ?_ | exact PVLe.refl _ | exact PVLe.s (SVLe.nil _ _ _) | exact PVLe.s (SVLe.no _ _ _ _) | (refine PVLe.int ?_; first | rfl | omega | (simp; done) | (simp; omega)) | (refine PVLe.els ?_; first | rfl | assumption | (simp; done)) | (refine PVLe.bool ?_; first | rfl | assumption) | (refine PVLe.bsl ?_; first | rfl | assumption | (simp; done))));  (repeat' (first | exact LeBox.done | refine LeBox.cons ?_ ?_ | exact rfl)))
    · repeat' (first
    | (apply RunK.nextE 2000061; exact rfl; exact rfl; exact rfl; exact hlt)
    | refine Wt.seq ?_
    | (apply Wt.regionK; exact rfl)
    | refine Wt.ret ?_
    | refine Wt.exit ?_
    | refine RunK.nil ?_
    | (apply RunK.assignV; exact rfl; exact rfl)
    | (apply RunK.extract; exact rfl; exact rfl; exact rfl)
    | (apply Wt.cond; exact rfl; all_goals (intro hg; (first | exact absurd hg (by decide) | skip); (first | (with_reducible replace hg := not_t hg) | (with_reducible replace hg := not_f hg) | skip); (first | (with_reducible replace hg := dec_t hg) | (with_reducible replace hg := dec_f hg) | skip); (first | (with_reducible exact absurd rfl hg) | skip); (repeat rw [List.length_map] at hg); try (exfalso; omega))))
      rw [zeroAt_none fun i d hd => hG i d (by have := (List.getElem?_eq_some_iff.1 hd).1; omega) hd]
      apply ResOk.v1; exact rfl; exact rfl
set_option maxRecDepth 100000 in
theorem indexFunc0 (s : ByteArray) (hs : s.size < 1000000000000000) (ha : ∀ c ∈ s.data.toList, c.toNat < 128) : Pure Try.prog 68 [.v (.string s), .v (.func (.func 71) #[] #[])] (.s (.v (.int .i64 (zeroAt s.data.toList)))) := by
  have h := indexFunc s hs ha
  refine pure_of_wt Try.func68 rfl (by decide) _ Try.ntmps68 rfl Try.results68 fun w0 => ?_
  repeat' (first
    | (apply RunK.callS; exact rfl; exact rfl; exact h; (repeat (first | exact ArgsLe.nil | refine ArgsLe.cons ?_ ?_ | exact ArgLe.v _ | exact ArgLe.sl _ _ _ _ | exact ArgLe.nil _ | exact ArgLe.nil' | (apply ArgLe.bsl; exact rfl; (first | exact rfl | (rw [List.length_map]; done) | (simp only [List.length_map]; done) | (simp; done) | (simp; omega)); (first | assumption | exact map_len (fun _ => rfl))))); exact rfl)
    | refine Wt.seq ?_
    | (apply Wt.regionK; exact rfl)
    | refine Wt.ret ?_
    | refine RunK.nil ?_
    | (apply RunK.moveV; exact rfl; exact rfl)
    | (apply RunK.assignV; exact rfl; exact rfl))
  apply ResOk.v1; exact rfl; exact rfl
set_option maxRecDepth 100000 in
theorem glyphPrintable (s : ByteArray) (hs : s.size < 1000000000000000) : Pure Try.prog 57 [.v (.string s)] (.s (.v (.bool (plainB s)))) := by
  have hlen : s.data.toList.length = s.size := rfl
  have hN : ∀ tl : List Value, (s.data.toList.map byteV ++ tl).length = s.size + tl.length := fun tl => by rw [List.length_append, List.length_map]; rfl
  have hfin := indexFunc0 ⟨(s.data.toList.map maskB).toArray⟩ (by show (s.data.toList.map maskB).toArray.size < _; rw [List.size_toArray, List.length_map]; exact hs) (fun c hc => by
    obtain ⟨x, _, rfl⟩ := List.mem_map.1 (show c ∈ s.data.toList.map maskB from hc)
    exact maskB_lt x)
  have hp : decide (zeroAt (s.data.toList.map maskB) < 0) = plainB s := zeroAt_mask s.data.toList
  rw [show (ByteArray.mk (s.data.toList.map maskB).toArray).data.toList = s.data.toList.map maskB from rfl] at hfin
  rw [← hp]
  clear hp
  generalize zeroAt (s.data.toList.map maskB) = Z at *
  refine pure_of_wt Try.func57 rfl (by decide) _ Try.ntmps57 rfl Try.results57 fun w0 => ?_
  repeat' (first
    | refine Wt.seq ?_
    | (apply Wt.regionK; exact rfl)
    | refine RunK.nil ?_
    | (apply RunK.moveV; exact rfl; exact rfl)
    | (apply RunK.assignV; exact rfl; exact rfl))
  apply RunK.callI
  (case hw => exact rfl)
  (case hf => exact Try.func69)
  (case hb => exact rfl)
  (case hname => decide)
  (case hnt => exact Try.ntmps69)
  (case hl => exact Try.results69)
  (case ha => exact .cons rfl (.cons rfl .nil))
  (case hn => exact rfl)
  (case hg => exact rfl)
  intro w1
  repeat' (first
    | (apply RunK.bytes Try.underlying9 Try.underlying103 Try.underlying5 2000060; exact rfl; exact rfl; exact rfl; intro b cap tl; rw [hN tl, show (s.data.toList.map byteV ++ tl).toArray = blkB s.data.toList tl 0 from rfl]) | (apply RunK.lenV Try.underlying103; exact rfl; exact rfl)
    | refine Wt.seq ?_
    | (apply Wt.regionK; exact rfl)
    | refine Wt.block ?_
    | refine RunK.nil ?_
    | (apply RunK.moveV; exact rfl; exact rfl)
    | (apply RunK.assignV; exact rfl; exact rfl)
    | (apply RunK.assignN; exact rfl; exact rfl))
  refine Wt.loop (fun k : Nat => ⟨[(1, .s (.v (.func (.func 70) #[] #[]))), (5, .s (.v (.slice (some ⟨b, 0, none⟩) s.size cap))), (10, .s (.v (.slice (some ⟨b, 0, none⟩) s.size cap))), (11, .s (.v (.int .i64 s.size))), (12, .s (.v (.int .i64 k))), (2000060, .kept b (.cells (blkB s.data.toList tl k) 5 (s.size + tl.length, s.size + tl.length + 1)))], []⟩) (fun k => k ≤ s.size) (fun k => s.size - k) 0 (Nat.zero_le _) ?_ ?_
  · (refine Le.mk ?_ ?_; (repeat' (first | exact LeEnv.done | refine LeEnv.cons ?_ ?_ | exact PVLe.refl _ | exact PVLe.s (SVLe.nil _ _ _) | exact PVLe.s (SVLe.no _ _ _ _) | (refine PVLe.int ?_; first | rfl | omega | (simp; done) | (simp; omega)) | (refine PVLe.els ?_; first | rfl | assumption | (simp; done)) | (refine PVLe.bool ?_; first | rfl | assumption) | (refine PVLe.bsl ?_; first | rfl | assumption | (simp; done))));  (repeat' (first | exact LeBox.done | refine LeBox.cons ?_ ?_ | exact rfl)))
  · intro k hk
    by_cases hlt : k < s.size
    · obtain ⟨c, hc⟩ : ∃ c, s.data.toList[k]? = some c := ⟨_, List.getElem?_eq_getElem (by rw [hlen]; exact hlt)⟩
      have hz := glyphMask c
      have hsz := blkB_size s.data.toList tl k
      repeat' (first
    | (apply RunK.idxAddrV Try.underlying103 (by kernel_rfl) k; exact rfl; exact rfl; exact rfl; exact rfl; exact hlt) | (apply RunK.loadK 2000060; exact rfl; exact rfl; exact rfl; exact blkB_get hc) | (apply RunK.callV; exact rfl; exact rfl; exact rfl; exact hz; (repeat (first | exact ArgsLe.nil | refine ArgsLe.cons ?_ ?_ | exact ArgLe.v _ | exact ArgLe.sl _ _ _ _ | exact ArgLe.nil _ | exact ArgLe.nil' | (apply ArgLe.bsl; exact rfl; (first | exact rfl | (rw [List.length_map]; done) | (simp only [List.length_map]; done) | (simp; done) | (simp; omega)); (first | assumption | exact map_len (fun _ => rfl)))))) | (apply RunK.storeK 2000060; exact rfl; exact rfl; exact rfl; exact rfl; (rw [hsz, hlen]; omega); (show k < s.size + tl.length; omega); exact rfl; exact rfl; exact rfl)
    | refine Wt.seq ?_
    | (apply Wt.regionK; exact rfl)
    | refine Wt.block ?_
    | refine Wt.skip ?_
    | refine RunK.nil ?_
    | (apply RunK.moveV; exact rfl; exact rfl)
    | (apply RunK.assignV; exact rfl; exact rfl)
    | (apply RunK.lss; exact rfl; exact rfl; exact rfl)
    | (apply RunK.add; exact rfl; exact rfl; exact rfl; (first | omega | (simp only [List.length_map]; omega)))
    | (apply Wt.cond; exact rfl; all_goals (intro hg; (first | exact absurd hg (by decide) | skip); (first | (with_reducible replace hg := not_t hg) | (with_reducible replace hg := not_f hg) | skip); (first | (with_reducible replace hg := dec_t hg) | (with_reducible replace hg := dec_f hg) | skip); (first | (with_reducible exact absurd rfl hg) | skip); (repeat rw [List.length_map] at hg); try (exfalso; omega))))
      refine ⟨k + 1, hlt, by omega, ?_⟩
      rw [blkB_set hc]
      (refine Le.mk ?_ ?_; (repeat' (first | exact LeEnv.done | refine LeEnv.cons ?_ ?_ | exact PVLe.refl _ | exact PVLe.s (SVLe.nil _ _ _) | exact PVLe.s (SVLe.no _ _ _ _) | (refine PVLe.int ?_; first | rfl | omega | (simp; done) | (simp; omega)) | (refine PVLe.els ?_; first | rfl | assumption | (simp; done)) | (refine PVLe.bool ?_; first | rfl | assumption) | (refine PVLe.bsl ?_; first | rfl | assumption | (simp; done))));  (repeat' (first | exact LeBox.done | refine LeBox.cons ?_ ?_ | exact rfl)))
    · have he : k = s.data.toList.length := by omega
      have hr : rowB s.data.toList k = s.data.toList.map maskB := rowB_end _ (by omega)
      repeat' (first
    | (refine ⟨_, .tmp rfl, ?_⟩) | (apply RunK.strOf Try.underlying103 Try.underlying5 Try.underlying9 (l := rowB s.data.toList k) 2000060; exact rfl; exact rfl; exact rfl; (rw [rowB_len]; exact hlen.symm); rw [hr]) | (apply RunK.callS; exact rfl; exact rfl; exact hfin; (repeat (first | exact ArgsLe.nil | refine ArgsLe.cons ?_ ?_ | exact ArgLe.v _ | exact ArgLe.sl _ _ _ _ | exact ArgLe.nil _ | exact ArgLe.nil' | (apply ArgLe.bsl; exact rfl; (first | exact rfl | (rw [List.length_map]; done) | (simp only [List.length_map]; done) | (simp; done) | (simp; omega)); (first | assumption | exact map_len (fun _ => rfl))))); exact rfl)
    | refine Wt.seq ?_
    | (apply Wt.regionK; exact rfl)
    | refine Wt.ret ?_
    | refine Wt.exit ?_
    | refine RunK.nil ?_
    | (apply RunK.moveV; exact rfl; exact rfl)
    | (apply RunK.assignV; exact rfl; exact rfl)
    | (apply RunK.lss; exact rfl; exact rfl; exact rfl)
    | (apply Wt.cond; exact rfl; all_goals (intro hg; (first | exact absurd hg (by decide) | skip); (first | (with_reducible replace hg := not_t hg) | (with_reducible replace hg := not_f hg) | skip); (first | (with_reducible replace hg := dec_t hg) | (with_reducible replace hg := dec_f hg) | skip); (first | (with_reducible exact absurd rfl hg) | skip); (repeat rw [List.length_map] at hg); try (exfalso; omega))))
      apply ResOk.v1; exact rfl; exact rfl
set_option maxRecDepth 100000 in
theorem plainB_f {s : ByteArray} {k : Nat} {c : UInt8} (h : s.data.toList[k]? = some c) (hc : ¬(32 ≤ c.toNat ∧ c.toNat ≤ 126)) : plainB s = false := by
  unfold plainB
  rw [List.all_eq_false]
  refine ⟨c, List.mem_of_getElem? h, ?_⟩
  unfold goodB
  simp only [Bool.and_eq_true, decide_eq_true_eq]
  exact hc
set_option maxRecDepth 100000 in
theorem plainB_t {s : ByteArray} (h : ∀ (j : Nat) (d : UInt8), j < s.data.toList.length → s.data.toList[j]? = some d → 32 ≤ d.toNat ∧ d.toNat ≤ 126) : plainB s = true := by
  unfold plainB
  rw [List.all_eq_true]
  intro x hx
  have := upto_mem (p := fun d : UInt8 => 32 ≤ d.toNat ∧ d.toNat ≤ 126) h x hx
  unfold goodB
  simp only [Bool.and_eq_true, decide_eq_true_eq]
  exact this
set_option maxRecDepth 100000 in
theorem refPlainT (s : ByteArray) (hs : s.size < 1000000000000000) : Pure Try.prog 54 [.v (.string s)] (.s (.v (.bool (plainB s)))) := by
  have hlen : s.data.toList.length = s.size := rfl
  refine pure_of_wt Try.func54 rfl (by decide) _ Try.ntmps54 rfl Try.results54 fun w0 => ?_
  repeat' (first
    | refine Wt.seq ?_
    | (apply Wt.regionK; exact rfl)
    | refine Wt.block ?_
    | refine RunK.nil ?_
    | (apply RunK.assignV; exact rfl; exact rfl))
  refine Wt.loop (fun k : Nat => ⟨[(0, .s (.v (.string s))), (3, .s (.v (.int .i64 k)))], []⟩) (fun k => k ≤ s.size ∧ ∀ (j : Nat) (d : UInt8), j < k → s.data.toList[j]? = some d → 32 ≤ d.toNat ∧ d.toNat ≤ 126) (fun k => s.size - k) 0 ⟨Nat.zero_le _, fun j d h => absurd h (by omega)⟩ ?_ ?_
  · (refine Le.mk ?_ ?_; (repeat' (first | exact LeEnv.done | refine LeEnv.cons ?_ ?_ | exact PVLe.refl _ | exact PVLe.s (SVLe.nil _ _ _) | exact PVLe.s (SVLe.no _ _ _ _) | (refine PVLe.int ?_; first | rfl | omega | (simp; done) | (simp; omega)) | (refine PVLe.els ?_; first | rfl | assumption | (simp; done)) | (refine PVLe.bool ?_; first | rfl | assumption) | (refine PVLe.bsl ?_; first | rfl | assumption | (simp; done))));  (repeat' (first | exact LeBox.done | refine LeBox.cons ?_ ?_ | exact rfl)))
  · rintro k ⟨hk, hG⟩
    by_cases hlt : k < s.size
    · obtain ⟨c, hc⟩ : ∃ c, s.data.toList[k]? = some c := ⟨_, List.getElem?_eq_getElem (by rw [hlen]; exact hlt)⟩
      have hb : c.toNat < 256 := c.toNat_lt
      have hcs : s[k]? = some c := by
        rw [getElem?_pos s k hlt]
        have h9 := (List.getElem?_eq_some_iff.1 hc).2
        rw [Array.getElem_toList] at h9
        exact congrArg some h9
      repeat' (first
    | (apply RunK.lenStr Try.underlying9; exact rfl; exact rfl) | (apply RunK.idxStr Try.underlying9 k; exact rfl; exact rfl; exact rfl; exact rfl; exact hcs)
    | refine Wt.seq ?_
    | (apply Wt.regionK; exact rfl)
    | refine Wt.ret ?_
    | refine Wt.block ?_
    | refine Wt.skip ?_
    | refine RunK.nil ?_
    | (apply RunK.moveV; exact rfl; exact rfl)
    | (apply RunK.assignV; exact rfl; exact rfl)
    | (apply RunK.pickT; exact rfl; exact rfl; exact rfl)
    | (apply RunK.pickF; exact rfl; exact rfl; exact rfl)
    | (apply RunK.lss; exact rfl; exact rfl; exact rfl)
    | (apply RunK.gtr; exact rfl; exact rfl; exact rfl)
    | (apply RunK.add; exact rfl; exact rfl; exact rfl; (first | omega | (simp only [List.length_map]; omega)))
    | (apply RunK.skip; exact rfl; exact rfl)
    | (apply RunK.guard; exact rfl; exact rfl; exact rfl; all_goals (intro hg; (first | exact absurd hg (by decide) | skip); (first | (with_reducible replace hg := not_t hg) | (with_reducible replace hg := not_f hg) | skip); (first | (with_reducible replace hg := dec_t hg) | (with_reducible replace hg := dec_f hg) | skip); (first | (with_reducible exact absurd rfl hg) | skip); (repeat rw [List.length_map] at hg); try (exfalso; omega)))
    | (apply Wt.cond; exact rfl; all_goals (intro hg; (first | exact absurd hg (by decide) | skip); (first | (with_reducible replace hg := not_t hg) | (with_reducible replace hg := not_f hg) | skip); (first | (with_reducible replace hg := dec_t hg) | (with_reducible replace hg := dec_f hg) | skip); (first | (with_reducible exact absurd rfl hg) | skip); (repeat rw [List.length_map] at hg); try (exfalso; omega))))
      · rw [plainB_f hc (by omega)]; apply ResOk.v1; exact rfl; exact rfl
      · rw [plainB_f hc (by omega)]; apply ResOk.v1; exact rfl; exact rfl
      · refine ⟨k + 1, ⟨hlt, upto_succ hG hc (by omega)⟩, by omega, ?_⟩
        (refine Le.mk ?_ ?_; (repeat' (first | exact LeEnv.done | refine LeEnv.cons ?_ ?_ | exact PVLe.refl _ | exact PVLe.s (SVLe.nil _ _ _) | exact PVLe.s (SVLe.no _ _ _ _) | (refine PVLe.int ?_; first | rfl | omega | (simp; done) | (simp; omega)) | (refine PVLe.els ?_; first | rfl | assumption | (simp; done)) | (refine PVLe.bool ?_; first | rfl | assumption) | (refine PVLe.bsl ?_; first | rfl | assumption | (simp; done))));  (repeat' (first | exact LeBox.done | refine LeBox.cons ?_ ?_ | exact rfl)))
    · repeat' (first
    | (apply RunK.lenStr Try.underlying9; exact rfl; exact rfl)
    | refine Wt.seq ?_
    | (apply Wt.regionK; exact rfl)
    | refine Wt.ret ?_
    | refine Wt.exit ?_
    | refine RunK.nil ?_
    | (apply RunK.moveV; exact rfl; exact rfl)
    | (apply RunK.assignV; exact rfl; exact rfl)
    | (apply RunK.lss; exact rfl; exact rfl; exact rfl)
    | (apply Wt.cond; exact rfl; all_goals (intro hg; (first | exact absurd hg (by decide) | skip); (first | (with_reducible replace hg := not_t hg) | (with_reducible replace hg := not_f hg) | skip); (first | (with_reducible replace hg := dec_t hg) | (with_reducible replace hg := dec_f hg) | skip); (first | (with_reducible exact absurd rfl hg) | skip); (repeat rw [List.length_map] at hg); try (exfalso; omega))))
      rw [plainB_t fun j d hj hd => hG j d (by omega) hd]
      apply ResOk.v1; exact rfl; exact rfl
def okT (s : ByteArray) : Bool := decide (s.size ≤ 256) && plainB s
def chkT (s : ByteArray) : Int := if 256 < s.size then 5 else if plainB s = true then 0 else 4
set_option maxRecDepth 100000 in
theorem glyphCheck (s : ByteArray) : Pure Try.prog 53 [.v (.string s)] (.s (.v (.int .i64 (chkT s)))) := by
  by_cases h : 256 < s.size
  · rw [show chkT s = 5 from if_pos h]
    refine pure_of_wt Try.func53 rfl (by decide) _ Try.ntmps53 rfl Try.results53 fun w0 => ?_
    repeat' (first
    | (apply RunK.lenStr Try.underlying9; exact rfl; exact rfl)
    | refine Wt.seq ?_
    | (apply Wt.regionK; exact rfl)
    | refine Wt.ret ?_
    | refine RunK.nil ?_
    | (apply RunK.moveV; exact rfl; exact rfl)
    | (apply RunK.assignV; exact rfl; exact rfl)
    | (apply RunK.gtr; exact rfl; exact rfl; exact rfl)
    | (apply Wt.cond; exact rfl; all_goals (intro hg; (first | exact absurd hg (by decide) | skip); (first | (with_reducible replace hg := not_t hg) | (with_reducible replace hg := not_f hg) | skip); (first | (with_reducible replace hg := dec_t hg) | (with_reducible replace hg := dec_f hg) | skip); (first | (with_reducible exact absurd rfl hg) | skip); (repeat rw [List.length_map] at hg); try (exfalso; omega))))
    all_goals (apply ResOk.v1; exact rfl; exact rfl)
  · have hp := glyphPrintable s (by omega)
    rw [show chkT s = (if plainB s = true then 0 else 4) from if_neg h]
    generalize plainB s = B at *
    refine pure_of_wt Try.func53 rfl (by decide) _ Try.ntmps53 rfl Try.results53 fun w0 => ?_
    repeat' (first
    | (apply RunK.lenStr Try.underlying9; exact rfl; exact rfl) | (apply RunK.callS; exact rfl; exact rfl; exact hp; (repeat (first | exact ArgsLe.nil | refine ArgsLe.cons ?_ ?_ | exact ArgLe.v _ | exact ArgLe.sl _ _ _ _ | exact ArgLe.nil _ | exact ArgLe.nil' | (apply ArgLe.bsl; exact rfl; (first | exact rfl | (rw [List.length_map]; done) | (simp only [List.length_map]; done) | (simp; done) | (simp; omega)); (first | assumption | exact map_len (fun _ => rfl))))); exact rfl)
    | refine Wt.seq ?_
    | (apply Wt.regionK; exact rfl)
    | refine Wt.ret ?_
    | refine Wt.skip ?_
    | refine RunK.nil ?_
    | (apply RunK.moveV; exact rfl; exact rfl)
    | (apply RunK.assignV; exact rfl; exact rfl)
    | (apply RunK.gtr; exact rfl; exact rfl; exact rfl)
    | (apply RunK.not; exact rfl; exact rfl)
    | (apply Wt.cond; exact rfl; all_goals (intro hg; (first | exact absurd hg (by decide) | skip); (first | (with_reducible replace hg := not_t hg) | (with_reducible replace hg := not_f hg) | skip); (first | (with_reducible replace hg := dec_t hg) | (with_reducible replace hg := dec_f hg) | skip); (first | (with_reducible exact absurd rfl hg) | skip); (repeat rw [List.length_map] at hg); try (exfalso; omega))))
    all_goals (rw [hg]; apply ResOk.v1; exact rfl; exact rfl)
end Go.Proofs.Ytnpbnlmhmjejhaa
