/- The walk of Fit. No condition. -/
import Derived.Test.YtfokjpmcifkoeaaCC
namespace Go.Proofs.Ytfokjpmcifkoeaa
open Pv Go.RowKit
/-- A number brought to a node. -/
def fitV (n : Nat) (y : Int) : Int := (y.tmod n + n).tmod n
def fitG (g : List (List Int)) : List (List Int) := (cutG g).map (·.map (fitV (cutG g).length))
set_option maxRecDepth 100000 in
theorem tmod_bd (y : Int) {n : Nat} (hn : 0 < n) : -(n : Int) < y.tmod n ∧ y.tmod n < n := ⟨by have := Int.lt_tmod_of_pos y (b := (n : Int)) (by omega); omega, Int.tmod_lt_of_pos y (by omega)⟩
set_option maxRecDepth 100000 in
theorem fitV_ok (n : Nat) (hn : 0 < n) (y : Int) : 0 ≤ fitV n y ∧ fitV n y < n := by
  have h1 := tmod_bd y hn
  unfold fitV
  rw [Int.tmod_eq_emod_of_nonneg (by omega)]
  exact ⟨Int.emod_nonneg _ (by omega), Int.emod_lt_of_pos _ (by omega)⟩
set_option maxRecDepth 100000 in
theorem hdr_put (r : NRow) (j : Nat) (u : Value) : (r.put j u).hdr = r.hdr := by
  unfold NRow.hdr NRow.put; simp
set_option maxRecDepth 100000 in
theorem hds_put {rows : List NRow} {i : Nat} {r : NRow} (h : rows[i]? = some r) (j : Nat) (u : Value) : hds (rows.set i (r.put j u)) = hds rows := by
  unfold hds
  refine List.ext_getElem? fun q => ?_
  rw [List.getElem?_map, List.getElem?_map, List.getElem?_set]
  split
  · rename_i e; subst e; rw [h, if_pos (List.getElem?_eq_some_iff.1 h).1]; exact congrArg (fun x => some [x]) (hdr_put r j u)
  · rfl
set_option maxRecDepth 100000 in
theorem els_at {rows : List NRow} {g : List (List Int)} (h : rows.map (·.els) = g.map (·.map ival)) {i : Nat} {r : List Int} (hr : g[i]? = some r) : ∃ q, rows[i]? = some q ∧ q ∈ rows ∧ q.els = r.map ival ∧ (hds rows)[i]? = some [q.hdr] := by
  have h1 : (rows.map (·.els))[i]? = some (r.map ival) := by rw [h, List.getElem?_map, hr]; rfl
  rw [List.getElem?_map] at h1
  cases hq : rows[i]? with
  | none => rw [hq] at h1; cases h1
  | some q =>
    rw [hq] at h1
    injection h1 with h1
    exact ⟨q, rfl, List.mem_of_getElem? hq, h1, by unfold hds; rw [List.getElem?_map, hq]; rfl⟩
set_option maxRecDepth 100000 in
theorem els_put {rows : List NRow} {g : List (List Int)} (h : rows.map (·.els) = g.map (·.map ival)) {i : Nat} {r : List Int} {q : NRow} (hq : q.els = r.map ival) (k : Nat) (z : Int) : (rows.set i (q.put k (.int .i64 z))).map (·.els) = (g.set i (r.set k z)).map (·.map ival) := by
  rw [List.map_set, List.map_set, h]
  congr 1
  show q.els.set k _ = _
  rw [hq, List.map_set]; rfl
set_option maxRecDepth 100000 in
theorem cutG_len (g : List (List Int)) : (cutG g).length ≤ 24 := by unfold cutG; simp; omega
set_option maxRecDepth 100000 in
theorem cutG_row {g : List (List Int)} {r : List Int} (h : r ∈ cutG g) : r.length ≤ 30 := by
  unfold cutG at h
  obtain ⟨q, _, rfl⟩ := List.mem_map.1 h
  simp; omega
/-- The first i changed. -/
def part {α : Type} (f : α → α) (c : List α) (i : Nat) : List α := (c.take i).map f ++ c.drop i
set_option maxRecDepth 100000 in
theorem part_zero {α : Type} (f : α → α) (c : List α) : part f c 0 = c := by simp [part]
set_option maxRecDepth 100000 in
theorem part_all {α : Type} (f : α → α) {c : List α} {i : Nat} (h : c.length ≤ i) : part f c i = c.map f := by simp [part, List.take_of_length_le h, List.drop_of_length_le h]
set_option maxRecDepth 100000 in
theorem part_len {α : Type} (f : α → α) (c : List α) (i : Nat) : (part f c i).length = c.length := by simp [part]; omega
set_option maxRecDepth 100000 in
theorem part_at {α : Type} {f : α → α} {c : List α} {i : Nat} {r : α} (h : c[i]? = some r) : (part f c i)[i]? = some r := by
  unfold part
  have hi := (List.getElem?_eq_some_iff.1 h).1
  rw [List.getElem?_append_right (by simp; omega)]
  simp [Nat.min_eq_left (Nat.le_of_lt hi), h]
set_option maxRecDepth 100000 in
theorem part_set {α : Type} {f : α → α} {c : List α} {i : Nat} {r : α} (h : c[i]? = some r) : (part f c i).set i (f r) = part f c (i + 1) := by
  unfold part
  have hi := (List.getElem?_eq_some_iff.1 h).1
  rw [List.set_append_right _ _ (by simp; omega)]
  have e1 : c.drop i = r :: c.drop (i + 1) := by rw [List.drop_eq_getElem_cons hi]; congr 1; rw [List.getElem?_eq_getElem hi] at h; injection h
  rw [e1, List.take_add_one, h]
  simp [Nat.min_eq_left (Nat.le_of_lt hi)]
set_option maxRecDepth 100000 in
theorem set_same {α : Type} {l : List α} {i : Nat} {r : α} (h : l[i]? = some r) : l.set i r = l := by
  refine List.ext_getElem? fun q => ?_
  rw [List.getElem?_set]
  split
  · rename_i e; subst e; rw [h, if_pos (List.getElem?_eq_some_iff.1 h).1]
  · rfl
set_option maxRecDepth 100000 in
theorem set_at {α : Type} {l : List α} {i : Nat} {r : α} (h : i < l.length) : (l.set i r)[i]? = some r := by rw [List.getElem?_set]; simp [h]
set_option maxRecDepth 100000 in
theorem gE_L (c : List (List Int)) : gE c = (c.map (·.map ival)).map fun e => [EV.sl 1 e] := by rw [List.map_map]; rfl
end Go.Proofs.Ytfokjpmcifkoeaa
