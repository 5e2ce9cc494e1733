/- The walks of the reference's components and loops. No condition. -/
import Derived.Test.YtfokjpmcifkoeaaCE
namespace Go.Proofs.Ytfokjpmcifkoeaa
open Pv Go.RowKit Scc
set_option maxRecDepth 100000 in
theorem mE_at {M : List (List Bool)} {n i : Nat} (hD : Dim n M) (hi : i < n) : (mE M)[i]? = some [EV.sl 1 ((M.getD i []).map bval)] := by
  rw [List.getElem?_map, List.getD_eq_getElem?_getD, List.getElem?_eq_getElem (hD.len.symm ▸ hi)]; rfl
set_option maxRecDepth 100000 in
theorem mE_cell {M : List (List Bool)} {n i k : Nat} (hD : Dim n M) (hi : i < n) (hk : k < n) : ((M.getD i []).map bval)[k]? = some [.bool (gB M i k)] := by
  rw [List.getElem?_map]
  have : (M.getD i [])[k]? = some (gB M i k) := by
    unfold gB
    rw [List.getD_eq_getElem?_getD (l := M.getD i []), List.getElem?_eq_getElem (by rw [hD.get hi]; exact hk)]; rfl
  rw [this]; rfl
set_option maxRecDepth 100000 in
theorem reach_dim {N : G} (hN : GOk N) : Dim N.length (reachM N) := (viaF_good (init_good (g := N)).1 (fun i k e => ((init_good (g := N)).2 i k).2 ⟨e, hN i k e⟩) hN N.length (Nat.le_refl _)).1.dim
end Go.Proofs.Ytfokjpmcifkoeaa
