/- The walks of container/heap's Push and Pop at a heap of nodes. No condition. -/
import Derived.Test.YtfokjpmcifkoeaaOE
namespace Go.Proofs.Ytfokjpmcifkoeaa
open Pv Go.RowKit Scc Heap
set_option maxRecDepth 100000 in
theorem hPush (B : Nat) (r : NRow) (L : List Nat) (x : Nat) (h : RowL r L) (hL : L.length < 999999) (hH : Hp L L.length) : Acts Try.prog 43 [.v (hI B), .v (.iface 3 (.int .i64 (x : Int)))] (heapF B r) [B] (fun res fs => res = .tup [] ∧ ∃ (r' : NRow) (L' : List Nat), RowL r' L' ∧ L'.Perm (x :: L) ∧ Hp L' L'.length ∧ fs = heapF B r') := by
  have c1 := nPush B r L h (by omega) x
  have hU := up_start hH x
  refine acts_of_wt Try.func43 rfl (by decide) _ Try.ntmps43 rfl Try.results43 rfl (by simp [ownOf]) fun w0 W => ?_
  repeat' (first
    | (refine stopQ 1 ?_) | (apply RunK.invokeP [2000000, 2000001] 900001 mPush; (case hw => exact rfl); (case hp => exact c1); (case hx => exact rfl); (case ha => (repeat (first | exact ArgsLe.nil | refine ArgsLe.cons ?_ ?_ | exact ArgLe.v _ | exact ArgLe.sl _ _ _ _ | exact ArgLe.nil _ | exact ArgLe.nil' | exact ArgLe.nsl _ _ _ _ _ | exact ArgLe.nsn _ | (apply ArgLe.bsl; exact rfl; (first | exact rfl | (rw [List.length_map]; done) | (simp only [List.length_map]; done) | (simp; done) | (simp; omega)); (first | assumption | exact map_len (fun _ => rfl)))))); (case hf => exact .kept 2000000 rfl rfl (.nest 2000001 rfl rfl rfl .nil)); (case hap => (repeat' (first | exact trivial | refine And.intro ?_ ?_))); (case hng => exact rfl); intro res fs' hres _; obtain ⟨rfl, r1, hr1, rfl⟩ := hres)
    | refine Wt.seq ?_
    | (apply Wt.regionK; exact rfl)
    | refine RunK.nil ?_
    | (apply RunK.moveV; exact rfl; exact rfl))
  refine StoppedQ.mk' ?_
  refine Wt.le ⟨[(0, .s (.v (hI B))), (2000000, .kept B (.cells #[r1.hdr] 54 (0, 0))), (2000001, .nest 1 1 [r1]), (2999999, .old W (keptOf (heapF B r)))], []⟩ (by (refine Le.mk ?_ ?_; (repeat' (first | exact LeEnv.done | refine LeEnv.cons ?_ ?_ | exact PVLe.refl _ | exact PVLe.s (SVLe.nil _ _ _) | exact PVLe.s (SVLe.no _ _ _ _) | (refine PVLe.int ?_; first | rfl | omega | (simp; done) | (simp; omega)) | (refine PVLe.els ?_; first | rfl | assumption | (simp; done)) | (refine PVLe.bool ?_; first | rfl | assumption) | (refine PVLe.bsl ?_; first | rfl | assumption | (simp; done))));  (repeat' (first | exact LeBox.done | refine LeBox.cons ?_ ?_ | exact rfl)))) ?_
  have c2 := nLen r1 (L ++ [x]) hr1
  have hl : (L ++ [x]).length = L.length + 1 := by simp
  have e1 : ((L ++ [x]).length : Int) - 1 = (L.length : Int) := by omega
  have c3 := hUp B r1 (L ++ [x]) L.length hr1 (by omega) (by omega) hU
  rw [← e1] at c3
  repeat' (first
    | (apply RunK.invokeV 2000000 [] 900002 mLen; (case hw => exact rfl); (case hp => exact c2); (case hx => exact rfl); (case hk => exact rfl); (case hu => exact rfl); (case ha => (repeat (first | exact ArgsLe.nil | refine ArgsLe.cons ?_ ?_ | exact ArgLe.v _ | exact ArgLe.sl _ _ _ _ | exact ArgLe.nil _ | exact ArgLe.nil' | exact ArgLe.nsl _ _ _ _ _ | exact ArgLe.nsn _ | (apply ArgLe.bsl; exact rfl; (first | exact rfl | (rw [List.length_map]; done) | (simp only [List.length_map]; done) | (simp; done) | (simp; omega)); (first | assumption | exact map_len (fun _ => rfl)))))); (case hf => exact .nil); (case hap => exact ApartE.nil _); (case hng => exact noNest_nil _); intro res fs' hres _; obtain ⟨rfl, rfl⟩ := hres) | (apply RunK.actF [2000001] 900003 c3; (case hw => exact rfl); (case he => exact fun h => nomatch h); (case hx => exact rfl); (case ha => (repeat (first | exact ArgsLe.nil | refine ArgsLe.cons ?_ ?_ | exact ArgLe.v _ | exact ArgLe.sl _ _ _ _ | exact ArgLe.nil _ | exact ArgLe.nil' | exact ArgLe.nsl _ _ _ _ _ | exact ArgLe.nsn _ | (apply ArgLe.bsl; exact rfl; (first | exact rfl | (rw [List.length_map]; done) | (simp only [List.length_map]; done) | (simp; done) | (simp; omega)); (first | assumption | exact map_len (fun _ => rfl)))))); (case hf => exact .kept 2000000 rfl rfl (.nest 2000001 rfl rfl rfl .nil)); (case hap => exact ApartE.nil _); (case hng => exact rfl); intro res fs' hres _; obtain ⟨rfl, r2, L2, k1, k2, k3, k4, rfl⟩ := hres)
    | (apply Wt.regionK; exact rfl)
    | refine RunK.nil ?_
    | (apply RunK.moveV; exact rfl; exact rfl)
    | (apply RunK.sub; exact rfl; exact rfl; exact rfl; (first | omega | (simp only [List.length_map]; omega))))
  refine ActEnd.mk (.tup []) [.kept B (.cells #[r1.hdr] 54 (0, 0)), .nest 1 1 [r2]] ⟨rfl, r2, L2, k2, k3.trans ?_, k4, by rw [← k1]⟩ .zero rfl rfl (.kept 2000000 rfl (.nest 2000001 rfl .nil)) (.turn 2000000 rfl (List.mem_singleton.2 rfl) (.nest .nil))
  exact List.perm_append_comm (l₁ := L) (l₂ := [x])
set_option maxRecDepth 100000 in
theorem take_last {M : List Nat} {n : Nat} (h : M.length = n + 1) : M = M.take n ++ [at0 M n] := by
  have h1 : M[n]? = some (at0 M n) := by simp [at0, List.getD_eq_getElem?_getD, List.getElem?_eq_getElem (show n < M.length by omega)]
  have h2 := List.take_add_one (l := M) (i := n)
  rw [h1, List.take_of_length_le (by omega)] at h2
  exact h2
set_option maxRecDepth 100000 in
theorem hp_take {M : List Nat} {n : Nat} (hn : n ≤ M.length) (h : Hp M n) : Hp (M.take n) (M.take n).length := by
  have hl : (M.take n).length = n := by rw [List.length_take]; omega
  have e : ∀ k, k < n → at0 (M.take n) k = at0 M k := fun k hk => by simp [at0, List.getD_eq_getElem?_getD, hk]
  intro k h1 h2
  rw [hl] at h2
  rw [e k h2, e _ (by omega)]
  exact h k h1 h2
set_option maxRecDepth 100000 in
theorem hPop (B : Nat) (r : NRow) (L : List Nat) (h : RowL r L) (hL : L.length < 1000000) (h0 : 0 < L.length) (hH : Hp L L.length) : Acts Try.prog 46 [.v (hI B)] (heapF B r) [B] (fun res fs => res = .s (.v (.iface 3 (.int .i64 ((at0 L 0 : Nat) : Int)))) ∧ ∃ (r' : NRow) (L' : List Nat), RowL r' L' ∧ (at0 L 0 :: L').Perm L ∧ Hp L' L'.length ∧ fs = heapF B r') := by
  obtain ⟨n, hn⟩ : ∃ n, L.length = n + 1 := ⟨L.length - 1, by omega⟩
  have c1 := nLen r L h
  have e1 : (L.length : Int) - 1 = (n : Int) := by omega
  have c2 := nSwap r L h 0 n h0 (by omega)
  rw [← e1] at c2
  rw [hn] at hH
  have hD := dn_start hH hn
  refine acts_of_wt Try.func46 rfl (by decide) _ Try.ntmps46 rfl Try.results46 rfl (by simp [ownOf]) fun w0 W => ?_
  repeat' (first
    | (refine stopQ 3 ?_) | (apply RunK.invokeV 2000000 [] 900002 mLen; (case hw => exact rfl); (case hp => exact c1); (case hx => exact rfl); (case hk => exact rfl); (case hu => exact rfl); (case ha => (repeat (first | exact ArgsLe.nil | refine ArgsLe.cons ?_ ?_ | exact ArgLe.v _ | exact ArgLe.sl _ _ _ _ | exact ArgLe.nil _ | exact ArgLe.nil' | exact ArgLe.nsl _ _ _ _ _ | exact ArgLe.nsn _ | (apply ArgLe.bsl; exact rfl; (first | exact rfl | (rw [List.length_map]; done) | (simp only [List.length_map]; done) | (simp; done) | (simp; omega)); (first | assumption | exact map_len (fun _ => rfl)))))); (case hf => exact .nil); (case hap => exact ApartE.nil _); (case hng => exact noNest_nil _); intro res fs' hres _; obtain ⟨rfl, rfl⟩ := hres) | (apply RunK.invokeV 2000000 [2000001] 900001 mSwap; (case hw => exact rfl); (case hp => exact c2); (case hx => exact rfl); (case hk => exact rfl); (case hu => exact rfl); (case ha => (repeat (first | exact ArgsLe.nil | refine ArgsLe.cons ?_ ?_ | exact ArgLe.v _ | exact ArgLe.sl _ _ _ _ | exact ArgLe.nil _ | exact ArgLe.nil' | exact ArgLe.nsl _ _ _ _ _ | exact ArgLe.nsn _ | (apply ArgLe.bsl; exact rfl; (first | exact rfl | (rw [List.length_map]; done) | (simp only [List.length_map]; done) | (simp; done) | (simp; omega)); (first | assumption | exact map_len (fun _ => rfl)))))); (case hf => exact .nest 2000001 rfl rfl rfl .nil); (case hap => exact ApartE.nil _); (case hng => exact rfl); intro res fs' hres _; obtain ⟨rfl, r1, hq1, hq2, rfl⟩ := hres)
    | refine Wt.seq ?_
    | (apply Wt.regionK; exact rfl)
    | refine RunK.nil ?_
    | (apply RunK.moveV; exact rfl; exact rfl)
    | (apply RunK.assignV; exact rfl; exact rfl)
    | (apply RunK.sub; exact rfl; exact rfl; exact rfl; (first | omega | (simp only [List.length_map]; omega))))
  refine StoppedQ.mk' ?_
  refine Wt.le ⟨[(0, .s (.v (hI B))), (3, .s (.v (.int .i64 (n : Int)))), (2000000, .kept B (.cells #[r.hdr] 54 (0, 0))), (2000001, .nest 1 1 [r1]), (2999999, .old W (keptOf (heapF B r)))], []⟩ (by (refine Le.mk ?_ ?_; (repeat' (first | exact LeEnv.done | refine LeEnv.cons ?_ ?_ | exact PVLe.refl _ | exact PVLe.s (SVLe.nil _ _ _) | exact PVLe.s (SVLe.no _ _ _ _) | (refine PVLe.int ?_; first | rfl | omega | (simp; done) | (simp; omega)) | (refine PVLe.els ?_; first | rfl | assumption | (simp; done)) | (refine PVLe.bool ?_; first | rfl | assumption) | (refine PVLe.bsl ?_; first | rfl | assumption | (simp; done))));  (repeat' (first | exact LeBox.done | refine LeBox.cons ?_ ?_ | exact rfl)))) ?_
  have hsl := sw_len L 0 n
  have c3 := hDown B r1 (sw L 0 n) n hq2 (by omega) (by omega) hD
  rw [← hq1]
  repeat' (first
    | (refine stopQ 4 ?_) | (apply RunK.actF [2000001] 900003 c3; (case hw => exact rfl); (case he => exact fun h => nomatch h); (case hx => exact rfl); (case ha => (repeat (first | exact ArgsLe.nil | refine ArgsLe.cons ?_ ?_ | exact ArgLe.v _ | exact ArgLe.sl _ _ _ _ | exact ArgLe.nil _ | exact ArgLe.nil' | exact ArgLe.nsl _ _ _ _ _ | exact ArgLe.nsn _ | (apply ArgLe.bsl; exact rfl; (first | exact rfl | (rw [List.length_map]; done) | (simp only [List.length_map]; done) | (simp; done) | (simp; omega)); (first | assumption | exact map_len (fun _ => rfl)))))); (case hf => exact .kept 2000000 rfl rfl (.nest 2000001 rfl rfl rfl .nil)); (case hap => exact ApartE.nil _); (case hng => exact rfl); intro res fs' hres _; obtain ⟨⟨bb, rfl⟩, r2, M, k1, k2, k3, k4, k5, rfl⟩ := hres)
    | refine Wt.seq ?_
    | (apply Wt.regionK; exact rfl)
    | refine RunK.nil ?_
    | (apply RunK.moveV; exact rfl; exact rfl))
  refine StoppedQ.mk' ?_
  have hMl : M.length = n + 1 := by rw [k3.length_eq, hsl, hn]
  have hlast : at0 M n = at0 L 0 := by rw [k5 n (Nat.le_refl _), at_sw h0 (by omega), if_pos rfl]
  have hM := take_last hMl
  rw [hlast] at hM
  rw [hM] at k2
  have c4 := nPop B r2 (M.take n) (at0 L 0) k2 (by rw [List.length_take]; omega)
  refine Wt.le ⟨[(0, .s (.v (hI B))), (2000000, .kept B (.cells #[r1.hdr] 54 (0, 0))), (2000001, .nest 1 1 [r2]), (2999999, .old W (keptOf (heapF B r)))], []⟩ (by (refine Le.mk ?_ ?_; (repeat' (first | exact LeEnv.done | refine LeEnv.cons ?_ ?_ | exact PVLe.refl _ | exact PVLe.s (SVLe.nil _ _ _) | exact PVLe.s (SVLe.no _ _ _ _) | (refine PVLe.int ?_; first | rfl | omega | (simp; done) | (simp; omega)) | (refine PVLe.els ?_; first | rfl | assumption | (simp; done)) | (refine PVLe.bool ?_; first | rfl | assumption) | (refine PVLe.bsl ?_; first | rfl | assumption | (simp; done))));  (repeat' (first | exact LeBox.done | refine LeBox.cons ?_ ?_ | exact rfl)))) ?_
  rw [← k1]
  repeat' (first
    | (apply RunK.invokeP [2000000, 2000001] 900001 mPop; (case hw => exact rfl); (case hp => exact c4); (case hx => exact rfl); (case ha => (repeat (first | exact ArgsLe.nil | refine ArgsLe.cons ?_ ?_ | exact ArgLe.v _ | exact ArgLe.sl _ _ _ _ | exact ArgLe.nil _ | exact ArgLe.nil' | exact ArgLe.nsl _ _ _ _ _ | exact ArgLe.nsn _ | (apply ArgLe.bsl; exact rfl; (first | exact rfl | (rw [List.length_map]; done) | (simp only [List.length_map]; done) | (simp; done) | (simp; omega)); (first | assumption | exact map_len (fun _ => rfl)))))); (case hf => exact .kept 2000000 rfl rfl (.nest 2000001 rfl rfl rfl .nil)); (case hap => (repeat' (first | exact trivial | refine And.intro ?_ ?_))); (case hng => exact rfl); intro res fs' hres _; obtain ⟨rfl, r3, hr3, rfl⟩ := hres)
    | (apply Wt.regionK; exact rfl)
    | refine Wt.ret ?_
    | refine RunK.nil ?_
    | (apply RunK.moveV; exact rfl; exact rfl)
    | (apply RunK.assignV; exact rfl; exact rfl))
  refine ActEnd.mk (.s (.v (.iface 3 (.int .i64 ((at0 L 0 : Nat) : Int))))) _ ⟨rfl, r3, M.take n, hr3, ?_, hp_take (by omega) k4, rfl⟩ (by apply ResOk.v1; exact rfl; exact rfl) rfl rfl (.kept 2000000 rfl (.nest 2000001 rfl .nil)) (.turn 2000000 rfl (List.mem_singleton.2 rfl) (.nest .nil))
  refine (List.perm_append_comm (l₁ := [at0 L 0]) (l₂ := M.take n)).trans ?_
  rw [← hM]
  exact k3.trans (sw_perm h0 (by omega))
end Go.Proofs.Ytfokjpmcifkoeaa
