/- The walk of the search: entering a node. No condition. -/
import Derived.Test.YtfokjpmcifkoeaaCM
namespace Go.Proofs.Ytfokjpmcifkoeaa
open Pv Go.RowKit Scc
instance : TyOne Try.prog 60 := ⟨⟨_, Try.underlying60, rfl⟩, by kernel_rfl⟩
instance : TySize Try.prog 60 1 := ⟨by kernel_rfl⟩
abbrev ptrB (B : Nat → Nat) (i : Nat) : Value := .pointer (some ⟨B i, 0, none⟩)
abbrev arrH (b n : Nat) : Value := .slice (some ⟨b, 0, none⟩) n n
abbrev capsOf (B : Nat → Nat) : List Value := [ptrB B 1, ptrB B 2, ptrB B 3, ptrB B 4, ptrB B 5, ptrB B 6, ptrB B 7, ptrB B 8]
def nArr (l : List Nat) : Array Value := (l.map fun x : Nat => Value.int .i64 (x : Int)).toArray
def bArr (l : List Bool) : Array Value := (l.map Value.bool).toArray
set_option maxRecDepth 100000 in
theorem nArr_set (l : List Nat) (i x : Nat) : (nArr l).setIfInBounds i (.int .i64 (x : Int)) = nArr (l.set i x) := by
  apply Array.toList_inj.1
  simp [nArr]
set_option maxRecDepth 100000 in
theorem bArr_set (l : List Bool) (i : Nat) (b : Bool) : (bArr l).setIfInBounds i (.bool b) = bArr (l.set i b) := by
  apply Array.toList_inj.1
  simp [bArr]
set_option maxRecDepth 100000 in
theorem nArr_at {l : List Nat} {i : Nat} (h : i < l.length) : (nArr l)[i]? = some (.int .i64 ((l.getD i 0 : Nat) : Int)) := by
  simp [nArr, List.getD_eq_getElem?_getD, h]
set_option maxRecDepth 100000 in
theorem bArr_at {l : List Bool} {i : Nat} (h : i < l.length) : (bArr l)[i]? = some (.bool (l.getD i false)) := by
  simp [bArr, List.getD_eq_getElem?_getD, h]
set_option maxRecDepth 100000 in
theorem nArr_size (l : List Nat) : (nArr l).size = l.length := by simp [nArr]
set_option maxRecDepth 100000 in
theorem bArr_size (l : List Bool) : (bArr l).size = l.length := by simp [bArr]
set_option maxRecDepth 100000 in
theorem calm_cons {s : St} {t : Nat} {p : PV} {l : List (Nat × PV)} (ht : (Nat.blt t 1000000 || Nat.ble 3000000 t) = true) (hc : p.calm t = true) (hl : Pv.look s.env t = p) (h : ∀ q ∈ l, (q.1 < 1000000 ∨ 3000000 ≤ q.1) ∧ q.2.calm q.1 = true ∧ s.look q.1 = q.2) : ∀ q ∈ (t, p) :: l, (q.1 < 1000000 ∨ 3000000 ≤ q.1) ∧ q.2.calm q.1 = true ∧ s.look q.1 = q.2 := fun q hq => by
  rcases List.mem_cons.1 hq with rfl | hq
  · refine ⟨?_, hc, hl⟩
    rw [Bool.or_eq_true, Nat.blt_eq, Nat.ble_eq] at ht
    exact ht
  · exact h q hq
set_option maxRecDepth 100000 in
theorem calm_end {s : St} : ∀ q ∈ ([] : List (Nat × PV)), (q.1 < 1000000 ∨ 3000000 ≤ q.1) ∧ q.2.calm q.1 = true ∧ s.look q.1 = q.2 := fun _ h => absurd h List.not_mem_nil
/-- The blocks are apart. -/
def InjB (B : Nat → Nat) : Prop := ∀ i j, i < 12 → j < 12 → B i = B j → i = j
set_option maxRecDepth 100000 in
theorem apartB {B : Nat → Nat} (hB : InjB B) (i : Nat) (js : List Nat) (h : (Nat.blt i 12 && js.all fun j => Nat.blt j 12 && !Nat.beq j i) = true) : B i ∉ js.map B := by
  intro hm
  obtain ⟨j, hj, e⟩ := List.mem_map.1 hm
  rw [Bool.and_eq_true, Nat.blt_eq] at h
  have := List.all_eq_true.1 h.2 j hj
  rw [Bool.and_eq_true, Nat.blt_eq, Bool.not_eq_true'] at this
  have e2 := hB j i this.1 h.1 e
  rw [e2, Nat.beq_refl] at this
  cases this.2
structure RowsOk (s : TS) (sr pr : NRow) (parts : List NRow) : Prop where
  stack : sr.els = (intR s.stack).map ival
  scap : sr.els.length ≤ sr.cap
  spine : pr.els = hds parts
  pcap : pr.els.length ≤ pr.cap
  parts : parts.map (·.els) = s.out.map (fun c => (intR c).map ival)
/-- What is known of the search's variables. -/
abbrev enF (B : Nat → Nat) (hn : Value) (N : G) (s : TS) (sr pr : NRow) (parts : List NRow) : List PV :=
  [.kept (B 1) (.cells #[.int .i64 (s.count : Int)] 3 (0, 0)),
   .kept (B 2) (.cells #[arrH (B 9) N.length] 23 (0, 0)),
   .kept (B 3) (.cells #[arrH (B 10) N.length] 23 (0, 0)),
   .kept (B 4) (.cells #[arrH (B 11) N.length] 42 (0, 0)),
   .kept (B 5) (.cells #[sr.hdr] 23 (0, 0)),
   .kept (B 6) (.cells #[hn] 22 (0, 0)),
   .kept (B 7) (.cells #[.func (.func 48) #[] (capsOf B).toArray] 60 (0, 0)),
   .kept (B 8) (.cells #[pr.hdr] 22 (0, 0)),
   .kept (B 9) (.cells (nArr s.num) 3 (0, 0)),
   .kept (B 10) (.cells (nArr s.low) 3 (0, 0)),
   .kept (B 11) (.cells (bArr s.on) 4 (0, 0)),
   .hd hn (.nsl none [none] false 1 (gE (intG N))),
   .nest 1 1 (sr :: pr :: parts)]
def enK (B : Nat → Nat) (s : TS) (r : PV) (l : List PV) : Prop := r = .tup [] ∧ ∃ sr pr parts, RowsOk s sr pr parts ∧ l =
  [.kept (B 1) (.cells #[.int .i64 (s.count : Int)] 3 (0, 0)), .kept (B 5) (.cells #[sr.hdr] 23 (0, 0)), .kept (B 8) (.cells #[pr.hdr] 22 (0, 0)), .kept (B 9) (.cells (nArr s.num) 3 (0, 0)), .kept (B 10) (.cells (nArr s.low) 3 (0, 0)), .kept (B 11) (.cells (bArr s.on) 4 (0, 0)), .nest 1 1 (sr :: pr :: parts)]
def EnterOk (N : G) (f : Nat) : Prop := ∀ (B : Nat → Nat) (hn : Value) (gray : List Nat) (s : TS) (i : Nat) (sr pr : NRow) (parts : List NRow), InjB B → Inv N gray s → i < N.length → s.N i = 0 → (∀ x ∈ gray, Scc.Reach N x i) → N.length ≤ f + s.count → RowsOk s sr pr parts →
  Acts Try.prog 48 ([.v (.int .i64 (i : Int))] ++ (capsOf B).map SV.v) (enF B hn N s sr pr parts) [B 1, B 5, B 8, B 9, B 10, B 11] (enK B (enterF N f i s))
section
variable {P : Program} {dr : Bool} {ops : Array Oper} {rest : List Oper} {env : List (Nat × PV)} {bs : List (Nat × List Value)} {K : St → Prop} {d : Nat} {ty : TypeId} {pos : String} {aft : Array Edge} {gd : Option (Nat × Bool)}
set_option maxRecDepth 100000 in
theorem idxA {t e by0 : Nat} [hT : TySl P t e 1 by0] {x y : Operand} {b n c : Nat} {kd : IntKind} {i : Int} {j : Nat} (hw : wantedS ops ⟨env, bs⟩ ⟨some d, .indexAddr t x y, ty, pos, aft, gd⟩ = some true) (hx : (St.mk env bs).ev x = .s (.v (.slice (some ⟨b, 0, none⟩) n c))) (hy : (St.mk env bs).ev y = .s (.v (.int kd i))) (hij : i = (j : Int)) (hj : j < n)
    (k : RunK dr P ops rest ⟨(d, .s (.v (.pointer (some ⟨b, j, none⟩)))) :: env, bs⟩ K) : RunK dr P ops (⟨some d, .indexAddr t x y, ty, pos, aft, gd⟩ :: rest) ⟨env, bs⟩ K :=
  RunK.idxP hw hx hy hij hj (by rw [Nat.mul_one, Nat.zero_add]; exact k)
set_option maxRecDepth 100000 in
theorem loadN {t : TypeId} [h1 : TyOne P t] {x : Operand} {b j : Nat} {l : List Nat} {e : TypeId} {fz : Nat × Nat} (h : Nat) (hw : wantedS ops ⟨env, bs⟩ ⟨some d, .load t x, ty, pos, aft, gd⟩ = some true) (hx : (St.mk env bs).ev x = .s (.v (.pointer (some ⟨b, j, none⟩)))) (hh : Nat.ble 1000000 h = true) (hk : Pv.look env h = .kept b (.cells (nArr l) e fz)) (hj : j < l.length)
    (k : RunK dr P ops rest ⟨(d, .s (.v (.int .i64 ((l.getD j 0 : Nat) : Int)))) :: env, bs⟩ K) : RunK dr P ops (⟨some d, .load t x, ty, pos, aft, gd⟩ :: rest) ⟨env, bs⟩ K :=
  RunK.loadP h hw hx hh hk (nArr_at hj) k
set_option maxRecDepth 100000 in
theorem loadB {t : TypeId} [h1 : TyOne P t] {x : Operand} {b j : Nat} {l : List Bool} {e : TypeId} {fz : Nat × Nat} (h : Nat) (hw : wantedS ops ⟨env, bs⟩ ⟨some d, .load t x, ty, pos, aft, gd⟩ = some true) (hx : (St.mk env bs).ev x = .s (.v (.pointer (some ⟨b, j, none⟩)))) (hh : Nat.ble 1000000 h = true) (hk : Pv.look env h = .kept b (.cells (bArr l) e fz)) (hj : j < l.length)
    (k : RunK dr P ops rest ⟨(d, .s (.v (.bool (l.getD j false)))) :: env, bs⟩ K) : RunK dr P ops (⟨some d, .load t x, ty, pos, aft, gd⟩ :: rest) ⟨env, bs⟩ K :=
  RunK.loadP h hw hx hh hk (bArr_at hj) k
set_option maxRecDepth 100000 in
theorem storeN {t : TypeId} [hT : TySize P t 1] {x y : Operand} {b j : Nat} {l : List Nat} {e : TypeId} (h u : Nat) (hw : wantedS ops ⟨env, bs⟩ ⟨none, .store t x y, ty, pos, aft, gd⟩ = some true) (hx : (St.mk env bs).ev x = .s (.v (.pointer (some ⟨b, j, none⟩)))) (hy : (St.mk env bs).ev y = .s (.v (.int .i64 (u : Int)))) (hk : Pv.look env h = .kept b (.cells (nArr l) e (0, 0))) (hh : (Nat.ble 1000000 h && Nat.blt h 3000000) = true) (hj : j < l.length) (hap : ApartE [b] (rmS [h] env))
    (k : RunK dr P ops rest ⟨(h, .kept b (.cells (nArr (l.set j u)) e (0, 0))) :: rmS [h] env, bs⟩ K) : RunK dr P ops (⟨none, .store t x y, ty, pos, aft, gd⟩ :: rest) ⟨env, bs⟩ K :=
  RunK.storePD h hw hx hy hk hh (by rw [nArr_size]; exact hj) rfl rfl hap (by rw [nArr_set]; exact k)
set_option maxRecDepth 100000 in
theorem storeB {t : TypeId} [hT : TySize P t 1] {x y : Operand} {b j : Nat} {l : List Bool} {e : TypeId} (h : Nat) (u : Bool) (hw : wantedS ops ⟨env, bs⟩ ⟨none, .store t x y, ty, pos, aft, gd⟩ = some true) (hx : (St.mk env bs).ev x = .s (.v (.pointer (some ⟨b, j, none⟩)))) (hy : (St.mk env bs).ev y = .s (.v (.bool u))) (hk : Pv.look env h = .kept b (.cells (bArr l) e (0, 0))) (hh : (Nat.ble 1000000 h && Nat.blt h 3000000) = true) (hj : j < l.length) (hap : ApartE [b] (rmS [h] env))
    (k : RunK dr P ops rest ⟨(h, .kept b (.cells (bArr (l.set j u)) e (0, 0))) :: rmS [h] env, bs⟩ K) : RunK dr P ops (⟨none, .store t x y, ty, pos, aft, gd⟩ :: rest) ⟨env, bs⟩ K :=
  RunK.storePD h hw hx hy hk hh (by rw [bArr_size]; exact hj) rfl rfl hap (by rw [bArr_set]; exact k)
end
/-- The search's state, spelt. -/
abbrev enS (B : Nat → Nat) (hn : Value) (N : G) (o : PV) (i : Nat) (c : Int) (num low : List Nat) (on : List Bool) (sr : NRow) (sh : Value) (pr : NRow) (parts : List NRow) : List (Nat × PV) :=
  [(0, .s (.v (.int .i64 (i : Int)))), (1, .s (.v (ptrB B 1))), (2, .s (.v (ptrB B 2))), (3, .s (.v (ptrB B 3))), (4, .s (.v (ptrB B 4))), (5, .s (.v (ptrB B 5))), (6, .s (.v (ptrB B 6))), (7, .s (.v (ptrB B 7))), (8, .s (.v (ptrB B 8))),
   (2000000, .kept (B 1) (.cells #[.int .i64 c] 3 (0, 0))),
   (2000001, .kept (B 2) (.cells #[arrH (B 9) N.length] 23 (0, 0))),
   (2000002, .kept (B 3) (.cells #[arrH (B 10) N.length] 23 (0, 0))),
   (2000003, .kept (B 4) (.cells #[arrH (B 11) N.length] 42 (0, 0))),
   (2000004, .kept (B 5) (.cells #[sh] 23 (0, 0))),
   (2000005, .kept (B 6) (.cells #[hn] 22 (0, 0))),
   (2000006, .kept (B 7) (.cells #[.func (.func 48) #[] (capsOf B).toArray] 60 (0, 0))),
   (2000007, .kept (B 8) (.cells #[pr.hdr] 22 (0, 0))),
   (2000008, .kept (B 9) (.cells (nArr num) 3 (0, 0))),
   (2000009, .kept (B 10) (.cells (nArr low) 3 (0, 0))),
   (2000010, .kept (B 11) (.cells (bArr on) 4 (0, 0))),
   (2000011, .hd hn (.nsl none [none] false 1 (gE (intG N)))),
   (2000012, .nest 1 1 (sr :: pr :: parts)),
   (2999999, o)]
def midS (N : G) (f i : Nat) (s : TS) (k : Nat) : TS := visits (enterF N f) i ((N.getD i []).take k) (s.enter i)
set_option maxRecDepth 100000 in
theorem midS_succ {N : G} {f i : Nat} {s : TS} {k x : Nat} (h : (N.getD i [])[k]? = some x) : midS N f i s (k + 1) = visit (enterF N f) i x (midS N f i s k) := by
  unfold midS visits
  rw [List.take_add_one, h]
  simp only [Option.toList, List.foldl_append, List.foldl_cons, List.foldl_nil]
set_option maxRecDepth 100000 in
theorem midS_end (N : G) (f i : Nat) (s : TS) : enterF N (f + 1) i s = (midS N f i s (N.getD i []).length).close i := by
  unfold midS
  rw [List.take_of_length_le (Nat.le_refl _)]; rfl
set_option maxRecDepth 100000 in
theorem midS_mid {N : G} (hN : GOk N) {f i : Nat} {s : TS} {gray : List Nat} (hI : Inv N gray s) (hi : i < N.length) (hw : s.N i = 0) (hg : ∀ x ∈ gray, Scc.Reach N x i) (hf : N.length ≤ f + 1 + s.count) (k : Nat) : Mid N gray s i ((N.getD i []).take k) (midS N f i s k) := by
  have h := visits_mid (fun gray s k h1 h2 h3 h4 h5 => enter_spec hN f gray s k h1 h2 h3 h4 h5) hI hi hw hg hf ((N.getD i []).take k) [] (s.enter i) (fun x hx => ⟨List.mem_of_mem_take hx, hN i x (List.mem_of_mem_take hx)⟩) (start_mid hI hi hw hg)
  rwa [List.nil_append] at h
/-- A goal that the walk lets stand. -/
structure Stopped (p : Prop) : Prop where
  mk' ::
  go : p
set_option maxRecDepth 100000 in
theorem stopAt {P : Program} {w0 : Base} {n : Nat} (r : Nat) {l : Array Oper} {b : Bool} {s : St} {N R : St → Prop} {X : Nat → St → Prop} (h : Stopped (Wt P w0 n (.region r l b) s N R X)) : Wt P w0 n (.region r l b) s N R X := h.go
set_option maxRecDepth 100000 in
theorem isort_nat (l : List Nat) : isort (intR l) = intR (sortN l) := by
  refine List.Perm.eq_of_pairwise (le := (· ≤ ·)) (fun a b _ _ h1 h2 => by omega) ?_ ?_ ?_
  · have := List.pairwise_mergeSort (le := fun x y : Int => decide (x ≤ y)) (by intro a b c h1 h2; simp only [decide_eq_true_eq] at *; omega) (by intro a b; simp only [Bool.or_eq_true, decide_eq_true_eq]; omega) (intR l)
    exact this.imp fun h => of_decide_eq_true h
  · unfold intR; exact List.pairwise_map.2 ((sortN_le l).imp fun h => Int.ofNat_le.2 h)
  · exact (List.mergeSort_perm _ _).trans (List.Perm.map _ (sortN_perm l).symm)
set_option maxRecDepth 100000 in
theorem offs_succ {dp : List Nat} {on : List Bool} {k y : Nat} (h : dp[k]? = some y) : offs (dp.take (k + 1)) on = (offs (dp.take k) on).set y false := by
  unfold offs
  rw [List.take_add_one, h]
  simp only [Option.toList, List.foldl_append, List.foldl_cons, List.foldl_nil]
set_option maxRecDepth 100000 in
theorem storeM {P : Program} {dr : Bool} {ops : Array Oper} {rest : List Oper} {env : List (Nat × PV)} {bs : List (Nat × List Value)} {K : St → Prop} {ty : TypeId} {pos : String} {aft : Array Edge} {gd : Option (Nat × Bool)} {t : TypeId} [hT : TySize P t 1] {x y : Operand} {b j : Nat} {l : List Nat} {e : TypeId} {z : Int} (h u : Nat) (hw : wantedS ops ⟨env, bs⟩ ⟨none, .store t x y, ty, pos, aft, gd⟩ = some true) (hx : (St.mk env bs).ev x = .s (.v (.pointer (some ⟨b, j, none⟩)))) (hy : (St.mk env bs).ev y = .s (.v (.int .i64 z))) (hz : z = (u : Int)) (hk : Pv.look env h = .kept b (.cells (nArr l) e (0, 0))) (hh : (Nat.ble 1000000 h && Nat.blt h 3000000) = true) (hj : j < l.length) (hap : ApartE [b] (rmS [h] env))
    (k : RunK dr P ops rest ⟨(h, .kept b (.cells (nArr (l.set j u)) e (0, 0))) :: rmS [h] env, bs⟩ K) : RunK dr P ops (⟨none, .store t x y, ty, pos, aft, gd⟩ :: rest) ⟨env, bs⟩ K :=
  storeN h u hw hx (hz ▸ hy) hk hh hj hap k
set_option maxHeartbeats 4000000 in
set_option maxRecDepth 100000 in
theorem enterW (N : G) (hN : GOk N) (hn1 : N.length ≤ 1000000) (hr : ∀ r ∈ N, r.length < 10000000000) (f : Nat) (ih : EnterOk N f) : EnterOk N (f + 1) := by
  have hm2 : Try.prog.follows .mixedOrders = true := by kernel_rfl
  intro B hn gray s i sr pr parts hB hI hi hw hg hf hR
  have hcl := count_le hI
  have q9 : i < s.num.length := hI.lnum.symm ▸ hi
  have q10 : i < s.low.length := hI.llow.symm ▸ hi
  have q11 : i < s.on.length := hI.lon.symm ▸ hi
  have hsl := stack_len hI
  have hbs : (sr.els.length + [[Value.int .i64 (i : Int)]].length) * 8 ≤ 140737488355328 := by
    rw [hR.stack]; simp [intR]; omega
  refine acts_of_wt Try.func48 rfl (by decide) _ Try.ntmps48 rfl Try.results48 rfl (by simp [ownOf]) fun w0 W => ?_
  refine Wt.le ⟨enS B hn N (.old W (keptOf (enF B hn N s sr pr parts))) i s.count s.num s.low s.on sr sr.hdr pr parts, []⟩ (by (refine Le.mk ?_ ?_; (repeat' (first | exact LeEnv.done | refine LeEnv.cons ?_ ?_ | exact PVLe.refl _ | exact PVLe.s (SVLe.nil _ _ _) | exact PVLe.s (SVLe.no _ _ _ _) | (refine PVLe.int ?_; first | rfl | omega | (simp; done) | (simp; omega)) | (refine PVLe.els ?_; first | rfl | assumption | (simp; done)) | (refine PVLe.bool ?_; first | rfl | assumption) | (refine PVLe.bsl ?_; first | rfl | assumption | (simp; done))));  (repeat' (first | exact LeBox.done | refine LeBox.cons ?_ ?_ | exact rfl)))) ?_
  repeat' (first
    | (apply RunK.storeP 2000000; (case hw => exact rfl); (case hx => exact rfl); (case hy => exact rfl); (case hk => exact rfl); (case hj => exact Nat.zero_lt_one); (case hc => exact rfl); (case ho => exact rfl); (case hap => (repeat' (first | exact trivial | exact apartB hB 1 [1] rfl | exact apartB hB 2 [1] rfl | exact apartB hB 3 [1] rfl | exact apartB hB 4 [1] rfl | exact apartB hB 5 [1] rfl | exact apartB hB 6 [1] rfl | exact apartB hB 7 [1] rfl | exact apartB hB 8 [1] rfl | exact apartB hB 9 [1] rfl | exact apartB hB 10 [1] rfl | exact apartB hB 11 [1] rfl | refine And.intro ?_ ?_)))) | (apply RunK.loadP 2000000; exact rfl; exact rfl; exact rfl; exact rfl; first | exact rfl | assumption) | (apply RunK.loadP 2000001; exact rfl; exact rfl; exact rfl; exact rfl; first | exact rfl | assumption) | (apply RunK.loadP 2000002; exact rfl; exact rfl; exact rfl; exact rfl; first | exact rfl | assumption) | (apply RunK.loadP 2000003; exact rfl; exact rfl; exact rfl; exact rfl; first | exact rfl | assumption) | (apply RunK.loadP 2000004; exact rfl; exact rfl; exact rfl; exact rfl; first | exact rfl | assumption) | (apply RunK.loadP 2000005; exact rfl; exact rfl; exact rfl; exact rfl; first | exact rfl | assumption) | (apply RunK.loadP 2000006; exact rfl; exact rfl; exact rfl; exact rfl; first | exact rfl | assumption) | (apply RunK.loadP 2000007; exact rfl; exact rfl; exact rfl; exact rfl; first | exact rfl | assumption) | (apply RunK.loadP 2000008; exact rfl; exact rfl; exact rfl; exact rfl; first | exact rfl | assumption) | (apply RunK.loadP 2000009; exact rfl; exact rfl; exact rfl; exact rfl; first | exact rfl | assumption) | (apply RunK.loadP 2000010; exact rfl; exact rfl; exact rfl; exact rfl; first | exact rfl | assumption) | (refine Wt.le ⟨enS B hn N (.old W (keptOf (enF B hn N s sr pr parts))) i (s.count + 1) s.num s.low s.on sr sr.hdr pr parts, []⟩ (by (refine Le.mk ?_ ?_; (repeat' (first | exact LeEnv.done | refine LeEnv.cons ?_ ?_ | exact PVLe.refl _ | exact PVLe.s (SVLe.nil _ _ _) | exact PVLe.s (SVLe.no _ _ _ _) | (refine PVLe.int ?_; first | rfl | omega | (simp; done) | (simp; omega)) | (refine PVLe.els ?_; first | rfl | assumption | (simp; done)) | (refine PVLe.bool ?_; first | rfl | assumption) | (refine PVLe.bsl ?_; first | rfl | assumption | (simp; done))));  (repeat' (first | exact LeBox.done | refine LeBox.cons ?_ ?_ | exact rfl)))) (Wt.weak (Turns.copyF 2000000 3000000 (p := .kept (B 1) (.cells #[.int .i64 ((s.count : Int) + 1)] 3 (0, 0))) rfl rfl) (Wt.weak (Turns.copyF 2000001 3000001 (p := .kept (B 2) (.cells #[arrH (B 9) N.length] 23 (0, 0))) rfl rfl) (Wt.weak (Turns.copyF 2000002 3000002 (p := .kept (B 3) (.cells #[arrH (B 10) N.length] 23 (0, 0))) rfl rfl) (Wt.weak (Turns.copyF 2000003 3000003 (p := .kept (B 4) (.cells #[arrH (B 11) N.length] 42 (0, 0))) rfl rfl) (Wt.regionS (i := 1) ⟨[(0, .s (.v (.int .i64 (i : Int)))), (1, .s (.v (ptrB B 1))), (2, .s (.v (ptrB B 2))), (3, .s (.v (ptrB B 3))), (4, .s (.v (ptrB B 4))), (3000000, .kept (B 1) (.cells #[.int .i64 ((s.count : Int) + 1)] 3 (0, 0))), (3000001, .kept (B 2) (.cells #[arrH (B 9) N.length] 23 (0, 0))), (3000002, .kept (B 3) (.cells #[arrH (B 10) N.length] 23 (0, 0))), (3000003, .kept (B 4) (.cells #[arrH (B 11) N.length] 42 (0, 0)))], []⟩ [0, 1, 2, 3, 4, 5, 6, 7, 8] [9, 10, 11, 12, 13] hm2 rfl (by decide +kernel) (by kernel_rfl) (CalmLe.of rfl (by repeat (first | exact calm_end | refine calm_cons rfl rfl rfl ?_))) fun K hK hNn => ?_))))))
    | refine Wt.seq ?_
    | (apply Wt.regionK; exact rfl)
    | refine RunK.nil ?_
    | (apply RunK.add; exact rfl; exact rfl; exact rfl; (first | omega | (simp only [List.length_map]; omega))))
  (repeat ((apply CalmRun.cons; (case hi => exact rfl); (case hp => (apply PStep.of_run; exact rfl; exact rfl; exact rfl; exact rfl; exact rfl; (first | (apply RunK.moveV; exact rfl; exact rfl) | (apply RunK.loadP 3000000; exact rfl; exact rfl; exact rfl; exact rfl; first | exact rfl | assumption) | (apply RunK.loadP 3000001; exact rfl; exact rfl; exact rfl; exact rfl; first | exact rfl | assumption) | (apply RunK.loadP 3000002; exact rfl; exact rfl; exact rfl; exact rfl; first | exact rfl | assumption) | (apply RunK.loadP 3000003; exact rfl; exact rfl; exact rfl; exact rfl; first | exact rfl | assumption) | (apply idxA; exact rfl; exact rfl; exact rfl; exact rfl; exact hi)); (refine RunK.nil ?_); exact rfl)); (case hb => kernel_rfl))))
  dsimp only [St.put]
  refine CalmRun.rest [9, 10, 11, 12, 13] (by decide +kernel) hK rfl rfl (by kernel_rfl) (by kernel_rfl) ?_
  apply storeN 2000008 (s.count + 1) (l := s.num); exact rfl; exact rfl; exact rfl; exact rfl; exact rfl; exact q9; (repeat' (first | exact trivial | exact apartB hB 1 [9] rfl | exact apartB hB 2 [9] rfl | exact apartB hB 3 [9] rfl | exact apartB hB 4 [9] rfl | exact apartB hB 5 [9] rfl | exact apartB hB 6 [9] rfl | exact apartB hB 7 [9] rfl | exact apartB hB 8 [9] rfl | exact apartB hB 9 [9] rfl | exact apartB hB 10 [9] rfl | exact apartB hB 11 [9] rfl | refine And.intro ?_ ?_))
  apply idxA; exact rfl; exact rfl; exact rfl; exact rfl; exact hi
  apply storeN 2000009 (s.count + 1) (l := s.low); exact rfl; exact rfl; exact rfl; exact rfl; exact rfl; exact q10; (repeat' (first | exact trivial | exact apartB hB 1 [10] rfl | exact apartB hB 2 [10] rfl | exact apartB hB 3 [10] rfl | exact apartB hB 4 [10] rfl | exact apartB hB 5 [10] rfl | exact apartB hB 6 [10] rfl | exact apartB hB 7 [10] rfl | exact apartB hB 8 [10] rfl | exact apartB hB 9 [10] rfl | exact apartB hB 10 [10] rfl | exact apartB hB 11 [10] rfl | refine And.intro ?_ ?_))
  apply idxA; exact rfl; exact rfl; exact rfl; exact rfl; exact hi
  apply storeB 2000010 true (l := s.on); exact rfl; exact rfl; exact rfl; exact rfl; exact rfl; exact q11; (repeat' (first | exact trivial | exact apartB hB 1 [11] rfl | exact apartB hB 2 [11] rfl | exact apartB hB 3 [11] rfl | exact apartB hB 4 [11] rfl | exact apartB hB 5 [11] rfl | exact apartB hB 6 [11] rfl | exact apartB hB 7 [11] rfl | exact apartB hB 8 [11] rfl | exact apartB hB 9 [11] rfl | exact apartB hB 10 [11] rfl | exact apartB hB 11 [11] rfl | refine And.intro ?_ ?_))
  repeat' (first
    | (refine hNn _ ?_) | (refine Wt.le ⟨enS B hn N (.old W (keptOf (enF B hn N s sr pr parts))) i (s.count + 1) (s.enter i).num (s.enter i).low (s.enter i).on sr sr.hdr pr parts, []⟩ (by (refine Le.mk ?_ ?_; (repeat' (first | exact LeEnv.done | refine LeEnv.cons ?_ ?_ | exact PVLe.refl _ | exact PVLe.s (SVLe.nil _ _ _) | exact PVLe.s (SVLe.no _ _ _ _) | (refine PVLe.int ?_; first | rfl | omega | (simp; done) | (simp; omega)) | (refine PVLe.els ?_; first | rfl | assumption | (simp; done)) | (refine PVLe.bool ?_; first | rfl | assumption) | (refine PVLe.bsl ?_; first | rfl | assumption | (simp; done))));  (repeat' (first | exact LeBox.done | refine LeBox.cons ?_ ?_ | exact rfl)))) (Wt.regionK (i := 2) rfl ?_)) | (apply RunK.appendRN 2000012 900001 (i := 0) (r := sr) (els2 := [[.int .i64 (i : Int)]]); (case hw => exact rfl); (case he => (first | exact (fun _ => rfl) | exact (fun h => nomatch h))); (case hx => exact rfl); (case htx => exact rfl); (case hk => exact rfl); (case hi => exact rfl); (case hh => exact rfl); (case hn => exact rfl); (case hnt => exact rfl); (case hd0 => exact rfl); (case hdx => exact rfl); (case hy => (first | exact ReadLe.sl _ _ _ _ | exact ReadLe.nil _)); (case hone => exact one_rows rfl); (case hb => exact hbs); intro sr1 hsr1 hsrc) | (apply RunK.loadP 2000004; exact rfl; exact rfl; exact rfl; exact rfl; first | exact rfl | assumption) | (apply RunK.storeP 2000004; (case hw => exact rfl); (case hx => exact rfl); (case hy => exact rfl); (case hk => exact rfl); (case hj => exact Nat.zero_lt_one); (case hc => exact rfl); (case ho => exact rfl); (case hap => (repeat' (first | exact trivial | exact apartB hB 1 [5] rfl | exact apartB hB 2 [5] rfl | exact apartB hB 3 [5] rfl | exact apartB hB 4 [5] rfl | exact apartB hB 5 [5] rfl | exact apartB hB 6 [5] rfl | exact apartB hB 7 [5] rfl | exact apartB hB 8 [5] rfl | exact apartB hB 9 [5] rfl | exact apartB hB 10 [5] rfl | exact apartB hB 11 [5] rfl | refine And.intro ?_ ?_))))
    | refine Wt.seq ?_
    | (apply Wt.regionK; exact rfl)
    | refine RunK.nil ?_
    | (apply RunK.moveV; exact rfl; exact rfl)
    | (apply RunK.rows; exact rfl; exact rfl; (repeat (first | exact PartsOk.nil | (apply PartsOk.cons; exact rfl) | (apply PartsOk.consN; exact rfl))); (repeat (first | exact Rows.nil _ | (apply Rows.cons; (first | exact Cells.agg _ | exact Cells.int _ _ | exact Cells.bool _ | exact Cells.one _ rfl); exact rfl))); exact rfl; exact rfl))
  have hri : N[i]? = some (N.getD i []) := by rw [List.getD_eq_getElem?_getD, List.getElem?_eq_getElem hi]; rfl
  generalize hrow : N.getD i [] = row at hri
  have hrl : row.length < 10000000000 := hr row (List.mem_of_getElem? hri)
  have hx := gE_at (intG_at hri)
  have hgl : (gE (intG N)).length = N.length := by simp [gE, intG]
  have hR1 : RowsOk (midS N f i s 0) sr1 pr parts := ⟨by rw [hsr1, hR.stack]; show _ = (intR (s.stack ++ [i])).map ival; simp [intR, ival], hsrc, hR.spine, hR.pcap, hR.parts⟩
  repeat' (first
    | (apply RunK.loadP 2000005; exact rfl; exact rfl; exact rfl; exact rfl; exact rfl; refine RunK.unHd 33 2000011 rfl rfl ?_) | (apply RunK.indexN; exact rfl; exact rfl; exact rfl; (first | exact rfl | exact (rfl : (0 : Int) = ((0 : Nat) : Int)) | exact (rfl : (1 : Int) = ((1 : Nat) : Int)) | exact (rfl : (2 : Int) = ((2 : Nat) : Int)) | exact (rfl : (3 : Int) = ((3 : Nat) : Int)) | assumption); (first | omega | exact lt_of_get ‹_› | (rw [List.length_map]; omega) | (simp; omega))) | (apply RunK.loadNS; exact rfl; exact rfl; assumption; exact rfl) | (apply RunK.lenNs; exact rfl; exact rfl) | (apply RunK.moveNs; exact rfl; exact rfl) | (apply RunK.assignNs; exact rfl; exact rfl)
    | refine Wt.block ?_
    | refine RunK.nil ?_
    | (apply RunK.moveV; exact rfl; exact rfl)
    | (apply RunK.len; exact rfl; exact rfl))
  refine Wt.loop (fun j : Nat × NRow × NRow × List NRow => ⟨(36, .s (.sl none .no 1 ((intR row).map ival))) :: (37, .s (.v (.int .i64 row.length))) :: (38, .s (.v (.int .i64 j.1))) :: enS B hn N (.old W (keptOf (enF B hn N s sr pr parts))) i (midS N f i s j.1).count (midS N f i s j.1).num (midS N f i s j.1).low (midS N f i s j.1).on j.2.1 j.2.1.hdr j.2.2.1 j.2.2.2, []⟩) (fun j => j.1 ≤ row.length ∧ RowsOk (midS N f i s j.1) j.2.1 j.2.2.1 j.2.2.2) (fun j => row.length - j.1) (0, sr1, pr, parts) ⟨Nat.zero_le _, hR1⟩ ?_ ?_
  · (refine Le.mk ?_ ?_; (repeat' (first | exact LeEnv.done | refine LeEnv.cons ?_ ?_ | exact PVLe.refl _ | exact PVLe.s (SVLe.nil _ _ _) | exact PVLe.s (SVLe.no _ _ _ _) | (refine PVLe.int ?_; first | rfl | omega | (simp; done) | (simp; omega)) | (refine PVLe.els ?_; first | rfl | assumption | (simp; done)) | (refine PVLe.bool ?_; first | rfl | assumption) | (refine PVLe.bsl ?_; first | rfl | assumption | (simp; done))));  (repeat' (first | exact LeBox.done | refine LeBox.cons ?_ ?_ | exact rfl)))
    all_goals (refine PVLe.int ?_; simp [intR])
  · rintro ⟨k, sr2, pr2, parts2⟩ ⟨hk, hR2⟩
    dsimp only at hk hR2 ⊢
    have hM := midS_mid hN (f := f) hI hi hw hg (by omega) k
    rw [hrow] at hM
    by_cases hkl : k < row.length
    · skip
      obtain ⟨x, hxk⟩ := exists_at hkl
      have hSk := midS_succ (N := N) (f := f) (i := i) (s := s) (hrow ▸ hxk)
      have hxe : Scc.edge N i x := by show x ∈ N.getD i []; rw [hrow]; exact List.mem_of_getElem? hxk
      have hxn := hN i x hxe
      have hx2 := int_get hxk
      generalize midS N f i s k = t at hM hSk hR2 ⊢
      have u9 : x < t.num.length := hM.inv.lnum.symm ▸ hxn
      have u10 : i < t.low.length := hM.inv.llow.symm ▸ hi
      by_cases hx0 : t.N x = 0
      · have hx0' : ((t.num.getD x 0 : Nat) : Int) = 0 := by have : t.num.getD x 0 = 0 := hx0; omega
        have hgi : ∀ y ∈ i :: gray, Scc.Reach N y x := fun y hy => by
          rcases List.mem_cons.1 hy with rfl | hy
          · exact Scc.Reach.edge hxe
          · exact (hg y hy).tail hxe
        have hff : N.length ≤ f + t.count := by have := hM.cnt; omega
        have hP := enter_spec hN f (i :: gray) t x hM.inv hxn hx0 hgi hff
        have hcall := ih B hn (i :: gray) t x sr2 pr2 parts2 hB hM.inv hxn hx0 hgi hff hR2
        rw [visit, if_pos hx0] at hSk
        generalize enterF N f x t = t2 at hSk hcall hP
        have v9 : i < t2.low.length := hP.inv.llow.symm ▸ hi
        have v10 : x < t2.low.length := hP.inv.llow.symm ▸ hxn
        repeat' (first
    | (apply RunK.loadP 2000001; exact rfl; exact rfl; exact rfl; exact rfl; first | exact rfl | assumption) | (apply RunK.loadP 2000002; exact rfl; exact rfl; exact rfl; exact rfl; first | exact rfl | assumption) | (apply RunK.loadP 2000006; exact rfl; exact rfl; exact rfl; exact rfl; first | exact rfl | assumption) | (apply idxA; exact rfl; exact rfl; exact rfl; exact rfl; assumption) | (apply loadN 2000008; exact rfl; exact rfl; exact rfl; exact rfl; assumption) | (apply loadN 2000009; exact rfl; exact rfl; exact rfl; exact rfl; assumption) | (apply loadB 2000010; exact rfl; exact rfl; exact rfl; exact rfl; assumption) | (apply RunK.acts [2000000, 2000004, 2000007, 2000008, 2000009, 2000010, 2000012] 900002 (caps := capsOf B) («as» := [.v (.int .i64 (x : Int))]); (case hw => exact rfl); (case hp => exact hcall); (case hx => exact rfl); (case ha => (repeat (first | exact ArgsLe.nil | refine ArgsLe.cons ?_ ?_ | exact ArgLe.v _ | exact ArgLe.sl _ _ _ _ | exact ArgLe.nil _ | exact ArgLe.nil' | exact ArgLe.nsl _ _ _ _ _ | exact ArgLe.nsn _ | (apply ArgLe.bsl; exact rfl; (first | exact rfl | (rw [List.length_map]; done) | (simp only [List.length_map]; done) | (simp; done) | (simp; omega)); (first | assumption | exact map_len (fun _ => rfl)))))); (case hf => exact .kept 2000000 rfl rfl (.kept 2000001 rfl rfl (.kept 2000002 rfl rfl (.kept 2000003 rfl rfl (.kept 2000004 rfl rfl (.kept 2000005 rfl rfl (.kept 2000006 rfl rfl (.kept 2000007 rfl rfl (.kept 2000008 rfl rfl (.kept 2000009 rfl rfl (.kept 2000010 rfl rfl (.hdn 2000011 rfl rfl (.nest 2000012 rfl rfl rfl .nil))))))))))))); (case hap => (repeat' (first | exact trivial | exact apartB hB 1 [1, 5, 8, 9, 10, 11] rfl | exact apartB hB 2 [1, 5, 8, 9, 10, 11] rfl | exact apartB hB 3 [1, 5, 8, 9, 10, 11] rfl | exact apartB hB 4 [1, 5, 8, 9, 10, 11] rfl | exact apartB hB 5 [1, 5, 8, 9, 10, 11] rfl | exact apartB hB 6 [1, 5, 8, 9, 10, 11] rfl | exact apartB hB 7 [1, 5, 8, 9, 10, 11] rfl | exact apartB hB 8 [1, 5, 8, 9, 10, 11] rfl | exact apartB hB 9 [1, 5, 8, 9, 10, 11] rfl | exact apartB hB 10 [1, 5, 8, 9, 10, 11] rfl | exact apartB hB 11 [1, 5, 8, 9, 10, 11] rfl | refine And.intro ?_ ?_))); (case hng => exact rfl); intro res fs' hres _; obtain ⟨rfl, sr3, pr3, parts3, hR3, rfl⟩ := hres) | (apply storeM 2000009 (min (t2.low.getD i 0) (t2.low.getD x 0)); (case hw => exact rfl); (case hx => exact rfl); (case hy => exact rfl); (case hz => omega); (case hk => exact rfl); (case hh => exact rfl); (case hj => exact v9); (case hap => (repeat' (first | exact trivial | exact apartB hB 1 [10] rfl | exact apartB hB 2 [10] rfl | exact apartB hB 3 [10] rfl | exact apartB hB 4 [10] rfl | exact apartB hB 5 [10] rfl | exact apartB hB 6 [10] rfl | exact apartB hB 7 [10] rfl | exact apartB hB 8 [10] rfl | exact apartB hB 9 [10] rfl | exact apartB hB 10 [10] rfl | exact apartB hB 11 [10] rfl | refine And.intro ?_ ?_))))
    | refine Wt.seq ?_
    | (apply Wt.regionK; exact rfl)
    | (apply Wt.regionD; kernel_rfl; kernel_rfl; exact rfl; exact rfl)
    | refine Wt.block ?_
    | refine Wt.skip ?_
    | refine RunK.nil ?_
    | (apply RunK.moveV; exact rfl; exact rfl)
    | (apply RunK.index; exact rfl; exact rfl; exact rfl; (first | exact rfl | exact (rfl : (0 : Int) = ((0 : Nat) : Int)) | exact (rfl : (1 : Int) = ((1 : Nat) : Int)) | exact (rfl : (2 : Int) = ((2 : Nat) : Int)) | exact (rfl : (3 : Int) = ((3 : Nat) : Int)) | assumption); (first | omega | exact lt_of_get ‹_› | (rw [List.length_map]; omega) | (simp; omega)))
    | (apply RunK.loadE1; exact rfl; exact rfl; assumption; exact rfl)
    | (apply RunK.assignV; exact rfl; exact rfl)
    | (apply RunK.lss; exact rfl; exact rfl; exact rfl)
    | (apply RunK.eql; exact rfl; exact rfl; exact rfl)
    | (apply RunK.add; exact rfl; exact rfl; exact rfl; (first | omega | (simp only [List.length_map]; omega)))
    | (apply RunK.min; exact rfl; exact rfl; exact rfl)
    | (apply Wt.cond; exact rfl; all_goals (intro hg; (first | exact absurd hg (by decide) | skip); (first | (with_reducible replace hg := not_t hg) | (with_reducible replace hg := not_f hg) | skip); (first | (with_reducible replace hg := dec_t hg) | (with_reducible replace hg := dec_f hg) | skip); (first | (with_reducible exact absurd rfl hg) | skip); (repeat rw [List.length_map] at hg); try (exfalso; omega))))
        refine ⟨(k + 1, sr3, pr3, parts3), ⟨by dsimp only; omega, ?_⟩, by dsimp only; omega, ?_⟩
        · dsimp only; rw [hSk]; exact ⟨hR3.stack, hR3.scap, hR3.spine, hR3.pcap, hR3.parts⟩
        · dsimp only; rw [hSk]
          (refine Le.mk ?_ ?_; (repeat' (first | exact LeEnv.done | refine LeEnv.cons ?_ ?_ | exact PVLe.refl _ | exact PVLe.s (SVLe.nil _ _ _) | exact PVLe.s (SVLe.no _ _ _ _) | (refine PVLe.int ?_; first | rfl | omega | (simp; done) | (simp; omega)) | (refine PVLe.els ?_; first | rfl | assumption | (simp; done)) | (refine PVLe.bool ?_; first | rfl | assumption) | (refine PVLe.bsl ?_; first | rfl | assumption | (simp; done))));  (repeat' (first | exact LeBox.done | refine LeBox.cons ?_ ?_ | exact rfl)))
      · have hx0' : ¬ ((t.num.getD x 0 : Nat) : Int) = 0 := by have : ¬ t.num.getD x 0 = 0 := hx0; omega
        have u11 : x < t.on.length := hM.inv.lon.symm ▸ hxn
        rw [visit, if_neg hx0] at hSk
        cases hO : t.O x with
        | true =>
          rw [hO, if_pos rfl] at hSk
          have hbt : (bArr t.on)[x]? = some (.bool true) := by rw [bArr_at u11]; exact congrArg (fun b => some (Value.bool b)) hO
          repeat' (first
    | (apply RunK.loadP 2000001; exact rfl; exact rfl; exact rfl; exact rfl; first | exact rfl | assumption) | (apply RunK.loadP 2000002; exact rfl; exact rfl; exact rfl; exact rfl; first | exact rfl | assumption) | (apply RunK.loadP 2000003; exact rfl; exact rfl; exact rfl; exact rfl; first | exact rfl | assumption) | (apply RunK.loadP 2000010; exact rfl; exact rfl; exact rfl; exact rfl; first | exact rfl | assumption) | (apply idxA; exact rfl; exact rfl; exact rfl; exact rfl; assumption) | (apply loadN 2000008; exact rfl; exact rfl; exact rfl; exact rfl; assumption) | (apply loadN 2000009; exact rfl; exact rfl; exact rfl; exact rfl; assumption) | (apply loadB 2000010; exact rfl; exact rfl; exact rfl; exact rfl; assumption) | (apply storeM 2000009 (min (t.low.getD i 0) (t.num.getD x 0)); (case hw => exact rfl); (case hx => exact rfl); (case hy => exact rfl); (case hz => omega); (case hk => exact rfl); (case hh => exact rfl); (case hj => exact u10); (case hap => (repeat' (first | exact trivial | exact apartB hB 1 [10] rfl | exact apartB hB 2 [10] rfl | exact apartB hB 3 [10] rfl | exact apartB hB 4 [10] rfl | exact apartB hB 5 [10] rfl | exact apartB hB 6 [10] rfl | exact apartB hB 7 [10] rfl | exact apartB hB 8 [10] rfl | exact apartB hB 9 [10] rfl | exact apartB hB 10 [10] rfl | exact apartB hB 11 [10] rfl | refine And.intro ?_ ?_))))
    | refine Wt.seq ?_
    | (apply Wt.regionK; exact rfl)
    | (apply Wt.regionD; kernel_rfl; kernel_rfl; exact rfl; exact rfl)
    | refine Wt.block ?_
    | refine Wt.skip ?_
    | refine RunK.nil ?_
    | (apply RunK.moveV; exact rfl; exact rfl)
    | (apply RunK.index; exact rfl; exact rfl; exact rfl; (first | exact rfl | exact (rfl : (0 : Int) = ((0 : Nat) : Int)) | exact (rfl : (1 : Int) = ((1 : Nat) : Int)) | exact (rfl : (2 : Int) = ((2 : Nat) : Int)) | exact (rfl : (3 : Int) = ((3 : Nat) : Int)) | assumption); (first | omega | exact lt_of_get ‹_› | (rw [List.length_map]; omega) | (simp; omega)))
    | (apply RunK.loadE1; exact rfl; exact rfl; assumption; exact rfl)
    | (apply RunK.assignV; exact rfl; exact rfl)
    | (apply RunK.lss; exact rfl; exact rfl; exact rfl)
    | (apply RunK.eql; exact rfl; exact rfl; exact rfl)
    | (apply RunK.add; exact rfl; exact rfl; exact rfl; (first | omega | (simp only [List.length_map]; omega)))
    | (apply RunK.min; exact rfl; exact rfl; exact rfl)
    | (apply Wt.cond; exact rfl; all_goals (intro hg; (first | exact absurd hg (by decide) | skip); (first | (with_reducible replace hg := not_t hg) | (with_reducible replace hg := not_f hg) | skip); (first | (with_reducible replace hg := dec_t hg) | (with_reducible replace hg := dec_f hg) | skip); (first | (with_reducible exact absurd rfl hg) | skip); (repeat rw [List.length_map] at hg); try (exfalso; omega))))
          refine ⟨(k + 1, sr2, pr2, parts2), ⟨by dsimp only; omega, ?_⟩, by dsimp only; omega, ?_⟩
          · dsimp only; rw [hSk]; exact ⟨hR2.stack, hR2.scap, hR2.spine, hR2.pcap, hR2.parts⟩
          · dsimp only; rw [hSk]
            (refine Le.mk ?_ ?_; (repeat' (first | exact LeEnv.done | refine LeEnv.cons ?_ ?_ | exact PVLe.refl _ | exact PVLe.s (SVLe.nil _ _ _) | exact PVLe.s (SVLe.no _ _ _ _) | (refine PVLe.int ?_; first | rfl | omega | (simp; done) | (simp; omega)) | (refine PVLe.els ?_; first | rfl | assumption | (simp; done)) | (refine PVLe.bool ?_; first | rfl | assumption) | (refine PVLe.bsl ?_; first | rfl | assumption | (simp; done))));  (repeat' (first | exact LeBox.done | refine LeBox.cons ?_ ?_ | exact rfl)))
        | false =>
          rw [hO, if_neg (by decide)] at hSk
          have hbt : (bArr t.on)[x]? = some (.bool false) := by rw [bArr_at u11]; exact congrArg (fun b => some (Value.bool b)) hO
          repeat' (first
    | (apply RunK.loadP 2000001; exact rfl; exact rfl; exact rfl; exact rfl; first | exact rfl | assumption) | (apply RunK.loadP 2000003; exact rfl; exact rfl; exact rfl; exact rfl; first | exact rfl | assumption) | (apply RunK.loadP 2000010; exact rfl; exact rfl; exact rfl; exact rfl; first | exact rfl | assumption) | (apply idxA; exact rfl; exact rfl; exact rfl; exact rfl; assumption) | (apply loadN 2000008; exact rfl; exact rfl; exact rfl; exact rfl; assumption) | (apply loadN 2000009; exact rfl; exact rfl; exact rfl; exact rfl; assumption) | (apply loadB 2000010; exact rfl; exact rfl; exact rfl; exact rfl; assumption)
    | refine Wt.seq ?_
    | (apply Wt.regionK; exact rfl)
    | refine Wt.block ?_
    | refine Wt.skip ?_
    | refine RunK.nil ?_
    | (apply RunK.moveV; exact rfl; exact rfl)
    | (apply RunK.index; exact rfl; exact rfl; exact rfl; (first | exact rfl | exact (rfl : (0 : Int) = ((0 : Nat) : Int)) | exact (rfl : (1 : Int) = ((1 : Nat) : Int)) | exact (rfl : (2 : Int) = ((2 : Nat) : Int)) | exact (rfl : (3 : Int) = ((3 : Nat) : Int)) | assumption); (first | omega | exact lt_of_get ‹_› | (rw [List.length_map]; omega) | (simp; omega)))
    | (apply RunK.loadE1; exact rfl; exact rfl; assumption; exact rfl)
    | (apply RunK.assignV; exact rfl; exact rfl)
    | (apply RunK.lss; exact rfl; exact rfl; exact rfl)
    | (apply RunK.eql; exact rfl; exact rfl; exact rfl)
    | (apply RunK.add; exact rfl; exact rfl; exact rfl; (first | omega | (simp only [List.length_map]; omega)))
    | (apply Wt.cond; exact rfl; all_goals (intro hg; (first | exact absurd hg (by decide) | skip); (first | (with_reducible replace hg := not_t hg) | (with_reducible replace hg := not_f hg) | skip); (first | (with_reducible replace hg := dec_t hg) | (with_reducible replace hg := dec_f hg) | skip); (first | (with_reducible exact absurd rfl hg) | skip); (repeat rw [List.length_map] at hg); try (exfalso; omega))))
          refine ⟨(k + 1, sr2, pr2, parts2), ⟨by dsimp only; omega, ?_⟩, by dsimp only; omega, ?_⟩
          · dsimp only; rw [hSk]; exact hR2
          · dsimp only; rw [hSk]
            (refine Le.mk ?_ ?_; (repeat' (first | exact LeEnv.done | refine LeEnv.cons ?_ ?_ | exact PVLe.refl _ | exact PVLe.s (SVLe.nil _ _ _) | exact PVLe.s (SVLe.no _ _ _ _) | (refine PVLe.int ?_; first | rfl | omega | (simp; done) | (simp; omega)) | (refine PVLe.els ?_; first | rfl | assumption | (simp; done)) | (refine PVLe.bool ?_; first | rfl | assumption) | (refine PVLe.bsl ?_; first | rfl | assumption | (simp; done))));  (repeat' (first | exact LeBox.done | refine LeBox.cons ?_ ?_ | exact rfl)))
    · obtain rfl : k = row.length := by omega
      have hEnd := midS_end N f i s
      rw [hrow] at hEnd
      generalize midS N f i s row.length = t at hM hEnd hR2 ⊢
      have u9 : i < t.num.length := hM.inv.lnum.symm ▸ hi
      have u10 : i < t.low.length := hM.inv.llow.symm ▸ hi
      by_cases hLN : t.L i = t.N i
      · have hLN' : ((t.low.getD i 0 : Nat) : Int) = ((t.num.getD i 0 : Nat) : Int) := congrArg Int.ofNat hLN
        rw [TS.close, if_pos hLN] at hEnd
        rw [hEnd]
        obtain ⟨tl, hst, _, _⟩ := hM.app
        have hni : i ∉ s.stack := fun h => (hI.mem i h).2 hw
        have hidx : t.stack.idxOf i = s.stack.length := by rw [hst]; exact idxOf_app hni
        have hsl2 := stack_len hM.inv
        have hcl2 := count_le hM.inv
        have hpop : t.pop i = ⟨t.num, t.low, offs (t.stack.drop s.stack.length) t.on, t.stack.take s.stack.length, t.out ++ [sortN (t.stack.drop s.stack.length)], t.count⟩ := by rw [TS.pop, hidx]
        rw [hpop]
        obtain ⟨A, cap, els⟩ := sr2
        obtain rfl : els = _ := hR2.stack
        have hcap := hR2.scap
        dsimp only at hcap
        have hal : s.stack.length < t.stack.length := by rw [hst]; simp
        have hil : (intR t.stack).length = t.stack.length := by simp [intR]
        have hc1 := slIndex (intR t.stack) (i : Int) (by omega) s.stack.length (by rw [hst]; simp [intR]) (fun j hj e => by
          rw [hst] at e
          simp only [intR, List.map_append, List.getElem?_append_left (show j < (s.stack.map Int.ofNat).length by simpa using hj), List.getElem?_map] at e
          rcases hq : s.stack[j]? with _ | y
          · rw [hq] at e; cases e
          · rw [hq] at e
            have e2 : (y : Int) = (i : Int) := by simpa using e
            have : y = i := by omega
            exact hni (this ▸ List.mem_of_getElem? hq))
        generalize hdp : t.stack.drop s.stack.length = dp
        have hdl : dp.length + s.stack.length = t.stack.length := by rw [← hdp, List.length_drop]; omega
        have hdn : dp ≠ [] := fun h => by rw [h] at hdl; simp at hdl; omega
        have hc2 := slClone (intR dp) (by simp [intR]; omega) (fun h => hdn (by simpa [intR] using h))
        have hdn2 : intR dp ≠ [] := fun h => hdn (by simpa [intR] using h)
        rw [show ints (intR dp) = .sl none .no 1 (((intR t.stack).map ival).drop s.stack.length) from by rw [← hdp]; simp [intR]] at hc2
        have hle1 : s.stack.length ≤ ((intR t.stack).map ival).length := by rw [List.length_map, hil]; omega
        repeat' (first
    | (apply RunK.loadP 2000001; exact rfl; exact rfl; exact rfl; exact rfl; first | exact rfl | assumption) | (apply RunK.loadP 2000002; exact rfl; exact rfl; exact rfl; exact rfl; first | exact rfl | assumption) | (apply RunK.loadP 2000004; exact rfl; exact rfl; exact rfl; exact rfl; first | exact rfl | assumption) | (apply idxA; exact rfl; exact rfl; exact rfl; exact rfl; assumption) | (apply loadN 2000008; exact rfl; exact rfl; exact rfl; exact rfl; assumption) | (apply loadN 2000009; exact rfl; exact rfl; exact rfl; exact rfl; assumption) | (apply loadB 2000010; exact rfl; exact rfl; exact rfl; exact rfl; assumption) | (apply RunK.callS; exact rfl; exact rfl; exact hc1; (exact .nst (r := ⟨A, cap, (intR t.stack).map ival⟩) 2000012 rfl rfl rfl rfl (List.mem_cons_self ..) (.cons (.v _) .nil)); exact rfl) | (apply RunK.sliceFromN (r := ⟨A, cap, (intR t.stack).map ival⟩) (l := s.stack.length); exact rfl; exact rfl; exact rfl; exact rfl; exact hle1) | (apply RunK.callS; exact rfl; exact rfl; exact hc2; (exact .nsf (r := ⟨A, cap, (intR t.stack).map ival⟩) (l := s.stack.length) 2000012 rfl rfl rfl rfl (List.mem_cons_self ..) hle1 .nil); exact rfl) | (apply RunK.sliceToN (r := ⟨A, cap, (intR t.stack).map ival⟩) (l := s.stack.length); exact rfl; exact rfl; exact rfl; exact rfl; exact hle1; exact hcap) | (apply RunK.storeP 2000004; (case hw => exact rfl); (case hx => exact rfl); (case hy => exact rfl); (case hk => exact rfl); (case hj => exact Nat.zero_lt_one); (case hc => exact rfl); (case ho => exact rfl); (case hap => (repeat' (first | exact trivial | exact apartB hB 1 [5] rfl | exact apartB hB 2 [5] rfl | exact apartB hB 3 [5] rfl | exact apartB hB 4 [5] rfl | exact apartB hB 5 [5] rfl | exact apartB hB 6 [5] rfl | exact apartB hB 7 [5] rfl | exact apartB hB 8 [5] rfl | exact apartB hB 9 [5] rfl | exact apartB hB 10 [5] rfl | exact apartB hB 11 [5] rfl | refine And.intro ?_ ?_)))) | (refine Wt.weak (Turns.reN 2000012 0 (NRow.cut ⟨A, cap, (intR t.stack).map ival⟩ s.stack.length) rfl rfl rfl (fun T w h => h.cut _)) (Wt.regionK (i := 16) rfl ?_))
    | refine Wt.seq ?_
    | (apply Wt.regionK; exact rfl)
    | (apply Wt.regionD; kernel_rfl; kernel_rfl; exact rfl; exact rfl)
    | refine Wt.block ?_
    | refine Wt.skip ?_
    | refine Wt.exit ?_
    | refine RunK.nil ?_
    | (apply RunK.moveV; exact rfl; exact rfl)
    | (apply RunK.assignV; exact rfl; exact rfl)
    | (apply RunK.moveS; exact rfl; exact rfl)
    | (apply RunK.assignS; exact rfl; exact rfl)
    | (apply RunK.lss; exact rfl; exact rfl; exact rfl)
    | (apply RunK.neq; exact rfl; exact rfl; exact rfl)
    | (apply RunK.len; exact rfl; exact rfl)
    | (apply Wt.cond; exact rfl; all_goals (intro hg; (first | exact absurd hg (by decide) | skip); (first | (with_reducible replace hg := not_t hg) | (with_reducible replace hg := not_f hg) | skip); (first | (with_reducible replace hg := dec_t hg) | (with_reducible replace hg := dec_f hg) | skip); (first | (with_reducible exact absurd rfl hg) | skip); (repeat rw [List.length_map] at hg); try (exfalso; omega))))
        have h9e : (NRow.cut ⟨A, cap, (intR t.stack).map ival⟩ s.stack.length).els = (intR (t.stack.take s.stack.length)).map ival := by simp [NRow.cut, intR]
        have h9c : (NRow.cut ⟨A, cap, (intR t.stack).map ival⟩ s.stack.length).els.length ≤ (NRow.cut ⟨A, cap, (intR t.stack).map ival⟩ s.stack.length).cap := by rw [h9e]; simp only [intR, List.length_map, List.length_take] at hcap ⊢; show _ ≤ cap; omega
        generalize (NRow.cut ⟨A, cap, (intR t.stack).map ival⟩ s.stack.length) = sr9 at h9e h9c ⊢
        refine Wt.loop (fun k : Nat => ⟨(13, .s (.sl (some 94) (.front 3) 1 ((intR dp).map ival))) :: (98, .s (.sl (some 94) (.front 3) 1 ((intR dp).map ival))) :: (99, .s (.v (.int .i64 dp.length))) :: (100, .s (.v (.int .i64 k))) :: enS B hn N (.old W (keptOf (enF B hn N s sr pr parts))) i t.count t.num t.low (offs (dp.take k) t.on) sr9 sr9.hdr pr2 parts2, []⟩) (fun k => k ≤ dp.length) (fun k => dp.length - k) 0 (Nat.zero_le _) ?_ ?_
        · (refine Le.mk ?_ ?_; (repeat' (first | exact LeEnv.done | refine LeEnv.cons ?_ ?_ | exact PVLe.refl _ | exact PVLe.s (SVLe.nil _ _ _) | exact PVLe.s (SVLe.no _ _ _ _) | (refine PVLe.int ?_; first | rfl | omega | (simp; done) | (simp; omega)) | (refine PVLe.els ?_; first | rfl | assumption | (simp; done)) | (refine PVLe.bool ?_; first | rfl | assumption) | (refine PVLe.bsl ?_; first | rfl | assumption | (simp; done))));  (repeat' (first | exact LeBox.done | refine LeBox.cons ?_ ?_ | exact rfl)))
          all_goals (refine PVLe.int ?_; simp [intR])
        · intro k hk
          by_cases hkd : k < dp.length
          · skip
            obtain ⟨y, hy⟩ := exists_at hkd
            have hys : y ∈ t.stack := List.mem_of_mem_drop (hdp ▸ List.mem_of_getElem? hy)
            have hyn := (hM.inv.mem y hys).1
            have hy2 := int_get hy
            have hyo : y < (offs (dp.take k) t.on).length := by rw [offs_len, hM.inv.lon]; exact hyn
            repeat' (first
    | (apply RunK.loadP 2000003; exact rfl; exact rfl; exact rfl; exact rfl; first | exact rfl | assumption) | (apply idxA; exact rfl; exact rfl; exact rfl; exact rfl; assumption) | (apply loadN 2000008; exact rfl; exact rfl; exact rfl; exact rfl; assumption) | (apply loadN 2000009; exact rfl; exact rfl; exact rfl; exact rfl; assumption) | (apply loadB 2000010; exact rfl; exact rfl; exact rfl; exact rfl; assumption) | (apply storeB 2000010 false; (case hw => exact rfl); (case hx => exact rfl); (case hy => exact rfl); (case hk => exact rfl); (case hh => exact rfl); (case hj => exact hyo); (case hap => (repeat' (first | exact trivial | exact apartB hB 1 [11] rfl | exact apartB hB 2 [11] rfl | exact apartB hB 3 [11] rfl | exact apartB hB 4 [11] rfl | exact apartB hB 5 [11] rfl | exact apartB hB 6 [11] rfl | exact apartB hB 7 [11] rfl | exact apartB hB 8 [11] rfl | exact apartB hB 9 [11] rfl | exact apartB hB 10 [11] rfl | exact apartB hB 11 [11] rfl | refine And.intro ?_ ?_))))
    | refine Wt.seq ?_
    | (apply Wt.regionK; exact rfl)
    | refine Wt.block ?_
    | refine Wt.skip ?_
    | refine RunK.nil ?_
    | (apply RunK.moveV; exact rfl; exact rfl)
    | (apply RunK.index; exact rfl; exact rfl; exact rfl; (first | exact rfl | exact (rfl : (0 : Int) = ((0 : Nat) : Int)) | exact (rfl : (1 : Int) = ((1 : Nat) : Int)) | exact (rfl : (2 : Int) = ((2 : Nat) : Int)) | exact (rfl : (3 : Int) = ((3 : Nat) : Int)) | assumption); (first | omega | exact lt_of_get ‹_› | (rw [List.length_map]; omega) | (simp; omega)))
    | (apply RunK.loadE1; exact rfl; exact rfl; assumption; exact rfl)
    | (apply RunK.assignV; exact rfl; exact rfl)
    | (apply RunK.lss; exact rfl; exact rfl; exact rfl)
    | (apply RunK.add; exact rfl; exact rfl; exact rfl; (first | omega | (simp only [List.length_map]; omega)))
    | (apply Wt.cond; exact rfl; all_goals (intro hg; (first | exact absurd hg (by decide) | skip); (first | (with_reducible replace hg := not_t hg) | (with_reducible replace hg := not_f hg) | skip); (first | (with_reducible replace hg := dec_t hg) | (with_reducible replace hg := dec_f hg) | skip); (first | (with_reducible exact absurd rfl hg) | skip); (repeat rw [List.length_map] at hg); try (exfalso; omega))))
            refine ⟨k + 1, hkd, by omega, ?_⟩
            rw [offs_succ hy]
            (refine Le.mk ?_ ?_; (repeat' (first | exact LeEnv.done | refine LeEnv.cons ?_ ?_ | exact PVLe.refl _ | exact PVLe.s (SVLe.nil _ _ _) | exact PVLe.s (SVLe.no _ _ _ _) | (refine PVLe.int ?_; first | rfl | omega | (simp; done) | (simp; omega)) | (refine PVLe.els ?_; first | rfl | assumption | (simp; done)) | (refine PVLe.bool ?_; first | rfl | assumption) | (refine PVLe.bsl ?_; first | rfl | assumption | (simp; done))));  (repeat' (first | exact LeBox.done | refine LeBox.cons ?_ ?_ | exact rfl)))
          · obtain rfl : k = dp.length := by omega
            rw [List.take_of_length_le (Nat.le_refl _)]
            repeat' (first
    | (refine stopAt 21 ?_)
    | refine Wt.seq ?_
    | (apply Wt.regionK; exact rfl)
    | refine Wt.exit ?_
    | refine RunK.nil ?_
    | (apply RunK.lss; exact rfl; exact rfl; exact rfl)
    | (apply Wt.cond; exact rfl; all_goals (intro hg; (first | exact absurd hg (by decide) | skip); (first | (with_reducible replace hg := not_t hg) | (with_reducible replace hg := not_f hg) | skip); (first | (with_reducible replace hg := dec_t hg) | (with_reducible replace hg := dec_f hg) | skip); (first | (with_reducible exact absurd rfl hg) | skip); (repeat rw [List.length_map] at hg); try (exfalso; omega))))
            refine Stopped.mk' ?_
            refine Wt.le ⟨(13, .s (.sl (some 94) (.front 3) 1 ((intR dp).map ival))) :: enS B hn N (.old W (keptOf (enF B hn N s sr pr parts))) i t.count t.num t.low (offs dp t.on) sr9 sr9.hdr pr2 parts2, []⟩ (by (refine Le.mk ?_ ?_; (repeat' (first | exact LeEnv.done | refine LeEnv.cons ?_ ?_ | exact PVLe.refl _ | exact PVLe.s (SVLe.nil _ _ _) | exact PVLe.s (SVLe.no _ _ _ _) | (refine PVLe.int ?_; first | rfl | omega | (simp; done) | (simp; omega)) | (refine PVLe.els ?_; first | rfl | assumption | (simp; done)) | (refine PVLe.bool ?_; first | rfl | assumption) | (refine PVLe.bsl ?_; first | rfl | assumption | (simp; done))));  (repeat' (first | exact LeBox.done | refine LeBox.cons ?_ ?_ | exact rfl)))) ?_
            refine Wt.thaw 13 13 rfl rfl rfl ?_
            repeat' (first
    | (refine stopAt 22 ?_) | (apply RunK.sort (zs := intR dp) sortCall sortsInt; (case hw => exact rfl); (case hx => exact rfl); (case hb => exact rfl); (case hn => exact List.length_map ..); (case hne => exact hdn2); (case hsz => (simp [intR]; omega)))
    | (apply Wt.regionK; exact rfl)
    | refine RunK.nil ?_
    | (apply RunK.moveBs; exact rfl; exact rfl))
            refine Stopped.mk' ?_
            have e22 : boxOf ((13, ((isort (intR dp)).map iv).flatten) :: [(13, ((intR dp).map ival).flatten)]) 13 = some ((intR (sortN dp)).map ival).flatten := by rw [isort_nat]; rfl
            refine Wt.freeze 13 13 3 (els := (intR (sortN dp)).map ival) rfl e22 (by simp only [intR, List.length_map, (sortN_perm dp).length_eq]) (map_len (fun _ => rfl)) ?_
            refine Wt.weakS (Turns.pushN 13 2000012 rfl rfl rfl rfl) fun s1 hs1 => ?_
            obtain ⟨r, hre, hrc, rfl⟩ := hs1
            have hset : ((sr9 :: pr2 :: parts2) ++ [r]).set (parts2.length + 2) (r.clip r.els.length) = sr9 :: pr2 :: (parts2 ++ [r.clip r.els.length]) := by
              rw [List.cons_append, List.cons_append, List.set_cons_succ, List.set_cons_succ, List.set_append_right _ _ (Nat.le_refl _), Nat.sub_self]; rfl
            have hrc' : r.els.length ≤ r.cap := by rw [hre]; exact hrc
            refine Wt.weak (Turns.reN 2000012 (parts2.length + 2) (r.clip r.els.length) (r := r) rfl (by show (parts2 ++ [r])[parts2.length]? = some r; simp) rfl (fun T w h => h.clip hrc')) ?_
            rw [hset]
            refine Wt.le ⟨(13, .s (.v r.hdr)) :: enS B hn N (.old W (keptOf (enF B hn N s sr pr parts))) i t.count t.num t.low (offs dp t.on) sr9 sr9.hdr pr2 (parts2 ++ [r.clip r.els.length]), []⟩ (by (refine Le.mk ?_ ?_; (repeat' (first | exact LeEnv.done | refine LeEnv.cons ?_ ?_ | exact PVLe.refl _ | exact PVLe.s (SVLe.nil _ _ _) | exact PVLe.s (SVLe.no _ _ _ _) | (refine PVLe.int ?_; first | rfl | omega | (simp; done) | (simp; omega)) | (refine PVLe.els ?_; first | rfl | assumption | (simp; done)) | (refine PVLe.bool ?_; first | rfl | assumption) | (refine PVLe.bsl ?_; first | rfl | assumption | (simp; done))));  (repeat' (first | exact LeBox.done | refine LeBox.cons ?_ ?_ | exact rfl)))) ?_
            have hpl : pr2.els.length ≤ 1000000 := by rw [hR2.spine, List.length_map, ← List.length_map (f := (·.els)), hR2.parts, List.length_map]; have := hM.inv.outc; omega
            repeat' (first
    | (apply RunK.loadP 2000007; exact rfl; exact rfl; exact rfl; exact rfl; first | exact rfl | assumption) | (apply RunK.lenK; exact rfl; exact rfl) | (apply RunK.sliceFullN (r := r) (l := r.els.length); exact rfl; exact rfl; exact rfl; exact rfl; exact rfl; exact rfl; exact Nat.le_refl _; exact hrc') | (apply RunK.appendRN 2000012 900003 (i := 1) (r := pr2) (els2 := [[(r.clip r.els.length).hdr]]); (case hw => exact rfl); (case he => (first | exact (fun _ => rfl) | exact (fun h => nomatch h))); (case hx => exact rfl); (case htx => exact rfl); (case hk => exact rfl); (case hi => exact rfl); (case hh => exact rfl); (case hn => exact rfl); (case hnt => exact rfl); (case hd0 => exact rfl); (case hdx => exact rfl); (case hy => (first | exact ReadLe.sl _ _ _ _ | exact ReadLe.nil _)); (case hone => exact one_rows rfl); (case hb => (simp only [List.length_cons, List.length_nil]; omega)); intro pr3 hpr3 hprc) | (apply RunK.storePD 2000007; (case hw => exact rfl); (case hx => exact rfl); (case hy => exact rfl); (case hk => exact rfl); (case hh => exact rfl); (case hj => exact Nat.zero_lt_one); (case hc => exact rfl); (case ho => exact rfl); (case hap => (repeat' (first | exact trivial | exact apartB hB 1 [8] rfl | exact apartB hB 2 [8] rfl | exact apartB hB 3 [8] rfl | exact apartB hB 4 [8] rfl | exact apartB hB 5 [8] rfl | exact apartB hB 6 [8] rfl | exact apartB hB 7 [8] rfl | exact apartB hB 8 [8] rfl | exact apartB hB 9 [8] rfl | exact apartB hB 10 [8] rfl | exact apartB hB 11 [8] rfl | refine And.intro ?_ ?_))))
    | (apply Wt.regionD; kernel_rfl; kernel_rfl; exact rfl; exact rfl)
    | refine RunK.nil ?_
    | (apply RunK.moveV; exact rfl; exact rfl)
    | (apply RunK.rows; exact rfl; exact rfl; (repeat (first | exact PartsOk.nil | (apply PartsOk.cons; exact rfl) | (apply PartsOk.consN; exact rfl))); (repeat (first | exact Rows.nil _ | (apply Rows.cons; (first | exact Cells.agg _ | exact Cells.int _ _ | exact Cells.bool _ | exact Cells.one _ rfl); exact rfl))); exact rfl; exact rfl))
            have hce : (r.clip r.els.length).els = (intR (sortN dp)).map ival := by show r.els.take r.els.length = _; rw [List.take_of_length_le (Nat.le_refl _), hre]
            have hR9 : RowsOk ⟨t.num, t.low, offs dp t.on, t.stack.take s.stack.length, t.out ++ [sortN dp], t.count⟩ sr9 pr3 (parts2 ++ [r.clip r.els.length]) :=
              ⟨h9e, h9c, by rw [hpr3, hR2.spine]; exact (List.map_append (f := fun r : NRow => [r.hdr]) (l₁ := parts2) (l₂ := [r.clip r.els.length])).symm, hprc, by rw [List.map_append, hR2.parts, List.map_append]; exact congrArg (fun x => _ ++ [x]) hce⟩
            exact ActEnd.mk (.tup []) _ ⟨rfl, sr9, pr3, (parts2 ++ [r.clip r.els.length]), hR9, rfl⟩ .zero rfl rfl (.kept 2000000 rfl (.kept 2000004 rfl (.kept 2000007 rfl (.kept 2000008 rfl (.kept 2000009 rfl (.kept 2000010 rfl (.nest 2000012 rfl .nil))))))) (.turn 2000000 rfl (by simp) (.same 2000001 rfl (.same 2000002 rfl (.same 2000003 rfl (.turn 2000004 rfl (by simp) (.same 2000005 rfl (.same 2000006 rfl (.turn 2000007 rfl (by simp) (.turn 2000008 rfl (by simp) (.turn 2000009 rfl (by simp) (.turn 2000010 rfl (by simp) (.hd (.nest .nil)))))))))))))
      · skip
        have hLN' : ¬ ((t.low.getD i 0 : Nat) : Int) = ((t.num.getD i 0 : Nat) : Int) := fun h => hLN (Int.ofNat.inj h)
        rw [TS.close, if_neg hLN] at hEnd
        rw [hEnd]
        repeat' (first
    | (apply RunK.loadP 2000001; exact rfl; exact rfl; exact rfl; exact rfl; first | exact rfl | assumption) | (apply RunK.loadP 2000002; exact rfl; exact rfl; exact rfl; exact rfl; first | exact rfl | assumption) | (apply idxA; exact rfl; exact rfl; exact rfl; exact rfl; assumption) | (apply loadN 2000008; exact rfl; exact rfl; exact rfl; exact rfl; assumption) | (apply loadN 2000009; exact rfl; exact rfl; exact rfl; exact rfl; assumption) | (apply loadB 2000010; exact rfl; exact rfl; exact rfl; exact rfl; assumption)
    | refine Wt.seq ?_
    | (apply Wt.regionK; exact rfl)
    | (apply Wt.regionD; kernel_rfl; kernel_rfl; exact rfl; exact rfl)
    | refine Wt.ret ?_
    | refine Wt.exit ?_
    | refine RunK.nil ?_
    | (apply RunK.moveV; exact rfl; exact rfl)
    | (apply RunK.lss; exact rfl; exact rfl; exact rfl)
    | (apply RunK.neq; exact rfl; exact rfl; exact rfl)
    | (apply Wt.cond; exact rfl; all_goals (intro hg; (first | exact absurd hg (by decide) | skip); (first | (with_reducible replace hg := not_t hg) | (with_reducible replace hg := not_f hg) | skip); (first | (with_reducible replace hg := dec_t hg) | (with_reducible replace hg := dec_f hg) | skip); (first | (with_reducible exact absurd rfl hg) | skip); (repeat rw [List.length_map] at hg); try (exfalso; omega))))
        exact ActEnd.mk (.tup []) _ ⟨rfl, sr2, pr2, parts2, hR2, rfl⟩ .zero rfl rfl (.kept 2000000 rfl (.kept 2000004 rfl (.kept 2000007 rfl (.kept 2000008 rfl (.kept 2000009 rfl (.kept 2000010 rfl (.nest 2000012 rfl .nil))))))) (.turn 2000000 rfl (by simp) (.same 2000001 rfl (.same 2000002 rfl (.same 2000003 rfl (.turn 2000004 rfl (by simp) (.same 2000005 rfl (.same 2000006 rfl (.turn 2000007 rfl (by simp) (.turn 2000008 rfl (by simp) (.turn 2000009 rfl (by simp) (.turn 2000010 rfl (by simp) (.hd (.nest .nil)))))))))))))
set_option maxRecDepth 100000 in
theorem enterOk (N : G) (hN : GOk N) (hn1 : N.length ≤ 1000000) (hr : ∀ r ∈ N, r.length < 10000000000) : ∀ f, EnterOk N f
  | 0 => fun B hn gray s i sr pr parts _ hI hi hw _ hf _ => by
    have h1 := count_zero_pos (l := s.num) (i := i) (by rw [hI.lnum]; exact hi) hw
    have h2 := hI.cntw
    omega
  | f + 1 => enterW N hN hn1 hr f (enterOk N hN hn1 hr f)
end Go.Proofs.Ytfokjpmcifkoeaa
