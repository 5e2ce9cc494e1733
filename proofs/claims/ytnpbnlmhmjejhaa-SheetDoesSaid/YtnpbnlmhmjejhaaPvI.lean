/- The machine of values: maps. No condition. -/
import Derived.Test.YtnpbnlmhmjejhaaPvH
import Derived.Maps.RangeRun
import Derived.Shelf.SlSortCmp.WholeK
namespace Go.Proofs.Ytnpbnlmhmjejhaa.Pv
open Go Go.RowKit
/-! ### maps -/
/-- What the laws of a map need of its keys: structs, compared field by field. -/
structure KeyOk (P : Program) (k : TypeId) (Kv : Value → Prop) : Prop where
  check : ∀ (em : Bool) (w : World) (v : Value), Kv v → (Instr.checkKey em 10000 k v).run P w = .ok () w
  eq : ∀ (w : World) (x v : Value), Kv x → Kv v → ∃ r : Bool, (Op.equal k x v).run P w = .ok r w ∧ (r = true ↔ x = v)
  wide : ∃ fs, P.underlying k = some (.struct fs)
  stays : ∀ v, Kv v → Instr.sameBits 10000 v v = true
structure MapAt (Kv : Value → Prop) (es : Array MapEntry) (clock : Nat) : Prop where
  keys : ∀ e ∈ es.toList, Kv e.key
  apart : (es.toList.map (·.key)).Nodup
  born : (es.toList.map (·.born)).Nodup
  old : ∀ e ∈ es.toList, e.born < clock
def Has (es : Array MapEntry) (k v : Value) : Prop := ∃ e ∈ es.toList, e.key = k ∧ e.val = v
theorem MapAt.empty (Kv : Value → Prop) : MapAt Kv #[] 0 := ⟨fun _ h => (by cases h), .nil, .nil, fun _ h => (by cases h)⟩
section
variable {P : Program} {k : TypeId} {Kv : Value → Prop}
theorem run_findAsking (K : KeyOk P k Kv) {x : Value} (hx : Kv x) (w : World) : ∀ (es : List MapEntry) (i : Nat), (∀ e ∈ es, Kv e.key) → ((Instr.findAsking k x es i).run P w = .ok none w ∧ ∀ e ∈ es, e.key ≠ x) ∨ ∃ j e, (Instr.findAsking k x es i).run P w = .ok (some (i + j, e.val)) w ∧ es[j]? = some e ∧ e.key = x
  | [], i, _ => .inl ⟨rfl, fun _ h => (by cases h)⟩
  | e :: es, i, he => by
    obtain ⟨r, h1, h2⟩ := K.eq w x e.key hx (he e (List.mem_cons_self ..))
    cases r with
    | true =>
      refine .inr ⟨0, e, ?_, rfl, (h2.1 rfl).symm⟩
      simp only [Instr.findAsking, Sem.run_bind, h1, Result.andThen_ok, if_true]
      rfl
    | false =>
      have hne : e.key ≠ x := fun h => by have := h2.2 h.symm; cases this
      rcases run_findAsking K hx w es (i + 1) (fun y hy => he y (List.mem_cons_of_mem _ hy)) with ⟨q1, q2⟩ | ⟨j, y, q1, q2, q3⟩
      · refine .inl ⟨?_, fun y hy => ?_⟩
        · simp only [Instr.findAsking, Sem.run_bind, h1, Result.andThen_ok, Bool.false_eq_true, if_false]
          exact q1
        · rcases List.mem_cons.1 hy with rfl | hy
          · exact hne
          · exact q2 y hy
      · refine .inr ⟨j + 1, y, ?_, q2, q3⟩
        simp only [Instr.findAsking, Sem.run_bind, h1, Result.andThen_ok, Bool.false_eq_true, if_false]
        rw [q1, show i + 1 + j = i + (j + 1) by omega]
theorem run_findKey (K : KeyOk P k Kv) {x : Value} (hx : Kv x) (w : World) (es : List MapEntry) (he : ∀ e ∈ es, Kv e.key) : ((Instr.findKey k x es).run P w = .ok none w ∧ ∀ e ∈ es, e.key ≠ x) ∨ ∃ j e, (Instr.findKey k x es).run P w = .ok (some (j, e.val)) w ∧ es[j]? = some e ∧ e.key = x := by
  obtain ⟨fs, hu⟩ := K.wide
  cases es with
  | nil => exact .inl ⟨by simp [Instr.findKey, run_underlying hu, Instr.findNow], fun _ h => (by cases h)⟩
  | cons e es =>
    have hn : Instr.findNow (.struct fs) x (e :: es) 0 = none := rfl
    rcases run_findAsking K hx w (e :: es) 0 he with ⟨q1, q2⟩ | ⟨j, y, q1, q2, q3⟩
    · exact .inl ⟨by simp only [Instr.findKey, Sem.run_bind, run_underlying hu, Result.andThen_ok, hn]; exact q1, q2⟩
    · refine .inr ⟨j, y, ?_, q2, q3⟩
      simp only [Instr.findKey, Sem.run_bind, run_underlying hu, Result.andThen_ok, hn]
      rw [q1, Nat.zero_add]
theorem MapAt.val {es : Array MapEntry} {clock : Nat} (h : MapAt Kv es clock) {e : MapEntry} {v : Value} (he : e ∈ es.toList) (hv : Has es e.key v) : e.val = v := by
  obtain ⟨e', h1, h2, h3⟩ := hv
  have : e' = e := by
    have hn := h.apart
    rw [List.nodup_iff_pairwise_ne, List.pairwise_map] at hn
    refine Classical.byContradiction fun hne => ?_
    rcases List.append_of_mem he with ⟨A, B, hl⟩
    rw [hl] at hn h1
    rw [List.pairwise_append] at hn
    obtain ⟨_, n2, n3⟩ := hn
    have n4 := (List.pairwise_cons.1 n2).1
    rcases List.mem_append.1 h1 with h1 | h1
    · exact n3 e' h1 e (List.mem_cons_self ..) h2
    · rcases List.mem_cons.1 h1 with h1 | h1
      · exact hne h1
      · exact n4 e' h1 h2.symm
  rw [← this, h3]
theorem run_lookup1 (K : KeyOk P k Kv) {t el : TypeId} (ht : P.underlying t = some (.map k el)) {w : World} {b : Nat} {es : Array MapEntry} {clock : Nat} (hb : w.heap[b]? = some (.map es clock)) (hM : MapAt Kv es clock) {x v : Value} (hx : Kv x) (hv : Has es x v) (ok : Bool) :
    (Instr.lookup t (.map (some b)) x ok).run P w = .ok (if ok then .tuple #[v, .bool true] else v) w := by
  rcases run_findKey K hx w es.toList hM.keys with ⟨_, q⟩ | ⟨j, e, q1, q2, q3⟩
  · obtain ⟨e, h1, h2, _⟩ := hv
    exact absurd h2 (q e h1)
  · have he := List.mem_of_getElem? q2
    have hev : e.val = v := hM.val he (by rw [q3]; exact hv)
    simp only [Instr.lookup, Sem.run_bind, run_underlying ht, MapKept.run_getObj_map hb, Result.andThen_ok, K.check _ w x hx, q1, hev, Sem.run_pure]
theorem run_lookup0 (K : KeyOk P k Kv) {t el : TypeId} (ht : P.underlying t = some (.map k el)) {z : Value} [hz : TyZero P el z] {w : World} {b : Nat} {es : Array MapEntry} {clock : Nat} (hb : w.heap[b]? = some (.map es clock)) (hM : MapAt Kv es clock) {x : Value} (hx : Kv x) (hv : ∀ v, ¬Has es x v) (ok : Bool) :
    (Instr.lookup t (.map (some b)) x ok).run P w = .ok (if ok then .tuple #[z, .bool false] else z) w := by
  rcases run_findKey K hx w es.toList hM.keys with ⟨q1, _⟩ | ⟨j, e, q1, q2, q3⟩
  · simp only [Instr.lookup, Sem.run_bind, run_underlying ht, MapKept.run_getObj_map hb, Result.andThen_ok, K.check _ w x hx, q1, Sem.run_pure, run_zeroValue (z := z)]
  · exact absurd ⟨e, List.mem_of_getElem? q2, q3, rfl⟩ (hv e.val)
theorem split_at {α : Type} {l : List α} {j : Nat} {e : α} (h : l[j]? = some e) : l = l.take j ++ e :: l.drop (j + 1) := by
  obtain ⟨hj, he⟩ := List.getElem?_eq_some_iff.1 h
  rw [← he, List.getElem_cons_drop, List.take_append_drop]
theorem nodup_mid {α : Type} {A B : List α} {e : α} (h : (A ++ e :: B).Nodup) : (A ++ B).Nodup ∧ e ∉ A ∧ e ∉ B := by
  rw [List.nodup_append, List.nodup_cons] at h
  obtain ⟨h1, ⟨h2, h3⟩, h4⟩ := h
  refine ⟨List.nodup_append.2 ⟨h1, h3, fun a ha b hb => h4 a ha b (List.mem_cons_of_mem _ hb)⟩, fun ha => h4 e ha e (List.mem_cons_self ..) rfl, h2⟩
theorem run_mapUpdate (K : KeyOk P k Kv) {t el : TypeId} (ht : P.underlying t = some (.map k el)) {w : World} {b : Nat} {es : Array MapEntry} {clock : Nat} (hb : w.heap[b]? = some (.map es clock)) (hM : MapAt Kv es clock) {x v : Value} (hx : Kv x) :
    ∃ es' clock', MapAt Kv es' clock' ∧ (∀ k' v', Has es' k' v' ↔ (k' = x ∧ v' = v) ∨ (k' ≠ x ∧ Has es k' v')) ∧ (Instr.mapUpdate t (.map (some b)) x v).run P w = .ok () (w.putObj b (.map es' clock')) := by
  rcases run_findKey K hx w es.toList hM.keys with ⟨q1, q2⟩ | ⟨j, e, q1, q2, q3⟩
  · refine ⟨es.push { key := x, val := v, born := clock }, clock + 1, ⟨fun e he => ?_, ?_, ?_, fun e he => ?_⟩, fun k' v' => ?_, ?_⟩
    · rw [Array.toList_push, List.mem_append, List.mem_singleton] at he
      rcases he with he | rfl
      · exact hM.keys e he
      · exact hx
    · rw [Array.toList_push, List.map_append, List.nodup_append]
      refine ⟨hM.apart, List.nodup_cons.2 ⟨List.not_mem_nil, .nil⟩, fun a ha c hc => ?_⟩
      obtain ⟨e, he, rfl⟩ := List.mem_map.1 ha
      rw [List.map_singleton, List.mem_singleton] at hc
      rw [hc]
      exact q2 e he
    · rw [Array.toList_push, List.map_append, List.nodup_append]
      refine ⟨hM.born, List.nodup_cons.2 ⟨List.not_mem_nil, .nil⟩, fun a ha c hc => ?_⟩
      obtain ⟨e, he, rfl⟩ := List.mem_map.1 ha
      rw [List.map_singleton, List.mem_singleton] at hc
      rw [hc]
      exact Nat.ne_of_lt (hM.old e he)
    · rw [Array.toList_push, List.mem_append, List.mem_singleton] at he
      rcases he with he | rfl
      · exact Nat.lt_succ_of_lt (hM.old e he)
      · exact Nat.lt_succ_self _
    · unfold Has
      constructor
      · rintro ⟨e, he, h1, h2⟩
        rw [Array.toList_push, List.mem_append, List.mem_singleton] at he
        rcases he with he | rfl
        · exact .inr ⟨fun h => q2 e he (h1.trans h), e, he, h1, h2⟩
        · exact .inl ⟨h1.symm, h2.symm⟩
      · rintro (⟨rfl, rfl⟩ | ⟨_, e, he, h⟩)
        · exact ⟨_, by rw [Array.toList_push]; exact List.mem_append_right _ (List.mem_singleton_self _), rfl, rfl⟩
        · exact ⟨e, by rw [Array.toList_push]; exact List.mem_append_left _ he, h⟩
    · simp only [Instr.mapUpdate, Sem.run_bind, run_underlying ht, MapKept.run_getObj_map hb, Result.andThen_ok, K.check _ w x hx, q1, run_setObj_put hb (fun _ _ _ h => (by cases h))]
  · have hspl := split_at q2
    have hkeep : (Instr.keyThatStays x x).run P w = .ok x w := by simp [Instr.keyThatStays, K.stays x hx]
    have hej : es[j]? = some e := by rw [← Array.getElem?_toList]; exact q2
    have hl : (es.modify j fun e => { e with key := x, val := v }).toList = es.toList.take j ++ { e with key := x, val := v } :: es.toList.drop (j + 1) := by
      rw [Array.toList_modify, List.modify_eq_take_cons_drop (List.getElem?_eq_some_iff.1 q2).1, (List.getElem?_eq_some_iff.1 q2).2]
    generalize es.toList.take j = A at hspl hl
    generalize es.toList.drop (j + 1) = B at hspl hl
    have hap := hM.apart
    rw [hspl, List.map_append, List.map_cons] at hap
    obtain ⟨_, n2, n3⟩ := nodup_mid hap
    rw [q3] at n2 n3
    refine ⟨es.modify j fun e => { e with key := x, val := v }, clock, ⟨fun e' he => ?_, ?_, ?_, fun e' he => ?_⟩, fun k' v' => ?_, ?_⟩
    · rw [hl, List.mem_append, List.mem_cons] at he
      rcases he with he | rfl | he
      · exact hM.keys e' (by rw [hspl]; exact List.mem_append_left _ he)
      · exact hx
      · exact hM.keys e' (by rw [hspl]; exact List.mem_append_right _ (List.mem_cons_of_mem _ he))
    · rw [hl, List.map_append, List.map_cons]
      rw [q3] at hap
      exact hap
    · rw [hl, List.map_append, List.map_cons]
      have := hM.born
      rw [hspl, List.map_append, List.map_cons] at this
      exact this
    · rw [hl, List.mem_append, List.mem_cons] at he
      rcases he with he | rfl | he
      · exact hM.old e' (by rw [hspl]; exact List.mem_append_left _ he)
      · exact hM.old e (by rw [hspl]; exact List.mem_append_right _ (List.mem_cons_self ..))
      · exact hM.old e' (by rw [hspl]; exact List.mem_append_right _ (List.mem_cons_of_mem _ he))
    · unfold Has
      rw [hl, hspl]
      constructor
      · rintro ⟨e', he, h1, h2⟩
        rw [List.mem_append, List.mem_cons] at he
        rcases he with he | rfl | he
        · exact .inr ⟨fun h => n2 (List.mem_map.2 ⟨e', he, h1.trans h⟩), e', List.mem_append_left _ he, h1, h2⟩
        · exact .inl ⟨h1.symm, h2.symm⟩
        · exact .inr ⟨fun h => n3 (List.mem_map.2 ⟨e', he, h1.trans h⟩), e', List.mem_append_right _ (List.mem_cons_of_mem _ he), h1, h2⟩
      · rintro (⟨rfl, rfl⟩ | ⟨hne, e', he, h⟩)
        · exact ⟨_, List.mem_append_right _ (List.mem_cons_self ..), rfl, rfl⟩
        · rw [List.mem_append, List.mem_cons] at he
          rcases he with he | rfl | he
          · exact ⟨e', List.mem_append_left _ he, h⟩
          · exact absurd (h.1.symm.trans q3) hne
          · exact ⟨e', List.mem_append_right _ (List.mem_cons_of_mem _ he), h⟩
    · simp only [Instr.mapUpdate, Sem.run_bind, run_underlying ht, MapKept.run_getObj_map hb, Result.andThen_ok, K.check _ w x hx, q1, hej, Option.map_some, Option.getD_some, q3, hkeep, run_setObj_put hb (fun _ _ _ h => (by cases h))]
theorem run_delete (K : KeyOk P k Kv) {t el kt : TypeId} (ht : P.underlying t = some (.map k el)) {ty : TypeId} {w : World} {b : Nat} {es : Array MapEntry} {clock : Nat} (hb : w.heap[b]? = some (.map es clock)) (hM : MapAt Kv es clock) {x : Value} (hx : Kv x) :
    ∃ es', MapAt Kv es' clock ∧ (∀ k' v', Has es' k' v' ↔ (k' ≠ x ∧ Has es k' v')) ∧ (Builtin.delete_ #[t, kt] ty #[.map (some b), x]).run P w = .ok (.tuple #[]) (w.putObj b (.map es' clock)) := by
  rcases run_findKey K hx w es.toList hM.keys with ⟨q1, q2⟩ | ⟨j, e, q1, q2, q3⟩
  · refine ⟨es, hM, fun k' v' => ⟨fun ⟨e, he, h1, h2⟩ => ⟨fun h => q2 e he (h1.trans h), e, he, h1, h2⟩, fun h => h.2⟩, ?_⟩
    simp [Builtin.delete_, run_underlying ht, MapKept.run_getObj_map hb, K.check _ w x hx, q1, run_setObj_put hb (fun _ _ _ h => (by cases h))]
  · have hspl := split_at q2
    have hjlt : j < es.size := by have := (List.getElem?_eq_some_iff.1 q2).1; simpa using this
    have hl : (es.eraseIdxIfInBounds j).toList = es.toList.take j ++ es.toList.drop (j + 1) := by
      rw [Array.toList_eraseIdxIfInBounds, List.eraseIdx_eq_take_drop_succ]
    generalize es.toList.take j = A at hspl hl
    generalize es.toList.drop (j + 1) = B at hspl hl
    have hap := hM.apart
    rw [hspl, List.map_append, List.map_cons] at hap
    obtain ⟨n1, n2, n3⟩ := nodup_mid hap
    rw [q3] at n2 n3
    have hsub : ∀ e' ∈ A ++ B, e' ∈ es.toList := fun e' he => by
      rw [hspl]
      rcases List.mem_append.1 he with he | he
      · exact List.mem_append_left _ he
      · exact List.mem_append_right _ (List.mem_cons_of_mem _ he)
    refine ⟨es.eraseIdxIfInBounds j, ⟨fun e' he => hM.keys e' (hsub e' (hl ▸ he)), ?_, ?_, fun e' he => hM.old e' (hsub e' (hl ▸ he))⟩, fun k' v' => ?_, ?_⟩
    · rw [hl, List.map_append]; exact n1
    · have := hM.born
      rw [hspl, List.map_append, List.map_cons] at this
      rw [hl, List.map_append]
      exact (nodup_mid this).1
    · unfold Has
      rw [hl]
      constructor
      · rintro ⟨e', he, h1, h2⟩
        refine ⟨fun h => ?_, e', hsub e' he, h1, h2⟩
        rcases List.mem_append.1 he with he | he
        · exact n2 (List.mem_map.2 ⟨e', he, h1.trans h⟩)
        · exact n3 (List.mem_map.2 ⟨e', he, h1.trans h⟩)
      · rintro ⟨hne, e', he, h⟩
        rw [hspl, List.mem_append, List.mem_cons] at he
        rcases he with he | rfl | he
        · exact ⟨e', List.mem_append_left _ he, h⟩
        · exact absurd (h.1.symm.trans q3) hne
        · exact ⟨e', List.mem_append_right _ he, h⟩
    · simp [Builtin.delete_, run_underlying ht, MapKept.run_getObj_map hb, K.check _ w x hx, q1, run_setObj_put hb (fun _ _ _ h => (by cases h))]
end
section
variable {dr : Bool} {P : Program} {ops : Array Oper} {rest : List Oper} {env : List (Nat × PV)} {bs : List (Nat × List Value)} {K : St → Prop} {d : Nat} {op : Op} {ty : TypeId} {pos : String} {aft : Array Edge} {g : Option (Nat × Bool)} {kt : TypeId} {Kv : Value → Prop}
theorem RunK.lookup1 {t el : TypeId} (hK : KeyOk P kt Kv) (ht : P.underlying t = some (.map kt el)) {x y : Operand} {b clock : Nat} {es : Array MapEntry} {u v : Value} (h : Nat) (hw : wantedS ops ⟨env, bs⟩ ⟨some d, .lookup t x y false, ty, pos, aft, g⟩ = some true) (hx : (St.mk env bs).ev x = .s (.v (.map (some b)))) (hy : (St.mk env bs).ev y = .s (.v u)) (hh : Nat.ble 1000000 h = true) (hk : look env h = .kept b (.map es clock)) (hM : MapAt Kv es clock) (hu : Kv u) (hv : Has es u v)
    (k : RunK dr P ops rest ⟨(d, .s (.v v)) :: env, bs⟩ K) : RunK dr P ops (⟨some d, .lookup t x y false, ty, pos, aft, g⟩ :: rest) ⟨env, bs⟩ K :=
  .plainK rfl hw (fun a w hs => by
    have h1 := hs.v x _ (by simp [Op.operands]) hx
    have h2 := hs.v y _ (by simp [Op.operands]) hy
    have h3 := hs.k h b _ (Nat.ble_eq ▸ hh) hk
    simp [execOp, h1, h2, run_lookup1 hK ht h3 hM hu hv]) k
theorem RunK.lookup0 {t el : TypeId} {z : Value} [TyZero P el z] (hK : KeyOk P kt Kv) (ht : P.underlying t = some (.map kt el)) {x y : Operand} {b clock : Nat} {es : Array MapEntry} {u : Value} (h : Nat) (hw : wantedS ops ⟨env, bs⟩ ⟨some d, .lookup t x y false, ty, pos, aft, g⟩ = some true) (hx : (St.mk env bs).ev x = .s (.v (.map (some b)))) (hy : (St.mk env bs).ev y = .s (.v u)) (hh : Nat.ble 1000000 h = true) (hk : look env h = .kept b (.map es clock)) (hM : MapAt Kv es clock) (hu : Kv u) (hv : ∀ v, ¬Has es u v)
    (k : RunK dr P ops rest ⟨(d, .s (.v z)) :: env, bs⟩ K) : RunK dr P ops (⟨some d, .lookup t x y false, ty, pos, aft, g⟩ :: rest) ⟨env, bs⟩ K :=
  .plainK rfl hw (fun a w hs => by
    have h1 := hs.v x _ (by simp [Op.operands]) hx
    have h2 := hs.v y _ (by simp [Op.operands]) hy
    have h3 := hs.k h b _ (Nat.ble_eq ▸ hh) hk
    simp [execOp, h1, h2, run_lookup0 (z := z) hK ht h3 hM hu hv]) k
theorem RunK.lookupOk1 {t el : TypeId} (hK : KeyOk P kt Kv) (ht : P.underlying t = some (.map kt el)) {x y : Operand} {b clock : Nat} {es : Array MapEntry} {u v : Value} (h : Nat) (hw : wantedS ops ⟨env, bs⟩ ⟨some d, .lookup t x y true, ty, pos, aft, g⟩ = some true) (hx : (St.mk env bs).ev x = .s (.v (.map (some b)))) (hy : (St.mk env bs).ev y = .s (.v u)) (hh : Nat.ble 1000000 h = true) (hk : look env h = .kept b (.map es clock)) (hM : MapAt Kv es clock) (hu : Kv u) (hv : Has es u v)
    (k : RunK dr P ops rest ⟨(d, .tup [.v v, .v (.bool true)]) :: env, bs⟩ K) : RunK dr P ops (⟨some d, .lookup t x y true, ty, pos, aft, g⟩ :: rest) ⟨env, bs⟩ K :=
  .plainT (l := [v, .bool true]) rfl hw (fun a w hs => by
    have h1 := hs.v x _ (by simp [Op.operands]) hx
    have h2 := hs.v y _ (by simp [Op.operands]) hy
    have h3 := hs.k h b _ (Nat.ble_eq ▸ hh) hk
    simp [execOp, h1, h2, run_lookup1 hK ht h3 hM hu hv]) k
theorem RunK.lookupOk0 {t el : TypeId} {z : Value} [TyZero P el z] (hK : KeyOk P kt Kv) (ht : P.underlying t = some (.map kt el)) {x y : Operand} {b clock : Nat} {es : Array MapEntry} {u : Value} (h : Nat) (hw : wantedS ops ⟨env, bs⟩ ⟨some d, .lookup t x y true, ty, pos, aft, g⟩ = some true) (hx : (St.mk env bs).ev x = .s (.v (.map (some b)))) (hy : (St.mk env bs).ev y = .s (.v u)) (hh : Nat.ble 1000000 h = true) (hk : look env h = .kept b (.map es clock)) (hM : MapAt Kv es clock) (hu : Kv u) (hv : ∀ v, ¬Has es u v)
    (k : RunK dr P ops rest ⟨(d, .tup [.v z, .v (.bool false)]) :: env, bs⟩ K) : RunK dr P ops (⟨some d, .lookup t x y true, ty, pos, aft, g⟩ :: rest) ⟨env, bs⟩ K :=
  .plainT (l := [z, .bool false]) rfl hw (fun a w hs => by
    have h1 := hs.v x _ (by simp [Op.operands]) hx
    have h2 := hs.v y _ (by simp [Op.operands]) hy
    have h3 := hs.k h b _ (Nat.ble_eq ▸ hh) hk
    simp [execOp, h1, h2, run_lookup0 (z := z) hK ht h3 hM hu hv]) k
theorem RunK.lenM {t k0 el : TypeId} (hu : P.underlying t = some (.map k0 el)) {x : Operand} {b clock : Nat} {es : Array MapEntry} (h : Nat) (hw : wantedS ops ⟨env, bs⟩ ⟨some d, .call ⟨.builtin .len, #[x], #[t]⟩, ty, pos, aft, g⟩ = some true) (hx : (St.mk env bs).ev x = .s (.v (.map (some b)))) (hh : Nat.ble 1000000 h = true) (hk : look env h = .kept b (.map es clock))
    (k : RunK dr P ops rest ⟨(d, .s (.v (.int .i64 (es.size : Int)))) :: env, bs⟩ K) : RunK dr P ops (⟨some d, .call ⟨.builtin .len, #[x], #[t]⟩, ty, pos, aft, g⟩ :: rest) ⟨env, bs⟩ K :=
  .plainK rfl hw (fun a w hs => by
    have h1 := hs.v x _ (by simp [Op.operands, Call.operands]) hx
    have h3 := hs.k h b _ (Nat.ble_eq ▸ hh) hk
    simp [execOp, resolve, invoke, builtin, Builtin.len_, run_underlying hu, h1, goInt, MapKept.run_getObj_map h3]) k
theorem Eff.mapUpdate {t el : TypeId} (hK : KeyOk P kt Kv) (ht : P.underlying t = some (.map kt el)) {x y z : Operand} {b clock : Nat} {es : Array MapEntry} {u v : Value} (h : Nat) (hx : (St.mk env bs).ev x = .s (.v (.map (some b)))) (hy : (St.mk env bs).ev y = .s (.v u)) (hz : (St.mk env bs).ev z = .s (.v v)) (hk : look env h = .kept b (.map es clock)) (hM : MapAt Kv es clock) (hu : Kv u) (hap : ApartE [b] (rmS [h] env)) :
    Eff P ⟨none, .mapUpdate t x y z, ty, pos, aft, g⟩ ⟨env, bs⟩ (fun s1 => ∃ es' clock', MapAt Kv es' clock' ∧ (∀ k' v', Has es' k' v' ↔ (k' = u ∧ v' = v) ∨ (k' ≠ u ∧ Has es k' v')) ∧ s1 = ⟨(h, .kept b (.map es' clock')) :: rmS [h] env, bs⟩) :=
  (Eff.turnObj h (fun _ o' => ∃ es' clock', MapAt Kv es' clock' ∧ (∀ k' v', Has es' k' v' ↔ (k' = u ∧ v' = v) ∨ (k' ≠ u ∧ Has es k' v')) ∧ o' = .map es' clock') hk hap (fun a w hs hb => by
    have h1 := hs.v x _ (by simp [Op.operands]) hx
    have h2 := hs.v y _ (by simp [Op.operands]) hy
    have h3 := hs.v z _ (by simp [Op.operands]) hz
    obtain ⟨es', clock', q1, q2, q3⟩ := run_mapUpdate hK ht hb hM hu (v := v)
    exact ⟨.tuple #[], .any, _, _, ⟨es', clock', q1, q2, rfl⟩, fun _ _ _ _ => trivial, .put .., .inr ⟨rfl, by simp [execOp, h1, h2, h3, q3]⟩⟩)).post fun s1 ⟨pv, o', ⟨es', clock', q1, q2, q3⟩, e⟩ => ⟨es', clock', q1, q2, by rw [e, q3]; rfl⟩
theorem Eff.delete {t el t2 : TypeId} (hK : KeyOk P kt Kv) (ht : P.underlying t = some (.map kt el)) {x y : Operand} {b clock : Nat} {es : Array MapEntry} {u : Value} (h : Nat) (hx : (St.mk env bs).ev x = .s (.v (.map (some b)))) (hy : (St.mk env bs).ev y = .s (.v u)) (hk : look env h = .kept b (.map es clock)) (hM : MapAt Kv es clock) (hu : Kv u) (hap : ApartE [b] (rmS [h] env)) :
    Eff P ⟨none, .call ⟨.builtin .delete, #[x, y], #[t, t2]⟩, ty, pos, aft, g⟩ ⟨env, bs⟩ (fun s1 => ∃ es', MapAt Kv es' clock ∧ (∀ k' v', Has es' k' v' ↔ (k' ≠ u ∧ Has es k' v')) ∧ s1 = ⟨(h, .kept b (.map es' clock)) :: rmS [h] env, bs⟩) :=
  (Eff.turnObj h (fun _ o' => ∃ es', MapAt Kv es' clock ∧ (∀ k' v', Has es' k' v' ↔ (k' ≠ u ∧ Has es k' v')) ∧ o' = .map es' clock) hk hap (fun a w hs hb => by
    have h1 := hs.v x _ (by simp [Op.operands, Call.operands]) hx
    have h2 := hs.v y _ (by simp [Op.operands, Call.operands]) hy
    obtain ⟨es', q1, q2, q3⟩ := run_delete (kt := t2) (ty := ty) hK ht hb hM hu
    exact ⟨.tuple #[], .any, _, _, ⟨es', q1, q2, rfl⟩, fun _ _ _ _ => trivial, .put .., .inl (by simp [execOp, resolve, invoke, builtin, h1, h2, q3])⟩)).post fun s1 ⟨pv, o', ⟨es', q1, q2, q3⟩, e⟩ => ⟨es', q1, q2, by rw [e, q3]; rfl⟩
theorem wf_turn {h b : Nat} {o : Obj} (hs : List Nat) (hw : Wf ⟨env, bs⟩) : Wf ⟨(h, .kept b o) :: rmS hs env, bs⟩ := fun t id ht => by
  have ht' : (look ((h, PV.kept b o) :: rmS hs env) t).isBox id = true := ht
  rw [look_put] at ht'
  split at ht'
  · cases ht'
  · rcases look_rmS hs env t with e | e
    · rw [e] at ht'; cases ht'
    · rw [e] at ht'; exact hw t id ht'
theorem tame_turn {h b : Nat} {ob : Obj} {o : Oper} (h3 : (Nat.ble 1000000 h && Nat.blt h 3000000) = true) : Tame o ⟨env, bs⟩ ⟨(h, .kept b ob) :: rmS [h] env, bs⟩ := fun t ht _ _ => by
  rw [Bool.and_eq_true, Nat.ble_eq, Nat.blt_eq] at h3
  have hm : t ≠ h := fun e => by omega
  show look ((h, _) :: rmS [h] env) t = look env t
  rw [look_put, if_neg hm.symm, look_rmS_ne (fun hx => hm (List.mem_singleton.1 hx))]
theorem RunK.mapUpdate {t el : TypeId} (hK : KeyOk P kt Kv) (ht : P.underlying t = some (.map kt el)) {x y z : Operand} {b clock : Nat} {es : Array MapEntry} {u v : Value} (h : Nat) (hw : wantedS ops ⟨env, bs⟩ ⟨none, .mapUpdate t x y z, ty, pos, aft, g⟩ = some true) (h3 : (Nat.ble 1000000 h && Nat.blt h 3000000) = true) (hx : (St.mk env bs).ev x = .s (.v (.map (some b)))) (hy : (St.mk env bs).ev y = .s (.v u)) (hz : (St.mk env bs).ev z = .s (.v v)) (hk : look env h = .kept b (.map es clock)) (hM : MapAt Kv es clock) (hu : Kv u) (hap : ApartE [b] (rmS [h] env))
    (k : ∀ es' clock', MapAt Kv es' clock' → (∀ k' v', Has es' k' v' ↔ (k' = u ∧ v' = v) ∨ (k' ≠ u ∧ Has es k' v')) → RunK dr P ops rest ⟨(h, .kept b (.map es' clock')) :: rmS [h] env, bs⟩ K) : RunK dr P ops (⟨none, .mapUpdate t x y z, ty, pos, aft, g⟩ :: rest) ⟨env, bs⟩ K :=
  Run.eff hw (Eff.mapUpdate hK ht h hx hy hz hk hM hu hap) (fun _ => ⟨rfl, fun _ ⟨_, _, _, _, e⟩ => e ▸ ⟨fun hwf => wf_turn [h] hwf, tame_turn h3⟩⟩) (fun _ ⟨es', clock', h1, h2, e⟩ => e ▸ k es' clock' h1 h2)
theorem RunK.delete {t el t2 : TypeId} (hK : KeyOk P kt Kv) (ht : P.underlying t = some (.map kt el)) {x y : Operand} {b clock : Nat} {es : Array MapEntry} {u : Value} (h : Nat) (hw : wantedS ops ⟨env, bs⟩ ⟨none, .call ⟨.builtin .delete, #[x, y], #[t, t2]⟩, ty, pos, aft, g⟩ = some true) (h3 : (Nat.ble 1000000 h && Nat.blt h 3000000) = true) (hx : (St.mk env bs).ev x = .s (.v (.map (some b)))) (hy : (St.mk env bs).ev y = .s (.v u)) (hk : look env h = .kept b (.map es clock)) (hM : MapAt Kv es clock) (hu : Kv u) (hap : ApartE [b] (rmS [h] env))
    (k : ∀ es', MapAt Kv es' clock → (∀ k' v', Has es' k' v' ↔ (k' ≠ u ∧ Has es k' v')) → RunK dr P ops rest ⟨(h, .kept b (.map es' clock)) :: rmS [h] env, bs⟩ K) : RunK dr P ops (⟨none, .call ⟨.builtin .delete, #[x, y], #[t, t2]⟩, ty, pos, aft, g⟩ :: rest) ⟨env, bs⟩ K :=
  Run.eff hw (Eff.delete hK ht h hx hy hk hM hu hap) (fun _ => ⟨rfl, fun _ ⟨_, _, _, e⟩ => e ▸ ⟨fun hwf => wf_turn [h] hwf, tame_turn h3⟩⟩) (fun _ ⟨es', h1, h2, e⟩ => e ▸ k es' h1 h2)
/-- A loop over a map begins. -/
theorem RunK.rangeM {t k0 el : TypeId} (hu : P.underlying t = some (.map k0 el)) {x : Operand} {b clock : Nat} {es : Array MapEntry} (h hm : Nat) (hw : wantedS ops ⟨env, bs⟩ ⟨some d, .range t x, ty, pos, aft, g⟩ = some true) (hx : (St.mk env bs).ev x = .s (.v (.map (some b)))) (hh : Nat.ble 1000000 hm = true) (hk : look env hm = .kept b (.map es clock))
    (k : ∀ L : Nat, (∀ t b' o', look env t = .kept b' o' → b' ≠ L) → RunK false P ops rest ⟨(h, .kept L (.mapIter (some b) clock #[] clock)) :: (d, .s (.v (.pointer (some ⟨L, 0, none⟩)))) :: env, bs⟩ K) : RunK false P ops (⟨some d, .range t x, ty, pos, aft, g⟩ :: rest) ⟨env, bs⟩ K :=
  .mkObj (fun b => .pointer (some ⟨b, 0, none⟩)) h hw (fun a w hs => by
    have h1 := hs.v x _ (by simp [Op.operands]) hx
    have h3 := hs.k hm b _ (Nat.ble_eq ▸ hh) hk
    simp only [execOp, h1]
    rw [Sem.run_bind, run_range_map w t k0 el b es clock hu h3]
    simp) k
/-- A step of it: over, or an entry that has not been seen. -/
theorem RunK.nextM {x : Operand} {L b clock : Nat} {seen : Array Nat} {es : Array MapEntry} (h hm : Nat) (hw : wantedS ops ⟨env, bs⟩ ⟨some d, .next x false, ty, pos, aft, g⟩ = some true) (hx : (St.mk env bs).ev x = .s (.v (.pointer (some ⟨L, 0, none⟩)))) (hk : look env h = .kept L (.mapIter (some b) clock seen clock)) (hh : Nat.ble 1000000 hm = true) (hkm : look env hm = .kept b (.map es clock)) (hold : ∀ e ∈ es.toList, e.born < clock) (hap : ApartE [L] (rmS [h] env))
    (k0 : (leftOf es seen).size = 0 → RunK false P ops rest ⟨(d, .tup [.v (.bool false)]) :: (h, .kept L (.mapIter (some b) clock seen clock)) :: rmS [h] env, bs⟩ K)
    (k1 : ∀ e ∈ (leftOf es seen).toList, RunK false P ops rest ⟨(d, .tup [.v (.bool true), .v e.key, .v e.val]) :: (h, .kept L (.mapIter (some b) clock (seen.push e.born) clock)) :: rmS [h] env, bs⟩ K) : RunK false P ops (⟨some d, .next x false, ty, pos, aft, g⟩ :: rest) ⟨env, bs⟩ K := by
  refine Run.eff hw (Eff.turnObj h (fun pv o' => ((leftOf es seen).size = 0 ∧ pv = .tup [.v (.bool false)] ∧ o' = .mapIter (some b) clock seen clock) ∨ ∃ e ∈ (leftOf es seen).toList, pv = .tup [.v (.bool true), .v e.key, .v e.val] ∧ o' = .mapIter (some b) clock (seen.push e.born) clock) hk hap fun a w hs hb => ?_) (fun h => by cases h) (fun _ ⟨pv, o', h1, h2⟩ => ?_)
  · have h1 := hs.v x _ (by simp [Op.operands]) hx
    have h3 := hs.k hm b _ (Nat.ble_eq ▸ hh) hkm
    rcases run_next_at (P := P) w ty L b clock clock seen es clock hb h3 hold (Nat.le_refl _) with ⟨q1, q2⟩ | ⟨e, q1, w1, q2, q3⟩
    · exact ⟨_, _, _, _, .inl ⟨q1, rfl, rfl⟩, fun _ _ _ _ => rep_tup [.bool false], .refl hb, .inl (by simp [execOp, h1, q2])⟩
    · refine ⟨_, _, _, _, .inr ⟨e, q1, rfl, rfl⟩, fun _ _ _ _ => rep_tup [.bool true, e.key, e.val], ?_, .inl (by simp [execOp, h1, q3]; rfl)⟩
      rcases q2 with rfl | rfl
      · exact .put ..
      · exact (Put1.put w.drew _ _).drew
  · subst h2
    rcases h1 with ⟨q1, rfl, rfl⟩ | ⟨e, q1, rfl, rfl⟩
    · exact k0 q1
    · exact k1 e q1
theorem RunK.entryM {x : Operand} {L b clock : Nat} {seen : Array Nat} {es : Array MapEntry} {e : MapEntry} (h hm : Nat) (hw : wantedS ops ⟨env, bs⟩ ⟨some d, .entry x, ty, pos, aft, g⟩ = some true) (hx : (St.mk env bs).ev x = .s (.v (.pointer (some ⟨L, 0, none⟩)))) (hh' : Nat.ble 1000000 h = true) (hk : look env h = .kept L (.mapIter (some b) clock (seen.push e.born) clock)) (hh : Nat.ble 1000000 hm = true) (hkm : look env hm = .kept b (.map es clock)) (he : e ∈ es.toList) (hn : (es.toList.map (·.born)).Nodup)
    (k : RunK dr P ops rest ⟨(d, .tup [.v e.key, .v e.val]) :: env, bs⟩ K) : RunK dr P ops (⟨some d, .entry x, ty, pos, aft, g⟩ :: rest) ⟨env, bs⟩ K :=
  .plainT (l := [e.key, e.val]) rfl hw (fun a w hs => by
    have h1 := hs.v x _ (by simp [Op.operands]) hx
    have h2 := hs.k h L _ (Nat.ble_eq ▸ hh') hk
    have h3 := hs.k hm b _ (Nat.ble_eq ▸ hh) hkm
    simp [execOp, h1, run_entry_at (P := P) w L b clock seen es clock e h2 h3 he hn]) k
end

/-! ### the library's SortFunc at structs -/
theorem put_listV {pre old post new : List Value} (h : new.length = old.length) : Go.Sort.putCells id pre.length new.toArray (pre ++ old ++ post).toArray = (pre ++ new ++ post).toArray := by
  apply Array.toList_inj.1
  unfold Go.Sort.putCells
  apply List.ext_getElem?
  intro j
  rw [Array.getElem?_toList, Array.getElem?_mapIdx]
  simp only [List.getElem?_toArray, List.size_toArray]
  rcases Nat.lt_or_ge j pre.length with hj | hj
  · have e : ¬ (pre.length ≤ j ∧ j < pre.length + new.length) := by omega
    rw [List.append_assoc, List.getElem?_append_left hj, List.append_assoc, List.getElem?_append_left hj]
    cases pre[j]? with
    | none => rfl
    | some x => simp only [Option.map_some, if_neg e]
  · rcases Nat.lt_or_ge j (pre.length + new.length) with hj2 | hj2
    · rw [List.append_assoc, List.getElem?_append_right hj, List.getElem?_append_left (by omega), List.append_assoc, List.getElem?_append_right hj, List.getElem?_append_left (by omega)]
      have h1 : j - pre.length < old.length := by omega
      have h2 : j - pre.length < new.length := by omega
      rw [List.getElem?_eq_getElem h1, Option.map_some, if_pos ⟨hj, hj2⟩, List.getElem?_eq_getElem h2]
      simp [h2]
    · have e : ¬ (pre.length ≤ j ∧ j < pre.length + new.length) := by omega
      rw [List.append_assoc, List.getElem?_append_right hj, List.getElem?_append_right (by omega), List.append_assoc, List.getElem?_append_right hj, List.getElem?_append_right (by omega)]
      rw [← h]
      cases post[j - pre.length - new.length]? with
      | none => rfl
      | some x => simp only [Option.map_some, if_neg e]
theorem flatK_list {α : Type} [Inhabited α] (enc : α → List Value) (k : Nat) (hk : ∀ x, (enc x).length = k) (l : List α) : Go.Sort.flatK enc k l.toArray = ((l.map enc).flatten).toArray := by
  have hk' : ∀ e ∈ l.map enc, e.length = k := fun e he => by obtain ⟨x, _, rfl⟩ := List.mem_map.1 he; exact hk x
  have hlen : ((l.map enc).flatten).length = l.length * k := by rw [flatten_len hk', List.length_map]
  refine Go.Sort.ext_get! (by simp [hlen]) fun t ht => ?_
  have ht' : t < l.length * k := by simpa using ht
  have k0 : 0 < k := by
    rcases Nat.eq_zero_or_pos k with h | h
    · subst h; simp at ht'
    · exact h
  rw [Go.Sort.get_flatK _ _ _ t (by simpa using ht')]
  have hi : t / k < l.length := Nat.div_lt_of_lt_mul (by rw [Nat.mul_comm]; exact ht')
  have hj : t % k < (enc l[t / k]).length := by rw [hk]; exact Nat.mod_lt _ k0
  have := flatten_at hk' (i := t / k) (j := t % k) (e := enc l[t / k]) (u := (enc l[t / k])[t % k]) (by rw [List.getElem?_map, List.getElem?_eq_getElem hi]; rfl) (List.getElem?_eq_getElem hj)
  rw [Nat.div_add_mod'] at this
  have h2 : t < ((l.map enc).flatten).length := by omega
  rw [List.getElem?_eq_getElem h2] at this
  injection this with this
  have e1 : l.toArray[t / k]! = l[t / k] := by simp [hi]
  rw [e1, getElem!_pos ((l.map enc).flatten.toArray) t (by simpa using h2), List.getElem_toArray, this]
  simp [hj]
/-- What a SortFunc does at elements of k cells. -/
def SortsK {α : Type} [Inhabited α] (P : Program) (f : FuncId) (v : Value) (enc : α → List Value) (k : Nat) (lt : α → α → Bool) : Prop :=
  ∀ (blk off cap : Nat) (d : Array α) (w : World), Go.Sort.HoldsK enc k w blk off d → blk < w.heap.size → d.size < 4611686018427387904 →
    Calls P f #[.slice (some ⟨blk, off, none⟩) d.size cap, v] w fun e w' => e = .returned (.tuple #[]) ∧ ∃ d' n os, Go.Sort.PermIn 0 d.size d d' ∧ Go.Sort.SortedIn lt 0 d.size d' ∧ w' = Go.Proofs.sortWorldK enc k w blk off n d' os
section
variable {P : Program} {ops : Array Oper} {rest : List Oper} {env : List (Nat × PV)} {bs : List (Nat × List Value)} {K : St → Prop} {d : Nat} {ty : TypeId} {pos : String} {aft : Array Edge} {g : Option (Nat × Bool)} {α : Type} [Inhabited α]
theorem Eff.sortK {f : FuncId} {v : Value} {enc : α → List Value} {k : Nat} {lt : α → α → Bool} (hP : Callable P f) (hS : SortsK P f v enc k lt) (hk : ∀ x, (enc x).length = k) (hk0 : 0 < k) {x y : Operand} {ats : Array TypeId} {id n : Nat} {l : List α} (hx : (St.mk env bs).ev x = .bsl id 0 k n) (hy : (St.mk env bs).ev y = .s (.v v)) (hb : boxOf bs id = some (l.map enc).flatten) (hn : n = l.length) (hne : l ≠ []) (hsz : l.length < 4611686018427387904) :
    Eff P ⟨some d, .call ⟨.value (.func f), #[x, y], ats⟩, ty, pos, aft, g⟩ ⟨env, bs⟩ (fun s1 => ∃ l' : List α, l'.Perm l ∧ l'.Pairwise (fun a b => lt b a = false) ∧ s1 = ⟨(d, .s (.v (.tuple #[]))) :: env, (id, (l'.map enc).flatten) :: bs⟩) := by
  subst hn
  rintro w0 n a w ⟨T, F, ρ, hr⟩ hd next Q hK
  obtain ⟨fn, q1, q2, q3⟩ := hP
  have hbo := hr.boxes id _ hb
  have h1 := hr.ev x
  rw [hx] at h1
  have hyv := ev_v hr hy
  have hpos : 0 < l.length := List.length_pos_iff.2 hne
  rcases (h1 : BslOk ..) with ⟨_, h0⟩ | ⟨c, cur, e, a1, a2, a3, a4, _⟩
  · omega
  rw [Nat.add_zero] at a3
  have hlenF : ∀ m : List α, ((m.map enc).flatten).length = m.length * k := fun m => by rw [flatten_len (k := k) (fun e he => by obtain ⟨x, _, rfl⟩ := List.mem_map.1 he; exact hk x), List.length_map]
  have hneF : ∀ m : List α, m.length = l.length → (m.map enc).flatten ≠ [] := fun m hm h => by
    have := hlenF m
    rw [h, hm] at this
    have h2 : 1 * 1 ≤ l.length * k := Nat.mul_le_mul hpos hk0
    simp at this
    omega
  have hrun : (execOp a.eval ⟨some d, .call ⟨.value (.func f), #[x, y], ats⟩, ty, pos, aft, g⟩).run P w = .ok (.enter f #[.slice (some ⟨(ρ id).1, (ρ id).2, none⟩) l.length c, v]) w := by
    have q3' : fn.body ≠ none := fun h => by rw [h] at q3; cases q3
    have hfe : a.eval (.func f) = .func (.func f) #[] #[] := rfl
    simp [execOp, resolve, hfe, a3, hyv, Deferred.ofValue, invoke, callFunc, q1, q2, q3']
  have hH : Go.Sort.HoldsK enc k w (ρ id).1 (ρ id).2 l.toArray := by
    intro j hj
    rw [flatK_list enc k hk] at hj ⊢
    have hj' : j < ((l.map enc).flatten).length := by simpa using hj
    obtain ⟨b1, b2, b3, pre, post, e, bl, b4⟩ := hbo (hneF l rfl)
    refine ⟨?_, by simp [World.frozen?, b4]⟩
    rw [hbo.cell (List.getElem?_eq_getElem hj'), getElem!_pos _ j hj, List.getElem_toArray]
    rfl
  unfold Oper.wp
  rw [hrun]
  have hcall := hS (ρ id).1 (ρ id).2 c l.toArray w hH a4 (by simpa using hsz)
  rw [show l.toArray.size = l.length from List.size_toArray] at hcall
  refine hcall.mono ?_
  rintro e w' ⟨rfl, d', m, os, hp, hs, rfl⟩
  obtain ⟨p1, p2, p3⟩ := hp
  have hd'l : d'.toList.length = l.length := by rw [Array.length_toList, p1]; simp
  have hperm : d'.toList.Perm l := by
    have e1 : d'.extract 0 l.length = d' := by rw [← hd'l, Array.length_toList]; simp
    have e2 : l.toArray.extract 0 l.length = l.toArray := by simp
    rw [e1, e2] at p3
    simpa using p3
  have hsort : d'.toList.Pairwise (fun a b => lt b a = false) := by
    rw [List.pairwise_iff_getElem]
    intro i j hi hj hij
    have := hs i j (Nat.zero_le _) hij (by omega)
    have hi' : i < d'.size := by simpa using hi
    have hj' : j < d'.size := by simpa using hj
    rw [getElem!_pos d' i hi', getElem!_pos d' j hj'] at this
    simpa using this
  have hfl : Go.Sort.flatK enc k d' = ((d'.toList.map enc).flatten).toArray := by
    have := flatK_list enc k hk d'.toList
    rwa [Array.toArray_toList] at this
  have hr2 := hr.rebox hb (cs' := (d'.toList.map enc).flatten) (hneF l rfl) (by rw [hlenF, hlenF, hd'l]) (w' := Go.Proofs.sortWorldK enc k w (ρ id).1 (ρ id).2 m d' os)
    (fun h => ⟨rfl, rfl, rfl, by simp [Go.Proofs.sortWorldK, Go.Sort.putRowK], h⟩) (by simp [Go.Proofs.sortWorldK, Go.Sort.putRowK]) (fun q hq hne => by
      unfold Go.Proofs.sortWorldK
      rw [Go.Sort.heap_grow_old _ _ (by simpa [Go.Sort.putRowK] using hq)]
      show ((w.heap.modify (ρ id).1 _))[q]? = _
      rw [Array.getElem?_modify, if_neg (Ne.symm hne)]) (fun pre post e bl hh => by
      have hlt : (ρ id).1 < w.heap.size := (Array.getElem?_eq_some_iff.1 hh).1
      unfold Go.Proofs.sortWorldK
      rw [Go.Sort.heap_grow_old _ _ (by simpa [Go.Sort.putRowK] using hlt)]
      unfold Go.Sort.putRowK
      rw [hfl]
      show ((w.heap.modify (ρ id).1 (Go.Sort.onCells (Go.Sort.putCells _root_.id (ρ id).2 ((d'.toList.map enc).flatten).toArray))))[(ρ id).1]? = _
      rw [Array.getElem?_modify, if_pos rfl, hh, Option.map_some, Go.Sort.onCells, ← bl, put_listV (by rw [hlenF, hlenF, hd'l])])
  exact hK _ ⟨d'.toList, hperm, hsort, rfl⟩ _ _ ⟨T, F, ρ, hr2.goes (d := some d) (pv := .s (.v (.tuple #[]))) (nb := none) (v := .tuple #[]) hd (Below.refl _ _) (fun _ _ => ⟨rfl, rfl⟩) (fun _ _ => rfl) (fun _ hp => by cases hp) rfl (fun _ hp => by cases hp) rfl⟩
theorem RunK.sortK {f : FuncId} {v : Value} {enc : α → List Value} {k : Nat} {lt : α → α → Bool} (hP : Callable P f) (hS : SortsK P f v enc k lt) (hk : ∀ x, (enc x).length = k) (hk0 : 0 < k) {x y : Operand} {ats : Array TypeId} {id n : Nat} {l : List α} (hw : wantedS ops ⟨env, bs⟩ ⟨some d, .call ⟨.value (.func f), #[x, y], ats⟩, ty, pos, aft, g⟩ = some true) (hx : (St.mk env bs).ev x = .bsl id 0 k n) (hy : (St.mk env bs).ev y = .s (.v v)) (hb : boxOf bs id = some (l.map enc).flatten) (hn : n = l.length) (hne : l ≠ []) (hsz : l.length < 4611686018427387904)
    (kk : ∀ l' : List α, l'.Perm l → l'.Pairwise (fun a b => lt b a = false) → RunK false P ops rest ⟨(d, .s (.v (.tuple #[]))) :: env, (id, (l'.map enc).flatten) :: bs⟩ K) : RunK false P ops (⟨some d, .call ⟨.value (.func f), #[x, y], ats⟩, ty, pos, aft, g⟩ :: rest) ⟨env, bs⟩ K :=
  Run.eff hw (Eff.sortK hP hS hk hk0 hx hy hb hn hne hsz) (fun h => by cases h) (fun _ ⟨l', h1, h2, e⟩ => e ▸ kk l' h1 h2)
end
end Go.Proofs.Ytnpbnlmhmjejhaa.Pv
