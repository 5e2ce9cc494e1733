/- Cells, puts and deeds as arguments of a row, as the machine of values holds them. -/
import Derived.Test.YtnpbnlmhmjejhaaRow2
import Derived.Test.YtnpbnlmhmjejhaaSD
namespace Go.Proofs.Ytnpbnlmhmjejhaa
open Go.ChangeShapes Go.WideShapes Go.ChangeAt Go.RowKit Go.Deep
open Go.ChangeMaps (open_string shut_string)
set_option maxRecDepth 100000 in
theorem wf_u8n {n : Int} (h : (Lit.int .u8 n).wf = true) : ∃ m : Nat, n = m ∧ m < 256 := by
  simp [Lit.wf, IntKind.min, IntKind.max, IntKind.signed, IntKind.bits] at h
  exact ⟨n.toNat, by omega, by omega⟩
set_option maxRecDepth 100000 in
theorem conv_cell : ∀ cs, AllOk [.int .i64, .int .i64, .int .u8, .int .i64, .str] cs → ∃ y : Cell, cs = y.vals ∧ y.ok := by
  intro cs h
  rcases h with _ | ⟨⟨a, rfl, wa⟩, _ | ⟨⟨b, rfl, wb⟩, _ | ⟨⟨k, rfl, wk⟩, _ | ⟨⟨n, rfl, wn⟩, _ | ⟨⟨s, rfl, ws⟩, _ | _⟩⟩⟩⟩⟩
  obtain ⟨k, rfl, hk⟩ := wf_u8n wk
  exact ⟨⟨⟨a, b⟩, ⟨k, n, s⟩⟩, rfl, ⟨⟨wf_bd wa, wf_bd wb⟩, ⟨hk, wf_bd wn⟩⟩⟩
set_option maxRecDepth 100000 in
theorem conv_put : ∀ cs, AllOk [.int .i64, .int .i64, .int .i64] cs → ∃ y : Put, cs = y.vals ∧ y.ok := by
  intro cs h
  rcases h with _ | ⟨⟨a, rfl, wa⟩, _ | ⟨⟨b, rfl, wb⟩, _ | ⟨⟨n, rfl, wn⟩, _ | _⟩⟩⟩
  exact ⟨⟨⟨a, b⟩, n⟩, rfl, ⟨⟨wf_bd wa, wf_bd wb⟩, wf_bd wn⟩⟩
set_option maxRecDepth 100000 in
theorem conv_deed : ∀ cs, AllOk [.bool, .int .i64, .int .i64, .int .u8, .int .i64, .str, .int .i64, .int .i64, .int .i64, .int .i64] cs → ∃ y : Deed, cs = y.vals ∧ y.ok := by
  intro cs h
  rcases h with _ | ⟨⟨q, rfl⟩, _ | ⟨⟨a, rfl, wa⟩, _ | ⟨⟨b, rfl, wb⟩, _ | ⟨⟨k, rfl, wk⟩, _ | ⟨⟨n, rfl, wn⟩, _ | ⟨⟨s, rfl, ws⟩, _ | ⟨⟨c, rfl, wc⟩, _ | ⟨⟨d, rfl, wd⟩, _ | ⟨⟨e, rfl, we⟩, _ | ⟨⟨f, rfl, wf⟩, _ | _⟩⟩⟩⟩⟩⟩⟩⟩⟩⟩
  obtain ⟨k, rfl, hk⟩ := wf_u8n wk
  exact ⟨⟨q, ⟨⟨a, b⟩, ⟨k, n, s⟩⟩, ⟨c, d, e, f⟩⟩, rfl, ⟨⟨wf_bd wa, wf_bd wb⟩, ⟨hk, wf_bd wn⟩⟩, ⟨wf_bd wc, wf_bd wd, wf_bd we, wf_bd wf⟩⟩
end Go.Proofs.Ytnpbnlmhmjejhaa
