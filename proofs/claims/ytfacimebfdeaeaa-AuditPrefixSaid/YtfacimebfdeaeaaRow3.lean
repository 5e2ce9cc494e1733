/- More arguments of a row, as the machine of values holds them. -/
import Derived.Test.YtfacimebfdeaeaaRow2
import Derived.Test.YtfacimebfdeaeaaD2
namespace Go.Proofs.Ytfacimebfdeaeaa
open Go.ChangeShapes Go.WideShapes Go.ChangeAt Go.RowKit Go.Deep
open Go.ChangeMaps (open_string shut_string)
set_option maxRecDepth 100000 in
theorem wf_u8n {n : Int} (h : (Lit.int .u8 n).wf = true) : ∃ m : Nat, n = m ∧ m < 256 := by
  simp [Lit.wf, IntKind.min, IntKind.max, IntKind.signed, IntKind.bits] at h
  exact ⟨n.toNat, by omega, by omega⟩
set_option maxRecDepth 100000 in
theorem conv_grant : ∀ cs, AllOk [.int .i64, .int .i64, .int .i64, .int .i64, .int .u8, .int .u64, .int .i64, .bool] cs → ∃ y : Grant, cs = y.vals ∧ y.ok := by
  intro cs h
  rcases h with _ | ⟨⟨a, rfl, wa⟩, _ | ⟨⟨b, rfl, wb⟩, _ | ⟨⟨c, rfl, wc⟩, _ | ⟨⟨d, rfl, wd⟩, _ | ⟨⟨e, rfl, we⟩, _ | ⟨⟨f, rfl, wf⟩, _ | ⟨⟨g, rfl, wg⟩, _ | ⟨⟨i, rfl⟩, _ | _⟩⟩⟩⟩⟩⟩⟩⟩
  obtain ⟨e, rfl, he⟩ := wf_u8n we
  obtain ⟨f, rfl, hf⟩ := wf_u64n wf
  exact ⟨⟨⟨a, b, c, d⟩, e, f, g, i⟩, rfl, ⟨⟨wf_bd wa, wf_bd wb, wf_bd wc, wf_bd wd⟩, he, hf, wf_bd wg⟩⟩
set_option maxRecDepth 100000 in
theorem conv_event : ∀ cs, AllOk [.int .i64, .int .i64, .int .u8, .int .i64, .int .i64, .int .i64, .int .i64, .bool, .int .u64] cs → ∃ y : Event, cs = y.vals ∧ y.ok := by
  intro cs h
  rcases h with _ | ⟨⟨s, rfl, ws⟩, _ | ⟨⟨u, rfl, wu⟩, _ | ⟨⟨e, rfl, we⟩, _ | ⟨⟨a, rfl, wa⟩, _ | ⟨⟨b, rfl, wb⟩, _ | ⟨⟨c, rfl, wc⟩, _ | ⟨⟨d, rfl, wd⟩, _ | ⟨⟨i, rfl⟩, _ | ⟨⟨f, rfl, wf⟩, _ | _⟩⟩⟩⟩⟩⟩⟩⟩⟩
  obtain ⟨e, rfl, he⟩ := wf_u8n we
  obtain ⟨f, rfl, hf⟩ := wf_u64n wf
  exact ⟨⟨s, u, e, ⟨a, b, c, d⟩, i, f⟩, rfl, ⟨wf_bd ws, wf_bd wu, he, ⟨wf_bd wa, wf_bd wb, wf_bd wc, wf_bd wd⟩, hf⟩⟩
set_option maxRecDepth 100000 in
theorem conv_release : ∀ cs, AllOk [.int .i64, .int .i64, .int .i64, .int .i64, .int .u8, .int .i64, .int .i64, .int .i64, .int .i64, .int .i64, .int .u64] cs → ∃ y : Release, cs = y.vals ∧ y.ok := by
  intro cs h
  rcases h with _ | ⟨⟨s, rfl, ws⟩, _ | ⟨⟨u, rfl, wu⟩, _ | ⟨⟨v, rfl, wv⟩, _ | ⟨⟨x, rfl, wx⟩, _ | ⟨⟨e, rfl, we⟩, _ | ⟨⟨a, rfl, wa⟩, _ | ⟨⟨b, rfl, wb⟩, _ | ⟨⟨c, rfl, wc⟩, _ | ⟨⟨d, rfl, wd⟩, _ | ⟨⟨i, rfl, wi⟩, _ | ⟨⟨f, rfl, wf⟩, _ | _⟩⟩⟩⟩⟩⟩⟩⟩⟩⟩⟩
  obtain ⟨e, rfl, he⟩ := wf_u8n we
  obtain ⟨f, rfl, hf⟩ := wf_u64n wf
  exact ⟨⟨s, ⟨u, v⟩, x, e, ⟨a, b, c, d⟩, i, f⟩, rfl, ⟨wf_bd ws, ⟨wf_bd wu, wf_bd wv⟩, wf_bd wx, he, ⟨wf_bd wa, wf_bd wb, wf_bd wc, wf_bd wd⟩, wf_bd wi, hf⟩⟩
end Go.Proofs.Ytfacimebfdeaeaa
