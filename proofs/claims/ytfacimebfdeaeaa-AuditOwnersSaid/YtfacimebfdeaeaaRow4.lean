/- Operations as arguments of a row, as the machine of values holds them. -/
import Derived.Test.YtfacimebfdeaeaaRow3
import Derived.Test.YtfacimebfdeaeaaD3
namespace Go.Proofs.Ytfacimebfdeaeaa
open Go.ChangeShapes Go.WideShapes Go.ChangeAt Go.RowKit Go.Deep
open Go.ChangeMaps (open_string shut_string)
set_option maxRecDepth 100000 in
theorem conv_op : ∀ cs, AllOk [.int .u8, .int .i64, .int .i64, .int .i64, .int .i64, .int .i64, .str, .int .u64, .int .u64, .int .u64, .int .u8, .int .u64, .int .i64] cs → ∃ y : Opn, cs = y.vals ∧ y.ok := by
  intro cs h
  rcases h with _ | ⟨⟨k, rfl, wk⟩, _ | ⟨⟨u, rfl, wu⟩, _ | ⟨⟨a, rfl, wa⟩, _ | ⟨⟨b, rfl, wb⟩, _ | ⟨⟨c, rfl, wc⟩, _ | ⟨⟨d, rfl, wd⟩, _ | ⟨⟨s, rfl, ws⟩, _ | ⟨⟨r1, rfl, w1⟩, _ | ⟨⟨r2, rfl, w2⟩, _ | ⟨⟨r3, rfl, w3⟩, _ | ⟨⟨f, rfl, wf⟩, _ | ⟨⟨t, rfl, wt⟩, _ | ⟨⟨i, rfl, wi⟩, _ | _⟩⟩⟩⟩⟩⟩⟩⟩⟩⟩⟩⟩⟩
  obtain ⟨k, rfl, hk⟩ := wf_u8n wk
  obtain ⟨r1, rfl, h1⟩ := wf_u64n w1
  obtain ⟨r2, rfl, h2⟩ := wf_u64n w2
  obtain ⟨r3, rfl, h3⟩ := wf_u64n w3
  obtain ⟨f, rfl, hf⟩ := wf_u8n wf
  obtain ⟨t, rfl, ht⟩ := wf_u64n wt
  exact ⟨⟨k, u, ⟨a, b, c, d⟩, s, ⟨r1, r2, r3⟩, f, t, i⟩, rfl, ⟨hk, wf_bd wu, ⟨wf_bd wa, wf_bd wb, wf_bd wc, wf_bd wd⟩, ⟨h1, h2, h3⟩, hf, ht, wf_bd wi⟩⟩
end Go.Proofs.Ytfacimebfdeaeaa
