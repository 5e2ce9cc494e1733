/- More data: grants, events, releases, as the machine of values holds them. No condition. -/
import Derived.Test.YtfacimebfdeaeaaD
namespace Go.Proofs.Ytfacimebfdeaeaa
open Pv
structure Grant where
  rect : Rect
  fns : Nat
  to : Nat
  by_ : Int
  revoked : Bool
deriving DecidableEq
structure Event where
  step : Int
  user : Int
  kind : Nat
  rect : Rect
  done : Bool
  to : Nat
deriving DecidableEq
structure Release where
  step : Int
  at_ : Ref
  node : Int
  fn : Nat
  rect : Rect
  grant : Int
  to : Nat
deriving DecidableEq
def Grant.vals (g : Grant) : List Value := [.int .i64 g.rect.c1, .int .i64 g.rect.r1, .int .i64 g.rect.c2, .int .i64 g.rect.r2, .int .u8 g.fns, .int .u64 g.to, .int .i64 g.by_, .bool g.revoked]
def Event.vals (x : Event) : List Value := [.int .i64 x.step, .int .i64 x.user, .int .u8 x.kind, .int .i64 x.rect.c1, .int .i64 x.rect.r1, .int .i64 x.rect.c2, .int .i64 x.rect.r2, .bool x.done, .int .u64 x.to]
def Release.vals (x : Release) : List Value := [.int .i64 x.step, .int .i64 x.at_.col, .int .i64 x.at_.row, .int .i64 x.node, .int .u8 x.fn, .int .i64 x.rect.c1, .int .i64 x.rect.r1, .int .i64 x.rect.c2, .int .i64 x.rect.r2, .int .i64 x.grant, .int .u64 x.to]
abbrev Grant.v (r : Grant) : Value := .agg r.vals.toArray
abbrev Event.v (r : Event) : Value := .agg r.vals.toArray
abbrev Release.v (r : Release) : Value := .agg r.vals.toArray
abbrev grants (l : List Grant) : SV := .sl none .no 8 (l.map Grant.vals)
abbrev grantsR (l : List Grant) : SV := .sl (some 0) (.front 48) 8 (l.map Grant.vals)
structure Grant.ok (g : Grant) : Prop where
  rect : g.rect.ok
  fns : g.fns < 256
  to : g.to < 18446744073709551616
  by_ : i64 g.by_
structure Event.ok (g : Event) : Prop where
  step : i64 g.step
  user : i64 g.user
  kind : g.kind < 256
  rect : g.rect.ok
  to : g.to < 18446744073709551616
structure Release.ok (g : Release) : Prop where
  step : i64 g.step
  at_ : g.at_.ok
  node : i64 g.node
  fn : g.fn < 256
  rect : g.rect.ok
  grant : i64 g.grant
  to : g.to < 18446744073709551616
end Go.Proofs.Ytfacimebfdeaeaa
