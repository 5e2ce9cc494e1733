/- The machine of values: a long body cut where its ways meet. No condition. -/
import Derived.Test.YtonangdimkgdpaaPv
namespace Go.Proofs.Ytonangdimkgdpaa.Pv
open Go Go.RowKit
/-- Put off. -/
structure Hold (p : Prop) : Prop where
  of ::
  h : p
section
variable {P : Program} {w0 : Base} {n : Nat} {s : St} {N R : St → Prop} {X : Nat → St → Prop}
theorem Wt.cutAt {c y : Code} {ops : Array Oper} {b : Bool} (i : Nat) (S : St) (h1 : Hold (Wt P w0 n (.seq (.region i ops b) c) s (fun s' => Le s' S) R X)) (h2 : Hold (Wt P w0 n y S N R X)) : Wt P w0 n (.seq (.seq (.region i ops b) c) y) s N R X :=
  Wt.seq (Wt.mono h1.h (fun _ hl => Wt.le S hl h2.h) (fun _ h => h) (fun _ _ h => h))
theorem Wt.cutAt1 {y : Code} {ops : Array Oper} {b : Bool} (i : Nat) (S : St) (h1 : Hold (Wt P w0 n (.region i ops b) s (fun s' => Le s' S) R X)) (h2 : Hold (Wt P w0 n y S N R X)) : Wt P w0 n (.seq (.region i ops b) y) s N R X :=
  Wt.seq (Wt.mono h1.h (fun _ hl => Wt.le S hl h2.h) (fun _ h => h) (fun _ _ h => h))
end
end Go.Proofs.Ytonangdimkgdpaa.Pv
