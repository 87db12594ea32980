/- Short words for printed walks: arguments in the order in which they are found. -/
import Derived.Test.YtogfongmnkmegaaPadR
set_option linter.unusedVariables false
namespace Go.Proofs.Ytogfongmnkmegaa.Pad
open Go
theorem AllP.v {l : List Nat} {sps : List Sp} {f : Fr} {vals : Nat → Value} {S' : PH} (h : AllP l (fun j => ∀ t, sps[j]? = some t → (∀ d, t.dst = some d → f d = vals j) ∧ t.fact (t.deps.map vals) S')) (i : Nat) {a d : Nat} {t : Sp} {x : Value}
    (e : (l[i]?, sps[a]?, t.dst, t.fact (t.deps.map vals) S') = (some a, some t, some d, vals a = x)) : f d = x :=
  h.u i (Prod.mk.inj e).1 (Prod.mk.inj (Prod.mk.inj e).2).1 (Prod.mk.inj (Prod.mk.inj e).2).2
section
variable {P : Program} {n : Nat} {ro : Option Nat} {ops : Array Oper} {sps : List Sp} {tks : List Tok} {f0 : Fr} {S : PH} {i : Nat} {s : Sp}
end
section
variable {P : Program} {n : Nat} {ro : Option Nat} {f : Fr} {w : World} {K : Fr → World → Prop} {d k : Nat} {ty : TypeId} {pos : String} {af : Array Edge} {gd : Option (Nat × Bool)} {x y : Operand} {v : Value} {T : TypeId} {S : PH}
end
end Go.Proofs.Ytogfongmnkmegaa.Pad
