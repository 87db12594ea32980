/- Maps that the call owns. -/
import Derived.Test.YtlpdpeghgndmkaaPadJ
import Derived.MapKept
import Derived.Laws.StructEq
set_option linter.unusedVariables false
set_option linter.unusedSimpArgs false
namespace Go.Proofs.Ytlpdpeghgndmkaa.Pad
open Go
variable {ro : Option Nat}
section
variable {K V : Type} [Enc K] [Enc V]
def MRep (S : PH) : List MapEntry → List (K × V) → Prop
  | [], [] => True
  | e :: es, x :: m => RV S e.key x.1 ∧ RV S e.val x.2 ∧ MRep S es m
  | _, _ => False
theorem MRep.mono {S T : PH} (hle : S.Le T) : ∀ {es : List MapEntry} {m : List (K × V)}, MRep S es m → MRep T es m
  | [], [], _ => trivial
  | _ :: _, _ :: _, ⟨a, b, c⟩ => ⟨a.mono hle, b.mono hle, MRep.mono hle c⟩
end
section
variable {K V : Type} [DecidableEq K]
end
section
variable {K V : Type} [Enc V] [DecidableEq K] {k : K}
end
section
variable {P : Program} {K V : Type} [Enc K] [Enc V] [DecidableEq K] {T : TypeId} {S : PH} {v : Value} {k : K}
end
section
variable {K V : Type} [Enc K] [Enc V] {k : K}
theorem MRep.append {S : PH} : ∀ {es es' : List MapEntry} {m m' : List (K × V)}, MRep S es m → MRep S es' m' → MRep S (es ++ es') (m ++ m')
  | [], _, [], _, _, h => h
  | _ :: _, _, _ :: _, _, ⟨a, b, c⟩, h => ⟨a, b, MRep.append c h⟩
end
section
variable {w w' : World} {S : PH} {O : List HP}
end
section ops
variable {P : Program} {n : Nat} {f : Fr} {w : World} {F : Fr → World → Prop} {d : Nat} {ty : TypeId} {pos : String} {af : Array Edge} {gd : Option (Nat × Bool)} {x y z : Operand} {v u : Value} {T kt et : TypeId}
  {K V : Type} [Enc K] [Enc V] [DecidableEq K] {S : PH} {O : List HP} {m : List (K × V)} {g : Nat} {k : K} {e : V}
end ops
def fuel_ : Nat := 1000000
structure MRef where
  g : Nat
instance : Enc MRef where
  agg := false
  sz := 1
  rep _ cs x := cs = [.map (some x.g)]
  len h := by rw [h]; rfl
  one _ := rfl
  cell1 h := by intro v hv; rw [h] at hv; simp at hv; subst hv; rfl
  mono _ h := h
section
variable {P : Program} {n : Nat} {f : Fr} {w : World} {F : Fr → World → Prop} {d : Nat} {ty : TypeId} {pos : String} {af : Array Edge} {gd : Option (Nat × Bool)} {x : Operand} {v : Value} {T : TypeId} {S : PH}
theorem dy_ {β : Type} [Enc β] {y : β} (hd : Nat.blt d n = true) (hx : ev f x = v) (hp : PtS S v y) (k : F (upd f d v) w) : OP P n ro ⟨some d, .nilCheck x, ty, pos, af, gd⟩ f w F := by
  obtain ⟨a, _, e, _⟩ := hp
  exact pa_ hd hx e k
end
section
variable {P : Program} {w : World}
end
end Go.Proofs.Ytlpdpeghgndmkaa.Pad
