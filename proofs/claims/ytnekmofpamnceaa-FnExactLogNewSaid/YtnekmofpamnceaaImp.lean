/- What follows of an 'and', found by search over its parts. -/
import Derived.Test.YtnekmofpamnceaaWWords
namespace Go.Proofs.Ytnekmofpamnceaa.Q
class Imp (P Q : Prop) : Prop where
  imp : P → Q
instance Imp.refl {P : Prop} : Imp P P := ⟨id⟩
instance Imp.left {P Q R : Prop} [h : Imp P R] : Imp (P ∧ Q) R := ⟨fun x => h.imp x.1⟩
instance Imp.right {P Q R : Prop} [h : Imp Q R] : Imp (P ∧ Q) R := ⟨fun x => h.imp x.2⟩
instance Imp.both {P Q R : Prop} [h : Imp P Q] [k : Imp P R] : Imp P (Q ∧ R) := ⟨fun x => ⟨h.imp x, k.imp x⟩⟩
end Go.Proofs.Ytnekmofpamnceaa.Q
