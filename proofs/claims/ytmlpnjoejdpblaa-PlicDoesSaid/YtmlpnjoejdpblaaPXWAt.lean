import Derived.Test.YtmlpnjoejdpblaaPXWFootNe
-- taken out of a text that the kit's print wrote for this claim; what the claim does not use is left out
namespace Go.Proofs.YtmlpnjoejdpblaaW.PrintWords
open Go.RowKit
section
variable {w w' u : World} {m B g : Nat} {o : Obj} {row : Option Nat} {S : Nat → Prop} {a : Addr} {v : Value}
end
namespace Kd
section
variable {α : Type} {d : Kd α} {e base n m : Nat} {ok : Nat → Prop} {w w' : World} {v : Value} {A : Option Addr} {xs : List α}
theorem F_at (hq : w.drewN m = w') (h : F d w ok A n xs) : F d w' ok A n xs := by subst hq; exact F_drewN h m
end
end Kd
end Go.Proofs.YtmlpnjoejdpblaaW.PrintWords
