/- PROVED: words of the kit's print (Inv), those that this seat's texts use; laid by prune.py. No condition. -/
import Derived.Test.YtniaipoelaefnaaWTab
namespace Go.Proofs.YtniaipoelaefnaaW.PrintLast
/-- Number i is listed too. -/
def up (b : Nat → Bool) (i : Nat) : Nat → Bool := fun j => if j = i then true else b j
section
variable {P : Program} {ops : Array Oper} {Q : Exit → Act → World → Prop} {md : Region.Mode} {T : Bool × List (List Nat × List Nat)} {B : List Nat} {O : List Nat} {b : Nat → Bool} {i j n : Nat}
end
end Go.Proofs.YtniaipoelaefnaaW.PrintLast
