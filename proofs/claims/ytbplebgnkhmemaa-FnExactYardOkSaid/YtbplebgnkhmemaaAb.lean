/- Short words for the engine's values. No program. -/
import Derived.Test.YtbplebgnkhmemaaWk
import Derived.Test.YtbplebgnkhmemaaE9
namespace Go.Proofs.Ytbplebgnkhmemaa
open Go.RowKit Go.Sort
abbrev Ni (n : Int) : AV := .c (.v (.int .i64 n))
abbrev Nb (b : Bool) : AV := .c (.v (.bool b))
abbrev Ns : AV := .c (.v (.slice none 0 0))
abbrev Hd (g : Nat) (η : Heads) : AV := .c (.h g 0 [] (η []))
abbrev Bx (g b : Nat) : AV := .c (.bp g 0 b)
abbrev Ro (d : D) : AV := .c (.ro d)
/-- A box of what came in. -/
abbrev Bi (b ty : Nat) (ds : List D) : Ob := .box b ty (ds.map fun x => .a x.toRo)
theorem flatB_sl (s t : Nat) (cs l : List D) : flatB (.sl s t cs :: l) = false := rfl
theorem oneB_sl (s t : Nat) (cs l : List D) : oneB (.sl s t cs :: l) = oneB l := rfl
attribute [go_sem] flatB_sl oneB_sl
end Go.Proofs.Ytbplebgnkhmemaa
