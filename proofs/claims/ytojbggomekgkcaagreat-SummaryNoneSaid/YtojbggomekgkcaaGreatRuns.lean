import Derived.Test.YtojbggomekgkcaaGreatCfg
/- Which functions are told in one step, layer by layer. -/
namespace Go.Proofs.YtojbggomekgkcaaGreat.C
open Go Go.Ev Go.Proofs
/-- The primitives; then, one by one, the layers' own closed tests. -/
def p0 : List (Nat × Prim) := base
def p1 : List (Nat × Prim) := (334, boolP true) :: p0
def p2 : List (Nat × Prim) := (130, boolP true) :: p1
def p3 : List (Nat × Prim) := (446, boolP true) :: p2
def p4 : List (Nat × Prim) := (231, boolP true) :: p3
def p5 : List (Nat × Prim) := (431, boolP true) :: p4
def p6 : List (Nat × Prim) := (128, boolP true) :: p5
def p7 : List (Nat × Prim) := (391, boolP true) :: p6
def p8 : List (Nat × Prim) := (392, boolP true) :: p7
def p9 : List (Nat × Prim) := (340, boolP true) :: p8
def p10 : List (Nat × Prim) := (232, boolP true) :: p9
def p11 : List (Nat × Prim) := (129, boolP true) :: p10
def p12 : List (Nat × Prim) := (28, boolP true) :: p11
end Go.Proofs.YtojbggomekgkcaaGreat.C
