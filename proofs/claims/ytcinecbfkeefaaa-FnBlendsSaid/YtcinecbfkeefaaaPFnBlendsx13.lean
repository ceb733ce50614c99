/- Text written by a program for this claim: contracts of the functions of one law. -/
import Derived.Test.YtcinecbfkeefaaaPFnBlendsx0
import Derived.Test.YtcinecbfkeefaaaPFnBlendsx3
import Derived.Test.YtcinecbfkeefaaaPFnBlendsx4
import Derived.Test.YtcinecbfkeefaaaPFnBlendsx5
import Derived.Test.YtcinecbfkeefaaaPFnBlendsx6
import Derived.Test.YtcinecbfkeefaaaPFnBlendsx7
import Derived.Test.YtcinecbfkeefaaaPFnBlendsx10
import Derived.Test.YtcinecbfkeefaaaPFnBlendsx11
import Derived.Test.YtcinecbfkeefaaaPFnBlendsx12
namespace Go.Proofs.Ytcinecbfkeefaaa.PFnBlends
open Go.RowKit Go.Proofs.YtcinecbfkeefaaaW.PrintWords Go.Proofs.YtcinecbfkeefaaaW.PrintLast Go.Proofs.YtcinecbfkeefaaaW.PrintMore
attribute [local go_sem] max2_int min2_int max_two min_two max_three min_three max_four min_four   -- for this text's walks alone
set_option linter.unusedVariables false
set_option linter.unusedSimpArgs false
open ShortPFnBlends0
namespace ShortPFnBlends13
abbrev m0_ : Array Bool := #[Z,Z,Z,Z,Z,Z,Z,Z,Z,Z,Z,Z,Z,Z,Z,Z,Z,Z,Z,Z,Z,Z,Z,Z,Z,Z,Z,Z,Z,Z,Z,Z,Z,Z,Z,Z,Z,Z,Z,Z,Z,Z,Z,Z,Z,Z,Z,Z,Z,Z,Z,Z,Z,Z,Z,Z,Z,Z,Z,Z,Z,Z,Z,Z,Z,Z,Z,Z,Z,Z,Z,Z,Z]
abbrev m1_ : Array Bool := #[Y,Z,Z,Z,Z,Z,Z,Z,Z,Z,Z,Z,Z,Z,Z,Z,Z,Z,Z,Z,Z,Z,Z,Z,Z,Z,Z,Z,Z,Z,Z,Z,Z,Z,Z,Z,Z,Z,Z,Z,Z,Z,Z,Z,Z,Z,Z,Z,Z,Z,Z,Z,Z,Z,Z,Z,Z,Z,Z,Z,Z,Z,Z,Z,Z,Z,Z,Z,Z,Z,Z,Z,Z]
abbrev m2_ : Array Bool := #[Y,Y,Z,Z,Z,Z,Z,Z,Z,Z,Z,Z,Z,Z,Z,Z,Z,Z,Z,Z,Z,Z,Z,Z,Z,Z,Z,Z,Z,Z,Z,Z,Z,Z,Z,Z,Z,Z,Z,Z,Z,Z,Z,Z,Z,Z,Z,Z,Z,Z,Z,Z,Z,Z,Z,Z,Z,Z,Z,Z,Z,Z,Z,Z,Z,Z,Z,Z,Z,Z,Z,Z,Z]
abbrev m3_ : Array Bool := #[Y,Y,Y,Z,Z,Z,Z,Z,Z,Z,Z,Z,Z,Z,Z,Z,Z,Z,Z,Z,Z,Z,Z,Z,Z,Z,Z,Z,Z,Z,Z,Z,Z,Z,Z,Z,Z,Z,Z,Z,Z,Z,Z,Z,Z,Z,Z,Z,Z,Z,Z,Z,Z,Z,Z,Z,Z,Z,Z,Z,Z,Z,Z,Z,Z,Z,Z,Z,Z,Z,Z,Z,Z]
abbrev m4_ : Array Bool := #[Y,Y,Y,Y,Z,Z,Z,Z,Z,Z,Z,Z,Z,Z,Z,Z,Z,Z,Z,Z,Z,Z,Z,Z,Z,Z,Z,Z,Z,Z,Z,Z,Z,Z,Z,Z,Z,Z,Z,Z,Z,Z,Z,Z,Z,Z,Z,Z,Z,Z,Z,Z,Z,Z,Z,Z,Z,Z,Z,Z,Z,Z,Z,Z,Z,Z,Z,Z,Z,Z,Z,Z,Z]
abbrev m5_ : Array Bool := #[Y,Y,Y,Y,Y,Z,Z,Z,Z,Z,Z,Z,Z,Z,Z,Z,Z,Z,Z,Z,Z,Z,Z,Z,Z,Z,Z,Z,Z,Z,Z,Z,Z,Z,Z,Z,Z,Z,Z,Z,Z,Z,Z,Z,Z,Z,Z,Z,Z,Z,Z,Z,Z,Z,Z,Z,Z,Z,Z,Z,Z,Z,Z,Z,Z,Z,Z,Z,Z,Z,Z,Z,Z]
abbrev m6_ : Array Bool := #[Y,Y,Y,Y,Y,Y,Z,Z,Z,Z,Z,Z,Z,Z,Z,Z,Z,Z,Z,Z,Z,Z,Z,Z,Z,Z,Z,Z,Z,Z,Z,Z,Z,Z,Z,Z,Z,Z,Z,Z,Z,Z,Z,Z,Z,Z,Z,Z,Z,Z,Z,Z,Z,Z,Z,Z,Z,Z,Z,Z,Z,Z,Z,Z,Z,Z,Z,Z,Z,Z,Z,Z,Z]
abbrev m7_ : Array Bool := #[Y,Y,Y,Y,Y,Y,Y,Z,Z,Z,Z,Z,Z,Z,Z,Z,Z,Z,Z,Z,Z,Z,Z,Z,Z,Z,Z,Z,Z,Z,Z,Z,Z,Z,Z,Z,Z,Z,Z,Z,Z,Z,Z,Z,Z,Z,Z,Z,Z,Z,Z,Z,Z,Z,Z,Z,Z,Z,Z,Z,Z,Z,Z,Z,Z,Z,Z,Z,Z,Z,Z,Z,Z]
abbrev m8_ : Array Bool := #[Y,Y,Y,Y,Y,Y,Y,Y,Z,Z,Z,Z,Z,Z,Z,Z,Z,Z,Z,Z,Z,Z,Z,Z,Z,Z,Z,Z,Z,Z,Z,Z,Z,Z,Z,Z,Z,Z,Z,Z,Z,Z,Z,Z,Z,Z,Z,Z,Z,Z,Z,Z,Z,Z,Z,Z,Z,Z,Z,Z,Z,Z,Z,Z,Z,Z,Z,Z,Z,Z,Z,Z,Z]
abbrev m9_ : Array Bool := #[Y,Y,Y,Y,Y,Y,Y,Y,Y,Z,Z,Z,Z,Z,Z,Z,Z,Z,Z,Z,Z,Z,Z,Z,Z,Z,Z,Z,Z,Z,Z,Z,Z,Z,Z,Z,Z,Z,Z,Z,Z,Z,Z,Z,Z,Z,Z,Z,Z,Z,Z,Z,Z,Z,Z,Z,Z,Z,Z,Z,Z,Z,Z,Z,Z,Z,Z,Z,Z,Z,Z,Z,Z]
abbrev m10_ : Array Bool := #[Y,Y,Y,Y,Y,Y,Y,Y,Y,Y,Z,Z,Z,Z,Z,Z,Z,Z,Z,Z,Z,Z,Z,Z,Z,Z,Z,Z,Z,Z,Z,Z,Z,Z,Z,Z,Z,Z,Z,Z,Z,Z,Z,Z,Z,Z,Z,Z,Z,Z,Z,Z,Z,Z,Z,Z,Z,Z,Z,Z,Z,Z,Z,Z,Z,Z,Z,Z,Z,Z,Z,Z,Z]
abbrev m11_ : Array Bool := #[Y,Y,Y,Y,Y,Y,Y,Y,Y,Y,Y,Z,Z,Z,Z,Z,Z,Z,Z,Z,Z,Z,Z,Z,Z,Z,Z,Z,Z,Z,Z,Z,Z,Z,Z,Z,Z,Z,Z,Z,Z,Z,Z,Z,Z,Z,Z,Z,Z,Z,Z,Z,Z,Z,Z,Z,Z,Z,Z,Z,Z,Z,Z,Z,Z,Z,Z,Z,Z,Z,Z,Z,Z]
abbrev m12_ : Array Bool := #[Y,Y,Y,Y,Y,Y,Y,Y,Y,Y,Y,Y,Z,Z,Z,Z,Z,Z,Z,Z,Z,Z,Z,Z,Z,Z,Z,Z,Z,Z,Z,Z,Z,Z,Z,Z,Z,Z,Z,Z,Z,Z,Z,Z,Z,Z,Z,Z,Z,Z,Z,Z,Z,Z,Z,Z,Z,Z,Z,Z,Z,Z,Z,Z,Z,Z,Z,Z,Z,Z,Z,Z,Z]
abbrev m13_ : Array Bool := #[Y,Y,Y,Y,Y,Y,Y,Y,Y,Y,Y,Y,Y,Z,Z,Z,Z,Z,Z,Z,Z,Z,Z,Z,Z,Z,Z,Z,Z,Z,Z,Z,Z,Z,Z,Z,Z,Z,Z,Z,Z,Z,Z,Z,Z,Z,Z,Z,Z,Z,Z,Z,Z,Z,Z,Z,Z,Z,Z,Z,Z,Z,Z,Z,Z,Z,Z,Z,Z,Z,Z,Z,Z]
abbrev m14_ : Array Bool := #[Y,Y,Y,Y,Y,Y,Y,Y,Y,Y,Y,Y,Y,Y,Z,Z,Z,Z,Z,Z,Z,Z,Z,Z,Z,Z,Z,Z,Z,Z,Z,Z,Z,Z,Z,Z,Z,Z,Z,Z,Z,Z,Z,Z,Z,Z,Z,Z,Z,Z,Z,Z,Z,Z,Z,Z,Z,Z,Z,Z,Z,Z,Z,Z,Z,Z,Z,Z,Z,Z,Z,Z,Z]
abbrev m15_ : Array Bool := #[Y,Y,Y,Y,Y,Y,Y,Y,Y,Y,Y,Y,Y,Y,Y,Z,Z,Z,Z,Z,Z,Z,Z,Z,Z,Z,Z,Z,Z,Z,Z,Z,Z,Z,Z,Z,Z,Z,Z,Z,Z,Z,Z,Z,Z,Z,Z,Z,Z,Z,Z,Z,Z,Z,Z,Z,Z,Z,Z,Z,Z,Z,Z,Z,Z,Z,Z,Z,Z,Z,Z,Z,Z]
abbrev m16_ : Array Bool := #[Y,Y,Y,Y,Y,Y,Y,Y,Y,Y,Y,Y,Y,Y,Y,Y,Z,Z,Z,Z,Z,Z,Z,Z,Z,Z,Z,Z,Z,Z,Z,Z,Z,Z,Z,Z,Z,Z,Z,Z,Z,Z,Z,Z,Z,Z,Z,Z,Z,Z,Z,Z,Z,Z,Z,Z,Z,Z,Z,Z,Z,Z,Z,Z,Z,Z,Z,Z,Z,Z,Z,Z,Z]
abbrev m17_ : Array Bool := #[Y,Y,Y,Y,Y,Y,Y,Y,Y,Y,Y,Y,Y,Y,Y,Y,Y,Z,Z,Z,Z,Z,Z,Z,Z,Z,Z,Z,Z,Z,Z,Z,Z,Z,Z,Z,Z,Z,Z,Z,Z,Z,Z,Z,Z,Z,Z,Z,Z,Z,Z,Z,Z,Z,Z,Z,Z,Z,Z,Z,Z,Z,Z,Z,Z,Z,Z,Z,Z,Z,Z,Z,Z]
abbrev m18_ : Array Bool := #[Y,Y,Y,Y,Y,Y,Y,Y,Y,Y,Y,Y,Y,Y,Y,Y,Y,Y,Z,Z,Z,Z,Z,Z,Z,Z,Z,Z,Z,Z,Z,Z,Z,Z,Z,Z,Z,Z,Z,Z,Z,Z,Z,Z,Z,Z,Z,Z,Z,Z,Z,Z,Z,Z,Z,Z,Z,Z,Z,Z,Z,Z,Z,Z,Z,Z,Z,Z,Z,Z,Z,Z,Z]
abbrev m19_ : Array Bool := #[Y,Y,Y,Y,Y,Y,Y,Y,Y,Y,Y,Y,Y,Y,Y,Y,Y,Y,Y,Z,Z,Z,Z,Z,Z,Z,Z,Z,Z,Z,Z,Z,Z,Z,Z,Z,Z,Z,Z,Z,Z,Z,Z,Z,Z,Z,Z,Z,Z,Z,Z,Z,Z,Z,Z,Z,Z,Z,Z,Z,Z,Z,Z,Z,Z,Z,Z,Z,Z,Z,Z,Z,Z]
abbrev m20_ : Array Bool := #[Y,Y,Y,Y,Y,Y,Y,Y,Y,Y,Y,Y,Y,Y,Y,Y,Y,Y,Y,Y,Z,Z,Z,Z,Z,Z,Z,Z,Z,Z,Z,Z,Z,Z,Z,Z,Z,Z,Z,Z,Z,Z,Z,Z,Z,Z,Z,Z,Z,Z,Z,Z,Z,Z,Z,Z,Z,Z,Z,Z,Z,Z,Z,Z,Z,Z,Z,Z,Z,Z,Z,Z,Z]
abbrev m21_ : Array Bool := #[Y,Y,Y,Y,Y,Y,Y,Y,Y,Y,Y,Y,Y,Y,Y,Y,Y,Y,Y,Y,Y,Z,Z,Z,Z,Z,Z,Z,Z,Z,Z,Z,Z,Z,Z,Z,Z,Z,Z,Z,Z,Z,Z,Z,Z,Z,Z,Z,Z,Z,Z,Z,Z,Z,Z,Z,Z,Z,Z,Z,Z,Z,Z,Z,Z,Z,Z,Z,Z,Z,Z,Z,Z]
abbrev m22_ : Array Bool := #[Y,Y,Y,Y,Y,Y,Y,Y,Y,Y,Y,Y,Y,Y,Y,Y,Y,Y,Y,Y,Y,Y,Z,Z,Z,Z,Z,Z,Z,Z,Z,Z,Z,Z,Z,Z,Z,Z,Z,Z,Z,Z,Z,Z,Z,Z,Z,Z,Z,Z,Z,Z,Z,Z,Z,Z,Z,Z,Z,Z,Z,Z,Z,Z,Z,Z,Z,Z,Z,Z,Z,Z,Z]
abbrev m23_ : Array Bool := #[Y,Y,Y,Y,Y,Y,Y,Y,Y,Y,Y,Y,Y,Y,Y,Y,Y,Y,Y,Y,Y,Y,Y,Z,Z,Z,Z,Z,Z,Z,Z,Z,Z,Z,Z,Z,Z,Z,Z,Z,Z,Z,Z,Z,Z,Z,Z,Z,Z,Z,Z,Z,Z,Z,Z,Z,Z,Z,Z,Z,Z,Z,Z,Z,Z,Z,Z,Z,Z,Z,Z,Z,Z]
abbrev m24_ : Array Bool := #[Y,Y,Y,Y,Y,Y,Y,Y,Y,Y,Y,Y,Y,Y,Y,Y,Y,Y,Y,Y,Y,Y,Y,Y,Z,Z,Z,Z,Z,Z,Z,Z,Z,Z,Z,Z,Z,Z,Z,Z,Z,Z,Z,Z,Z,Z,Z,Z,Z,Z,Z,Z,Z,Z,Z,Z,Z,Z,Z,Z,Z,Z,Z,Z,Z,Z,Z,Z,Z,Z,Z,Z,Z]
abbrev m25_ : Array Bool := #[Y,Y,Y,Y,Y,Y,Y,Y,Y,Y,Y,Y,Y,Y,Y,Y,Y,Y,Y,Y,Y,Y,Y,Y,Y,Z,Z,Z,Z,Z,Z,Z,Z,Z,Z,Z,Z,Z,Z,Z,Z,Z,Z,Z,Z,Z,Z,Z,Z,Z,Z,Z,Z,Z,Z,Z,Z,Z,Z,Z,Z,Z,Z,Z,Z,Z,Z,Z,Z,Z,Z,Z,Z]
abbrev m26_ : Array Bool := #[Y,Y,Y,Y,Y,Y,Y,Y,Y,Y,Y,Y,Y,Y,Y,Y,Y,Y,Y,Y,Y,Y,Y,Y,Y,Y,Z,Z,Z,Z,Z,Z,Z,Z,Z,Z,Z,Z,Z,Z,Z,Z,Z,Z,Z,Z,Z,Z,Z,Z,Z,Z,Z,Z,Z,Z,Z,Z,Z,Z,Z,Z,Z,Z,Z,Z,Z,Z,Z,Z,Z,Z,Z]
abbrev m27_ : Array Bool := #[Y,Y,Y,Y,Y,Y,Y,Y,Y,Y,Y,Y,Y,Y,Y,Y,Y,Y,Y,Y,Y,Y,Y,Y,Y,Y,Y,Z,Z,Z,Z,Z,Z,Z,Z,Z,Z,Z,Z,Z,Z,Z,Z,Z,Z,Z,Z,Z,Z,Z,Z,Z,Z,Z,Z,Z,Z,Z,Z,Z,Z,Z,Z,Z,Z,Z,Z,Z,Z,Z,Z,Z,Z]
abbrev m28_ : Array Bool := #[Y,Y,Y,Y,Y,Y,Y,Y,Y,Y,Y,Y,Y,Y,Y,Y,Y,Y,Y,Y,Y,Y,Y,Y,Y,Y,Y,Y,Z,Z,Z,Z,Z,Z,Z,Z,Z,Z,Z,Z,Z,Z,Z,Z,Z,Z,Z,Z,Z,Z,Z,Z,Z,Z,Z,Z,Z,Z,Z,Z,Z,Z,Z,Z,Z,Z,Z,Z,Z,Z,Z,Z,Z]
abbrev m29_ : Array Bool := #[Y,Y,Y,Y,Y,Y,Y,Y,Y,Y,Y,Y,Y,Y,Y,Y,Y,Y,Y,Y,Y,Y,Y,Y,Y,Y,Y,Y,Y,Z,Z,Z,Z,Z,Z,Z,Z,Z,Z,Z,Z,Z,Z,Z,Z,Z,Z,Z,Z,Z,Z,Z,Z,Z,Z,Z,Z,Z,Z,Z,Z,Z,Z,Z,Z,Z,Z,Z,Z,Z,Z,Z,Z]
abbrev m30_ : Array Bool := #[Y,Y,Y,Y,Y,Y,Y,Y,Y,Y,Y,Y,Y,Y,Y,Y,Y,Y,Y,Y,Y,Y,Y,Y,Y,Y,Y,Y,Y,Y,Z,Z,Z,Z,Z,Z,Z,Z,Z,Z,Z,Z,Z,Z,Z,Z,Z,Z,Z,Z,Z,Z,Z,Z,Z,Z,Z,Z,Z,Z,Z,Z,Z,Z,Z,Z,Z,Z,Z,Z,Z,Z,Z]
abbrev m31_ : Array Bool := #[Y,Y,Y,Y,Y,Y,Y,Y,Y,Y,Y,Y,Y,Y,Y,Y,Y,Y,Y,Y,Y,Y,Y,Y,Y,Y,Y,Y,Y,Y,Y,Z,Z,Z,Z,Z,Z,Z,Z,Z,Z,Z,Z,Z,Z,Z,Z,Z,Z,Z,Z,Z,Z,Z,Z,Z,Z,Z,Z,Z,Z,Z,Z,Z,Z,Z,Z,Z,Z,Z,Z,Z,Z]
abbrev m32_ : Array Bool := #[Y,Y,Y,Y,Y,Y,Y,Y,Y,Y,Y,Y,Y,Y,Y,Y,Y,Y,Y,Y,Y,Y,Y,Y,Y,Y,Y,Y,Y,Y,Y,Y,Z,Z,Z,Z,Z,Z,Z,Z,Z,Z,Z,Z,Z,Z,Z,Z,Z,Z,Z,Z,Z,Z,Z,Z,Z,Z,Z,Z,Z,Z,Z,Z,Z,Z,Z,Z,Z,Z,Z,Z,Z]
abbrev m33_ : Array Bool := #[Y,Y,Y,Y,Y,Y,Y,Y,Y,Y,Y,Y,Y,Y,Y,Y,Y,Y,Y,Y,Y,Y,Y,Y,Y,Y,Y,Y,Y,Y,Y,Y,Y,Z,Z,Z,Z,Z,Z,Z,Z,Z,Z,Z,Z,Z,Z,Z,Z,Z,Z,Z,Z,Z,Z,Z,Z,Z,Z,Z,Z,Z,Z,Z,Z,Z,Z,Z,Z,Z,Z,Z,Z]
abbrev m34_ : Array Bool := #[Y,Y,Y,Y,Y,Y,Y,Y,Y,Y,Y,Y,Y,Y,Y,Y,Y,Y,Y,Y,Y,Y,Y,Y,Y,Y,Y,Y,Y,Y,Y,Y,Y,Y,Z,Z,Z,Z,Z,Z,Z,Z,Z,Z,Z,Z,Z,Z,Z,Z,Z,Z,Z,Z,Z,Z,Z,Z,Z,Z,Z,Z,Z,Z,Z,Z,Z,Z,Z,Z,Z,Z,Z]
abbrev m35_ : Array Bool := #[Y,Y,Y,Y,Y,Y,Y,Y,Y,Y,Y,Y,Y,Y,Y,Y,Y,Y,Y,Y,Y,Y,Y,Y,Y,Y,Y,Y,Y,Y,Y,Y,Y,Y,Y,Z,Z,Z,Z,Z,Z,Z,Z,Z,Z,Z,Z,Z,Z,Z,Z,Z,Z,Z,Z,Z,Z,Z,Z,Z,Z,Z,Z,Z,Z,Z,Z,Z,Z,Z,Z,Z,Z]
abbrev m36_ : Array Bool := #[Y,Y,Y,Y,Y,Y,Y,Y,Y,Y,Y,Y,Y,Y,Y,Y,Y,Y,Y,Y,Y,Y,Y,Y,Y,Y,Y,Y,Y,Y,Y,Y,Y,Y,Y,Y,Z,Z,Z,Z,Z,Z,Z,Z,Z,Z,Z,Z,Z,Z,Z,Z,Z,Z,Z,Z,Z,Z,Z,Z,Z,Z,Z,Z,Z,Z,Z,Z,Z,Z,Z,Z,Z]
abbrev m37_ : Array Bool := #[Y,Y,Y,Y,Y,Y,Y,Y,Y,Y,Y,Y,Y,Y,Y,Y,Y,Y,Y,Y,Y,Y,Y,Y,Y,Y,Y,Y,Y,Y,Y,Y,Y,Y,Y,Y,Y,Z,Z,Z,Z,Z,Z,Z,Z,Z,Z,Z,Z,Z,Z,Z,Z,Z,Z,Z,Z,Z,Z,Z,Z,Z,Z,Z,Z,Z,Z,Z,Z,Z,Z,Z,Z]
abbrev m38_ : Array Bool := #[Y,Y,Y,Y,Y,Y,Y,Y,Y,Y,Y,Y,Y,Y,Y,Y,Y,Y,Y,Y,Y,Y,Y,Y,Y,Y,Y,Y,Y,Y,Y,Y,Y,Y,Y,Y,Y,Y,Z,Z,Z,Z,Z,Z,Z,Z,Z,Z,Z,Z,Z,Z,Z,Z,Z,Z,Z,Z,Z,Z,Z,Z,Z,Z,Z,Z,Z,Z,Z,Z,Z,Z,Z]
abbrev m39_ : Array Bool := #[Y,Y,Y,Y,Y,Y,Y,Y,Y,Y,Y,Y,Y,Y,Y,Y,Y,Y,Y,Y,Y,Y,Y,Y,Y,Y,Y,Y,Y,Y,Y,Y,Y,Y,Y,Y,Y,Y,Y,Z,Z,Z,Z,Z,Z,Z,Z,Z,Z,Z,Z,Z,Z,Z,Z,Z,Z,Z,Z,Z,Z,Z,Z,Z,Z,Z,Z,Z,Z,Z,Z,Z,Z]
abbrev m40_ : Array Bool := #[Y,Y,Y,Y,Y,Y,Y,Y,Y,Y,Y,Y,Y,Y,Y,Y,Y,Y,Y,Y,Y,Y,Y,Y,Y,Y,Y,Y,Y,Y,Y,Y,Y,Y,Y,Y,Y,Y,Y,Y,Z,Z,Z,Z,Z,Z,Z,Z,Z,Z,Z,Z,Z,Z,Z,Z,Z,Z,Z,Z,Z,Z,Z,Z,Z,Z,Z,Z,Z,Z,Z,Z,Z]
abbrev m41_ : Array Bool := #[Y,Y,Y,Y,Y,Y,Y,Y,Y,Y,Y,Y,Y,Y,Y,Y,Y,Y,Y,Y,Y,Y,Y,Y,Y,Y,Y,Y,Y,Y,Y,Y,Y,Y,Y,Y,Y,Y,Y,Y,Y,Z,Z,Z,Z,Z,Z,Z,Z,Z,Z,Z,Z,Z,Z,Z,Z,Z,Z,Z,Z,Z,Z,Z,Z,Z,Z,Z,Z,Z,Z,Z,Z]
abbrev m42_ : Array Bool := #[Y,Y,Y,Y,Y,Y,Y,Y,Y,Y,Y,Y,Y,Y,Y,Y,Y,Y,Y,Y,Y,Y,Y,Y,Y,Y,Y,Y,Y,Y,Y,Y,Y,Y,Y,Y,Y,Y,Y,Y,Y,Y,Z,Z,Z,Z,Z,Z,Z,Z,Z,Z,Z,Z,Z,Z,Z,Z,Z,Z,Z,Z,Z,Z,Z,Z,Z,Z,Z,Z,Z,Z,Z]
abbrev m43_ : Array Bool := #[Y,Y,Y,Y,Y,Y,Y,Y,Y,Y,Y,Y,Y,Y,Y,Y,Y,Y,Y,Y,Y,Y,Y,Y,Y,Y,Y,Y,Y,Y,Y,Y,Y,Y,Y,Y,Y,Y,Y,Y,Y,Y,Y,Z,Z,Z,Z,Z,Z,Z,Z,Z,Z,Z,Z,Z,Z,Z,Z,Z,Z,Z,Z,Z,Z,Z,Z,Z,Z,Z,Z,Z,Z]
abbrev m44_ : Array Bool := #[Y,Y,Y,Y,Y,Y,Y,Y,Y,Y,Y,Y,Y,Y,Y,Y,Y,Y,Y,Y,Y,Y,Y,Y,Y,Y,Y,Y,Y,Y,Y,Y,Y,Y,Y,Y,Y,Y,Y,Y,Y,Y,Y,Y,Z,Z,Z,Z,Z,Z,Z,Z,Z,Z,Z,Z,Z,Z,Z,Z,Z,Z,Z,Z,Z,Z,Z,Z,Z,Z,Z,Z,Z]
abbrev m45_ : Array Bool := #[Y,Y,Y,Y,Y,Y,Y,Y,Y,Y,Y,Y,Y,Y,Y,Y,Y,Y,Y,Y,Y,Y,Y,Y,Y,Y,Y,Y,Y,Y,Y,Y,Y,Y,Y,Y,Y,Y,Y,Y,Y,Y,Y,Y,Y,Z,Z,Z,Z,Z,Z,Z,Z,Z,Z,Z,Z,Z,Z,Z,Z,Z,Z,Z,Z,Z,Z,Z,Z,Z,Z,Z,Z]
abbrev m46_ : Array Bool := #[Y,Y,Y,Y,Y,Y,Y,Y,Y,Y,Y,Y,Y,Y,Y,Y,Y,Y,Y,Y,Y,Y,Y,Y,Y,Y,Y,Y,Y,Y,Y,Y,Y,Y,Y,Y,Y,Y,Y,Y,Y,Y,Y,Y,Y,Y,Z,Z,Z,Z,Z,Z,Z,Z,Z,Z,Z,Z,Z,Z,Z,Z,Z,Z,Z,Z,Z,Z,Z,Z,Z,Z,Z]
abbrev m47_ : Array Bool := #[Y,Y,Y,Y,Y,Y,Y,Y,Y,Y,Y,Y,Y,Y,Y,Y,Y,Y,Y,Y,Y,Y,Y,Y,Y,Y,Y,Y,Y,Y,Y,Y,Y,Y,Y,Y,Y,Y,Y,Y,Y,Y,Y,Y,Y,Y,Y,Z,Z,Z,Z,Z,Z,Z,Z,Z,Z,Z,Z,Z,Z,Z,Z,Z,Z,Z,Z,Z,Z,Z,Z,Z,Z]
abbrev m48_ : Array Bool := #[Y,Y,Y,Y,Y,Y,Y,Y,Y,Y,Y,Y,Y,Y,Y,Y,Y,Y,Y,Y,Y,Y,Y,Y,Y,Y,Y,Y,Y,Y,Y,Y,Y,Y,Y,Y,Y,Y,Y,Y,Y,Y,Y,Y,Y,Y,Y,Z,Y,Z,Z,Z,Z,Z,Z,Z,Z,Z,Z,Z,Z,Z,Z,Z,Z,Z,Z,Z,Z,Z,Z,Z,Z]
abbrev m49_ : Array Bool := #[Y,Y,Y,Y,Y,Y,Y,Y,Y,Y,Y,Y,Y,Y,Y,Y,Y,Y,Y,Y,Y,Y,Y,Y,Y,Y,Y,Y,Y,Y,Y,Y,Y,Y,Y,Y,Y,Y,Y,Y,Y,Y,Y,Y,Y,Y,Y,Y,Y,Z,Z,Z,Z,Z,Z,Z,Z,Z,Z,Z,Z,Z,Z,Z,Z,Z,Z,Z,Z,Z,Z,Z,Z]
abbrev m50_ : Array Bool := #[Y,Y,Y,Y,Y,Y,Y,Y,Y,Y,Y,Y,Y,Y,Y,Y,Y,Y,Y,Y,Y,Y,Y,Y,Y,Y,Y,Y,Y,Y,Y,Y,Y,Y,Y,Y,Y,Y,Y,Y,Y,Y,Y,Y,Y,Y,Y,Y,Y,Y,Z,Z,Z,Z,Z,Z,Z,Z,Z,Z,Z,Z,Z,Z,Z,Z,Z,Z,Z,Z,Z,Z,Z]
abbrev m51_ : Array Bool := #[Y,Y,Y,Y,Y,Y,Y,Y,Y,Y,Y,Y,Y,Y,Y,Y,Y,Y,Y,Y,Y,Y,Y,Y,Y,Y,Y,Y,Y,Y,Y,Y,Y,Y,Y,Y,Y,Y,Y,Y,Y,Y,Y,Y,Y,Y,Y,Y,Y,Y,Y,Z,Z,Z,Z,Z,Z,Z,Z,Z,Z,Z,Z,Z,Z,Z,Z,Z,Z,Z,Z,Z,Z]
abbrev m52_ : Array Bool := #[Y,Y,Y,Y,Y,Y,Y,Y,Y,Y,Y,Y,Y,Y,Y,Y,Y,Y,Y,Y,Y,Y,Y,Y,Y,Y,Y,Y,Y,Y,Y,Y,Y,Y,Y,Y,Y,Y,Y,Y,Y,Y,Y,Y,Y,Y,Y,Y,Y,Y,Y,Y,Z,Z,Z,Z,Z,Z,Z,Z,Z,Z,Z,Z,Z,Z,Z,Z,Z,Z,Z,Z,Z]
abbrev m53_ : Array Bool := #[Y,Y,Y,Y,Y,Y,Y,Y,Y,Y,Y,Y,Y,Y,Y,Y,Y,Y,Y,Y,Y,Y,Y,Y,Y,Y,Y,Y,Y,Y,Y,Y,Y,Y,Y,Y,Y,Y,Y,Y,Y,Y,Y,Y,Y,Y,Y,Y,Y,Y,Y,Y,Y,Z,Z,Z,Z,Z,Z,Z,Z,Z,Z,Z,Z,Z,Z,Z,Z,Z,Z,Z,Z]
abbrev m54_ : Array Bool := #[Y,Y,Y,Y,Y,Y,Y,Y,Y,Y,Y,Y,Y,Y,Y,Y,Y,Y,Y,Y,Y,Y,Y,Y,Y,Y,Y,Y,Y,Y,Y,Y,Y,Y,Y,Y,Y,Y,Y,Y,Y,Y,Y,Y,Y,Y,Y,Y,Y,Y,Y,Y,Y,Y,Z,Z,Z,Z,Z,Z,Z,Z,Z,Z,Z,Z,Z,Z,Z,Z,Z,Z,Z]
abbrev m55_ : Array Bool := #[Y,Y,Y,Y,Y,Y,Y,Y,Y,Y,Y,Y,Y,Y,Y,Y,Y,Y,Y,Y,Y,Y,Y,Y,Y,Y,Y,Y,Y,Y,Y,Y,Y,Y,Y,Y,Y,Y,Y,Y,Y,Y,Y,Y,Y,Y,Y,Y,Y,Y,Y,Y,Y,Y,Z,Y,Z,Z,Z,Z,Z,Z,Z,Z,Z,Z,Z,Z,Z,Z,Z,Z,Z]
abbrev m56_ : Array Bool := #[Y,Y,Y,Y,Y,Y,Y,Y,Y,Y,Y,Y,Y,Y,Y,Y,Y,Y,Y,Y,Y,Y,Y,Y,Y,Y,Y,Y,Y,Y,Y,Y,Y,Y,Y,Y,Y,Y,Y,Y,Y,Y,Y,Y,Y,Y,Y,Y,Y,Y,Y,Y,Y,Y,Y,Y,Z,Z,Z,Z,Z,Z,Z,Z,Z,Z,Z,Z,Z,Z,Z,Z,Z]
abbrev m57_ : Array Bool := #[Y,Y,Y,Y,Y,Y,Y,Y,Y,Y,Y,Y,Y,Y,Y,Y,Y,Y,Y,Y,Y,Y,Y,Y,Y,Y,Y,Y,Y,Y,Y,Y,Y,Y,Y,Y,Y,Y,Y,Y,Y,Y,Y,Y,Y,Y,Y,Y,Y,Y,Y,Y,Y,Y,Y,Y,Y,Z,Z,Z,Z,Z,Z,Z,Z,Z,Z,Z,Z,Z,Z,Z,Z]
abbrev m58_ : Array Bool := #[Y,Y,Y,Y,Y,Y,Y,Y,Y,Y,Y,Y,Y,Y,Y,Y,Y,Y,Y,Y,Y,Y,Y,Y,Y,Y,Y,Y,Y,Y,Y,Y,Y,Y,Y,Y,Y,Y,Y,Y,Y,Y,Y,Y,Y,Y,Y,Y,Y,Y,Y,Y,Y,Y,Y,Y,Y,Y,Z,Z,Z,Z,Z,Z,Z,Z,Z,Z,Z,Z,Z,Z,Z]
abbrev m59_ : Array Bool := #[Y,Y,Y,Y,Y,Y,Y,Y,Y,Y,Y,Y,Y,Y,Y,Y,Y,Y,Y,Y,Y,Y,Y,Y,Y,Y,Y,Y,Y,Y,Y,Y,Y,Y,Y,Y,Y,Y,Y,Y,Y,Y,Y,Y,Y,Y,Y,Y,Y,Y,Y,Y,Y,Y,Y,Y,Y,Y,Y,Z,Z,Z,Z,Z,Z,Z,Z,Z,Z,Z,Z,Z,Z]
abbrev m60_ : Array Bool := #[Y,Y,Y,Y,Y,Y,Y,Y,Y,Y,Y,Y,Y,Y,Y,Y,Y,Y,Y,Y,Y,Y,Y,Y,Y,Y,Y,Y,Y,Y,Y,Y,Y,Y,Y,Y,Y,Y,Y,Y,Y,Y,Y,Y,Y,Y,Y,Y,Y,Y,Y,Y,Y,Y,Y,Y,Y,Y,Y,Y,Z,Z,Z,Z,Z,Z,Z,Z,Z,Z,Z,Z,Z]
abbrev m61_ : Array Bool := #[Y,Y,Y,Y,Y,Y,Y,Y,Y,Y,Y,Y,Y,Y,Y,Y,Y,Y,Y,Y,Y,Y,Y,Y,Y,Y,Y,Y,Y,Y,Y,Y,Y,Y,Y,Y,Y,Y,Y,Y,Y,Y,Y,Y,Y,Y,Y,Y,Y,Y,Y,Y,Y,Y,Y,Y,Y,Y,Y,Y,Y,Z,Z,Z,Z,Z,Z,Z,Z,Z,Z,Z,Z]
abbrev m62_ : Array Bool := #[Y,Y,Y,Y,Y,Y,Y,Y,Y,Y,Y,Y,Y,Y,Y,Y,Y,Y,Y,Y,Y,Y,Y,Y,Y,Y,Y,Y,Y,Y,Y,Y,Y,Y,Y,Y,Y,Y,Y,Y,Y,Y,Y,Y,Y,Y,Y,Y,Y,Y,Y,Y,Y,Y,Y,Y,Y,Y,Y,Y,Y,Y,Z,Z,Z,Z,Z,Z,Z,Z,Z,Z,Z]
abbrev m63_ : Array Bool := #[Y,Y,Y,Y,Y,Y,Y,Y,Y,Y,Y,Y,Y,Y,Y,Y,Y,Y,Y,Y,Y,Y,Y,Y,Y,Y,Y,Y,Y,Y,Y,Y,Y,Y,Y,Y,Y,Y,Y,Y,Y,Y,Y,Y,Y,Y,Y,Y,Y,Y,Y,Y,Y,Y,Y,Y,Y,Y,Y,Y,Y,Y,Y,Z,Z,Z,Z,Z,Z,Z,Z,Z,Z]
abbrev m64_ : Array Bool := #[Y,Y,Y,Y,Y,Y,Y,Y,Y,Y,Y,Y,Y,Y,Y,Y,Y,Y,Y,Y,Y,Y,Y,Y,Y,Y,Y,Y,Y,Y,Y,Y,Y,Y,Y,Y,Y,Y,Y,Y,Y,Y,Y,Y,Y,Y,Y,Y,Y,Y,Y,Y,Y,Y,Y,Y,Y,Y,Y,Y,Y,Y,Y,Y,Z,Z,Z,Z,Z,Z,Z,Z,Z]
abbrev m65_ : Array Bool := #[Y,Y,Y,Y,Y,Y,Y,Y,Y,Y,Y,Y,Y,Y,Y,Y,Y,Y,Y,Y,Y,Y,Y,Y,Y,Y,Y,Y,Y,Y,Y,Y,Y,Y,Y,Y,Y,Y,Y,Y,Y,Y,Y,Y,Y,Y,Y,Y,Y,Y,Y,Y,Y,Y,Y,Y,Y,Y,Y,Y,Y,Y,Y,Y,Y,Z,Z,Z,Z,Z,Z,Z,Z]
abbrev m66_ : Array Bool := #[Y,Y,Y,Y,Y,Y,Y,Y,Y,Y,Y,Y,Y,Y,Y,Y,Y,Y,Y,Y,Y,Y,Y,Y,Y,Y,Y,Y,Y,Y,Y,Y,Y,Y,Y,Y,Y,Y,Y,Y,Y,Y,Y,Y,Y,Y,Y,Y,Y,Y,Y,Y,Y,Y,Y,Y,Y,Y,Y,Y,Y,Y,Y,Y,Y,Y,Z,Z,Z,Z,Z,Z,Z]
abbrev m67_ : Array Bool := #[Y,Y,Y,Y,Y,Y,Y,Y,Y,Y,Y,Y,Y,Y,Y,Y,Y,Y,Y,Y,Y,Y,Y,Y,Y,Y,Y,Y,Y,Y,Y,Y,Y,Y,Y,Y,Y,Y,Y,Y,Y,Y,Y,Y,Y,Y,Y,Y,Y,Y,Y,Y,Y,Y,Y,Y,Y,Y,Y,Y,Y,Y,Y,Y,Y,Y,Y,Z,Z,Z,Z,Z,Z]
abbrev m68_ : Array Bool := #[Y,Y,Y,Y,Y,Y,Y,Y,Y,Y,Y,Y,Y,Y,Y,Y,Y,Y,Y,Y,Y,Y,Y,Y,Y,Y,Y,Y,Y,Y,Y,Y,Y,Y,Y,Y,Y,Y,Y,Y,Y,Y,Y,Y,Y,Y,Y,Y,Y,Y,Y,Y,Y,Y,Y,Y,Y,Y,Y,Y,Y,Y,Y,Y,Y,Y,Y,Y,Z,Z,Z,Z,Z]
abbrev m69_ : Array Bool := #[Y,Y,Y,Y,Y,Y,Y,Y,Y,Y,Y,Y,Y,Y,Y,Y,Y,Y,Y,Y,Y,Y,Y,Y,Y,Y,Y,Y,Y,Y,Y,Y,Y,Y,Y,Y,Y,Y,Y,Y,Y,Y,Y,Y,Y,Y,Y,Y,Y,Y,Y,Y,Y,Y,Y,Y,Y,Y,Y,Y,Y,Y,Y,Y,Y,Y,Y,Y,Y,Z,Z,Z,Z]
abbrev m70_ : Array Bool := #[Y,Y,Y,Y,Y,Y,Y,Y,Y,Y,Y,Y,Y,Y,Y,Y,Y,Y,Y,Y,Y,Y,Y,Y,Y,Y,Y,Y,Y,Y,Y,Y,Y,Y,Y,Y,Y,Y,Y,Y,Y,Y,Y,Y,Y,Y,Y,Y,Y,Y,Y,Y,Y,Y,Y,Y,Y,Y,Y,Y,Y,Y,Y,Y,Y,Y,Y,Y,Y,Y,Z,Z,Z]
abbrev m71_ : Array Bool := #[Y,Y,Y,Y,Y,Y,Y,Y,Y,Y,Y,Y,Y,Y,Y,Y,Y,Y,Y,Y,Y,Y,Y,Y,Y,Y,Y,Y,Y,Y,Y,Y,Y,Y,Y,Y,Y,Y,Y,Y,Y,Y,Y,Y,Y,Y,Y,Y,Y,Y,Y,Y,Y,Y,Y,Y,Y,Y,Y,Y,Y,Y,Y,Y,Y,Y,Y,Y,Y,Y,Y,Z,Z]
abbrev m72_ : Array Bool := #[Y,Y,Y,Y,Y,Y,Y,Y,Y,Y,Y,Y,Y,Y,Y,Y,Y,Y,Y,Y,Y,Y,Y,Y,Y,Y,Y,Y,Y,Y,Y,Y,Y,Y,Y,Y,Y,Y,Y,Y,Y,Y,Y,Y,Y,Y,Y,Y,Y,Y,Y,Y,Y,Y,Y,Y,Y,Y,Y,Y,Y,Y,Y,Y,Y,Y,Y,Y,Y,Y,Y,Y,Z]
abbrev m73_ : Array Bool := #[Y,Y,Y,Y,Y,Y,Y,Y,Y,Y,Y,Y,Y,Y,Y,Y,Y,Y,Y,Y,Y,Y,Y,Y,Y,Y,Y,Y,Y,Y,Y,Y,Y,Y,Y,Y,Y,Y,Y,Y,Y,Y,Y,Y,Y,Y,Y,Y,Y,Y,Y,Y,Y,Y,Y,Y,Y,Y,Y,Y,Y,Y,Y,Y,Y,Y,Y,Y,Y,Y,Y,Y,Y]
end ShortPFnBlends13
open ShortPFnBlends13

/-! ### laws_FnBlends: function 9 -/
mutual
def laws_FnBlends.j0 : Nat → List (S63) → List Int → Bool → Int → List Int → List (S63) → List Int → Bool → Bool → Bool → Int → Int → Int → Int → Int → Int → Int → Int → Option (Bool)
 | 0, _, _, _, _, _, _, _, _, _, _, _, _, _, _, _, _, _, _ => none
 | k + 1, x5, x7, x9, x11, x13, x21, x23, x25, x26, x191, x316000, x316001, x316002, x316003, x349000, x349001, x349002, x349003 => if x191 = true then (none) else (if x25 = true then (laws_FnBlends.j1 k x5 x7 x9 x11 x13 x21 x23 x26 x316000 x316001 x316002 x316003 x349000 x349001 x349002 x349003) else (laws_FnBlends.j1 k x5 x7 x9 x11 x13 x21 x23 false x316000 x316001 x316002 x316003 x349000 x349001 x349002 x349003))
def laws_FnBlends.j1 : Nat → List (S63) → List Int → Bool → Int → List Int → List (S63) → List Int → Bool → Int → Int → Int → Int → Int → Int → Int → Int → Option (Bool)
 | 0, _, _, _, _, _, _, _, _, _, _, _, _, _, _, _, _ => none
 | k + 1, x5, x7, x9, x11, x13, x21, x23, x195, x316000, x316001, x316002, x316003, x349000, x349001, x349002, x349003 => if x195 = true then ((impl_CheapestBlend.f k x21 x349000 x349001 x349002 x349003).bind fun bt359 => ((impl_BlendSums.f k x21 x23).bind fun bt364 => (if bt359.2.2 = true then (if bt364.2.2.2.2 = true then (if bt359.2.1 > bt364.2.2.2.1 then (none) else (laws_FnBlends.j2 k x5 x7 x9 x11 x13 x316000 x316001 x316002 x316003)) else (none)) else (none)))) else (laws_FnBlends.j2 k x5 x7 x9 x11 x13 x316000 x316001 x316002 x316003)
def laws_FnBlends.j2 : Nat → List (S63) → List Int → Bool → Int → List Int → Int → Int → Int → Int → Option (Bool)
 | 0, _, _, _, _, _, _, _, _, _ => none
 | k + 1, x5, x7, x9, x11, x13, x316000, x316001, x316002, x316003 => if x9 = true then ((impl_MeetsWanted.f k x5 x316000 x316001 x316002 x316003 x7).bind fun bt369 => ((impl_MeetsWanted.f k x5 x316000 x316001 x316002 x316003 x13).bind fun bt371 => ((impl_BlendSums.f k x5 x7).bind fun bt373 => ((impl_BlendSums.f k x5 x13).bind fun bt378 => (if bt369.2 = true then (if bt369.1 = true then (if bt371.2 = true then (if bt371.1 = true then (if bt373.2.2.2.2 = true then (if bt378.2.2.2.2 = true then (if bt373.1 = x316000 then (if bt373.2.2.2.1 = x11 then (if bt378.2.2.2.1 ≥ x11 then (some (decide (bt378.2.1 ≥ bt373.2.1))) else (none)) else (none)) else (none)) else (none)) else (none)) else (none)) else (none)) else (none)) else (none)))))) else (some true)
end
def laws_FnBlends.f (k : Nat) (l0 : List Int) (l1 : List Int) : Option (Bool) := if (wrap64 ((l0.length : Int) + (l1.length : Int))) > 1048576 then (some true) else ((spec_DrawCheapestBlend.f k l0).bind fun bt308 => ((impl_CheapestBlend.f k bt308.1 bt308.2.1 bt308.2.2.1 bt308.2.2.2.1 bt308.2.2.2.2).bind fun bt316 => ((spec_CheapestBlend.f k bt308.1 bt308.2.1 bt308.2.2.1 bt308.2.2.2.1 bt308.2.2.2.2).bind fun bt321 => ((impl_RichestBlend.f k bt308.1 bt308.2.1 bt308.2.2.1 bt308.2.2.2.1 bt308.2.2.2.2).bind fun bt326 => ((spec_RichestBlend.f k bt308.1 bt308.2.1 bt308.2.2.1 bt308.2.2.2.1 bt308.2.2.2.2).bind fun bt330 => ((impl_CountBlends.f k bt308.1 bt308.2.1 bt308.2.2.1 bt308.2.2.2.1 bt308.2.2.2.2).bind fun bt334 => ((spec_CountBlends.f k bt308.1 bt308.2.1 bt308.2.2.1 bt308.2.2.2.1 bt308.2.2.2.2).bind fun bt336 => ((spec_DrawMeetsWanted.f k l1).bind fun bt338 => ((impl_MeetsWanted.f k bt338.1 bt338.2.1 bt338.2.2.1 bt338.2.2.2.1 bt338.2.2.2.2.1 bt338.2.2.2.2.2).bind fun bt349 => ((spec_MeetsWanted.f k bt338.1 bt338.2.1 bt338.2.2.1 bt338.2.2.2.1 bt338.2.2.2.2.1 bt338.2.2.2.2.2).bind fun bt351 => (if (bt316.2.2 != bt321.2.2) = true then (none) else ((laws_qInts.f k bt316.1 bt321.1).bind fun t353 => (if t353 = true then (if bt316.2.1 = bt321.2.1 then (if (bt326.2 != bt330.2) = true then (none) else ((laws_qInts.f k bt326.1 bt330.1).bind fun t354 => (if t354 = true then (if (bt334.2 != bt336.2) = true then (none) else (if bt334.1 = bt336.1 then (if (bt349.2 != bt351.2) = true then (none) else (if (bt349.1 != bt351.1) = true then (none) else ((impl_AreBins.f k bt308.1).bind fun t355 => ((spec_AreBins.f k bt308.1).bind fun t356 => (if (t355 != t356) = true then (none) else ((impl_IsWanted.f bt308.2.1 bt308.2.2.1 bt308.2.2.2.1 bt308.2.2.2.2).bind fun t357 => ((spec_IsWanted.f bt308.2.1 bt308.2.2.1 bt308.2.2.2.1 bt308.2.2.2.2).bind fun t358 => (if (t357 != t358) = true then (none) else (if bt334.2 = true then (if (bt316.2.2 != (decide (bt336.1 > 0))) = true then (none) else (laws_FnBlends.j0 k bt308.1 bt316.1 bt316.2.2 bt321.2.1 bt326.1 bt338.1 bt338.2.2.2.2.2 bt349.2 bt351.1 (bt326.2 != bt316.2.2) bt308.2.1 bt308.2.2.1 bt308.2.2.2.1 bt308.2.2.2.2 bt338.2.1 bt338.2.2.1 bt338.2.2.2.1 bt338.2.2.2.2.1)) else (if (bt316.2.2 != false) = true then (none) else (laws_FnBlends.j0 k bt308.1 bt316.1 bt316.2.2 bt321.2.1 bt326.1 bt338.1 bt338.2.2.2.2.2 bt349.2 bt351.1 (bt326.2 != bt316.2.2) bt308.2.1 bt308.2.2.1 bt308.2.2.2.1 bt308.2.2.2.2 bt338.2.1 bt338.2.2.1 bt338.2.2.2.1 bt338.2.2.2.2.1))))))))))) else (none))) else (none)))) else (none)) else (none))))))))))))))
def laws_FnBlends.T13 : Bool × List (List Nat × List Nat) := (true, [([], []), ([], []), ([0, 1], [0, 1]), ([2], [2]), ([3], [3]), ([3], [3]), ([4, 5, 3, 3], [3, 4, 5]), ([6, 3], [3, 6]), ([3, 7], [3, 7]), ([8, 6], [8]), ([9], [9]), ([9], [9]), ([10, 11, 9], [9, 10, 11]), ([9, 12], [9, 12]), ([13, 9], [13]), ([14], [14]), ([14], [14]), ([15, 16, 14], [14, 15, 16]), ([14, 17], [14, 17]), ([18, 14], [18]), ([19], [19]), ([19], [19]), ([20, 21, 19, 19], [19, 20, 21]), ([22, 19], [19, 22]), ([19, 23], [19, 23]), ([24, 22], [24]), ([25], [25]), ([25], [25]), ([26, 27, 25], [25, 26, 27]), ([25, 28], [25, 28]), ([29, 25], [29]), ([30], [30]), ([30], [30]), ([31, 32, 30], [30, 31, 32]), ([30, 33], [30, 33]), ([34, 30], [34]), ([35], [35]), ([35], [35]), ([36, 37, 35], [35, 36, 37]), ([35, 38], [35, 38]), ([39, 35], [39]), ([40], [40]), ([40], [40]), ([41, 42, 40], [40, 41, 42]), ([40, 43], [40, 43]), ([44, 40], [44]), ([45], [45]), ([46, 45, 45], [45, 46]), ([45], [45]), ([48, 47, 45], [45, 48]), ([47, 49, 45], [45, 47, 49]), ([45, 50], [45, 50]), ([51, 49], [51]), ([52], [52]), ([53, 52, 52], [52, 53]), ([52], [52]), ([55, 54, 52], [52, 55]), ([54, 56, 52], [52, 54, 56]), ([52, 57], [52, 57]), ([58, 56], [58]), ([59], [59]), ([59], [59]), ([61, 59, 59], [59, 61]), ([62], [62]), ([63, 62], [62, 63]), ([62, 64, 59], [59, 62, 64]), ([60, 65, 59], [59, 60, 65]), ([59, 66], [59, 66]), ([67, 62], [67]), ([68], [68]), ([68], [68]), ([69, 70, 68], [68, 69, 70]), ([68, 71], [68, 71])])
def laws_FnBlends.B13 : List Nat := [0, 0, 3, 7, 15, 15, 63, 127, 255, 511, 1023, 1023, 4095, 8191, 16383, 32767, 32767, 131071, 262143, 524287, 1048575, 1048575, 4194303, 8388607, 16777215, 33554431, 67108863, 67108863, 268435455, 536870911, 1073741823, 2147483647, 2147483647, 8589934591, 17179869183, 34359738367, 68719476735, 68719476735, 274877906943, 549755813887, 1099511627775, 2199023255551, 2199023255551, 8796093022207, 17592186044415, 35184372088831, 70368744177663, 140737488355327, 70368744177663, 562949953421311, 1125899906842623, 2251799813685247, 4503599627370495, 9007199254740991, 18014398509481983, 9007199254740991, 72057594037927935, 144115188075855871, 288230376151711743, 576460752303423487, 1152921504606846975, 1152921504606846975, 3458764513820540927, 8070450532247928831, 17293822569102704639, 35740566642812256255, 73786976294838206463, 147573952589676412927, 295147905179352825855, 590295810358705651711, 590295810358705651711, 2361183241434822606847, 4722366482869645213695]
theorem laws_FnBlends.tab13 : rtab .any (opsOf Try.f9 13) = laws_FnBlends.T13 := by kernel_rfl
theorem laws_FnBlends.bits13 : waitsOk laws_FnBlends.T13.2 laws_FnBlends.B13 = true := by kernel_rfl
set_option maxHeartbeats 8000000 in
set_option maxRecDepth 100000 in
theorem laws_FnBlends.calls (k : Nat) (A0 : Option Addr) (c0 : Nat) (l0 : List Int) (A1 : Option Addr) (c1 : Nat) (l1 : List Int) (r : Bool) (w : World) (hr0 : Kd.C (Kd.int .u8) w A0 l0.length l0) (hc0 : l0.length ≤ c0) (hr1 : Kd.C (Kd.int .u8) w A1 l1.length l1) (hc1 : l1.length ≤ c1) (h : laws_FnBlends.f k l0 l1 = some r) :
  Calls Try.prog 9 #[.slice A0 l0.length c0, .slice A1 l1.length c1] w fun e w' => e = .returned (.bool r) ∧ Below w.heap.size w w' := by
 have hu45 := Try.underlying45
 have HR0 := Aside0.mk hr0
 have HC0 := Aside0.mk hc0
 clear hr0 hc0
 have HR1 := Aside0.mk hr1
 have HC1 := Aside0.mk hc1
 clear hr1 hc1
 have HB := am (Below.refl w.heap.size w)
 have H : (if (wrap64 ((l0.length : Int) + (l1.length : Int))) > 1048576 then (some true) else ((spec_DrawCheapestBlend.f k l0).bind fun bt308 => ((impl_CheapestBlend.f k bt308.1 bt308.2.1 bt308.2.2.1 bt308.2.2.2.1 bt308.2.2.2.2).bind fun bt316 => ((spec_CheapestBlend.f k bt308.1 bt308.2.1 bt308.2.2.1 bt308.2.2.2.1 bt308.2.2.2.2).bind fun bt321 => ((impl_RichestBlend.f k bt308.1 bt308.2.1 bt308.2.2.1 bt308.2.2.2.1 bt308.2.2.2.2).bind fun bt326 => ((spec_RichestBlend.f k bt308.1 bt308.2.1 bt308.2.2.1 bt308.2.2.2.1 bt308.2.2.2.2).bind fun bt330 => ((impl_CountBlends.f k bt308.1 bt308.2.1 bt308.2.2.1 bt308.2.2.2.1 bt308.2.2.2.2).bind fun bt334 => ((spec_CountBlends.f k bt308.1 bt308.2.1 bt308.2.2.1 bt308.2.2.2.1 bt308.2.2.2.2).bind fun bt336 => ((spec_DrawMeetsWanted.f k l1).bind fun bt338 => ((impl_MeetsWanted.f k bt338.1 bt338.2.1 bt338.2.2.1 bt338.2.2.2.1 bt338.2.2.2.2.1 bt338.2.2.2.2.2).bind fun bt349 => ((spec_MeetsWanted.f k bt338.1 bt338.2.1 bt338.2.2.1 bt338.2.2.2.1 bt338.2.2.2.2.1 bt338.2.2.2.2.2).bind fun bt351 => (if (bt316.2.2 != bt321.2.2) = true then (none) else ((laws_qInts.f k bt316.1 bt321.1).bind fun t353 => (if t353 = true then (if bt316.2.1 = bt321.2.1 then (if (bt326.2 != bt330.2) = true then (none) else ((laws_qInts.f k bt326.1 bt330.1).bind fun t354 => (if t354 = true then (if (bt334.2 != bt336.2) = true then (none) else (if bt334.1 = bt336.1 then (if (bt349.2 != bt351.2) = true then (none) else (if (bt349.1 != bt351.1) = true then (none) else ((impl_AreBins.f k bt308.1).bind fun t355 => ((spec_AreBins.f k bt308.1).bind fun t356 => (if (t355 != t356) = true then (none) else ((impl_IsWanted.f bt308.2.1 bt308.2.2.1 bt308.2.2.2.1 bt308.2.2.2.2).bind fun t357 => ((spec_IsWanted.f bt308.2.1 bt308.2.2.1 bt308.2.2.2.1 bt308.2.2.2.2).bind fun t358 => (if (t357 != t358) = true then (none) else (if bt334.2 = true then (if (bt316.2.2 != (decide (bt336.1 > 0))) = true then (none) else (laws_FnBlends.j0 k bt308.1 bt316.1 bt316.2.2 bt321.2.1 bt326.1 bt338.1 bt338.2.2.2.2.2 bt349.2 bt351.1 (bt326.2 != bt316.2.2) bt308.2.1 bt308.2.2.1 bt308.2.2.2.1 bt308.2.2.2.2 bt338.2.1 bt338.2.2.1 bt338.2.2.2.1 bt338.2.2.2.2.1)) else (if (bt316.2.2 != false) = true then (none) else (laws_FnBlends.j0 k bt308.1 bt316.1 bt316.2.2 bt321.2.1 bt326.1 bt338.1 bt338.2.2.2.2.2 bt349.2 bt351.1 (bt326.2 != bt316.2.2) bt308.2.1 bt308.2.2.1 bt308.2.2.2.1 bt308.2.2.2.2 bt338.2.1 bt338.2.2.1 bt338.2.2.2.1 bt338.2.2.2.2.1))))))))))) else (none))) else (none)))) else (none)) else (none))))))))))))))) = some r := h
 clear h
 by_cases c3 : (wrap64 ((l0.length : Int) + (l1.length : Int))) > 1048576
 ·rw [if_pos c3] at H
  have c3b0 : decide (1048576 < (wrap64 ((l0.length : Int) + (l1.length : Int)))) = true := decide_eq_true c3
  clear c3
  obtain rfl := Option.some.inj H
  go_enter Try.func9, Try.ntmps9
  go_wp2
  go_ret
  exact ⟨by first | rfl | (simp [errW_none, errW_some] <;> rfl) | (simp [*, errW_none, errW_some] <;> rfl), by repeat (first | (with_reducible first | exact HB.out | apply ba | apply bn | apply below_drew1) | exact HB.out)⟩
 ·rw [if_neg c3] at H
  have c3b0 : decide (1048576 < (wrap64 ((l0.length : Int) + (l1.length : Int)))) = false := decide_eq_false c3
  clear c3
  replace H := Option.bind_eq_some_iff.mp H
  obtain ⟨⟨t308, t311, t312, t313, t314⟩, A40, H⟩ := H
  replace H : (((impl_CheapestBlend.f k t308 t311 t312 t313 t314).bind fun bt316 => ((spec_CheapestBlend.f k t308 t311 t312 t313 t314).bind fun bt321 => ((impl_RichestBlend.f k t308 t311 t312 t313 t314).bind fun bt326 => ((spec_RichestBlend.f k t308 t311 t312 t313 t314).bind fun bt330 => ((impl_CountBlends.f k t308 t311 t312 t313 t314).bind fun bt334 => ((spec_CountBlends.f k t308 t311 t312 t313 t314).bind fun bt336 => ((spec_DrawMeetsWanted.f k l1).bind fun bt338 => ((impl_MeetsWanted.f k bt338.1 bt338.2.1 bt338.2.2.1 bt338.2.2.2.1 bt338.2.2.2.2.1 bt338.2.2.2.2.2).bind fun bt349 => ((spec_MeetsWanted.f k bt338.1 bt338.2.1 bt338.2.2.1 bt338.2.2.2.1 bt338.2.2.2.2.1 bt338.2.2.2.2.2).bind fun bt351 => (if (bt316.2.2 != bt321.2.2) = true then (none) else ((laws_qInts.f k bt316.1 bt321.1).bind fun t353 => (if t353 = true then (if bt316.2.1 = bt321.2.1 then (if (bt326.2 != bt330.2) = true then (none) else ((laws_qInts.f k bt326.1 bt330.1).bind fun t354 => (if t354 = true then (if (bt334.2 != bt336.2) = true then (none) else (if bt334.1 = bt336.1 then (if (bt349.2 != bt351.2) = true then (none) else (if (bt349.1 != bt351.1) = true then (none) else ((impl_AreBins.f k t308).bind fun t355 => ((spec_AreBins.f k t308).bind fun t356 => (if (t355 != t356) = true then (none) else ((impl_IsWanted.f t311 t312 t313 t314).bind fun t357 => ((spec_IsWanted.f t311 t312 t313 t314).bind fun t358 => (if (t357 != t358) = true then (none) else (if bt334.2 = true then (if (bt316.2.2 != (decide (bt336.1 > 0))) = true then (none) else (laws_FnBlends.j0 k t308 bt316.1 bt316.2.2 bt321.2.1 bt326.1 bt338.1 bt338.2.2.2.2.2 bt349.2 bt351.1 (bt326.2 != bt316.2.2) t311 t312 t313 t314 bt338.2.1 bt338.2.2.1 bt338.2.2.2.1 bt338.2.2.2.2.1)) else (if (bt316.2.2 != false) = true then (none) else (laws_FnBlends.j0 k t308 bt316.1 bt316.2.2 bt321.2.1 bt326.1 bt338.1 bt338.2.2.2.2.2 bt349.2 bt351.1 (bt326.2 != bt316.2.2) t311 t312 t313 t314 bt338.2.1 bt338.2.2.1 bt338.2.2.2.1 bt338.2.2.2.2.1))))))))))) else (none))) else (none)))) else (none)) else (none)))))))))))))) = some r := H
  have A4 := Aside0.mk A40
  clear A40
  replace H := Option.bind_eq_some_iff.mp H
  obtain ⟨⟨t316, t319, t320⟩, A50, H⟩ := H
  replace H : (((spec_CheapestBlend.f k t308 t311 t312 t313 t314).bind fun bt321 => ((impl_RichestBlend.f k t308 t311 t312 t313 t314).bind fun bt326 => ((spec_RichestBlend.f k t308 t311 t312 t313 t314).bind fun bt330 => ((impl_CountBlends.f k t308 t311 t312 t313 t314).bind fun bt334 => ((spec_CountBlends.f k t308 t311 t312 t313 t314).bind fun bt336 => ((spec_DrawMeetsWanted.f k l1).bind fun bt338 => ((impl_MeetsWanted.f k bt338.1 bt338.2.1 bt338.2.2.1 bt338.2.2.2.1 bt338.2.2.2.2.1 bt338.2.2.2.2.2).bind fun bt349 => ((spec_MeetsWanted.f k bt338.1 bt338.2.1 bt338.2.2.1 bt338.2.2.2.1 bt338.2.2.2.2.1 bt338.2.2.2.2.2).bind fun bt351 => (if (t320 != bt321.2.2) = true then (none) else ((laws_qInts.f k t316 bt321.1).bind fun t353 => (if t353 = true then (if t319 = bt321.2.1 then (if (bt326.2 != bt330.2) = true then (none) else ((laws_qInts.f k bt326.1 bt330.1).bind fun t354 => (if t354 = true then (if (bt334.2 != bt336.2) = true then (none) else (if bt334.1 = bt336.1 then (if (bt349.2 != bt351.2) = true then (none) else (if (bt349.1 != bt351.1) = true then (none) else ((impl_AreBins.f k t308).bind fun t355 => ((spec_AreBins.f k t308).bind fun t356 => (if (t355 != t356) = true then (none) else ((impl_IsWanted.f t311 t312 t313 t314).bind fun t357 => ((spec_IsWanted.f t311 t312 t313 t314).bind fun t358 => (if (t357 != t358) = true then (none) else (if bt334.2 = true then (if (t320 != (decide (bt336.1 > 0))) = true then (none) else (laws_FnBlends.j0 k t308 t316 t320 bt321.2.1 bt326.1 bt338.1 bt338.2.2.2.2.2 bt349.2 bt351.1 (bt326.2 != t320) t311 t312 t313 t314 bt338.2.1 bt338.2.2.1 bt338.2.2.2.1 bt338.2.2.2.2.1)) else (if (t320 != false) = true then (none) else (laws_FnBlends.j0 k t308 t316 t320 bt321.2.1 bt326.1 bt338.1 bt338.2.2.2.2.2 bt349.2 bt351.1 (bt326.2 != t320) t311 t312 t313 t314 bt338.2.1 bt338.2.2.1 bt338.2.2.2.1 bt338.2.2.2.2.1))))))))))) else (none))) else (none)))) else (none)) else (none))))))))))))) = some r := H
  have A5 := Aside0.mk A50
  clear A50
  replace H := Option.bind_eq_some_iff.mp H
  obtain ⟨⟨t321, t324, t325⟩, A60, H⟩ := H
  replace H : (((impl_RichestBlend.f k t308 t311 t312 t313 t314).bind fun bt326 => ((spec_RichestBlend.f k t308 t311 t312 t313 t314).bind fun bt330 => ((impl_CountBlends.f k t308 t311 t312 t313 t314).bind fun bt334 => ((spec_CountBlends.f k t308 t311 t312 t313 t314).bind fun bt336 => ((spec_DrawMeetsWanted.f k l1).bind fun bt338 => ((impl_MeetsWanted.f k bt338.1 bt338.2.1 bt338.2.2.1 bt338.2.2.2.1 bt338.2.2.2.2.1 bt338.2.2.2.2.2).bind fun bt349 => ((spec_MeetsWanted.f k bt338.1 bt338.2.1 bt338.2.2.1 bt338.2.2.2.1 bt338.2.2.2.2.1 bt338.2.2.2.2.2).bind fun bt351 => (if (t320 != t325) = true then (none) else ((laws_qInts.f k t316 t321).bind fun t353 => (if t353 = true then (if t319 = t324 then (if (bt326.2 != bt330.2) = true then (none) else ((laws_qInts.f k bt326.1 bt330.1).bind fun t354 => (if t354 = true then (if (bt334.2 != bt336.2) = true then (none) else (if bt334.1 = bt336.1 then (if (bt349.2 != bt351.2) = true then (none) else (if (bt349.1 != bt351.1) = true then (none) else ((impl_AreBins.f k t308).bind fun t355 => ((spec_AreBins.f k t308).bind fun t356 => (if (t355 != t356) = true then (none) else ((impl_IsWanted.f t311 t312 t313 t314).bind fun t357 => ((spec_IsWanted.f t311 t312 t313 t314).bind fun t358 => (if (t357 != t358) = true then (none) else (if bt334.2 = true then (if (t320 != (decide (bt336.1 > 0))) = true then (none) else (laws_FnBlends.j0 k t308 t316 t320 t324 bt326.1 bt338.1 bt338.2.2.2.2.2 bt349.2 bt351.1 (bt326.2 != t320) t311 t312 t313 t314 bt338.2.1 bt338.2.2.1 bt338.2.2.2.1 bt338.2.2.2.2.1)) else (if (t320 != false) = true then (none) else (laws_FnBlends.j0 k t308 t316 t320 t324 bt326.1 bt338.1 bt338.2.2.2.2.2 bt349.2 bt351.1 (bt326.2 != t320) t311 t312 t313 t314 bt338.2.1 bt338.2.2.1 bt338.2.2.2.1 bt338.2.2.2.2.1))))))))))) else (none))) else (none)))) else (none)) else (none)))))))))))) = some r := H
  have A6 := Aside0.mk A60
  clear A60
  replace H := Option.bind_eq_some_iff.mp H
  obtain ⟨⟨t326, t329⟩, A70, H⟩ := H
  replace H : (((spec_RichestBlend.f k t308 t311 t312 t313 t314).bind fun bt330 => ((impl_CountBlends.f k t308 t311 t312 t313 t314).bind fun bt334 => ((spec_CountBlends.f k t308 t311 t312 t313 t314).bind fun bt336 => ((spec_DrawMeetsWanted.f k l1).bind fun bt338 => ((impl_MeetsWanted.f k bt338.1 bt338.2.1 bt338.2.2.1 bt338.2.2.2.1 bt338.2.2.2.2.1 bt338.2.2.2.2.2).bind fun bt349 => ((spec_MeetsWanted.f k bt338.1 bt338.2.1 bt338.2.2.1 bt338.2.2.2.1 bt338.2.2.2.2.1 bt338.2.2.2.2.2).bind fun bt351 => (if (t320 != t325) = true then (none) else ((laws_qInts.f k t316 t321).bind fun t353 => (if t353 = true then (if t319 = t324 then (if (t329 != bt330.2) = true then (none) else ((laws_qInts.f k t326 bt330.1).bind fun t354 => (if t354 = true then (if (bt334.2 != bt336.2) = true then (none) else (if bt334.1 = bt336.1 then (if (bt349.2 != bt351.2) = true then (none) else (if (bt349.1 != bt351.1) = true then (none) else ((impl_AreBins.f k t308).bind fun t355 => ((spec_AreBins.f k t308).bind fun t356 => (if (t355 != t356) = true then (none) else ((impl_IsWanted.f t311 t312 t313 t314).bind fun t357 => ((spec_IsWanted.f t311 t312 t313 t314).bind fun t358 => (if (t357 != t358) = true then (none) else (if bt334.2 = true then (if (t320 != (decide (bt336.1 > 0))) = true then (none) else (laws_FnBlends.j0 k t308 t316 t320 t324 t326 bt338.1 bt338.2.2.2.2.2 bt349.2 bt351.1 (t329 != t320) t311 t312 t313 t314 bt338.2.1 bt338.2.2.1 bt338.2.2.2.1 bt338.2.2.2.2.1)) else (if (t320 != false) = true then (none) else (laws_FnBlends.j0 k t308 t316 t320 t324 t326 bt338.1 bt338.2.2.2.2.2 bt349.2 bt351.1 (t329 != t320) t311 t312 t313 t314 bt338.2.1 bt338.2.2.1 bt338.2.2.2.1 bt338.2.2.2.2.1))))))))))) else (none))) else (none)))) else (none)) else (none))))))))))) = some r := H
  have A7 := Aside0.mk A70
  clear A70
  replace H := Option.bind_eq_some_iff.mp H
  obtain ⟨⟨t330, t333⟩, A80, H⟩ := H
  replace H : (((impl_CountBlends.f k t308 t311 t312 t313 t314).bind fun bt334 => ((spec_CountBlends.f k t308 t311 t312 t313 t314).bind fun bt336 => ((spec_DrawMeetsWanted.f k l1).bind fun bt338 => ((impl_MeetsWanted.f k bt338.1 bt338.2.1 bt338.2.2.1 bt338.2.2.2.1 bt338.2.2.2.2.1 bt338.2.2.2.2.2).bind fun bt349 => ((spec_MeetsWanted.f k bt338.1 bt338.2.1 bt338.2.2.1 bt338.2.2.2.1 bt338.2.2.2.2.1 bt338.2.2.2.2.2).bind fun bt351 => (if (t320 != t325) = true then (none) else ((laws_qInts.f k t316 t321).bind fun t353 => (if t353 = true then (if t319 = t324 then (if (t329 != t333) = true then (none) else ((laws_qInts.f k t326 t330).bind fun t354 => (if t354 = true then (if (bt334.2 != bt336.2) = true then (none) else (if bt334.1 = bt336.1 then (if (bt349.2 != bt351.2) = true then (none) else (if (bt349.1 != bt351.1) = true then (none) else ((impl_AreBins.f k t308).bind fun t355 => ((spec_AreBins.f k t308).bind fun t356 => (if (t355 != t356) = true then (none) else ((impl_IsWanted.f t311 t312 t313 t314).bind fun t357 => ((spec_IsWanted.f t311 t312 t313 t314).bind fun t358 => (if (t357 != t358) = true then (none) else (if bt334.2 = true then (if (t320 != (decide (bt336.1 > 0))) = true then (none) else (laws_FnBlends.j0 k t308 t316 t320 t324 t326 bt338.1 bt338.2.2.2.2.2 bt349.2 bt351.1 (t329 != t320) t311 t312 t313 t314 bt338.2.1 bt338.2.2.1 bt338.2.2.2.1 bt338.2.2.2.2.1)) else (if (t320 != false) = true then (none) else (laws_FnBlends.j0 k t308 t316 t320 t324 t326 bt338.1 bt338.2.2.2.2.2 bt349.2 bt351.1 (t329 != t320) t311 t312 t313 t314 bt338.2.1 bt338.2.2.1 bt338.2.2.2.1 bt338.2.2.2.2.1))))))))))) else (none))) else (none)))) else (none)) else (none)))))))))) = some r := H
  have A8 := Aside0.mk A80
  clear A80
  replace H := Option.bind_eq_some_iff.mp H
  obtain ⟨⟨t334, t335⟩, A90, H⟩ := H
  replace H : (((spec_CountBlends.f k t308 t311 t312 t313 t314).bind fun bt336 => ((spec_DrawMeetsWanted.f k l1).bind fun bt338 => ((impl_MeetsWanted.f k bt338.1 bt338.2.1 bt338.2.2.1 bt338.2.2.2.1 bt338.2.2.2.2.1 bt338.2.2.2.2.2).bind fun bt349 => ((spec_MeetsWanted.f k bt338.1 bt338.2.1 bt338.2.2.1 bt338.2.2.2.1 bt338.2.2.2.2.1 bt338.2.2.2.2.2).bind fun bt351 => (if (t320 != t325) = true then (none) else ((laws_qInts.f k t316 t321).bind fun t353 => (if t353 = true then (if t319 = t324 then (if (t329 != t333) = true then (none) else ((laws_qInts.f k t326 t330).bind fun t354 => (if t354 = true then (if (t335 != bt336.2) = true then (none) else (if t334 = bt336.1 then (if (bt349.2 != bt351.2) = true then (none) else (if (bt349.1 != bt351.1) = true then (none) else ((impl_AreBins.f k t308).bind fun t355 => ((spec_AreBins.f k t308).bind fun t356 => (if (t355 != t356) = true then (none) else ((impl_IsWanted.f t311 t312 t313 t314).bind fun t357 => ((spec_IsWanted.f t311 t312 t313 t314).bind fun t358 => (if (t357 != t358) = true then (none) else (if t335 = true then (if (t320 != (decide (bt336.1 > 0))) = true then (none) else (laws_FnBlends.j0 k t308 t316 t320 t324 t326 bt338.1 bt338.2.2.2.2.2 bt349.2 bt351.1 (t329 != t320) t311 t312 t313 t314 bt338.2.1 bt338.2.2.1 bt338.2.2.2.1 bt338.2.2.2.2.1)) else (if (t320 != false) = true then (none) else (laws_FnBlends.j0 k t308 t316 t320 t324 t326 bt338.1 bt338.2.2.2.2.2 bt349.2 bt351.1 (t329 != t320) t311 t312 t313 t314 bt338.2.1 bt338.2.2.1 bt338.2.2.2.1 bt338.2.2.2.2.1))))))))))) else (none))) else (none)))) else (none)) else (none))))))))) = some r := H
  have A9 := Aside0.mk A90
  clear A90
  replace H := Option.bind_eq_some_iff.mp H
  obtain ⟨⟨t336, t337⟩, A100, H⟩ := H
  replace H : (((spec_DrawMeetsWanted.f k l1).bind fun bt338 => ((impl_MeetsWanted.f k bt338.1 bt338.2.1 bt338.2.2.1 bt338.2.2.2.1 bt338.2.2.2.2.1 bt338.2.2.2.2.2).bind fun bt349 => ((spec_MeetsWanted.f k bt338.1 bt338.2.1 bt338.2.2.1 bt338.2.2.2.1 bt338.2.2.2.2.1 bt338.2.2.2.2.2).bind fun bt351 => (if (t320 != t325) = true then (none) else ((laws_qInts.f k t316 t321).bind fun t353 => (if t353 = true then (if t319 = t324 then (if (t329 != t333) = true then (none) else ((laws_qInts.f k t326 t330).bind fun t354 => (if t354 = true then (if (t335 != t337) = true then (none) else (if t334 = t336 then (if (bt349.2 != bt351.2) = true then (none) else (if (bt349.1 != bt351.1) = true then (none) else ((impl_AreBins.f k t308).bind fun t355 => ((spec_AreBins.f k t308).bind fun t356 => (if (t355 != t356) = true then (none) else ((impl_IsWanted.f t311 t312 t313 t314).bind fun t357 => ((spec_IsWanted.f t311 t312 t313 t314).bind fun t358 => (if (t357 != t358) = true then (none) else (if t335 = true then (if (t320 != (decide (t336 > 0))) = true then (none) else (laws_FnBlends.j0 k t308 t316 t320 t324 t326 bt338.1 bt338.2.2.2.2.2 bt349.2 bt351.1 (t329 != t320) t311 t312 t313 t314 bt338.2.1 bt338.2.2.1 bt338.2.2.2.1 bt338.2.2.2.2.1)) else (if (t320 != false) = true then (none) else (laws_FnBlends.j0 k t308 t316 t320 t324 t326 bt338.1 bt338.2.2.2.2.2 bt349.2 bt351.1 (t329 != t320) t311 t312 t313 t314 bt338.2.1 bt338.2.2.1 bt338.2.2.2.1 bt338.2.2.2.2.1))))))))))) else (none))) else (none)))) else (none)) else (none)))))))) = some r := H
  have A10 := Aside0.mk A100
  clear A100
  replace H := Option.bind_eq_some_iff.mp H
  obtain ⟨⟨t338, t341, t342, t343, t344, t345⟩, A110, H⟩ := H
  replace H : (((impl_MeetsWanted.f k t338 t341 t342 t343 t344 t345).bind fun bt349 => ((spec_MeetsWanted.f k t338 t341 t342 t343 t344 t345).bind fun bt351 => (if (t320 != t325) = true then (none) else ((laws_qInts.f k t316 t321).bind fun t353 => (if t353 = true then (if t319 = t324 then (if (t329 != t333) = true then (none) else ((laws_qInts.f k t326 t330).bind fun t354 => (if t354 = true then (if (t335 != t337) = true then (none) else (if t334 = t336 then (if (bt349.2 != bt351.2) = true then (none) else (if (bt349.1 != bt351.1) = true then (none) else ((impl_AreBins.f k t308).bind fun t355 => ((spec_AreBins.f k t308).bind fun t356 => (if (t355 != t356) = true then (none) else ((impl_IsWanted.f t311 t312 t313 t314).bind fun t357 => ((spec_IsWanted.f t311 t312 t313 t314).bind fun t358 => (if (t357 != t358) = true then (none) else (if t335 = true then (if (t320 != (decide (t336 > 0))) = true then (none) else (laws_FnBlends.j0 k t308 t316 t320 t324 t326 t338 t345 bt349.2 bt351.1 (t329 != t320) t311 t312 t313 t314 t341 t342 t343 t344)) else (if (t320 != false) = true then (none) else (laws_FnBlends.j0 k t308 t316 t320 t324 t326 t338 t345 bt349.2 bt351.1 (t329 != t320) t311 t312 t313 t314 t341 t342 t343 t344))))))))))) else (none))) else (none)))) else (none)) else (none))))))) = some r := H
  have A11 := Aside0.mk A110
  clear A110
  replace H := Option.bind_eq_some_iff.mp H
  obtain ⟨⟨t349, t350⟩, A120, H⟩ := H
  replace H : (((spec_MeetsWanted.f k t338 t341 t342 t343 t344 t345).bind fun bt351 => (if (t320 != t325) = true then (none) else ((laws_qInts.f k t316 t321).bind fun t353 => (if t353 = true then (if t319 = t324 then (if (t329 != t333) = true then (none) else ((laws_qInts.f k t326 t330).bind fun t354 => (if t354 = true then (if (t335 != t337) = true then (none) else (if t334 = t336 then (if (t350 != bt351.2) = true then (none) else (if (t349 != bt351.1) = true then (none) else ((impl_AreBins.f k t308).bind fun t355 => ((spec_AreBins.f k t308).bind fun t356 => (if (t355 != t356) = true then (none) else ((impl_IsWanted.f t311 t312 t313 t314).bind fun t357 => ((spec_IsWanted.f t311 t312 t313 t314).bind fun t358 => (if (t357 != t358) = true then (none) else (if t335 = true then (if (t320 != (decide (t336 > 0))) = true then (none) else (laws_FnBlends.j0 k t308 t316 t320 t324 t326 t338 t345 t350 bt351.1 (t329 != t320) t311 t312 t313 t314 t341 t342 t343 t344)) else (if (t320 != false) = true then (none) else (laws_FnBlends.j0 k t308 t316 t320 t324 t326 t338 t345 t350 bt351.1 (t329 != t320) t311 t312 t313 t314 t341 t342 t343 t344))))))))))) else (none))) else (none)))) else (none)) else (none)))))) = some r := H
  have A12 := Aside0.mk A120
  clear A120
  replace H := Option.bind_eq_some_iff.mp H
  obtain ⟨⟨t351, t352⟩, A130, H⟩ := H
  replace H : (if (t320 != t325) = true then (none) else ((laws_qInts.f k t316 t321).bind fun t353 => (if t353 = true then (if t319 = t324 then (if (t329 != t333) = true then (none) else ((laws_qInts.f k t326 t330).bind fun t354 => (if t354 = true then (if (t335 != t337) = true then (none) else (if t334 = t336 then (if (t350 != t352) = true then (none) else (if (t349 != t351) = true then (none) else ((impl_AreBins.f k t308).bind fun t355 => ((spec_AreBins.f k t308).bind fun t356 => (if (t355 != t356) = true then (none) else ((impl_IsWanted.f t311 t312 t313 t314).bind fun t357 => ((spec_IsWanted.f t311 t312 t313 t314).bind fun t358 => (if (t357 != t358) = true then (none) else (if t335 = true then (if (t320 != (decide (t336 > 0))) = true then (none) else (laws_FnBlends.j0 k t308 t316 t320 t324 t326 t338 t345 t350 t351 (t329 != t320) t311 t312 t313 t314 t341 t342 t343 t344)) else (if (t320 != false) = true then (none) else (laws_FnBlends.j0 k t308 t316 t320 t324 t326 t338 t345 t350 t351 (t329 != t320) t311 t312 t313 t314 t341 t342 t343 t344))))))))))) else (none))) else (none)))) else (none)) else (none)))) = some r := H
  have A13 := Aside0.mk A130
  clear A130
  have HC14 := Aside0.mk H
  clear H
  go_enter Try.func9, Try.ntmps9
  go_upto_region 13 with (first | ((with_reducible refine gate_callee (f := 41) rfl ?_); refine goesL_ (some 58) rfl rfl Try.func41 (by kernel_rfl) rfl #[.slice A0 l0.length c0] rfl zb' ?_; (with_reducible refine (spec_DrawCheapestBlend.calls k _ _ l0 t308 t311 t312 t313 t314 _ ?side1 ?side2 A4.out).mono ?_); (case side1 => exact zn5'); (case side2 => exact zj4'); rintro e w15 ⟨v309, rfl, ho0, hb⟩; refine ⟨_, rfl, ?_⟩; have n0_ := am (Kd.R_lower ho0 (below_size za')); have n1_ := am (below_step za' hb); clear HB; have HO310 := n0_; have HB := n1_; clear n0_ n1_; (try clear hb); (try clear hb2); (try clear hk); (try clear hi); (try clear ho0)) | ((with_reducible refine gate_dst (N := 6) rfl ?_); refine box_event ?hg (N := 6) ?hd (cs := #[.int .i64 0, .int .i64 0, .int .i64 0, .int .i64 0]) (t := 45) ?hr ?_; (case hd => rfl); (case hg => rfl); (case hr => exact zo'); intro gb315 hg w16 hbox hb; have n0_ := am (Kd.R_below zz' hb); have n1_ := am (below_step za' hb); have n2_ := am (hbox); have n3_ := am ((by rw [hg]; exact (below_size za') : w.heap.size ≤ gb315)); have n4_ := am ((by rw [hg]; exact (below_size za') : w.heap.size ≤ gb315)); clear HO310; clear HB; have HO310 := n0_; have HB := n1_; have BK315 := n2_; have GW315 := n3_; have GE315 := n4_; clear n0_ n1_ n2_ n3_ n4_; clear hb hbox hg; have hcz17_0 : w16.cell? ⟨gb315, 0, none⟩ = some (.int .i64 0) := (blk_cell BK315.out 0).trans rfl; have hcz17_1 : w16.cell? ⟨gb315, 1, none⟩ = some (.int .i64 0) := (blk_cell BK315.out 1).trans rfl; have hcz17_2 : w16.cell? ⟨gb315, 2, none⟩ = some (.int .i64 0) := (blk_cell BK315.out 2).trans rfl; have hcz17_3 : w16.cell? ⟨gb315, 3, none⟩ = some (.int .i64 0) := (blk_cell BK315.out 3).trans rfl; have hfz17_0 := blk_frozen BK315.out 0; have hfz17_1 := blk_frozen BK315.out 1; have hfz17_2 := blk_frozen BK315.out 2; have hfz17_3 := blk_frozen BK315.out 3; obtain ⟨Ao18, co18, eo18⟩ := Kd.R_slice HO310.out; subst eo18) | ((with_reducible refine gate_callee (f := 30) rfl ?_); refine goesL_ (some 64) rfl rfl Try.func30 (by kernel_rfl) rfl #[.slice Ao18 t308.length co18, .agg #[.int .i64 t311, .int .i64 t312, .int .i64 t313, .int .i64 t314]] rfl zb' ?_; (with_reducible refine (impl_CheapestBlend.calls k _ _ t308 t311 t312 t313 t314 t316 t319 t320 _ ?side1 ?side2 A5.out).mono ?_); (case side1 => refine (Kd.R_reads' (e := 63) (base := w.heap.size) (ok := fun k_ => True) (n := t308.length) (c := co18) ?_).2.2; exact zn3'); (case side2 => exact zn4'); rintro e w19 ⟨v317, rfl, ho0, hb⟩; refine ⟨_, rfl, ?_⟩; have n0_ := am (Kd.R_below zn3' hb); have n1_ := am (Kd.R_lower ho0 (below_size zw')); have n2_ := am (blk_below (g := gb315) (o := o2') (by (with_reducible repeat (first | apply kn | apply kd | apply ka)); refine blk_put (cs := #[.int .i64 t311, .int .i64 t312, .int .i64 t313, .int .i64 0]) ?_ 3 _ rfl; (with_reducible repeat (first | apply kn | apply kd | apply ka)); refine blk_put (cs := #[.int .i64 t311, .int .i64 t312, .int .i64 0, .int .i64 0]) ?_ 2 _ rfl; (with_reducible repeat (first | apply kn | apply kd | apply ka)); refine blk_put (cs := #[.int .i64 t311, .int .i64 0, .int .i64 0, .int .i64 0]) ?_ 1 _ rfl; (with_reducible repeat (first | apply kn | apply kd | apply ka)); refine blk_put (cs := #[.int .i64 0, .int .i64 0, .int .i64 0, .int .i64 0]) ?_ 0 _ rfl; (with_reducible repeat (first | apply kn | apply kd | apply ka)); exact BK315.out) hb); have n3_ := am (below_step zw' hb); clear HO310; clear BK315; clear HB; have HO310 := n0_; have HO318 := n1_; have BK315 := n2_; have HB := n3_; clear n0_ n1_ n2_ n3_; (try clear hb); (try clear hb2); (try clear hk); (try clear hi); (try clear ho0); have hcz20_0 : w19.cell? ⟨gb315, 0, none⟩ = some (.int .i64 t311) := (blk_cell BK315.out 0).trans rfl; have hcz20_1 : w19.cell? ⟨gb315, 1, none⟩ = some (.int .i64 t312) := (blk_cell BK315.out 1).trans rfl; have hcz20_2 : w19.cell? ⟨gb315, 2, none⟩ = some (.int .i64 t313) := (blk_cell BK315.out 2).trans rfl; have hcz20_3 : w19.cell? ⟨gb315, 3, none⟩ = some (.int .i64 t314) := (blk_cell BK315.out 3).trans rfl; have hfz20_0 := blk_frozen BK315.out 0; have hfz20_1 := blk_frozen BK315.out 1; have hfz20_2 := blk_frozen BK315.out 2; have hfz20_3 := blk_frozen BK315.out 3) | ((with_reducible refine gate_callee (f := 29) rfl ?_); refine goesL_ (some 71) rfl rfl Try.func29 (by kernel_rfl) rfl #[.slice Ao18 t308.length co18, .agg #[.int .i64 t311, .int .i64 t312, .int .i64 t313, .int .i64 t314]] rfl zb' ?_; (with_reducible refine (spec_CheapestBlend.calls k _ _ t308 t311 t312 t313 t314 t321 t324 t325 _ ?side1 ?side2 A6.out).mono ?_); (case side1 => exact zp1'); (case side2 => exact zn4'); rintro e w21 ⟨v322, rfl, ho0, hb⟩; refine ⟨_, rfl, ?_⟩; have n0_ := am (Kd.R_below zz' hb); have n1_ := am (Kd.R_below za1' hb); have n2_ := am (Kd.V_lower (Kd.V_mono (ok' := fun k_ => some k_ ≠ (.slice Ao18 t308.length co18 : Value).ownBlock ∧ some k_ ≠ (v317 : Value).ownBlock ∧ k_ ≠ gb315) ho0 (fun k_ hk_ => ⟨(Kd.fresh' (Kd.R_lt zz') k_ hk_), (Kd.fresh' (Kd.R_lt za1') k_ hk_), (Kd.freshB (g := gb315) (o := o2') zt' k_ hk_)⟩)) (below_size zw')); have n3_ := am (blk_below (g := gb315) (o := o2') zt' hb); have n4_ := am (below_step zw' hb); clear HO310; clear HO318; clear BK315; clear HB; have HO310 := n0_; have HO318 := n1_; have HO323 := n2_; have BK315 := n3_; have HB := n4_; clear n0_ n1_ n2_ n3_ n4_; (try clear hb); (try clear hb2); (try clear hk); (try clear hi); (try clear ho0); have hcz22_0 : w21.cell? ⟨gb315, 0, none⟩ = some (.int .i64 t311) := (blk_cell BK315.out 0).trans rfl; have hcz22_1 : w21.cell? ⟨gb315, 1, none⟩ = some (.int .i64 t312) := (blk_cell BK315.out 1).trans rfl; have hcz22_2 : w21.cell? ⟨gb315, 2, none⟩ = some (.int .i64 t313) := (blk_cell BK315.out 2).trans rfl; have hcz22_3 : w21.cell? ⟨gb315, 3, none⟩ = some (.int .i64 t314) := (blk_cell BK315.out 3).trans rfl; have hfz22_0 := blk_frozen BK315.out 0; have hfz22_1 := blk_frozen BK315.out 1; have hfz22_2 := blk_frozen BK315.out 2; have hfz22_3 := blk_frozen BK315.out 3) | ((with_reducible refine gate_callee (f := 27) rfl ?_); refine goesL_ (some 78) rfl rfl Try.func27 (by kernel_rfl) rfl #[.slice Ao18 t308.length co18, .agg #[.int .i64 t311, .int .i64 t312, .int .i64 t313, .int .i64 t314]] rfl zb' ?_; (with_reducible refine (impl_RichestBlend.calls k _ _ t308 t311 t312 t313 t314 t326 t329 _ ?side1 ?side2 A7.out).mono ?_); (case side1 => exact zp1'); (case side2 => exact zn4'); rintro e w23 ⟨v327, rfl, ho0, hb⟩; refine ⟨_, rfl, ?_⟩; have n0_ := am (Kd.R_below zz' hb); have n1_ := am (Kd.R_elder' za1' (Kd.R_base ho0) hb); have n2_ := am (Kd.V_elder' zo1' (Kd.R_base ho0) hb); have n3_ := am (Kd.R_lower (Kd.R_new' ho0 (Kd.R_lt za1')) (below_size zw')); have n4_ := am (blk_below (g := gb315) (o := o2') zt' hb); have n5_ := am (below_step zw' hb); clear HO310; clear HO318; clear HO323; clear BK315; clear HB; have HO310 := n0_; have HO318 := n1_; have HO323 := n2_; have HO328 := n3_; have BK315 := n4_; have HB := n5_; clear n0_ n1_ n2_ n3_ n4_ n5_; (try clear hb); (try clear hb2); (try clear hk); (try clear hi); (try clear ho0); have hcz24_0 : w23.cell? ⟨gb315, 0, none⟩ = some (.int .i64 t311) := (blk_cell BK315.out 0).trans rfl; have hcz24_1 : w23.cell? ⟨gb315, 1, none⟩ = some (.int .i64 t312) := (blk_cell BK315.out 1).trans rfl; have hcz24_2 : w23.cell? ⟨gb315, 2, none⟩ = some (.int .i64 t313) := (blk_cell BK315.out 2).trans rfl; have hcz24_3 : w23.cell? ⟨gb315, 3, none⟩ = some (.int .i64 t314) := (blk_cell BK315.out 3).trans rfl; have hfz24_0 := blk_frozen BK315.out 0; have hfz24_1 := blk_frozen BK315.out 1; have hfz24_2 := blk_frozen BK315.out 2; have hfz24_3 := blk_frozen BK315.out 3) | ((with_reducible refine gate_callee (f := 26) rfl ?_); refine goesL_ (some 84) rfl rfl Try.func26 (by kernel_rfl) rfl #[.slice Ao18 t308.length co18, .agg #[.int .i64 t311, .int .i64 t312, .int .i64 t313, .int .i64 t314]] rfl zb' ?_; (with_reducible refine (spec_RichestBlend.calls k _ _ t308 t311 t312 t313 t314 t330 t333 _ ?side1 ?side2 A8.out).mono ?_); (case side1 => exact zp1'); (case side2 => exact zn4'); rintro e w25 ⟨v331, rfl, ho0, hb⟩; refine ⟨_, rfl, ?_⟩; have n0_ := am (Kd.R_below zz' hb); have n1_ := am (Kd.R_below za1' hb); have n2_ := am (Kd.V_below zo1' hb); have n3_ := am (Kd.R_below zh1' hb); have n4_ := am (Kd.V_lower (Kd.V_mono (ok' := fun k_ => some k_ ≠ (.slice Ao18 t308.length co18 : Value).ownBlock ∧ some k_ ≠ (v317 : Value).ownBlock ∧ some k_ ≠ (v327 : Value).ownBlock ∧ k_ ≠ gb315) ho0 (fun k_ hk_ => ⟨(Kd.fresh' (Kd.R_lt zz') k_ hk_), (Kd.fresh' (Kd.R_lt za1') k_ hk_), (Kd.fresh' (Kd.R_lt zh1') k_ hk_), (Kd.freshB (g := gb315) (o := o2') zt' k_ hk_)⟩)) (below_size zw')); have n5_ := am (blk_below (g := gb315) (o := o2') zt' hb); have n6_ := am (below_step zw' hb); clear HO310; clear HO318; clear HO323; clear HO328; clear BK315; clear HB; have HO310 := n0_; have HO318 := n1_; have HO323 := n2_; have HO328 := n3_; have HO332 := n4_; have BK315 := n5_; have HB := n6_; clear n0_ n1_ n2_ n3_ n4_ n5_ n6_; (try clear hb); (try clear hb2); (try clear hk); (try clear hi); (try clear ho0); have hcz26_0 : w25.cell? ⟨gb315, 0, none⟩ = some (.int .i64 t311) := (blk_cell BK315.out 0).trans rfl; have hcz26_1 : w25.cell? ⟨gb315, 1, none⟩ = some (.int .i64 t312) := (blk_cell BK315.out 1).trans rfl; have hcz26_2 : w25.cell? ⟨gb315, 2, none⟩ = some (.int .i64 t313) := (blk_cell BK315.out 2).trans rfl; have hcz26_3 : w25.cell? ⟨gb315, 3, none⟩ = some (.int .i64 t314) := (blk_cell BK315.out 3).trans rfl; have hfz26_0 := blk_frozen BK315.out 0; have hfz26_1 := blk_frozen BK315.out 1; have hfz26_2 := blk_frozen BK315.out 2; have hfz26_3 := blk_frozen BK315.out 3) | ((with_reducible refine gate_callee (f := 25) rfl ?_); refine goesL_ (some 90) rfl rfl Try.func25 (by kernel_rfl) rfl #[.slice Ao18 t308.length co18, .agg #[.int .i64 t311, .int .i64 t312, .int .i64 t313, .int .i64 t314]] rfl zb' ?_; (with_reducible refine (impl_CountBlends.calls k _ _ t308 t311 t312 t313 t314 t334 t335 _ ?side1 ?side2 A9.out).mono ?_); (case side1 => exact zp1'); (case side2 => exact zn4'); rintro e w27 ⟨rfl, hb⟩; refine ⟨_, rfl, ?_⟩; have n0_ := am (Kd.R_below zz' hb); have n1_ := am (Kd.R_below za1' hb); have n2_ := am (Kd.V_below zo1' hb); have n3_ := am (Kd.R_below zh1' hb); have n4_ := am (Kd.V_below zt1' hb); have n5_ := am (blk_below (g := gb315) (o := o2') zt' hb); have n6_ := am (below_step zw' hb); clear HO310; clear HO318; clear HO323; clear HO328; clear HO332; clear BK315; clear HB; have HO310 := n0_; have HO318 := n1_; have HO323 := n2_; have HO328 := n3_; have HO332 := n4_; have BK315 := n5_; have HB := n6_; clear n0_ n1_ n2_ n3_ n4_ n5_ n6_; (try clear hb); (try clear hb2); (try clear hk); (try clear hi); have hcz28_0 : w27.cell? ⟨gb315, 0, none⟩ = some (.int .i64 t311) := (blk_cell BK315.out 0).trans rfl; have hcz28_1 : w27.cell? ⟨gb315, 1, none⟩ = some (.int .i64 t312) := (blk_cell BK315.out 1).trans rfl; have hcz28_2 : w27.cell? ⟨gb315, 2, none⟩ = some (.int .i64 t313) := (blk_cell BK315.out 2).trans rfl; have hcz28_3 : w27.cell? ⟨gb315, 3, none⟩ = some (.int .i64 t314) := (blk_cell BK315.out 3).trans rfl; have hfz28_0 := blk_frozen BK315.out 0; have hfz28_1 := blk_frozen BK315.out 1; have hfz28_2 := blk_frozen BK315.out 2; have hfz28_3 := blk_frozen BK315.out 3) | ((with_reducible refine gate_callee (f := 23) rfl ?_); refine goesL_ (some 96) rfl rfl Try.func23 (by kernel_rfl) rfl #[.slice Ao18 t308.length co18, .agg #[.int .i64 t311, .int .i64 t312, .int .i64 t313, .int .i64 t314]] rfl zb' ?_; (with_reducible refine (spec_CountBlends.calls k _ _ t308 t311 t312 t313 t314 t336 t337 _ ?side1 ?side2 A10.out).mono ?_); (case side1 => exact zp1'); (case side2 => exact zn4'); rintro e w29 ⟨rfl, hb⟩; refine ⟨_, rfl, ?_⟩; have n0_ := am (Kd.R_below zz' hb); have n1_ := am (Kd.R_below za1' hb); have n2_ := am (Kd.V_below zo1' hb); have n3_ := am (Kd.R_below zh1' hb); have n4_ := am (Kd.V_below zt1' hb); have n5_ := am (blk_below (g := gb315) (o := o2') zt' hb); have n6_ := am (below_step zw' hb); clear HO310; clear HO318; clear HO323; clear HO328; clear HO332; clear BK315; clear HB; have HO310 := n0_; have HO318 := n1_; have HO323 := n2_; have HO328 := n3_; have HO332 := n4_; have BK315 := n5_; have HB := n6_; clear n0_ n1_ n2_ n3_ n4_ n5_ n6_; (try clear hb); (try clear hb2); (try clear hk); (try clear hi)) | ((with_reducible refine gate_callee (f := 42) rfl ?_); refine goesL_ (some 101) rfl rfl Try.func42 (by kernel_rfl) rfl #[.slice A1 l1.length c1] rfl zb' ?_; (with_reducible refine (spec_DrawMeetsWanted.calls k _ _ l1 t338 t341 t342 t343 t344 t345 _ ?side1 ?side2 A11.out).mono ?_); (case side1 => repeat (first | exact (Kd.C_below HR1.out HB.out) | (with_reducible refine Kd.C_alloc ?_ _) | (with_reducible refine Kd.C_drewN ?_ _) | (with_reducible refine Kd.C_drew ?_))); (case side2 => exact HC1.out); rintro e w30 ⟨v339, v346, rfl, ho0, ho1, hb⟩; refine ⟨_, rfl, ?_⟩; have n0_ := am (Kd.R_elder' zz' (Kd.R_base ho0) hb); have n1_ := am (Kd.R_elder' za1' (Kd.R_base ho1) hb); have n2_ := am (Kd.V_mono (Kd.V_told (Kd.V_told (Kd.V_old zo1' hb) (Kd.R_base ho0)) (Kd.R_base ho1)) (fun _ h_ => h_.1)); have n3_ := am (Kd.R_elder' zh1' (Kd.R_base ho1) hb); have n4_ := am (Kd.V_mono (Kd.V_told (Kd.V_told (Kd.V_old zt1' hb) (Kd.R_base ho0)) (Kd.R_base ho1)) (fun _ h_ => h_.1)); have n5_ := am (Kd.R_lower (Kd.R_new' ho0 (Kd.R_lt zz')) (below_size zw')); have n6_ := am (Kd.R_lower (Kd.R_new' (Kd.R_new' ho1 (Kd.R_lt za1')) (Kd.R_lt zh1')) (below_size zw')); have n7_ := am (blk_below (g := gb315) (o := o2') zt' hb); have n8_ := am (below_step zw' hb); clear HO310; clear HO318; clear HO323; clear HO328; clear HO332; clear BK315; clear HB; have HO310 := n0_; have HO318 := n1_; have HO323 := n2_; have HO328 := n3_; have HO332 := n4_; have HO340 := n5_; have HO347 := n6_; have BK315 := n7_; have HB := n8_; clear n0_ n1_ n2_ n3_ n4_ n5_ n6_ n7_ n8_; (try clear hb); (try clear hb2); (try clear hk); (try clear hi); (try clear ho0); (try clear ho1)) | ((with_reducible refine gate_dst (N := 22) rfl ?_); refine box_event ?hg (N := 22) ?hd (cs := #[.int .i64 0, .int .i64 0, .int .i64 0, .int .i64 0]) (t := 45) ?hr ?_; (case hd => rfl); (case hg => rfl); (case hr => exact zo'); intro gb348 hg w31 hbox hb; have n0_ := am (Kd.R_below zz' hb); have n1_ := am (Kd.R_below za1' hb); have n2_ := am (Kd.V_below (Kd.V_elderB zo1' gb348 (Nat.le_of_eq hg.symm)) hb); have n3_ := am (Kd.R_below zh1' hb); have n4_ := am (Kd.V_below (Kd.V_elderB zt1' gb348 (Nat.le_of_eq hg.symm)) hb); have n5_ := am (Kd.R_below zc2' hb); have n6_ := am (Kd.R_below zd2' hb); have n7_ := am (blk_below (g := gb315) (o := o2') zt' hb); have n8_ := am (below_step zw' hb); have n9_ := am (hbox); have n10_ := am ((by rw [hg]; exact (below_size zw') : w.heap.size ≤ gb348)); have n11_ := am ((by rw [hg]; exact (below_size zw') : w.heap.size ≤ gb348)); have n12_ := am ((by rw [hg]; exact Nat.ne_of_lt (blk_lt (g := gb315) (o := o2') zt') : gb315 ≠ gb348)); have n13_ := am ((by rw [hg]; exact Nat.ne_of_gt (blk_lt (g := gb315) (o := o2') zt') : gb348 ≠ gb315)); clear HO310; clear HO318; clear HO323; clear HO328; clear HO332; clear HO340; clear HO347; clear BK315; clear HB; have HO310 := n0_; have HO318 := n1_; have HO323 := n2_; have HO328 := n3_; have HO332 := n4_; have HO340 := n5_; have HO347 := n6_; have BK315 := n7_; have HB := n8_; have BK348 := n9_; have GW348 := n10_; have GE348 := n11_; have NB315_348 := n12_; have NB348_315 := n13_; clear n0_ n1_ n2_ n3_ n4_ n5_ n6_ n7_ n8_ n9_ n10_ n11_ n12_ n13_; clear hb hbox hg; have hnb32 := NB348_315.out; have hnc32 := NB315_348.out; have hcz33_0 : w31.cell? ⟨gb348, 0, none⟩ = some (.int .i64 0) := (blk_cell BK348.out 0).trans rfl; have hcz33_1 : w31.cell? ⟨gb348, 1, none⟩ = some (.int .i64 0) := (blk_cell BK348.out 1).trans rfl; have hcz33_2 : w31.cell? ⟨gb348, 2, none⟩ = some (.int .i64 0) := (blk_cell BK348.out 2).trans rfl; have hcz33_3 : w31.cell? ⟨gb348, 3, none⟩ = some (.int .i64 0) := (blk_cell BK348.out 3).trans rfl; have hfz33_0 := blk_frozen BK348.out 0; have hfz33_1 := blk_frozen BK348.out 1; have hfz33_2 := blk_frozen BK348.out 2; have hfz33_3 := blk_frozen BK348.out 3; obtain ⟨Ao34, co34, eo34⟩ := Kd.R_slice HO340.out; subst eo34; obtain ⟨Ao35, co35, eo35⟩ := Kd.R_slice HO347.out; subst eo35) | ((with_reducible refine gate_callee (f := 43) rfl ?_); refine goesL_ (some 109) rfl rfl Try.func43 (by kernel_rfl) rfl #[.slice Ao34 t338.length co34, .agg #[.int .i64 t341, .int .i64 t342, .int .i64 t343, .int .i64 t344], .slice Ao35 t345.length co35] rfl zb' ?_; (with_reducible refine (impl_MeetsWanted.calls k _ _ t338 t341 t342 t343 t344 _ _ t345 t349 t350 _ ?side1 ?side2 ?side3 ?side4 A12.out).mono ?_); (case side1 => refine (Kd.R_reads' (e := 63) (base := w.heap.size) (ok := fun k_ => (True ∧ some k_ ≠ (.slice Ao18 t308.length co18 : Value).ownBlock)) (n := t338.length) (c := co34) ?_).2.2; exact zo3'); (case side2 => exact (Kd.R_reads' HO340.out).2.1); (case side3 => refine (Kd.R_reads' (e := 3) (base := w.heap.size) (ok := fun k_ => ((True ∧ some k_ ≠ (v317 : Value).ownBlock) ∧ some k_ ≠ (v327 : Value).ownBlock)) (n := t345.length) (c := co35) ?_).2.2; exact zp3'); (case side4 => exact (Kd.R_reads' HO347.out).2.1); rintro e w36 ⟨rfl, hb⟩; refine ⟨_, rfl, ?_⟩; have n0_ := am (Kd.R_below (by (with_reducible repeat (first | apply Kd.R_alloc | apply Kd.R_drewN | apply Kd.R_drew)); exact (Kd.R_mono (Kd.R_far (p := ⟨gb348, 3, none⟩) (Kd.R_far (p := ⟨gb348, 2, none⟩) (Kd.R_far (p := ⟨gb348, 1, none⟩) (Kd.R_far (p := ⟨gb348, 0, none⟩) (Kd.R_types HO310.out BK348.out (by decide)) (fun _ hk => hk.2) (.int .i64 t341)) (fun _ hk => hk.2) (.int .i64 t342)) (fun _ hk => hk.2) (.int .i64 t343)) (fun _ hk => hk.2) (.int .i64 t344)) (fun _ h_ => h_.1))) hb); have n1_ := am (Kd.R_below (by (with_reducible repeat (first | apply Kd.R_alloc | apply Kd.R_drewN | apply Kd.R_drew)); exact (Kd.R_mono (Kd.R_far (p := ⟨gb348, 3, none⟩) (Kd.R_far (p := ⟨gb348, 2, none⟩) (Kd.R_far (p := ⟨gb348, 1, none⟩) (Kd.R_far (p := ⟨gb348, 0, none⟩) (Kd.R_types HO318.out BK348.out (by decide)) (fun _ hk => hk.2) (.int .i64 t341)) (fun _ hk => hk.2) (.int .i64 t342)) (fun _ hk => hk.2) (.int .i64 t343)) (fun _ hk => hk.2) (.int .i64 t344)) (fun _ h_ => h_.1))) hb); have n2_ := am (Kd.V_below (by (with_reducible repeat (first | apply Kd.V_alloc | apply Kd.V_drewN | apply Kd.V_drew)); exact (Kd.V_mono (Kd.V_far (p := ⟨gb348, 3, none⟩) (Kd.V_far (p := ⟨gb348, 2, none⟩) (Kd.V_far (p := ⟨gb348, 1, none⟩) (Kd.V_far (p := ⟨gb348, 0, none⟩) (Kd.V_mono HO323.out (fun k_ hk => (⟨hk, hk.2⟩ : _ ∧ k_ ≠ gb348))) (fun _ hk => hk.2) (.int .i64 t341)) (fun _ hk => hk.2) (.int .i64 t342)) (fun _ hk => hk.2) (.int .i64 t343)) (fun _ hk => hk.2) (.int .i64 t344)) (fun _ h_ => h_.1))) hb); have n3_ := am (Kd.R_below (by (with_reducible repeat (first | apply Kd.R_alloc | apply Kd.R_drewN | apply Kd.R_drew)); exact (Kd.R_mono (Kd.R_far (p := ⟨gb348, 3, none⟩) (Kd.R_far (p := ⟨gb348, 2, none⟩) (Kd.R_far (p := ⟨gb348, 1, none⟩) (Kd.R_far (p := ⟨gb348, 0, none⟩) (Kd.R_types HO328.out BK348.out (by decide)) (fun _ hk => hk.2) (.int .i64 t341)) (fun _ hk => hk.2) (.int .i64 t342)) (fun _ hk => hk.2) (.int .i64 t343)) (fun _ hk => hk.2) (.int .i64 t344)) (fun _ h_ => h_.1))) hb); have n4_ := am (Kd.V_below (by (with_reducible repeat (first | apply Kd.V_alloc | apply Kd.V_drewN | apply Kd.V_drew)); exact (Kd.V_mono (Kd.V_far (p := ⟨gb348, 3, none⟩) (Kd.V_far (p := ⟨gb348, 2, none⟩) (Kd.V_far (p := ⟨gb348, 1, none⟩) (Kd.V_far (p := ⟨gb348, 0, none⟩) (Kd.V_mono HO332.out (fun k_ hk => (⟨hk, hk.2⟩ : _ ∧ k_ ≠ gb348))) (fun _ hk => hk.2) (.int .i64 t341)) (fun _ hk => hk.2) (.int .i64 t342)) (fun _ hk => hk.2) (.int .i64 t343)) (fun _ hk => hk.2) (.int .i64 t344)) (fun _ h_ => h_.1))) hb); have n5_ := am (Kd.R_below zo3' hb); have n6_ := am (Kd.R_below zp3' hb); have n7_ := am (blk_below (g := gb315) (o := o2') (by (with_reducible repeat (first | apply kn | apply kd | apply ka)); refine blk_far ?_ NB315_348.out _; (with_reducible repeat (first | apply kn | apply kd | apply ka)); refine blk_far ?_ NB315_348.out _; (with_reducible repeat (first | apply kn | apply kd | apply ka)); refine blk_far ?_ NB315_348.out _; (with_reducible repeat (first | apply kn | apply kd | apply ka)); refine blk_far ?_ NB315_348.out _; (with_reducible repeat (first | apply kn | apply kd | apply ka)); exact BK315.out) hb); have n8_ := am (blk_below (g := gb348) (o := o3') (by (with_reducible repeat (first | apply kn | apply kd | apply ka)); refine blk_put (cs := #[.int .i64 t341, .int .i64 t342, .int .i64 t343, .int .i64 0]) ?_ 3 _ rfl; (with_reducible repeat (first | apply kn | apply kd | apply ka)); refine blk_put (cs := #[.int .i64 t341, .int .i64 t342, .int .i64 0, .int .i64 0]) ?_ 2 _ rfl; (with_reducible repeat (first | apply kn | apply kd | apply ka)); refine blk_put (cs := #[.int .i64 t341, .int .i64 0, .int .i64 0, .int .i64 0]) ?_ 1 _ rfl; (with_reducible repeat (first | apply kn | apply kd | apply ka)); refine blk_put (cs := #[.int .i64 0, .int .i64 0, .int .i64 0, .int .i64 0]) ?_ 0 _ rfl; (with_reducible repeat (first | apply kn | apply kd | apply ka)); exact BK348.out) hb); have n9_ := am (below_step zn' hb); clear HO310; clear HO318; clear HO323; clear HO328; clear HO332; clear HO340; clear HO347; clear BK315; clear BK348; clear HB; have HO310 := n0_; have HO318 := n1_; have HO323 := n2_; have HO328 := n3_; have HO332 := n4_; have HO340 := n5_; have HO347 := n6_; have BK315 := n7_; have BK348 := n8_; have HB := n9_; clear n0_ n1_ n2_ n3_ n4_ n5_ n6_ n7_ n8_ n9_; (try clear hb); (try clear hb2); (try clear hk); (try clear hi); have hcz37_0 : w36.cell? ⟨gb348, 0, none⟩ = some (.int .i64 t341) := (blk_cell BK348.out 0).trans rfl; have hcz37_1 : w36.cell? ⟨gb348, 1, none⟩ = some (.int .i64 t342) := (blk_cell BK348.out 1).trans rfl; have hcz37_2 : w36.cell? ⟨gb348, 2, none⟩ = some (.int .i64 t343) := (blk_cell BK348.out 2).trans rfl; have hcz37_3 : w36.cell? ⟨gb348, 3, none⟩ = some (.int .i64 t344) := (blk_cell BK348.out 3).trans rfl; have hfz37_0 := blk_frozen BK348.out 0; have hfz37_1 := blk_frozen BK348.out 1; have hfz37_2 := blk_frozen BK348.out 2; have hfz37_3 := blk_frozen BK348.out 3) | ((with_reducible refine gate_callee (f := 44) rfl ?_); refine goesL_ (some 116) rfl rfl Try.func44 (by kernel_rfl) rfl #[.slice Ao34 t338.length co34, .agg #[.int .i64 t341, .int .i64 t342, .int .i64 t343, .int .i64 t344], .slice Ao35 t345.length co35] rfl zb' ?_; (with_reducible refine (spec_MeetsWanted.calls k _ _ t338 t341 t342 t343 t344 _ _ t345 t351 t352 _ ?side1 ?side2 ?side3 ?side4 A13.out).mono ?_); (case side1 => repeat (first | exact (Kd.R_reads' HO340.out).2.2 | (with_reducible refine Kd.C_alloc ?_ _) | (with_reducible refine Kd.C_drewN ?_ _) | (with_reducible refine Kd.C_drew ?_))); (case side2 => exact (Kd.R_reads' HO340.out).2.1); (case side3 => repeat (first | exact (Kd.R_reads' HO347.out).2.2 | (with_reducible refine Kd.C_alloc ?_ _) | (with_reducible refine Kd.C_drewN ?_ _) | (with_reducible refine Kd.C_drew ?_))); (case side4 => exact (Kd.R_reads' HO347.out).2.1); rintro e w38 ⟨rfl, hb⟩; refine ⟨_, rfl, ?_⟩; have n0_ := am (Kd.R_below zz' hb); have n1_ := am (Kd.R_below za1' hb); have n2_ := am (Kd.V_below zo1' hb); have n3_ := am (Kd.R_below zh1' hb); have n4_ := am (Kd.V_below zt1' hb); have n5_ := am (Kd.R_below zc2' hb); have n6_ := am (Kd.R_below zd2' hb); have n7_ := am (blk_below (g := gb315) (o := o2') zt' hb); have n8_ := am (blk_below (g := gb348) (o := o3') zf1' hb); have n9_ := am (below_step zn' hb); clear HO310; clear HO318; clear HO323; clear HO328; clear HO332; clear HO340; clear HO347; clear BK315; clear BK348; clear HB; have HO310 := n0_; have HO318 := n1_; have HO323 := n2_; have HO328 := n3_; have HO332 := n4_; have HO340 := n5_; have HO347 := n6_; have BK315 := n7_; have BK348 := n8_; have HB := n9_; clear n0_ n1_ n2_ n3_ n4_ n5_ n6_ n7_ n8_ n9_; (try clear hb); (try clear hb2); (try clear hk); (try clear hi)))
  (try simp only [Act.put, s1, s2, s3])
  go_cut [191] (fun v191 wc => ∃ (kq : Nat) (x191_13 : Bool), v191 = .bool x191_13 ∧ Aside0 (laws_FnBlends.j0 kq t308 t316 t320 t324 t326 t338 t345 t350 t351 x191_13 t311 t312 t313 t314 t341 t342 t343 t344 = some r) ∧ Aside0 (kq ≤ k) ∧ Aside0 (Kd.R k63 63 wc w.heap.size (fun k_ => some k_ ≠ ((.slice Ao34 t338.length co34) : Value).ownBlock) (.slice Ao18 t308.length co18) t308) ∧ Aside0 (Kd.R (Kd.int .i64) 3 wc w.heap.size (fun k_ => some k_ ≠ (v327 : Value).ownBlock ∧ some k_ ≠ ((.slice Ao35 t345.length co35) : Value).ownBlock) v317 t316) ∧ Aside0 (Kd.R (Kd.int .i64) 3 wc w.heap.size (fun k_ => some k_ ≠ (v317 : Value).ownBlock ∧ some k_ ≠ ((.slice Ao35 t345.length co35) : Value).ownBlock) v327 t326) ∧ Aside0 (Kd.R k63 63 wc w.heap.size (fun k_ => some k_ ≠ ((.slice Ao18 t308.length co18) : Value).ownBlock) (.slice Ao34 t338.length co34) t338) ∧ Aside0 (Kd.R (Kd.int .i64) 3 wc w.heap.size (fun k_ => some k_ ≠ (v317 : Value).ownBlock ∧ some k_ ≠ (v327 : Value).ownBlock) (.slice Ao35 t345.length co35) t345) ∧ Aside0 (wc.heap[gb315]? = some (.cells #[.int .i64 t311, .int .i64 t312, .int .i64 t313, .int .i64 t314] 45 (0, 0))) ∧ Aside0 (wc.heap[gb348]? = some (.cells #[.int .i64 t341, .int .i64 t342, .int .i64 t343, .int .i64 t344] 45 (0, 0))) ∧ Aside0 (Below w.heap.size w wc))
  case first => as_aux_lemma =>
   have H := HC14.out; clear HC14
   by_cases c39 : (t320 != t325) = true
   ·rw [if_pos c39] at H
    exact absurd H (by simp)
   ·rw [if_neg c39] at H
    have c39b0 : (t320 != t325) = false := by simpa using c39
    (try (have c39b1 : decide (t320 = t325) = true := by simpa using c39)); (try (have c39b2 : (t320 == t325) = true := by simpa using c39)); clear c39
    (first | rw [c39b0] | (simp only [i64_w, i32_w]; rw [c39b0]) | skip)
    replace H := Option.bind_eq_some_iff.mp H; obtain ⟨t353, A410, H⟩ := H; replace H : (if t353 = true then (if t319 = t324 then (if (t329 != t333) = true then (none) else ((laws_qInts.f k t326 t330).bind fun t354 => (if t354 = true then (if (t335 != t337) = true then (none) else (if t334 = t336 then (if (t350 != t352) = true then (none) else (if (t349 != t351) = true then (none) else ((impl_AreBins.f k t308).bind fun t355 => ((spec_AreBins.f k t308).bind fun t356 => (if (t355 != t356) = true then (none) else ((impl_IsWanted.f t311 t312 t313 t314).bind fun t357 => ((spec_IsWanted.f t311 t312 t313 t314).bind fun t358 => (if (t357 != t358) = true then (none) else (if t335 = true then (if (t320 != (decide (t336 > 0))) = true then (none) else (laws_FnBlends.j0 k t308 t316 t320 t324 t326 t338 t345 t350 t351 (t329 != t320) t311 t312 t313 t314 t341 t342 t343 t344)) else (if (t320 != false) = true then (none) else (laws_FnBlends.j0 k t308 t316 t320 t324 t326 t338 t345 t350 t351 (t329 != t320) t311 t312 t313 t314 t341 t342 t343 t344))))))))))) else (none))) else (none)))) else (none)) else (none)) = some r := H; have A41 := Aside0.mk A410; clear A410
    by_cases c42 : t353 = true
    ·subst c42
     have H1 : (if t319 = t324 then (if (t329 != t333) = true then (none) else ((laws_qInts.f k t326 t330).bind fun t354 => (if t354 = true then (if (t335 != t337) = true then (none) else (if t334 = t336 then (if (t350 != t352) = true then (none) else (if (t349 != t351) = true then (none) else ((impl_AreBins.f k t308).bind fun t355 => ((spec_AreBins.f k t308).bind fun t356 => (if (t355 != t356) = true then (none) else ((impl_IsWanted.f t311 t312 t313 t314).bind fun t357 => ((spec_IsWanted.f t311 t312 t313 t314).bind fun t358 => (if (t357 != t358) = true then (none) else (if t335 = true then (if (t320 != (decide (t336 > 0))) = true then (none) else (laws_FnBlends.j0 k t308 t316 t320 t324 t326 t338 t345 t350 t351 (t329 != t320) t311 t312 t313 t314 t341 t342 t343 t344)) else (if (t320 != false) = true then (none) else (laws_FnBlends.j0 k t308 t316 t320 t324 t326 t338 t345 t350 t351 (t329 != t320) t311 t312 t313 t314 t341 t342 t343 t344))))))))))) else (none))) else (none)))) else (none)) = some r := by rw [if_pos rfl] at H; exact H
     clear H; have H := H1; clear H1
     by_cases c43 : t319 = t324
     ·rw [if_pos c43] at H
      have c43b0 : (t319 == t324) = true := beq_iff_eq.mpr c43; have c43b1 : (t319 != t324) = false := bne_eq_false_iff_eq.mpr c43; clear c43
      by_cases c44 : (t329 != t333) = true
      ·rw [if_pos c44] at H
       exact absurd H (by simp)
      ·rw [if_neg c44] at H
       have c44b0 : (t329 != t333) = false := by simpa using c44
       (try (have c44b1 : decide (t329 = t333) = true := by simpa using c44)); (try (have c44b2 : (t329 == t333) = true := by simpa using c44)); clear c44; replace H := Option.bind_eq_some_iff.mp H; obtain ⟨t354, A480, H⟩ := H; replace H : (if t354 = true then (if (t335 != t337) = true then (none) else (if t334 = t336 then (if (t350 != t352) = true then (none) else (if (t349 != t351) = true then (none) else ((impl_AreBins.f k t308).bind fun t355 => ((spec_AreBins.f k t308).bind fun t356 => (if (t355 != t356) = true then (none) else ((impl_IsWanted.f t311 t312 t313 t314).bind fun t357 => ((spec_IsWanted.f t311 t312 t313 t314).bind fun t358 => (if (t357 != t358) = true then (none) else (if t335 = true then (if (t320 != (decide (t336 > 0))) = true then (none) else (laws_FnBlends.j0 k t308 t316 t320 t324 t326 t338 t345 t350 t351 (t329 != t320) t311 t312 t313 t314 t341 t342 t343 t344)) else (if (t320 != false) = true then (none) else (laws_FnBlends.j0 k t308 t316 t320 t324 t326 t338 t345 t350 t351 (t329 != t320) t311 t312 t313 t314 t341 t342 t343 t344))))))))))) else (none))) else (none)) = some r := H; have A48 := Aside0.mk A480; clear A480
       by_cases c49 : t354 = true
       ·subst c49
        have H1 : (if (t335 != t337) = true then (none) else (if t334 = t336 then (if (t350 != t352) = true then (none) else (if (t349 != t351) = true then (none) else ((impl_AreBins.f k t308).bind fun t355 => ((spec_AreBins.f k t308).bind fun t356 => (if (t355 != t356) = true then (none) else ((impl_IsWanted.f t311 t312 t313 t314).bind fun t357 => ((spec_IsWanted.f t311 t312 t313 t314).bind fun t358 => (if (t357 != t358) = true then (none) else (if t335 = true then (if (t320 != (decide (t336 > 0))) = true then (none) else (laws_FnBlends.j0 k t308 t316 t320 t324 t326 t338 t345 t350 t351 (t329 != t320) t311 t312 t313 t314 t341 t342 t343 t344)) else (if (t320 != false) = true then (none) else (laws_FnBlends.j0 k t308 t316 t320 t324 t326 t338 t345 t350 t351 (t329 != t320) t311 t312 t313 t314 t341 t342 t343 t344))))))))))) else (none))) = some r := by rw [if_pos rfl] at H; exact H
        clear H; have H := H1; clear H1
        by_cases c50 : (t335 != t337) = true
        ·rw [if_pos c50] at H
         exact absurd H (by simp)
        ·rw [if_neg c50] at H
         have c50b0 : (t335 != t337) = false := by simpa using c50
         (try (have c50b1 : decide (t335 = t337) = true := by simpa using c50)); (try (have c50b2 : (t335 == t337) = true := by simpa using c50)); clear c50
         by_cases c56 : t334 = t336
         ·rw [if_pos c56] at H
          have c56b0 : (t334 == t336) = true := beq_iff_eq.mpr c56; have c56b1 : (t334 != t336) = false := bne_eq_false_iff_eq.mpr c56; clear c56
          by_cases c57 : (t350 != t352) = true
          ·rw [if_pos c57] at H
           exact absurd H (by simp)
          ·rw [if_neg c57] at H
           have c57b0 : (t350 != t352) = false := by simpa using c57
           (try (have c57b1 : decide (t350 = t352) = true := by simpa using c57)); (try (have c57b2 : (t350 == t352) = true := by simpa using c57)); clear c57
           by_cases c63 : (t349 != t351) = true
           ·rw [if_pos c63] at H
            exact absurd H (by simp)
           ·rw [if_neg c63] at H
            have c63b0 : (t349 != t351) = false := by simpa using c63
            (try (have c63b1 : decide (t349 = t351) = true := by simpa using c63)); (try (have c63b2 : (t349 == t351) = true := by simpa using c63)); clear c63; replace H := Option.bind_eq_some_iff.mp H; obtain ⟨t355, A690, H⟩ := H; replace H : (((spec_AreBins.f k t308).bind fun t356 => (if (t355 != t356) = true then (none) else ((impl_IsWanted.f t311 t312 t313 t314).bind fun t357 => ((spec_IsWanted.f t311 t312 t313 t314).bind fun t358 => (if (t357 != t358) = true then (none) else (if t335 = true then (if (t320 != (decide (t336 > 0))) = true then (none) else (laws_FnBlends.j0 k t308 t316 t320 t324 t326 t338 t345 t350 t351 (t329 != t320) t311 t312 t313 t314 t341 t342 t343 t344)) else (if (t320 != false) = true then (none) else (laws_FnBlends.j0 k t308 t316 t320 t324 t326 t338 t345 t350 t351 (t329 != t320) t311 t312 t313 t314 t341 t342 t343 t344))))))))) = some r := H; have A69 := Aside0.mk A690; clear A690; replace H := Option.bind_eq_some_iff.mp H; obtain ⟨t356, A700, H⟩ := H; replace H : (if (t355 != t356) = true then (none) else ((impl_IsWanted.f t311 t312 t313 t314).bind fun t357 => ((spec_IsWanted.f t311 t312 t313 t314).bind fun t358 => (if (t357 != t358) = true then (none) else (if t335 = true then (if (t320 != (decide (t336 > 0))) = true then (none) else (laws_FnBlends.j0 k t308 t316 t320 t324 t326 t338 t345 t350 t351 (t329 != t320) t311 t312 t313 t314 t341 t342 t343 t344)) else (if (t320 != false) = true then (none) else (laws_FnBlends.j0 k t308 t316 t320 t324 t326 t338 t345 t350 t351 (t329 != t320) t311 t312 t313 t314 t341 t342 t343 t344))))))) = some r := H
            have A70 := Aside0.mk A700; clear A700
            by_cases c71 : (t355 != t356) = true
            ·rw [if_pos c71] at H
             exact absurd H (by simp)
            ·rw [if_neg c71] at H
             have c71b0 : (t355 != t356) = false := by simpa using c71
             (try (have c71b1 : decide (t355 = t356) = true := by simpa using c71)); (try (have c71b2 : (t355 == t356) = true := by simpa using c71)); clear c71; replace H := Option.bind_eq_some_iff.mp H; obtain ⟨t357, A790, H⟩ := H; replace H : (((spec_IsWanted.f t311 t312 t313 t314).bind fun t358 => (if (t357 != t358) = true then (none) else (if t335 = true then (if (t320 != (decide (t336 > 0))) = true then (none) else (laws_FnBlends.j0 k t308 t316 t320 t324 t326 t338 t345 t350 t351 (t329 != t320) t311 t312 t313 t314 t341 t342 t343 t344)) else (if (t320 != false) = true then (none) else (laws_FnBlends.j0 k t308 t316 t320 t324 t326 t338 t345 t350 t351 (t329 != t320) t311 t312 t313 t314 t341 t342 t343 t344)))))) = some r := H; have A79 := Aside0.mk A790; clear A790; replace H := Option.bind_eq_some_iff.mp H; obtain ⟨t358, A800, H⟩ := H; replace H : (if (t357 != t358) = true then (none) else (if t335 = true then (if (t320 != (decide (t336 > 0))) = true then (none) else (laws_FnBlends.j0 k t308 t316 t320 t324 t326 t338 t345 t350 t351 (t329 != t320) t311 t312 t313 t314 t341 t342 t343 t344)) else (if (t320 != false) = true then (none) else (laws_FnBlends.j0 k t308 t316 t320 t324 t326 t338 t345 t350 t351 (t329 != t320) t311 t312 t313 t314 t341 t342 t343 t344)))) = some r := H; have A80 := Aside0.mk A800; clear A800
             by_cases c81 : (t357 != t358) = true
             ·rw [if_pos c81] at H
              exact absurd H (by simp)
             ·rw [if_neg c81] at H
              have c81b0 : (t357 != t358) = false := by simpa using c81
              (try (have c81b1 : decide (t357 = t358) = true := by simpa using c81)); (try (have c81b2 : (t357 == t358) = true := by simpa using c81)); clear c81
              by_cases c91 : t335 = true
              ·subst c91
               have H1 : (if (t320 != (decide (t336 > 0))) = true then (none) else (laws_FnBlends.j0 k t308 t316 t320 t324 t326 t338 t345 t350 t351 (t329 != t320) t311 t312 t313 t314 t341 t342 t343 t344)) = some r := by rw [if_pos rfl] at H; exact H
               clear H; have H := H1; clear H1
               by_cases c92 : (t320 != (decide (t336 > 0))) = true
               ·rw [if_pos c92] at H
                exact absurd H (by simp)
               ·rw [if_neg c92] at H
                have c92b0 : (t320 != (decide (t336 > 0))) = false := by simpa using c92
                (try (have c92b1 : decide (t320 = (decide (t336 > 0))) = true := by simpa using c92)); (try (have c92b2 : (t320 == (decide (t336 > 0))) = true := by simpa using c92)); clear c92; have H' := Aside0.mk H; clear H
                try go_wp2
                have n0_ := am (Kd.R_drew HO310.out); have n1_ := am (Kd.R_drew HO318.out); have n2_ := am (Kd.V_drew HO323.out); have n3_ := am (Kd.R_drew HO328.out); have n4_ := am (Kd.V_drew HO332.out); have n5_ := am (Kd.R_drew HO340.out); have n6_ := am (Kd.R_drew HO347.out); have n7_ := am (blk_drew BK315.out); have n8_ := am (blk_drew BK348.out); have n9_ := am (below_drew1 HB.out); clear HO310; clear HO318; clear HO323; clear HO328; clear HO332; clear HO340; clear HO347; clear BK315; clear BK348; clear HB; have HO310 := n0_; have HO318 := n1_; have HO323 := n2_; have HO328 := n3_; have HO332 := n4_; have HO340 := n5_; have HO347 := n6_; have BK315 := n7_; have BK348 := n8_; have HB := n9_; clear n0_ n1_ n2_ n3_ n4_ n5_ n6_ n7_ n8_ n9_; obtain ⟨Ao103, co103, eo103⟩ := Kd.R_slice HO318.out
                (first | subst eo103 | (injection eo103 with f1_ f2_ f3_; have f4_ := f1_.symm; have f5_ := f3_.symm; clear f1_ f2_ f3_; subst f4_; subst f5_))
                obtain ⟨Ao104, co104, eo104⟩ := Kd.V_slice HO323.out
                (first | subst eo104 | (injection eo104 with f1_ f2_ f3_; have f4_ := f1_.symm; have f5_ := f3_.symm; clear f1_ f2_ f3_; subst f4_; subst f5_))
                refine start_ (n := 73) (S := fun w' => w'.cell? ⟨gb315, 0, none⟩ = some (.int .i64 t311) ∧ w'.cell? ⟨gb315, 1, none⟩ = some (.int .i64 t312) ∧ w'.cell? ⟨gb315, 2, none⟩ = some (.int .i64 t313) ∧ w'.cell? ⟨gb315, 3, none⟩ = some (.int .i64 t314)) (ds := []) m0_ (by kernel_rfl) rfl rfl ⟨(blk_cell BK315.out 0).trans rfl, (blk_cell BK315.out 1).trans rfl, (blk_cell BK315.out 2).trans rfl, (blk_cell BK315.out 3).trans rfl⟩ (fun hHeld => ?_); refine with_tabW laws_FnBlends.tab13 laws_FnBlends.bits13 (fun HT_ HW_ => ?_)
                generalize w38.drew = w102 at HO310 HO318 HO323 HO328 HO332 HO340 HO347 BK315 BK348 HB hHeld ⊢
                refine pure_ (i := 0) (N := some 119) (v := ?_) (a' := ?_) m1_ rfl rfl (any_of HT_.out (by kernel_rfl)) (fun _ _ _ h => h) (Or.inl ⟨by rfl, ?_⟩) ?_ ?_
                rotate_left
                ·intro w'
                 go_simp
                 with_reducible rfl
                rotate_left
                ·simp only [Act.put, s1, s2, s3, i64_w, i32_w]
                 rfl
                refine pure_ (i := 1) (N := some 120) (v := ?_) (a' := ?_) m2_ rfl rfl (any_of HT_.out (by kernel_rfl)) (fun _ _ _ h => h) (Or.inl ⟨by rfl, ?_⟩) ?_ ?_
                rotate_left
                ·intro w'
                 go_simp
                 with_reducible rfl
                rotate_left
                ·simp only [Act.put, s1, s2, s3, i64_w, i32_w]
                 rfl
                refine pure_ (i := 2) (N := some 121) (v := ?_) (a' := ?_) m3_ rfl rfl (any_of HT_.out (by kernel_rfl)) (fun _ _ _ h => h) (Or.inl ⟨by rfl, ?_⟩) ?_ ?_
                rotate_left
                ·intro w'
                 go_simp
                 with_reducible rfl
                rotate_left
                ·simp only [Act.put, s1, s2, s3, i64_w, i32_w]
                 rfl
                refine pure_ (i := 3) (N := some 122) (v := ?_) (a' := ?_) m4_ rfl rfl (any_of HT_.out (by kernel_rfl)) (fun _ _ _ h => h) (Or.inl ⟨by rfl, ?_⟩) ?_ ?_
                rotate_left
                ·intro w'
                 go_simp
                 with_reducible rfl
                rotate_left
                ·simp only [Act.put, s1, s2, s3, i64_w, i32_w]
                 rfl
                refine pure_ (i := 4) (N := some 123) (v := ?_) (a' := ?_) m5_ rfl rfl (any_of HT_.out (by kernel_rfl)) (fun _ _ _ h => h) (Or.inl ⟨by rfl, ?_⟩) ?_ ?_
                rotate_left
                ·intro w'
                 go_simp
                 with_reducible rfl
                rotate_left
                ·simp only [Act.put, s1, s2, s3, i64_w, i32_w]
                 rfl
                refine pure_ (i := 5) (N := some 124) (v := ?_) (a' := ?_) m6_ rfl rfl (any_of HT_.out (by kernel_rfl)) (fun _ _ _ h => h) (Or.inl ⟨by rfl, ?_⟩) ?_ ?_
                rotate_left
                ·intro w'
                 go_simp
                 with_reducible rfl
                rotate_left
                ·simp only [Act.put, s1, s2, s3, i64_w, i32_w]
                 rfl
                refine one_ (i := 6) (N := some 125) m7_ rfl rfl (one_of HT_.out (by kernel_rfl)) (by decide) (fun K hK => ?_)
                refine goes_ Try.func45 (by kernel_rfl) rfl #[.slice Ao103 t316.length co103, .slice Ao104 t321.length co104] (by rfl) rfl rfl zb' ?_
                with_reducible refine (laws_qInts.calls k _ _ t316 _ _ t321 true _ ?side1 ?side2 ?side3 ?side4 A41.out).mono ?_
                (case side1 => exact zz4')
                (case side2 => exact (Kd.R_reads' HO318.out).2.1)
                (case side3 => exact za5')
                (case side4 => exact (Kd.V_reads' HO323.out).2.1)
                rintro e w' ⟨rfl, ⟨nd, rfl⟩⟩
                refine ⟨_, rfl, ?_⟩
                obtain ⟨Ao105, co105, eo105⟩ := Kd.R_slice HO328.out
                (first | subst eo105 | (injection eo105 with f1_ f2_ f3_; have f4_ := f1_.symm; have f5_ := f3_.symm; clear f1_ f2_ f3_; subst f4_; subst f5_))
                obtain ⟨Ao106, co106, eo106⟩ := Kd.V_slice HO332.out
                (first | subst eo106 | (injection eo106 with f1_ f2_ f3_; have f4_ := f1_.symm; have f5_ := f3_.symm; clear f1_ f2_ f3_; subst f4_; subst f5_))
                refine hK.out _ _ ⟨(blk_cell BK315.out 0).trans rfl, (blk_cell BK315.out 1).trans rfl, (blk_cell BK315.out 2).trans rfl, (blk_cell BK315.out 3).trans rfl⟩ (fun hHeld => ?_)
                clear hK K
                refine norm_ (a' := ?_) ?_ ?_
                rotate_left
                ·show Act.put _ (some 125) _ = _
                 simp only [Act.put, s1, s2, s3, i64_w, i32_w]
                 rfl
                refine pure_ (i := 7) (N := some 126) (v := ?_) (a' := ?_) m8_ rfl rfl (any_of HT_.out (by kernel_rfl)) (fun _ _ _ h => h) (Or.inl ⟨by rfl, ?_⟩) ?_ ?_
                rotate_left
                ·intro w'
                 go_simp
                 with_reducible rfl
                rotate_left
                ·simp only [Act.put, s1, s2, s3, i64_w, i32_w]
                 rfl
                refine pure_ (i := 8) (N := some 127) (v := ?_) (a' := ?_) m9_ rfl rfl (any_of HT_.out (by kernel_rfl)) (fun _ _ _ h => h) (Or.inl ⟨by rfl, ?_⟩) ?_ ?_
                rotate_left
                ·intro w'
                 go_simp
                 with_reducible rfl
                rotate_left
                ·simp only [Act.put, s1, s2, s3, i64_w, i32_w]
                 rfl
                refine pure_ (i := 9) (N := some 128) (v := ?_) (a' := ?_) m10_ rfl rfl (any_of HT_.out (by kernel_rfl)) (fun _ _ _ h => h) (Or.inl ⟨by rfl, ?_⟩) ?_ ?_
                rotate_left
                ·intro w'
                 go_simp
                 with_reducible rfl
                rotate_left
                ·simp only [Act.put, s1, s2, s3, i64_w, i32_w]
                 rfl
                refine pure_ (i := 10) (N := some 129) (v := ?_) (a' := ?_) m11_ rfl rfl (any_of HT_.out (by kernel_rfl)) (fun _ _ _ h => h) (Or.inl ⟨by rfl, ?_⟩) ?_ ?_
                rotate_left
                ·intro w'
                 go_simp
                 with_reducible rfl
                rotate_left
                ·simp only [Act.put, s1, s2, s3, i64_w, i32_w]
                 rfl
                refine pure_ (i := 11) (N := some 130) (v := ?_) (a' := ?_) m12_ rfl rfl (any_of HT_.out (by kernel_rfl)) (fun _ _ _ h => h) (Or.inl ⟨by rfl, ?_⟩) ?_ ?_
                rotate_left
                ·intro w'
                 go_simp
                 with_reducible rfl
                rotate_left
                ·simp only [Act.put, s1, s2, s3, i64_w, i32_w]
                 rfl
                refine pure_ (i := 12) (N := some 131) (v := ?_) (a' := ?_) m13_ rfl rfl (any_of HT_.out (by kernel_rfl)) (fun _ _ _ h => h) (Or.inl ⟨by rfl, ?_⟩) ?_ ?_
                rotate_left
                ·intro w'
                 go_simp
                 with_reducible rfl
                rotate_left
                ·simp only [Act.put, s1, s2, s3, i64_w, i32_w]
                 rfl
                refine pure_ (i := 13) (N := some 132) (v := ?_) (a' := ?_) m14_ rfl rfl (any_of HT_.out (by kernel_rfl)) (fun _ _ _ h => h) (Or.inl ⟨by rfl, ?_⟩) ?_ ?_
                rotate_left
                ·intro w'
                 go_simp
                 with_reducible rfl
                rotate_left
                ·simp only [Act.put, s1, s2, s3, i64_w, i32_w]
                 rfl
                refine pure_ (i := 14) (N := some 133) (v := ?_) (a' := ?_) m15_ rfl rfl (any_of HT_.out (by kernel_rfl)) (fun _ _ _ h => h) (Or.inl ⟨by rfl, ?_⟩) ?_ ?_
                rotate_left
                ·intro w'
                 go_simp
                 with_reducible rfl
                rotate_left
                ·simp only [Act.put, s1, s2, s3, i64_w, i32_w]
                 rfl
                refine pure_ (i := 15) (N := some 134) (v := ?_) (a' := ?_) m16_ rfl rfl (any_of HT_.out (by kernel_rfl)) (fun _ _ _ h => h) (Or.inl ⟨by rfl, ?_⟩) ?_ ?_
                rotate_left
                ·intro w'
                 go_simp
                 with_reducible rfl
                rotate_left
                ·simp only [Act.put, s1, s2, s3, i64_w, i32_w]
                 rfl
                refine pure_ (i := 16) (N := some 135) (v := ?_) (a' := ?_) m17_ rfl rfl (any_of HT_.out (by kernel_rfl)) (fun _ _ _ h => h) (Or.inl ⟨by rfl, ?_⟩) ?_ ?_
                rotate_left
                ·intro w'
                 go_simp
                 with_reducible rfl
                rotate_left
                ·simp only [Act.put, s1, s2, s3, i64_w, i32_w]
                 rfl
                refine pure_ (i := 17) (N := some 136) (v := ?_) (a' := ?_) m18_ rfl rfl (any_of HT_.out (by kernel_rfl)) (fun _ _ _ h => h) (Or.inl ⟨by rfl, ?_⟩) ?_ ?_
                rotate_left
                ·intro w'
                 go_simp
                 with_reducible rfl
                rotate_left
                ·simp only [Act.put, s1, s2, s3, i64_w, i32_w]
                 rfl
                refine pure_ (i := 18) (N := some 137) (v := ?_) (a' := ?_) m19_ rfl rfl (any_of HT_.out (by kernel_rfl)) (fun _ _ _ h => h) (Or.inl ⟨by rfl, ?_⟩) ?_ ?_
                rotate_left
                ·intro w'
                 go_simp
                 with_reducible rfl
                rotate_left
                ·simp only [Act.put, s1, s2, s3, i64_w, i32_w]
                 rfl
                refine pure_ (i := 19) (N := some 138) (v := ?_) (a' := ?_) m20_ rfl rfl (any_of HT_.out (by kernel_rfl)) (fun _ _ _ h => h) (Or.inl ⟨by rfl, ?_⟩) ?_ ?_
                rotate_left
                ·intro w'
                 go_simp
                 with_reducible rfl
                rotate_left
                ·simp only [Act.put, s1, s2, s3, i64_w, i32_w]
                 rfl
                refine pure_ (i := 20) (N := some 139) (v := ?_) (a' := ?_) m21_ rfl rfl (any_of HT_.out (by kernel_rfl)) (fun _ _ _ h => h) (Or.inl ⟨by rfl, ?_⟩) ?_ ?_
                rotate_left
                ·intro w'
                 go_simp
                 with_reducible rfl
                rotate_left
                ·simp only [Act.put, s1, s2, s3, i64_w, i32_w]
                 rfl
                refine pure_ (i := 21) (N := some 140) (v := ?_) (a' := ?_) m22_ rfl rfl (any_of HT_.out (by kernel_rfl)) (fun _ _ _ h => h) (Or.inl ⟨by rfl, ?_⟩) ?_ ?_
                rotate_left
                ·intro w'
                 go_simp
                 with_reducible rfl
                rotate_left
                ·simp only [Act.put, s1, s2, s3, i64_w, i32_w]
                 rfl
                refine one_ (i := 22) (N := some 141) m23_ rfl rfl (one_of HT_.out (by kernel_rfl)) (by decide) (fun K hK => ?_)
                refine goes_ Try.func45 (by kernel_rfl) rfl #[.slice Ao105 t326.length co105, .slice Ao106 t330.length co106] (by rfl) rfl rfl zb' ?_
                with_reducible refine (laws_qInts.calls k _ _ t326 _ _ t330 true _ ?side1 ?side2 ?side3 ?side4 A48.out).mono ?_
                (case side1 => exact zb5')
                (case side2 => exact (Kd.R_reads' HO328.out).2.1)
                (case side3 => exact zc5')
                (case side4 => exact (Kd.V_reads' HO332.out).2.1)
                rintro e w' ⟨rfl, ⟨nd, rfl⟩⟩
                refine ⟨_, rfl, ?_⟩
                refine hK.out _ _ ⟨(blk_cell BK315.out 0).trans rfl, (blk_cell BK315.out 1).trans rfl, (blk_cell BK315.out 2).trans rfl, (blk_cell BK315.out 3).trans rfl⟩ (fun hHeld => ?_)
                clear hK K
                refine norm_ (a' := ?_) ?_ ?_
                rotate_left
                ·show Act.put _ (some 141) _ = _
                 simp only [Act.put, s1, s2, s3, i64_w, i32_w]
                 rfl
                refine pure_ (i := 23) (N := some 142) (v := ?_) (a' := ?_) m24_ rfl rfl (any_of HT_.out (by kernel_rfl)) (fun _ _ _ h => h) (Or.inl ⟨by rfl, ?_⟩) ?_ ?_
                rotate_left
                ·intro w'
                 go_simp
                 with_reducible rfl
                rotate_left
                ·simp only [Act.put, s1, s2, s3, i64_w, i32_w]
                 rfl
                refine pure_ (i := 24) (N := some 143) (v := ?_) (a' := ?_) m25_ rfl rfl (any_of HT_.out (by kernel_rfl)) (fun _ _ _ h => h) (Or.inl ⟨by rfl, ?_⟩) ?_ ?_
                rotate_left
                ·intro w'
                 go_simp
                 with_reducible rfl
                rotate_left
                ·simp only [Act.put, s1, s2, s3, i64_w, i32_w]
                 rfl
                refine pure_ (i := 25) (N := some 144) (v := ?_) (a' := ?_) m26_ rfl rfl (any_of HT_.out (by kernel_rfl)) (fun _ _ _ h => h) (Or.inl ⟨by rfl, ?_⟩) ?_ ?_
                rotate_left
                ·intro w'
                 go_simp
                 with_reducible rfl
                rotate_left
                ·simp only [Act.put, s1, s2, s3, i64_w, i32_w]
                 rfl
                refine pure_ (i := 26) (N := some 145) (v := ?_) (a' := ?_) m27_ rfl rfl (any_of HT_.out (by kernel_rfl)) (fun _ _ _ h => h) (Or.inl ⟨by rfl, ?_⟩) ?_ ?_
                rotate_left
                ·intro w'
                 go_simp
                 with_reducible rfl
                rotate_left
                ·simp only [Act.put, s1, s2, s3, i64_w, i32_w]
                 rfl
                refine pure_ (i := 27) (N := some 146) (v := ?_) (a' := ?_) m28_ rfl rfl (any_of HT_.out (by kernel_rfl)) (fun _ _ _ h => h) (Or.inl ⟨by rfl, ?_⟩) ?_ ?_
                rotate_left
                ·intro w'
                 go_simp
                 with_reducible rfl
                rotate_left
                ·simp only [Act.put, s1, s2, s3, i64_w, i32_w]
                 rfl
                refine pure_ (i := 28) (N := some 147) (v := ?_) (a' := ?_) m29_ rfl rfl (any_of HT_.out (by kernel_rfl)) (fun _ _ _ h => h) (Or.inl ⟨by rfl, ?_⟩) ?_ ?_
                rotate_left
                ·intro w'
                 go_simp
                 with_reducible rfl
                rotate_left
                ·simp only [Act.put, s1, s2, s3, i64_w, i32_w]
                 rfl
                refine pure_ (i := 29) (N := some 148) (v := ?_) (a' := ?_) m30_ rfl rfl (any_of HT_.out (by kernel_rfl)) (fun _ _ _ h => h) (Or.inl ⟨by rfl, ?_⟩) ?_ ?_
                rotate_left
                ·intro w'
                 go_simp
                 with_reducible rfl
                rotate_left
                ·simp only [Act.put, s1, s2, s3, i64_w, i32_w]
                 rfl
                refine pure_ (i := 30) (N := some 149) (v := ?_) (a' := ?_) m31_ rfl rfl (any_of HT_.out (by kernel_rfl)) (fun _ _ _ h => h) (Or.inl ⟨by rfl, ?_⟩) ?_ ?_
                rotate_left
                ·intro w'
                 go_simp
                 with_reducible rfl
                rotate_left
                ·simp only [Act.put, s1, s2, s3, i64_w, i32_w]
                 rfl
                refine pure_ (i := 31) (N := some 150) (v := ?_) (a' := ?_) m32_ rfl rfl (any_of HT_.out (by kernel_rfl)) (fun _ _ _ h => h) (Or.inl ⟨by rfl, ?_⟩) ?_ ?_
                rotate_left
                ·intro w'
                 go_simp
                 with_reducible rfl
                rotate_left
                ·simp only [Act.put, s1, s2, s3, i64_w, i32_w]
                 rfl
                refine pure_ (i := 32) (N := some 151) (v := ?_) (a' := ?_) m33_ rfl rfl (any_of HT_.out (by kernel_rfl)) (fun _ _ _ h => h) (Or.inl ⟨by rfl, ?_⟩) ?_ ?_
                rotate_left
                ·intro w'
                 go_simp
                 with_reducible rfl
                rotate_left
                ·simp only [Act.put, s1, s2, s3, i64_w, i32_w]
                 rfl
                refine pure_ (i := 33) (N := some 152) (v := ?_) (a' := ?_) m34_ rfl rfl (any_of HT_.out (by kernel_rfl)) (fun _ _ _ h => h) (Or.inl ⟨by rfl, ?_⟩) ?_ ?_
                rotate_left
                ·intro w'
                 go_simp
                 with_reducible rfl
                rotate_left
                ·simp only [Act.put, s1, s2, s3, i64_w, i32_w]
                 rfl
                refine pure_ (i := 34) (N := some 153) (v := ?_) (a' := ?_) m35_ rfl rfl (any_of HT_.out (by kernel_rfl)) (fun _ _ _ h => h) (Or.inl ⟨by rfl, ?_⟩) ?_ ?_
                rotate_left
                ·intro w'
                 go_simp
                 with_reducible rfl
                rotate_left
                ·simp only [Act.put, s1, s2, s3, i64_w, i32_w]
                 rfl
                refine pure_ (i := 35) (N := some 154) (v := ?_) (a' := ?_) m36_ rfl rfl (any_of HT_.out (by kernel_rfl)) (fun _ _ _ h => h) (Or.inl ⟨by rfl, ?_⟩) ?_ ?_
                rotate_left
                ·intro w'
                 go_simp
                 with_reducible rfl
                rotate_left
                ·simp only [Act.put, s1, s2, s3, i64_w, i32_w]
                 rfl
                refine pure_ (i := 36) (N := some 155) (v := ?_) (a' := ?_) m37_ rfl rfl (any_of HT_.out (by kernel_rfl)) (fun _ _ _ h => h) (Or.inl ⟨by rfl, ?_⟩) ?_ ?_
                rotate_left
                ·intro w'
                 go_simp
                 with_reducible rfl
                rotate_left
                ·simp only [Act.put, s1, s2, s3, i64_w, i32_w]
                 rfl
                refine pure_ (i := 37) (N := some 156) (v := ?_) (a' := ?_) m38_ rfl rfl (any_of HT_.out (by kernel_rfl)) (fun _ _ _ h => h) (Or.inl ⟨by rfl, ?_⟩) ?_ ?_
                rotate_left
                ·intro w'
                 go_simp
                 with_reducible rfl
                rotate_left
                ·simp only [Act.put, s1, s2, s3, i64_w, i32_w]
                 rfl
                refine pure_ (i := 38) (N := some 157) (v := ?_) (a' := ?_) m39_ rfl rfl (any_of HT_.out (by kernel_rfl)) (fun _ _ _ h => h) (Or.inl ⟨by rfl, ?_⟩) ?_ ?_
                rotate_left
                ·intro w'
                 go_simp
                 with_reducible rfl
                rotate_left
                ·simp only [Act.put, s1, s2, s3, i64_w, i32_w]
                 rfl
                refine pure_ (i := 39) (N := some 158) (v := ?_) (a' := ?_) m40_ rfl rfl (any_of HT_.out (by kernel_rfl)) (fun _ _ _ h => h) (Or.inl ⟨by rfl, ?_⟩) ?_ ?_
                rotate_left
                ·intro w'
                 go_simp
                 with_reducible rfl
                rotate_left
                ·simp only [Act.put, s1, s2, s3, i64_w, i32_w]
                 rfl
                refine pure_ (i := 40) (N := some 159) (v := ?_) (a' := ?_) m41_ rfl rfl (any_of HT_.out (by kernel_rfl)) (fun _ _ _ h => h) (Or.inl ⟨by rfl, ?_⟩) ?_ ?_
                rotate_left
                ·intro w'
                 go_simp
                 with_reducible rfl
                rotate_left
                ·simp only [Act.put, s1, s2, s3, i64_w, i32_w]
                 rfl
                refine pure_ (i := 41) (N := some 160) (v := ?_) (a' := ?_) m42_ rfl rfl (any_of HT_.out (by kernel_rfl)) (fun _ _ _ h => h) (Or.inl ⟨by rfl, ?_⟩) ?_ ?_
                rotate_left
                ·intro w'
                 go_simp
                 with_reducible rfl
                rotate_left
                ·simp only [Act.put, s1, s2, s3, i64_w, i32_w]
                 rfl
                refine pure_ (i := 42) (N := some 161) (v := ?_) (a' := ?_) m43_ rfl rfl (any_of HT_.out (by kernel_rfl)) (fun _ _ _ h => h) (Or.inl ⟨by rfl, ?_⟩) ?_ ?_
                rotate_left
                ·intro w'
                 go_simp
                 with_reducible rfl
                rotate_left
                ·simp only [Act.put, s1, s2, s3, i64_w, i32_w]
                 rfl
                refine pure_ (i := 43) (N := some 162) (v := ?_) (a' := ?_) m44_ rfl rfl (any_of HT_.out (by kernel_rfl)) (fun _ _ _ h => h) (Or.inl ⟨by rfl, ?_⟩) ?_ ?_
                rotate_left
                ·intro w'
                 go_simp
                 with_reducible rfl
                rotate_left
                ·simp only [Act.put, s1, s2, s3, i64_w, i32_w]
                 rfl
                refine pure_ (i := 44) (N := some 163) (v := ?_) (a' := ?_) m45_ rfl rfl (any_of HT_.out (by kernel_rfl)) (fun _ _ _ h => h) (Or.inl ⟨by rfl, ?_⟩) ?_ ?_
                rotate_left
                ·intro w'
                 go_simp
                 with_reducible rfl
                rotate_left
                ·simp only [Act.put, s1, s2, s3, i64_w, i32_w]
                 rfl
                refine pure_ (i := 45) (N := some 164) (v := ?_) (a' := ?_) m46_ rfl rfl (any_of HT_.out (by kernel_rfl)) (fun _ _ _ h => h) (Or.inl ⟨by rfl, ?_⟩) ?_ ?_
                rotate_left
                ·intro w'
                 go_simp
                 with_reducible rfl
                rotate_left
                ·simp only [Act.put, s1, s2, s3, i64_w, i32_w]
                 rfl
                refine pure_ (i := 46) (N := some 165) (v := ?_) (a' := ?_) m47_ rfl rfl (any_of HT_.out (by kernel_rfl)) (fun _ _ _ h => h) (Or.inl ⟨by rfl, ?_⟩) ?_ ?_
                rotate_left
                ·intro w'
                 go_simp
                 with_reducible rfl
                rotate_left
                ·simp only [Act.put, s1, s2, s3, i64_w, i32_w]
                 rfl
                refine pure_ (i := 48) (N := some 167) (v := ?_) (a' := ?_) m48_ rfl rfl (any_of HT_.out (by kernel_rfl)) (fun _ _ _ h => h) (Or.inl ⟨by rfl, ?_⟩) ?_ ?_
                rotate_left
                ·intro w'
                 go_simp
                 with_reducible rfl
                rotate_left
                ·simp only [Act.put, s1, s2, s3, i64_w, i32_w]
                 rfl
                refine one_ (i := 47) (N := some 166) m49_ rfl rfl (one_of HT_.out (by kernel_rfl)) (by decide) (fun K hK => ?_)
                refine goes_ Try.func40 (by kernel_rfl) rfl #[.slice Ao18 t308.length co18] (by rfl) rfl rfl zb' ?_
                with_reducible refine (impl_AreBins.calls k _ _ t308 t355 _ ?side1 ?side2 A69.out).mono ?_
                (case side1 => exact zp1')
                (case side2 => exact zn4')
                rintro e w107 ⟨rfl, hb⟩
                refine ⟨_, rfl, ?_⟩
                have n0_ := am (Kd.R_below zz' hb); have n1_ := am (Kd.R_below za1' hb); have n2_ := am (Kd.V_below zo1' hb); have n3_ := am (Kd.R_below zh1' hb); have n4_ := am (Kd.V_below zt1' hb); have n5_ := am (Kd.R_below zc2' hb); have n6_ := am (Kd.R_below zd2' hb); have n7_ := am (blk_below (g := gb315) (o := o2') zt' hb); have n8_ := am (blk_below (g := gb348) (o := o3') zf1' hb); have n9_ := am (below_step zn' hb); clear HO310; clear HO318; clear HO323; clear HO328; clear HO332; clear HO340; clear HO347; clear BK315; clear BK348; clear HB; have HO310 := n0_; have HO318 := n1_; have HO323 := n2_; have HO328 := n3_; have HO332 := n4_; have HO340 := n5_; have HO347 := n6_; have BK315 := n7_; have BK348 := n8_; have HB := n9_; clear n0_ n1_ n2_ n3_ n4_ n5_ n6_ n7_ n8_ n9_; (try clear hb); (try clear hb2); (try clear hk); (try clear hi)
                refine hK.out _ _ ⟨(blk_cell BK315.out 0).trans rfl, (blk_cell BK315.out 1).trans rfl, (blk_cell BK315.out 2).trans rfl, (blk_cell BK315.out 3).trans rfl⟩ (fun hHeld => ?_)
                clear hK K
                refine norm_ (a' := ?_) ?_ ?_
                rotate_left
                ·show Act.put _ (some 166) _ = _
                 simp only [Act.put, s1, s2, s3, i64_w, i32_w]
                 rfl
                refine one_ (i := 49) (N := some 168) m50_ rfl rfl (one_of HT_.out (by kernel_rfl)) (by decide) (fun K hK => ?_)
                refine goes_ Try.func46 (by kernel_rfl) rfl #[.slice Ao18 t308.length co18] (by rfl) rfl rfl zb' ?_
                with_reducible refine (spec_AreBins.calls k _ _ t308 t356 _ ?side1 ?side2 A70.out).mono ?_
                (case side1 => exact zp1')
                (case side2 => exact zn4')
                rintro e w108 ⟨rfl, hb⟩
                refine ⟨_, rfl, ?_⟩
                have n0_ := am (Kd.R_below zz' hb); have n1_ := am (Kd.R_below za1' hb); have n2_ := am (Kd.V_below zo1' hb); have n3_ := am (Kd.R_below zh1' hb); have n4_ := am (Kd.V_below zt1' hb); have n5_ := am (Kd.R_below zc2' hb); have n6_ := am (Kd.R_below zd2' hb); have n7_ := am (blk_below (g := gb315) (o := o2') zt' hb); have n8_ := am (blk_below (g := gb348) (o := o3') zf1' hb); have n9_ := am (below_step zn' hb); clear HO310; clear HO318; clear HO323; clear HO328; clear HO332; clear HO340; clear HO347; clear BK315; clear BK348; clear HB; have HO310 := n0_; have HO318 := n1_; have HO323 := n2_; have HO328 := n3_; have HO332 := n4_; have HO340 := n5_; have HO347 := n6_; have BK315 := n7_; have BK348 := n8_; have HB := n9_; clear n0_ n1_ n2_ n3_ n4_ n5_ n6_ n7_ n8_ n9_; (try clear hb); (try clear hb2); (try clear hk); (try clear hi)
                refine hK.out _ _ ⟨(blk_cell BK315.out 0).trans rfl, (blk_cell BK315.out 1).trans rfl, (blk_cell BK315.out 2).trans rfl, (blk_cell BK315.out 3).trans rfl⟩ (fun hHeld => ?_)
                clear hK K
                refine norm_ (a' := ?_) ?_ ?_
                rotate_left
                ·show Act.put _ (some 168) _ = _
                 simp only [Act.put, s1, s2, s3, i64_w, i32_w]
                 rfl
                refine pure_ (i := 50) (N := some 169) (v := ?_) (a' := ?_) m51_ rfl rfl (any_of HT_.out (by kernel_rfl)) (fun _ _ _ h => h) (Or.inl ⟨by rfl, ?_⟩) ?_ ?_
                rotate_left
                ·intro w'
                 go_simp
                 with_reducible rfl
                rotate_left
                ·simp only [Act.put, s1, s2, s3, i64_w, i32_w]
                 rfl
                refine pure_ (i := 51) (N := some 170) (v := ?_) (a' := ?_) m52_ rfl rfl (any_of HT_.out (by kernel_rfl)) (fun _ _ _ h => h) (Or.inl ⟨by rfl, ?_⟩) ?_ ?_
                rotate_left
                ·intro w'
                 go_simp
                 with_reducible rfl
                rotate_left
                ·simp only [Act.put, s1, s2, s3, i64_w, i32_w]
                 rfl
                refine pure_ (i := 52) (N := some 171) (v := ?_) (a' := ?_) m53_ rfl rfl (any_of HT_.out (by kernel_rfl)) (fun _ _ _ h => h) (Or.inl ⟨by rfl, ?_⟩) ?_ ?_
                rotate_left
                ·intro w'
                 go_simp
                 with_reducible rfl
                rotate_left
                ·simp only [Act.put, s1, s2, s3, i64_w, i32_w]
                 rfl
                refine take_ (i := 53) (N := some 172) (v := ?_) (a' := ?_) m54_ rfl rfl (take_ofW HT_.out HW_.out (by kernel_rfl)) (fun _ _ _ h => h) (Or.inl ⟨by rfl, ?_⟩) hHeld ?_ ?_
                rotate_left
                ·rintro w' ⟨s0, s1, s2, s3⟩
                 go_simp
                 with_reducible rfl
                rotate_left
                ·simp only [Act.put, s1, s2, s3, i64_w, i32_w]
                 rfl
                refine take_ (i := 55) (N := some 174) (v := ?_) (a' := ?_) m55_ rfl rfl (take_ofW HT_.out HW_.out (by kernel_rfl)) (fun _ _ _ h => h) (Or.inl ⟨by rfl, ?_⟩) hHeld ?_ ?_
                rotate_left
                ·rintro w' ⟨s0, s1, s2, s3⟩
                 go_simp
                 with_reducible rfl
                rotate_left
                ·simp only [Act.put, s1, s2, s3, i64_w, i32_w]
                 rfl
                refine one_ (i := 54) (N := some 173) m56_ rfl rfl (one_of HT_.out (by kernel_rfl)) (by decide) (fun K hK => ?_)
                refine goes_ Try.func47 (by kernel_rfl) rfl #[.agg #[.int .i64 t311, .int .i64 t312, .int .i64 t313, .int .i64 t314]] (by rfl) rfl rfl zb' ?_
                with_reducible refine (impl_IsWanted.calls t311 t312 t313 t314 t357 _ A79.out).mono ?_
                rintro e w109 ⟨rfl, hb⟩
                refine ⟨_, rfl, ?_⟩
                have n0_ := am (Kd.R_below zz' hb); have n1_ := am (Kd.R_below za1' hb); have n2_ := am (Kd.V_below zo1' hb); have n3_ := am (Kd.R_below zh1' hb); have n4_ := am (Kd.V_below zt1' hb); have n5_ := am (Kd.R_below zc2' hb); have n6_ := am (Kd.R_below zd2' hb); have n7_ := am (blk_below (g := gb315) (o := o2') zt' hb); have n8_ := am (blk_below (g := gb348) (o := o3') zf1' hb); have n9_ := am (below_step zn' hb); clear HO310; clear HO318; clear HO323; clear HO328; clear HO332; clear HO340; clear HO347; clear BK315; clear BK348; clear HB; have HO310 := n0_; have HO318 := n1_; have HO323 := n2_; have HO328 := n3_; have HO332 := n4_; have HO340 := n5_; have HO347 := n6_; have BK315 := n7_; have BK348 := n8_; have HB := n9_; clear n0_ n1_ n2_ n3_ n4_ n5_ n6_ n7_ n8_ n9_; (try clear hb); (try clear hb2); (try clear hk); (try clear hi)
                refine hK.out _ _ ⟨(blk_cell BK315.out 0).trans rfl, (blk_cell BK315.out 1).trans rfl, (blk_cell BK315.out 2).trans rfl, (blk_cell BK315.out 3).trans rfl⟩ (fun hHeld => ?_)
                clear hK K
                refine norm_ (a' := ?_) ?_ ?_
                rotate_left
                ·show Act.put _ (some 173) _ = _
                 simp only [Act.put, s1, s2, s3, i64_w, i32_w]
                 rfl
                refine one_ (i := 56) (N := some 175) m57_ rfl rfl (one_of HT_.out (by kernel_rfl)) (by decide) (fun K hK => ?_)
                refine goes_ Try.func48 (by kernel_rfl) rfl #[.agg #[.int .i64 t311, .int .i64 t312, .int .i64 t313, .int .i64 t314]] (by rfl) rfl rfl zb' ?_
                with_reducible refine (spec_IsWanted.calls t311 t312 t313 t314 t358 _ A80.out).mono ?_
                rintro e w110 ⟨rfl, hb⟩
                refine ⟨_, rfl, ?_⟩
                have n0_ := am (Kd.R_below zz' hb); have n1_ := am (Kd.R_below za1' hb); have n2_ := am (Kd.V_below zo1' hb); have n3_ := am (Kd.R_below zh1' hb); have n4_ := am (Kd.V_below zt1' hb); have n5_ := am (Kd.R_below zc2' hb); have n6_ := am (Kd.R_below zd2' hb); have n7_ := am (blk_below (g := gb315) (o := o2') zt' hb); have n8_ := am (blk_below (g := gb348) (o := o3') zf1' hb); have n9_ := am (below_step zn' hb); clear HO310; clear HO318; clear HO323; clear HO328; clear HO332; clear HO340; clear HO347; clear BK315; clear BK348; clear HB; have HO310 := n0_; have HO318 := n1_; have HO323 := n2_; have HO328 := n3_; have HO332 := n4_; have HO340 := n5_; have HO347 := n6_; have BK315 := n7_; have BK348 := n8_; have HB := n9_; clear n0_ n1_ n2_ n3_ n4_ n5_ n6_ n7_ n8_ n9_; (try clear hb); (try clear hb2); (try clear hk); (try clear hi)
                refine hK.out _ _ ⟨(blk_cell BK315.out 0).trans rfl, (blk_cell BK315.out 1).trans rfl, (blk_cell BK315.out 2).trans rfl, (blk_cell BK315.out 3).trans rfl⟩ (fun hHeld => ?_)
                clear hK K
                refine norm_ (a' := ?_) ?_ ?_
                rotate_left
                ·show Act.put _ (some 175) _ = _
                 simp only [Act.put, s1, s2, s3, i64_w, i32_w]
                 rfl
                refine pure_ (i := 57) (N := some 176) (v := ?_) (a' := ?_) m58_ rfl rfl (any_of HT_.out (by kernel_rfl)) (fun _ _ _ h => h) (Or.inl ⟨by rfl, ?_⟩) ?_ ?_
                rotate_left
                ·intro w'
                 go_simp
                 with_reducible rfl
                rotate_left
                ·simp only [Act.put, s1, s2, s3, i64_w, i32_w]
                 rfl
                refine pure_ (i := 58) (N := some 177) (v := ?_) (a' := ?_) m59_ rfl rfl (any_of HT_.out (by kernel_rfl)) (fun _ _ _ h => h) (Or.inl ⟨by rfl, ?_⟩) ?_ ?_
                rotate_left
                ·intro w'
                 go_simp
                 with_reducible rfl
                rotate_left
                ·simp only [Act.put, s1, s2, s3, i64_w, i32_w]
                 rfl
                refine pure_ (i := 59) (N := some 178) (v := ?_) (a' := ?_) m60_ rfl rfl (any_of HT_.out (by kernel_rfl)) (fun _ _ _ h => h) (Or.inl ⟨by rfl, ?_⟩) ?_ ?_
                rotate_left
                ·intro w'
                 go_simp
                 with_reducible rfl
                rotate_left
                ·simp only [Act.put, s1, s2, s3, i64_w, i32_w]
                 rfl
                refine pure_ (i := 60) (N := some 179) (v := ?_) (a' := ?_) m61_ rfl rfl (any_of HT_.out (by kernel_rfl)) (fun _ _ _ h => h) (Or.inl ⟨by rfl, ?_⟩) ?_ ?_
                rotate_left
                ·intro w'
                 go_simp
                 with_reducible rfl
                rotate_left
                ·simp only [Act.put, s1, s2, s3, i64_w, i32_w]
                 rfl
                refine pure_ (i := 61) (N := some 180) (v := ?_) (a' := ?_) m62_ rfl rfl (any_of HT_.out (by kernel_rfl)) (fun _ _ _ h => h) (Or.inl ⟨by rfl, ?_⟩) ?_ ?_
                rotate_left
                ·intro w'
                 go_simp
                 with_reducible rfl
                rotate_left
                ·simp only [Act.put, s1, s2, s3, i64_w, i32_w]
                 rfl
                refine pure_ (i := 62) (N := some 181) (v := ?_) (a' := ?_) m63_ rfl rfl (any_of HT_.out (by kernel_rfl)) (fun _ _ _ h => h) (Or.inl ⟨by rfl, ?_⟩) ?_ ?_
                rotate_left
                ·intro w'
                 go_simp
                 with_reducible rfl
                rotate_left
                ·simp only [Act.put, s1, s2, s3, i64_w, i32_w]
                 rfl
                refine pure_ (i := 63) (N := some 182) (v := ?_) (a' := ?_) m64_ rfl rfl (any_of HT_.out (by kernel_rfl)) (fun _ _ _ h => h) (Or.inl ⟨by rfl, ?_⟩) ?_ ?_
                rotate_left
                ·intro w'
                 go_simp
                 with_reducible rfl
                rotate_left
                ·simp only [Act.put, s1, s2, s3, i64_w, i32_w]
                 rfl
                refine pure_ (i := 64) (N := some 183) (v := ?_) (a' := ?_) m65_ rfl rfl (any_of HT_.out (by kernel_rfl)) (fun _ _ _ h => h) (Or.inl ⟨by rfl, ?_⟩) ?_ ?_
                rotate_left
                ·intro w'
                 go_simp
                 with_reducible rfl
                rotate_left
                ·simp only [Act.put, s1, s2, s3, i64_w, i32_w]
                 rfl
                refine pure_ (i := 65) (N := some 184) (v := ?_) (a' := ?_) m66_ rfl rfl (any_of HT_.out (by kernel_rfl)) (fun _ _ _ h => h) (Or.inl ⟨by rfl, ?_⟩) ?_ ?_
                rotate_left
                ·intro w'
                 go_simp
                 with_reducible rfl
                rotate_left
                ·simp only [Act.put, s1, s2, s3, i64_w, i32_w]
                 rfl
                refine pure_ (i := 66) (N := some 185) (v := ?_) (a' := ?_) m67_ rfl rfl (any_of HT_.out (by kernel_rfl)) (fun _ _ _ h => h) (Or.inl ⟨by rfl, ?_⟩) ?_ ?_
                rotate_left
                ·intro w'
                 go_simp
                 with_reducible rfl
                rotate_left
                ·simp only [Act.put, s1, s2, s3, i64_w, i32_w]
                 rfl
                refine pure_ (i := 67) (N := some 186) (v := ?_) (a' := ?_) m68_ rfl rfl (any_of HT_.out (by kernel_rfl)) (fun _ _ _ h => h) (Or.inl ⟨by rfl, ?_⟩) ?_ ?_
                rotate_left
                ·intro w'
                 go_simp
                 with_reducible rfl
                rotate_left
                ·simp only [Act.put, s1, s2, s3, i64_w, i32_w]
                 rfl
                refine pure_ (i := 68) (N := some 187) (v := ?_) (a' := ?_) m69_ rfl rfl (any_of HT_.out (by kernel_rfl)) (fun _ _ _ h => h) (Or.inl ⟨by rfl, ?_⟩) ?_ ?_
                rotate_left
                ·intro w'
                 go_simp
                 with_reducible rfl
                rotate_left
                ·simp only [Act.put, s1, s2, s3, i64_w, i32_w]
                 rfl
                refine pure_ (i := 69) (N := some 188) (v := ?_) (a' := ?_) m70_ rfl rfl (any_of HT_.out (by kernel_rfl)) (fun _ _ _ h => h) (Or.inl ⟨by rfl, ?_⟩) ?_ ?_
                rotate_left
                ·intro w'
                 go_simp
                 with_reducible rfl
                rotate_left
                ·simp only [Act.put, s1, s2, s3, i64_w, i32_w]
                 rfl
                refine pure_ (i := 70) (N := some 189) (v := ?_) (a' := ?_) m71_ rfl rfl (any_of HT_.out (by kernel_rfl)) (fun _ _ _ h => h) (Or.inl ⟨by rfl, ?_⟩) ?_ ?_
                rotate_left
                ·intro w'
                 go_simp
                 with_reducible rfl
                rotate_left
                ·simp only [Act.put, s1, s2, s3, i64_w, i32_w]
                 rfl
                refine pure_ (i := 71) (N := some 190) (v := ?_) (a' := ?_) m72_ rfl rfl (any_of HT_.out (by kernel_rfl)) (fun _ _ _ h => h) (Or.inl ⟨by rfl, ?_⟩) ?_ ?_
                rotate_left
                ·intro w'
                 go_simp
                 with_reducible rfl
                rotate_left
                ·simp only [Act.put, s1, s2, s3, i64_w, i32_w]
                 rfl
                refine pure_ (i := 72) (N := some 191) (v := ?_) (a' := ?_) m73_ rfl rfl (any_of HT_.out (by kernel_rfl)) (fun _ _ _ h => h) (Or.inl ⟨by rfl, ?_⟩) ?_ ?_
                rotate_left
                ·intro w'
                 go_simp
                 with_reducible rfl
                rotate_left
                ·simp only [Act.put, s1, s2, s3, i64_w, i32_w]
                 rfl
                refine done_ (done_of HT_.out (by kernel_rfl)) ?_
                try go_wp2
                go_meet
                case rel => exact ⟨_, ((t329 != t320)), zx', H', ⟨ze4'⟩, ⟨zt5'⟩, ⟨zp5'⟩, ⟨zq5'⟩, ⟨zu5'⟩, ⟨zr5'⟩, ⟨zt'⟩, ⟨zf1'⟩, ⟨zn'⟩⟩
              ·replace c91 := Bool.eq_false_iff.mpr c91
               subst c91
               have H1 : (if (t320 != false) = true then (none) else (laws_FnBlends.j0 k t308 t316 t320 t324 t326 t338 t345 t350 t351 (t329 != t320) t311 t312 t313 t314 t341 t342 t343 t344)) = some r := by rw [if_neg (show ¬ (false = true) by decide)] at H; exact H
               clear H; have H := H1; clear H1
               by_cases c111 : (t320 != false) = true
               ·rw [if_pos c111] at H
                exact absurd H (by simp)
               ·rw [if_neg c111] at H
                have c111b0 : (t320 != false) = false := by simpa using c111
                (try (have c111b1 : decide (t320 = false) = true := by simpa using c111)); (try (have c111b2 : (t320 == false) = true := by simpa using c111)); clear c111; have H' := Aside0.mk H; clear H
                try go_wp2
                have n0_ := am (Kd.R_drew HO310.out); have n1_ := am (Kd.R_drew HO318.out); have n2_ := am (Kd.V_drew HO323.out); have n3_ := am (Kd.R_drew HO328.out); have n4_ := am (Kd.V_drew HO332.out); have n5_ := am (Kd.R_drew HO340.out); have n6_ := am (Kd.R_drew HO347.out); have n7_ := am (blk_drew BK315.out); have n8_ := am (blk_drew BK348.out); have n9_ := am (below_drew1 HB.out); clear HO310; clear HO318; clear HO323; clear HO328; clear HO332; clear HO340; clear HO347; clear BK315; clear BK348; clear HB; have HO310 := n0_; have HO318 := n1_; have HO323 := n2_; have HO328 := n3_; have HO332 := n4_; have HO340 := n5_; have HO347 := n6_; have BK315 := n7_; have BK348 := n8_; have HB := n9_; clear n0_ n1_ n2_ n3_ n4_ n5_ n6_ n7_ n8_ n9_; obtain ⟨Ao122, co122, eo122⟩ := Kd.R_slice HO318.out
                (first | subst eo122 | (injection eo122 with f1_ f2_ f3_; have f4_ := f1_.symm; have f5_ := f3_.symm; clear f1_ f2_ f3_; subst f4_; subst f5_))
                obtain ⟨Ao123, co123, eo123⟩ := Kd.V_slice HO323.out
                (first | subst eo123 | (injection eo123 with f1_ f2_ f3_; have f4_ := f1_.symm; have f5_ := f3_.symm; clear f1_ f2_ f3_; subst f4_; subst f5_))
                refine start_ (n := 73) (S := fun w' => w'.cell? ⟨gb315, 0, none⟩ = some (.int .i64 t311) ∧ w'.cell? ⟨gb315, 1, none⟩ = some (.int .i64 t312) ∧ w'.cell? ⟨gb315, 2, none⟩ = some (.int .i64 t313) ∧ w'.cell? ⟨gb315, 3, none⟩ = some (.int .i64 t314)) (ds := []) m0_ (by kernel_rfl) rfl rfl ⟨(blk_cell BK315.out 0).trans rfl, (blk_cell BK315.out 1).trans rfl, (blk_cell BK315.out 2).trans rfl, (blk_cell BK315.out 3).trans rfl⟩ (fun hHeld => ?_); refine with_tabW laws_FnBlends.tab13 laws_FnBlends.bits13 (fun HT_ HW_ => ?_)
                generalize w38.drew = w121 at HO310 HO318 HO323 HO328 HO332 HO340 HO347 BK315 BK348 HB hHeld ⊢
                refine pure_ (i := 0) (N := some 119) (v := ?_) (a' := ?_) m1_ rfl rfl (any_of HT_.out (by kernel_rfl)) (fun _ _ _ h => h) (Or.inl ⟨by rfl, ?_⟩) ?_ ?_
                rotate_left
                ·intro w'
                 go_simp
                 with_reducible rfl
                rotate_left
                ·simp only [Act.put, s1, s2, s3, i64_w, i32_w]
                 rfl
                refine pure_ (i := 1) (N := some 120) (v := ?_) (a' := ?_) m2_ rfl rfl (any_of HT_.out (by kernel_rfl)) (fun _ _ _ h => h) (Or.inl ⟨by rfl, ?_⟩) ?_ ?_
                rotate_left
                ·intro w'
                 go_simp
                 with_reducible rfl
                rotate_left
                ·simp only [Act.put, s1, s2, s3, i64_w, i32_w]
                 rfl
                refine pure_ (i := 2) (N := some 121) (v := ?_) (a' := ?_) m3_ rfl rfl (any_of HT_.out (by kernel_rfl)) (fun _ _ _ h => h) (Or.inl ⟨by rfl, ?_⟩) ?_ ?_
                rotate_left
                ·intro w'
                 go_simp
                 with_reducible rfl
                rotate_left
                ·simp only [Act.put, s1, s2, s3, i64_w, i32_w]
                 rfl
                refine pure_ (i := 3) (N := some 122) (v := ?_) (a' := ?_) m4_ rfl rfl (any_of HT_.out (by kernel_rfl)) (fun _ _ _ h => h) (Or.inl ⟨by rfl, ?_⟩) ?_ ?_
                rotate_left
                ·intro w'
                 go_simp
                 with_reducible rfl
                rotate_left
                ·simp only [Act.put, s1, s2, s3, i64_w, i32_w]
                 rfl
                refine pure_ (i := 4) (N := some 123) (v := ?_) (a' := ?_) m5_ rfl rfl (any_of HT_.out (by kernel_rfl)) (fun _ _ _ h => h) (Or.inl ⟨by rfl, ?_⟩) ?_ ?_
                rotate_left
                ·intro w'
                 go_simp
                 with_reducible rfl
                rotate_left
                ·simp only [Act.put, s1, s2, s3, i64_w, i32_w]
                 rfl
                refine pure_ (i := 5) (N := some 124) (v := ?_) (a' := ?_) m6_ rfl rfl (any_of HT_.out (by kernel_rfl)) (fun _ _ _ h => h) (Or.inl ⟨by rfl, ?_⟩) ?_ ?_
                rotate_left
                ·intro w'
                 go_simp
                 with_reducible rfl
                rotate_left
                ·simp only [Act.put, s1, s2, s3, i64_w, i32_w]
                 rfl
                refine one_ (i := 6) (N := some 125) m7_ rfl rfl (one_of HT_.out (by kernel_rfl)) (by decide) (fun K hK => ?_)
                refine goes_ Try.func45 (by kernel_rfl) rfl #[.slice Ao122 t316.length co122, .slice Ao123 t321.length co123] (by rfl) rfl rfl zb' ?_
                with_reducible refine (laws_qInts.calls k _ _ t316 _ _ t321 true _ ?side1 ?side2 ?side3 ?side4 A41.out).mono ?_
                (case side1 => exact zz4')
                (case side2 => exact (Kd.R_reads' HO318.out).2.1)
                (case side3 => exact za5')
                (case side4 => exact (Kd.V_reads' HO323.out).2.1)
                rintro e w' ⟨rfl, ⟨nd, rfl⟩⟩
                refine ⟨_, rfl, ?_⟩
                obtain ⟨Ao124, co124, eo124⟩ := Kd.R_slice HO328.out
                (first | subst eo124 | (injection eo124 with f1_ f2_ f3_; have f4_ := f1_.symm; have f5_ := f3_.symm; clear f1_ f2_ f3_; subst f4_; subst f5_))
                obtain ⟨Ao125, co125, eo125⟩ := Kd.V_slice HO332.out
                (first | subst eo125 | (injection eo125 with f1_ f2_ f3_; have f4_ := f1_.symm; have f5_ := f3_.symm; clear f1_ f2_ f3_; subst f4_; subst f5_))
                refine hK.out _ _ ⟨(blk_cell BK315.out 0).trans rfl, (blk_cell BK315.out 1).trans rfl, (blk_cell BK315.out 2).trans rfl, (blk_cell BK315.out 3).trans rfl⟩ (fun hHeld => ?_)
                clear hK K
                refine norm_ (a' := ?_) ?_ ?_
                rotate_left
                ·show Act.put _ (some 125) _ = _
                 simp only [Act.put, s1, s2, s3, i64_w, i32_w]
                 rfl
                refine pure_ (i := 7) (N := some 126) (v := ?_) (a' := ?_) m8_ rfl rfl (any_of HT_.out (by kernel_rfl)) (fun _ _ _ h => h) (Or.inl ⟨by rfl, ?_⟩) ?_ ?_
                rotate_left
                ·intro w'
                 go_simp
                 with_reducible rfl
                rotate_left
                ·simp only [Act.put, s1, s2, s3, i64_w, i32_w]
                 rfl
                refine pure_ (i := 8) (N := some 127) (v := ?_) (a' := ?_) m9_ rfl rfl (any_of HT_.out (by kernel_rfl)) (fun _ _ _ h => h) (Or.inl ⟨by rfl, ?_⟩) ?_ ?_
                rotate_left
                ·intro w'
                 go_simp
                 with_reducible rfl
                rotate_left
                ·simp only [Act.put, s1, s2, s3, i64_w, i32_w]
                 rfl
                refine pure_ (i := 9) (N := some 128) (v := ?_) (a' := ?_) m10_ rfl rfl (any_of HT_.out (by kernel_rfl)) (fun _ _ _ h => h) (Or.inl ⟨by rfl, ?_⟩) ?_ ?_
                rotate_left
                ·intro w'
                 go_simp
                 with_reducible rfl
                rotate_left
                ·simp only [Act.put, s1, s2, s3, i64_w, i32_w]
                 rfl
                refine pure_ (i := 10) (N := some 129) (v := ?_) (a' := ?_) m11_ rfl rfl (any_of HT_.out (by kernel_rfl)) (fun _ _ _ h => h) (Or.inl ⟨by rfl, ?_⟩) ?_ ?_
                rotate_left
                ·intro w'
                 go_simp
                 with_reducible rfl
                rotate_left
                ·simp only [Act.put, s1, s2, s3, i64_w, i32_w]
                 rfl
                refine pure_ (i := 11) (N := some 130) (v := ?_) (a' := ?_) m12_ rfl rfl (any_of HT_.out (by kernel_rfl)) (fun _ _ _ h => h) (Or.inl ⟨by rfl, ?_⟩) ?_ ?_
                rotate_left
                ·intro w'
                 go_simp
                 with_reducible rfl
                rotate_left
                ·simp only [Act.put, s1, s2, s3, i64_w, i32_w]
                 rfl
                refine pure_ (i := 12) (N := some 131) (v := ?_) (a' := ?_) m13_ rfl rfl (any_of HT_.out (by kernel_rfl)) (fun _ _ _ h => h) (Or.inl ⟨by rfl, ?_⟩) ?_ ?_
                rotate_left
                ·intro w'
                 go_simp
                 with_reducible rfl
                rotate_left
                ·simp only [Act.put, s1, s2, s3, i64_w, i32_w]
                 rfl
                refine pure_ (i := 13) (N := some 132) (v := ?_) (a' := ?_) m14_ rfl rfl (any_of HT_.out (by kernel_rfl)) (fun _ _ _ h => h) (Or.inl ⟨by rfl, ?_⟩) ?_ ?_
                rotate_left
                ·intro w'
                 go_simp
                 with_reducible rfl
                rotate_left
                ·simp only [Act.put, s1, s2, s3, i64_w, i32_w]
                 rfl
                refine pure_ (i := 14) (N := some 133) (v := ?_) (a' := ?_) m15_ rfl rfl (any_of HT_.out (by kernel_rfl)) (fun _ _ _ h => h) (Or.inl ⟨by rfl, ?_⟩) ?_ ?_
                rotate_left
                ·intro w'
                 go_simp
                 with_reducible rfl
                rotate_left
                ·simp only [Act.put, s1, s2, s3, i64_w, i32_w]
                 rfl
                refine pure_ (i := 15) (N := some 134) (v := ?_) (a' := ?_) m16_ rfl rfl (any_of HT_.out (by kernel_rfl)) (fun _ _ _ h => h) (Or.inl ⟨by rfl, ?_⟩) ?_ ?_
                rotate_left
                ·intro w'
                 go_simp
                 with_reducible rfl
                rotate_left
                ·simp only [Act.put, s1, s2, s3, i64_w, i32_w]
                 rfl
                refine pure_ (i := 16) (N := some 135) (v := ?_) (a' := ?_) m17_ rfl rfl (any_of HT_.out (by kernel_rfl)) (fun _ _ _ h => h) (Or.inl ⟨by rfl, ?_⟩) ?_ ?_
                rotate_left
                ·intro w'
                 go_simp
                 with_reducible rfl
                rotate_left
                ·simp only [Act.put, s1, s2, s3, i64_w, i32_w]
                 rfl
                refine pure_ (i := 17) (N := some 136) (v := ?_) (a' := ?_) m18_ rfl rfl (any_of HT_.out (by kernel_rfl)) (fun _ _ _ h => h) (Or.inl ⟨by rfl, ?_⟩) ?_ ?_
                rotate_left
                ·intro w'
                 go_simp
                 with_reducible rfl
                rotate_left
                ·simp only [Act.put, s1, s2, s3, i64_w, i32_w]
                 rfl
                refine pure_ (i := 18) (N := some 137) (v := ?_) (a' := ?_) m19_ rfl rfl (any_of HT_.out (by kernel_rfl)) (fun _ _ _ h => h) (Or.inl ⟨by rfl, ?_⟩) ?_ ?_
                rotate_left
                ·intro w'
                 go_simp
                 with_reducible rfl
                rotate_left
                ·simp only [Act.put, s1, s2, s3, i64_w, i32_w]
                 rfl
                refine pure_ (i := 19) (N := some 138) (v := ?_) (a' := ?_) m20_ rfl rfl (any_of HT_.out (by kernel_rfl)) (fun _ _ _ h => h) (Or.inl ⟨by rfl, ?_⟩) ?_ ?_
                rotate_left
                ·intro w'
                 go_simp
                 with_reducible rfl
                rotate_left
                ·simp only [Act.put, s1, s2, s3, i64_w, i32_w]
                 rfl
                refine pure_ (i := 20) (N := some 139) (v := ?_) (a' := ?_) m21_ rfl rfl (any_of HT_.out (by kernel_rfl)) (fun _ _ _ h => h) (Or.inl ⟨by rfl, ?_⟩) ?_ ?_
                rotate_left
                ·intro w'
                 go_simp
                 with_reducible rfl
                rotate_left
                ·simp only [Act.put, s1, s2, s3, i64_w, i32_w]
                 rfl
                refine pure_ (i := 21) (N := some 140) (v := ?_) (a' := ?_) m22_ rfl rfl (any_of HT_.out (by kernel_rfl)) (fun _ _ _ h => h) (Or.inl ⟨by rfl, ?_⟩) ?_ ?_
                rotate_left
                ·intro w'
                 go_simp
                 with_reducible rfl
                rotate_left
                ·simp only [Act.put, s1, s2, s3, i64_w, i32_w]
                 rfl
                refine one_ (i := 22) (N := some 141) m23_ rfl rfl (one_of HT_.out (by kernel_rfl)) (by decide) (fun K hK => ?_)
                refine goes_ Try.func45 (by kernel_rfl) rfl #[.slice Ao124 t326.length co124, .slice Ao125 t330.length co125] (by rfl) rfl rfl zb' ?_
                with_reducible refine (laws_qInts.calls k _ _ t326 _ _ t330 true _ ?side1 ?side2 ?side3 ?side4 A48.out).mono ?_
                (case side1 => exact zb5')
                (case side2 => exact (Kd.R_reads' HO328.out).2.1)
                (case side3 => exact zc5')
                (case side4 => exact (Kd.V_reads' HO332.out).2.1)
                rintro e w' ⟨rfl, ⟨nd, rfl⟩⟩
                refine ⟨_, rfl, ?_⟩
                refine hK.out _ _ ⟨(blk_cell BK315.out 0).trans rfl, (blk_cell BK315.out 1).trans rfl, (blk_cell BK315.out 2).trans rfl, (blk_cell BK315.out 3).trans rfl⟩ (fun hHeld => ?_)
                clear hK K
                refine norm_ (a' := ?_) ?_ ?_
                rotate_left
                ·show Act.put _ (some 141) _ = _
                 simp only [Act.put, s1, s2, s3, i64_w, i32_w]
                 rfl
                refine pure_ (i := 23) (N := some 142) (v := ?_) (a' := ?_) m24_ rfl rfl (any_of HT_.out (by kernel_rfl)) (fun _ _ _ h => h) (Or.inl ⟨by rfl, ?_⟩) ?_ ?_
                rotate_left
                ·intro w'
                 go_simp
                 with_reducible rfl
                rotate_left
                ·simp only [Act.put, s1, s2, s3, i64_w, i32_w]
                 rfl
                refine pure_ (i := 24) (N := some 143) (v := ?_) (a' := ?_) m25_ rfl rfl (any_of HT_.out (by kernel_rfl)) (fun _ _ _ h => h) (Or.inl ⟨by rfl, ?_⟩) ?_ ?_
                rotate_left
                ·intro w'
                 go_simp
                 with_reducible rfl
                rotate_left
                ·simp only [Act.put, s1, s2, s3, i64_w, i32_w]
                 rfl
                refine pure_ (i := 25) (N := some 144) (v := ?_) (a' := ?_) m26_ rfl rfl (any_of HT_.out (by kernel_rfl)) (fun _ _ _ h => h) (Or.inl ⟨by rfl, ?_⟩) ?_ ?_
                rotate_left
                ·intro w'
                 go_simp
                 with_reducible rfl
                rotate_left
                ·simp only [Act.put, s1, s2, s3, i64_w, i32_w]
                 rfl
                refine pure_ (i := 26) (N := some 145) (v := ?_) (a' := ?_) m27_ rfl rfl (any_of HT_.out (by kernel_rfl)) (fun _ _ _ h => h) (Or.inl ⟨by rfl, ?_⟩) ?_ ?_
                rotate_left
                ·intro w'
                 go_simp
                 with_reducible rfl
                rotate_left
                ·simp only [Act.put, s1, s2, s3, i64_w, i32_w]
                 rfl
                refine pure_ (i := 27) (N := some 146) (v := ?_) (a' := ?_) m28_ rfl rfl (any_of HT_.out (by kernel_rfl)) (fun _ _ _ h => h) (Or.inl ⟨by rfl, ?_⟩) ?_ ?_
                rotate_left
                ·intro w'
                 go_simp
                 with_reducible rfl
                rotate_left
                ·simp only [Act.put, s1, s2, s3, i64_w, i32_w]
                 rfl
                refine pure_ (i := 28) (N := some 147) (v := ?_) (a' := ?_) m29_ rfl rfl (any_of HT_.out (by kernel_rfl)) (fun _ _ _ h => h) (Or.inl ⟨by rfl, ?_⟩) ?_ ?_
                rotate_left
                ·intro w'
                 go_simp
                 with_reducible rfl
                rotate_left
                ·simp only [Act.put, s1, s2, s3, i64_w, i32_w]
                 rfl
                refine pure_ (i := 29) (N := some 148) (v := ?_) (a' := ?_) m30_ rfl rfl (any_of HT_.out (by kernel_rfl)) (fun _ _ _ h => h) (Or.inl ⟨by rfl, ?_⟩) ?_ ?_
                rotate_left
                ·intro w'
                 go_simp
                 with_reducible rfl
                rotate_left
                ·simp only [Act.put, s1, s2, s3, i64_w, i32_w]
                 rfl
                refine pure_ (i := 30) (N := some 149) (v := ?_) (a' := ?_) m31_ rfl rfl (any_of HT_.out (by kernel_rfl)) (fun _ _ _ h => h) (Or.inl ⟨by rfl, ?_⟩) ?_ ?_
                rotate_left
                ·intro w'
                 go_simp
                 with_reducible rfl
                rotate_left
                ·simp only [Act.put, s1, s2, s3, i64_w, i32_w]
                 rfl
                refine pure_ (i := 31) (N := some 150) (v := ?_) (a' := ?_) m32_ rfl rfl (any_of HT_.out (by kernel_rfl)) (fun _ _ _ h => h) (Or.inl ⟨by rfl, ?_⟩) ?_ ?_
                rotate_left
                ·intro w'
                 go_simp
                 with_reducible rfl
                rotate_left
                ·simp only [Act.put, s1, s2, s3, i64_w, i32_w]
                 rfl
                refine pure_ (i := 32) (N := some 151) (v := ?_) (a' := ?_) m33_ rfl rfl (any_of HT_.out (by kernel_rfl)) (fun _ _ _ h => h) (Or.inl ⟨by rfl, ?_⟩) ?_ ?_
                rotate_left
                ·intro w'
                 go_simp
                 with_reducible rfl
                rotate_left
                ·simp only [Act.put, s1, s2, s3, i64_w, i32_w]
                 rfl
                refine pure_ (i := 33) (N := some 152) (v := ?_) (a' := ?_) m34_ rfl rfl (any_of HT_.out (by kernel_rfl)) (fun _ _ _ h => h) (Or.inl ⟨by rfl, ?_⟩) ?_ ?_
                rotate_left
                ·intro w'
                 go_simp
                 with_reducible rfl
                rotate_left
                ·simp only [Act.put, s1, s2, s3, i64_w, i32_w]
                 rfl
                refine pure_ (i := 34) (N := some 153) (v := ?_) (a' := ?_) m35_ rfl rfl (any_of HT_.out (by kernel_rfl)) (fun _ _ _ h => h) (Or.inl ⟨by rfl, ?_⟩) ?_ ?_
                rotate_left
                ·intro w'
                 go_simp
                 with_reducible rfl
                rotate_left
                ·simp only [Act.put, s1, s2, s3, i64_w, i32_w]
                 rfl
                refine pure_ (i := 35) (N := some 154) (v := ?_) (a' := ?_) m36_ rfl rfl (any_of HT_.out (by kernel_rfl)) (fun _ _ _ h => h) (Or.inl ⟨by rfl, ?_⟩) ?_ ?_
                rotate_left
                ·intro w'
                 go_simp
                 with_reducible rfl
                rotate_left
                ·simp only [Act.put, s1, s2, s3, i64_w, i32_w]
                 rfl
                refine pure_ (i := 36) (N := some 155) (v := ?_) (a' := ?_) m37_ rfl rfl (any_of HT_.out (by kernel_rfl)) (fun _ _ _ h => h) (Or.inl ⟨by rfl, ?_⟩) ?_ ?_
                rotate_left
                ·intro w'
                 go_simp
                 with_reducible rfl
                rotate_left
                ·simp only [Act.put, s1, s2, s3, i64_w, i32_w]
                 rfl
                refine pure_ (i := 37) (N := some 156) (v := ?_) (a' := ?_) m38_ rfl rfl (any_of HT_.out (by kernel_rfl)) (fun _ _ _ h => h) (Or.inl ⟨by rfl, ?_⟩) ?_ ?_
                rotate_left
                ·intro w'
                 go_simp
                 with_reducible rfl
                rotate_left
                ·simp only [Act.put, s1, s2, s3, i64_w, i32_w]
                 rfl
                refine pure_ (i := 38) (N := some 157) (v := ?_) (a' := ?_) m39_ rfl rfl (any_of HT_.out (by kernel_rfl)) (fun _ _ _ h => h) (Or.inl ⟨by rfl, ?_⟩) ?_ ?_
                rotate_left
                ·intro w'
                 go_simp
                 with_reducible rfl
                rotate_left
                ·simp only [Act.put, s1, s2, s3, i64_w, i32_w]
                 rfl
                refine pure_ (i := 39) (N := some 158) (v := ?_) (a' := ?_) m40_ rfl rfl (any_of HT_.out (by kernel_rfl)) (fun _ _ _ h => h) (Or.inl ⟨by rfl, ?_⟩) ?_ ?_
                rotate_left
                ·intro w'
                 go_simp
                 with_reducible rfl
                rotate_left
                ·simp only [Act.put, s1, s2, s3, i64_w, i32_w]
                 rfl
                refine pure_ (i := 40) (N := some 159) (v := ?_) (a' := ?_) m41_ rfl rfl (any_of HT_.out (by kernel_rfl)) (fun _ _ _ h => h) (Or.inl ⟨by rfl, ?_⟩) ?_ ?_
                rotate_left
                ·intro w'
                 go_simp
                 with_reducible rfl
                rotate_left
                ·simp only [Act.put, s1, s2, s3, i64_w, i32_w]
                 rfl
                refine pure_ (i := 41) (N := some 160) (v := ?_) (a' := ?_) m42_ rfl rfl (any_of HT_.out (by kernel_rfl)) (fun _ _ _ h => h) (Or.inl ⟨by rfl, ?_⟩) ?_ ?_
                rotate_left
                ·intro w'
                 go_simp
                 with_reducible rfl
                rotate_left
                ·simp only [Act.put, s1, s2, s3, i64_w, i32_w]
                 rfl
                refine pure_ (i := 42) (N := some 161) (v := ?_) (a' := ?_) m43_ rfl rfl (any_of HT_.out (by kernel_rfl)) (fun _ _ _ h => h) (Or.inl ⟨by rfl, ?_⟩) ?_ ?_
                rotate_left
                ·intro w'
                 go_simp
                 with_reducible rfl
                rotate_left
                ·simp only [Act.put, s1, s2, s3, i64_w, i32_w]
                 rfl
                refine pure_ (i := 43) (N := some 162) (v := ?_) (a' := ?_) m44_ rfl rfl (any_of HT_.out (by kernel_rfl)) (fun _ _ _ h => h) (Or.inl ⟨by rfl, ?_⟩) ?_ ?_
                rotate_left
                ·intro w'
                 go_simp
                 with_reducible rfl
                rotate_left
                ·simp only [Act.put, s1, s2, s3, i64_w, i32_w]
                 rfl
                refine pure_ (i := 44) (N := some 163) (v := ?_) (a' := ?_) m45_ rfl rfl (any_of HT_.out (by kernel_rfl)) (fun _ _ _ h => h) (Or.inl ⟨by rfl, ?_⟩) ?_ ?_
                rotate_left
                ·intro w'
                 go_simp
                 with_reducible rfl
                rotate_left
                ·simp only [Act.put, s1, s2, s3, i64_w, i32_w]
                 rfl
                refine pure_ (i := 45) (N := some 164) (v := ?_) (a' := ?_) m46_ rfl rfl (any_of HT_.out (by kernel_rfl)) (fun _ _ _ h => h) (Or.inl ⟨by rfl, ?_⟩) ?_ ?_
                rotate_left
                ·intro w'
                 go_simp
                 with_reducible rfl
                rotate_left
                ·simp only [Act.put, s1, s2, s3, i64_w, i32_w]
                 rfl
                refine pure_ (i := 46) (N := some 165) (v := ?_) (a' := ?_) m47_ rfl rfl (any_of HT_.out (by kernel_rfl)) (fun _ _ _ h => h) (Or.inl ⟨by rfl, ?_⟩) ?_ ?_
                rotate_left
                ·intro w'
                 go_simp
                 with_reducible rfl
                rotate_left
                ·simp only [Act.put, s1, s2, s3, i64_w, i32_w]
                 rfl
                refine pure_ (i := 48) (N := some 167) (v := ?_) (a' := ?_) m48_ rfl rfl (any_of HT_.out (by kernel_rfl)) (fun _ _ _ h => h) (Or.inl ⟨by rfl, ?_⟩) ?_ ?_
                rotate_left
                ·intro w'
                 go_simp
                 with_reducible rfl
                rotate_left
                ·simp only [Act.put, s1, s2, s3, i64_w, i32_w]
                 rfl
                refine one_ (i := 47) (N := some 166) m49_ rfl rfl (one_of HT_.out (by kernel_rfl)) (by decide) (fun K hK => ?_)
                refine goes_ Try.func40 (by kernel_rfl) rfl #[.slice Ao18 t308.length co18] (by rfl) rfl rfl zb' ?_
                with_reducible refine (impl_AreBins.calls k _ _ t308 t355 _ ?side1 ?side2 A69.out).mono ?_
                (case side1 => exact zp1')
                (case side2 => exact zn4')
                rintro e w126 ⟨rfl, hb⟩
                refine ⟨_, rfl, ?_⟩
                have n0_ := am (Kd.R_below zz' hb); have n1_ := am (Kd.R_below za1' hb); have n2_ := am (Kd.V_below zo1' hb); have n3_ := am (Kd.R_below zh1' hb); have n4_ := am (Kd.V_below zt1' hb); have n5_ := am (Kd.R_below zc2' hb); have n6_ := am (Kd.R_below zd2' hb); have n7_ := am (blk_below (g := gb315) (o := o2') zt' hb); have n8_ := am (blk_below (g := gb348) (o := o3') zf1' hb); have n9_ := am (below_step zn' hb); clear HO310; clear HO318; clear HO323; clear HO328; clear HO332; clear HO340; clear HO347; clear BK315; clear BK348; clear HB; have HO310 := n0_; have HO318 := n1_; have HO323 := n2_; have HO328 := n3_; have HO332 := n4_; have HO340 := n5_; have HO347 := n6_; have BK315 := n7_; have BK348 := n8_; have HB := n9_; clear n0_ n1_ n2_ n3_ n4_ n5_ n6_ n7_ n8_ n9_; (try clear hb); (try clear hb2); (try clear hk); (try clear hi)
                refine hK.out _ _ ⟨(blk_cell BK315.out 0).trans rfl, (blk_cell BK315.out 1).trans rfl, (blk_cell BK315.out 2).trans rfl, (blk_cell BK315.out 3).trans rfl⟩ (fun hHeld => ?_)
                clear hK K
                refine norm_ (a' := ?_) ?_ ?_
                rotate_left
                ·show Act.put _ (some 166) _ = _
                 simp only [Act.put, s1, s2, s3, i64_w, i32_w]
                 rfl
                refine one_ (i := 49) (N := some 168) m50_ rfl rfl (one_of HT_.out (by kernel_rfl)) (by decide) (fun K hK => ?_)
                refine goes_ Try.func46 (by kernel_rfl) rfl #[.slice Ao18 t308.length co18] (by rfl) rfl rfl zb' ?_
                with_reducible refine (spec_AreBins.calls k _ _ t308 t356 _ ?side1 ?side2 A70.out).mono ?_
                (case side1 => exact zp1')
                (case side2 => exact zn4')
                rintro e w127 ⟨rfl, hb⟩
                refine ⟨_, rfl, ?_⟩
                have n0_ := am (Kd.R_below zz' hb); have n1_ := am (Kd.R_below za1' hb); have n2_ := am (Kd.V_below zo1' hb); have n3_ := am (Kd.R_below zh1' hb); have n4_ := am (Kd.V_below zt1' hb); have n5_ := am (Kd.R_below zc2' hb); have n6_ := am (Kd.R_below zd2' hb); have n7_ := am (blk_below (g := gb315) (o := o2') zt' hb); have n8_ := am (blk_below (g := gb348) (o := o3') zf1' hb); have n9_ := am (below_step zn' hb); clear HO310; clear HO318; clear HO323; clear HO328; clear HO332; clear HO340; clear HO347; clear BK315; clear BK348; clear HB; have HO310 := n0_; have HO318 := n1_; have HO323 := n2_; have HO328 := n3_; have HO332 := n4_; have HO340 := n5_; have HO347 := n6_; have BK315 := n7_; have BK348 := n8_; have HB := n9_; clear n0_ n1_ n2_ n3_ n4_ n5_ n6_ n7_ n8_ n9_; (try clear hb); (try clear hb2); (try clear hk); (try clear hi)
                refine hK.out _ _ ⟨(blk_cell BK315.out 0).trans rfl, (blk_cell BK315.out 1).trans rfl, (blk_cell BK315.out 2).trans rfl, (blk_cell BK315.out 3).trans rfl⟩ (fun hHeld => ?_)
                clear hK K
                refine norm_ (a' := ?_) ?_ ?_
                rotate_left
                ·show Act.put _ (some 168) _ = _
                 simp only [Act.put, s1, s2, s3, i64_w, i32_w]
                 rfl
                refine pure_ (i := 50) (N := some 169) (v := ?_) (a' := ?_) m51_ rfl rfl (any_of HT_.out (by kernel_rfl)) (fun _ _ _ h => h) (Or.inl ⟨by rfl, ?_⟩) ?_ ?_
                rotate_left
                ·intro w'
                 go_simp
                 with_reducible rfl
                rotate_left
                ·simp only [Act.put, s1, s2, s3, i64_w, i32_w]
                 rfl
                refine pure_ (i := 51) (N := some 170) (v := ?_) (a' := ?_) m52_ rfl rfl (any_of HT_.out (by kernel_rfl)) (fun _ _ _ h => h) (Or.inl ⟨by rfl, ?_⟩) ?_ ?_
                rotate_left
                ·intro w'
                 go_simp
                 with_reducible rfl
                rotate_left
                ·simp only [Act.put, s1, s2, s3, i64_w, i32_w]
                 rfl
                refine pure_ (i := 52) (N := some 171) (v := ?_) (a' := ?_) m53_ rfl rfl (any_of HT_.out (by kernel_rfl)) (fun _ _ _ h => h) (Or.inl ⟨by rfl, ?_⟩) ?_ ?_
                rotate_left
                ·intro w'
                 go_simp
                 with_reducible rfl
                rotate_left
                ·simp only [Act.put, s1, s2, s3, i64_w, i32_w]
                 rfl
                refine take_ (i := 53) (N := some 172) (v := ?_) (a' := ?_) m54_ rfl rfl (take_ofW HT_.out HW_.out (by kernel_rfl)) (fun _ _ _ h => h) (Or.inl ⟨by rfl, ?_⟩) hHeld ?_ ?_
                rotate_left
                ·rintro w' ⟨s0, s1, s2, s3⟩
                 go_simp
                 with_reducible rfl
                rotate_left
                ·simp only [Act.put, s1, s2, s3, i64_w, i32_w]
                 rfl
                refine take_ (i := 55) (N := some 174) (v := ?_) (a' := ?_) m55_ rfl rfl (take_ofW HT_.out HW_.out (by kernel_rfl)) (fun _ _ _ h => h) (Or.inl ⟨by rfl, ?_⟩) hHeld ?_ ?_
                rotate_left
                ·rintro w' ⟨s0, s1, s2, s3⟩
                 go_simp
                 with_reducible rfl
                rotate_left
                ·simp only [Act.put, s1, s2, s3, i64_w, i32_w]
                 rfl
                refine one_ (i := 54) (N := some 173) m56_ rfl rfl (one_of HT_.out (by kernel_rfl)) (by decide) (fun K hK => ?_)
                refine goes_ Try.func47 (by kernel_rfl) rfl #[.agg #[.int .i64 t311, .int .i64 t312, .int .i64 t313, .int .i64 t314]] (by rfl) rfl rfl zb' ?_
                with_reducible refine (impl_IsWanted.calls t311 t312 t313 t314 t357 _ A79.out).mono ?_
                rintro e w128 ⟨rfl, hb⟩
                refine ⟨_, rfl, ?_⟩
                have n0_ := am (Kd.R_below zz' hb); have n1_ := am (Kd.R_below za1' hb); have n2_ := am (Kd.V_below zo1' hb); have n3_ := am (Kd.R_below zh1' hb); have n4_ := am (Kd.V_below zt1' hb); have n5_ := am (Kd.R_below zc2' hb); have n6_ := am (Kd.R_below zd2' hb); have n7_ := am (blk_below (g := gb315) (o := o2') zt' hb); have n8_ := am (blk_below (g := gb348) (o := o3') zf1' hb); have n9_ := am (below_step zn' hb); clear HO310; clear HO318; clear HO323; clear HO328; clear HO332; clear HO340; clear HO347; clear BK315; clear BK348; clear HB; have HO310 := n0_; have HO318 := n1_; have HO323 := n2_; have HO328 := n3_; have HO332 := n4_; have HO340 := n5_; have HO347 := n6_; have BK315 := n7_; have BK348 := n8_; have HB := n9_; clear n0_ n1_ n2_ n3_ n4_ n5_ n6_ n7_ n8_ n9_; (try clear hb); (try clear hb2); (try clear hk); (try clear hi)
                refine hK.out _ _ ⟨(blk_cell BK315.out 0).trans rfl, (blk_cell BK315.out 1).trans rfl, (blk_cell BK315.out 2).trans rfl, (blk_cell BK315.out 3).trans rfl⟩ (fun hHeld => ?_)
                clear hK K
                refine norm_ (a' := ?_) ?_ ?_
                rotate_left
                ·show Act.put _ (some 173) _ = _
                 simp only [Act.put, s1, s2, s3, i64_w, i32_w]
                 rfl
                refine one_ (i := 56) (N := some 175) m57_ rfl rfl (one_of HT_.out (by kernel_rfl)) (by decide) (fun K hK => ?_)
                refine goes_ Try.func48 (by kernel_rfl) rfl #[.agg #[.int .i64 t311, .int .i64 t312, .int .i64 t313, .int .i64 t314]] (by rfl) rfl rfl zb' ?_
                with_reducible refine (spec_IsWanted.calls t311 t312 t313 t314 t358 _ A80.out).mono ?_
                rintro e w129 ⟨rfl, hb⟩
                refine ⟨_, rfl, ?_⟩
                have n0_ := am (Kd.R_below zz' hb); have n1_ := am (Kd.R_below za1' hb); have n2_ := am (Kd.V_below zo1' hb); have n3_ := am (Kd.R_below zh1' hb); have n4_ := am (Kd.V_below zt1' hb); have n5_ := am (Kd.R_below zc2' hb); have n6_ := am (Kd.R_below zd2' hb); have n7_ := am (blk_below (g := gb315) (o := o2') zt' hb); have n8_ := am (blk_below (g := gb348) (o := o3') zf1' hb); have n9_ := am (below_step zn' hb); clear HO310; clear HO318; clear HO323; clear HO328; clear HO332; clear HO340; clear HO347; clear BK315; clear BK348; clear HB; have HO310 := n0_; have HO318 := n1_; have HO323 := n2_; have HO328 := n3_; have HO332 := n4_; have HO340 := n5_; have HO347 := n6_; have BK315 := n7_; have BK348 := n8_; have HB := n9_; clear n0_ n1_ n2_ n3_ n4_ n5_ n6_ n7_ n8_ n9_; (try clear hb); (try clear hb2); (try clear hk); (try clear hi)
                refine hK.out _ _ ⟨(blk_cell BK315.out 0).trans rfl, (blk_cell BK315.out 1).trans rfl, (blk_cell BK315.out 2).trans rfl, (blk_cell BK315.out 3).trans rfl⟩ (fun hHeld => ?_)
                clear hK K
                refine norm_ (a' := ?_) ?_ ?_
                rotate_left
                ·show Act.put _ (some 175) _ = _
                 simp only [Act.put, s1, s2, s3, i64_w, i32_w]
                 rfl
                refine pure_ (i := 57) (N := some 176) (v := ?_) (a' := ?_) m58_ rfl rfl (any_of HT_.out (by kernel_rfl)) (fun _ _ _ h => h) (Or.inl ⟨by rfl, ?_⟩) ?_ ?_
                rotate_left
                ·intro w'
                 go_simp
                 with_reducible rfl
                rotate_left
                ·simp only [Act.put, s1, s2, s3, i64_w, i32_w]
                 rfl
                refine pure_ (i := 58) (N := some 177) (v := ?_) (a' := ?_) m59_ rfl rfl (any_of HT_.out (by kernel_rfl)) (fun _ _ _ h => h) (Or.inl ⟨by rfl, ?_⟩) ?_ ?_
                rotate_left
                ·intro w'
                 go_simp
                 with_reducible rfl
                rotate_left
                ·simp only [Act.put, s1, s2, s3, i64_w, i32_w]
                 rfl
                refine pure_ (i := 59) (N := some 178) (v := ?_) (a' := ?_) m60_ rfl rfl (any_of HT_.out (by kernel_rfl)) (fun _ _ _ h => h) (Or.inl ⟨by rfl, ?_⟩) ?_ ?_
                rotate_left
                ·intro w'
                 go_simp
                 with_reducible rfl
                rotate_left
                ·simp only [Act.put, s1, s2, s3, i64_w, i32_w]
                 rfl
                refine pure_ (i := 60) (N := some 179) (v := ?_) (a' := ?_) m61_ rfl rfl (any_of HT_.out (by kernel_rfl)) (fun _ _ _ h => h) (Or.inl ⟨by rfl, ?_⟩) ?_ ?_
                rotate_left
                ·intro w'
                 go_simp
                 with_reducible rfl
                rotate_left
                ·simp only [Act.put, s1, s2, s3, i64_w, i32_w]
                 rfl
                refine pure_ (i := 61) (N := some 180) (v := ?_) (a' := ?_) m62_ rfl rfl (any_of HT_.out (by kernel_rfl)) (fun _ _ _ h => h) (Or.inl ⟨by rfl, ?_⟩) ?_ ?_
                rotate_left
                ·intro w'
                 go_simp
                 with_reducible rfl
                rotate_left
                ·simp only [Act.put, s1, s2, s3, i64_w, i32_w]
                 rfl
                refine pure_ (i := 62) (N := some 181) (v := ?_) (a' := ?_) m63_ rfl rfl (any_of HT_.out (by kernel_rfl)) (fun _ _ _ h => h) (Or.inl ⟨by rfl, ?_⟩) ?_ ?_
                rotate_left
                ·intro w'
                 go_simp
                 with_reducible rfl
                rotate_left
                ·simp only [Act.put, s1, s2, s3, i64_w, i32_w]
                 rfl
                refine pure_ (i := 63) (N := some 182) (v := undef) (a' := ?_) m64_ rfl rfl (any_of HT_.out (by kernel_rfl)) (fun _ _ _ h => h) (Or.inr ⟨by rfl, rfl⟩) ?_ ?_
                rotate_left
                ·simp only [Act.put, s1, s2, s3, i64_w, i32_w]
                 rfl
                refine pure_ (i := 64) (N := some 183) (v := undef) (a' := ?_) m65_ rfl rfl (any_of HT_.out (by kernel_rfl)) (fun _ _ _ h => h) (Or.inr ⟨by rfl, rfl⟩) ?_ ?_
                rotate_left
                ·simp only [Act.put, s1, s2, s3, i64_w, i32_w]
                 rfl
                refine pure_ (i := 65) (N := some 184) (v := ?_) (a' := ?_) m66_ rfl rfl (any_of HT_.out (by kernel_rfl)) (fun _ _ _ h => h) (Or.inl ⟨by rfl, ?_⟩) ?_ ?_
                rotate_left
                ·intro w'
                 go_simp
                 with_reducible rfl
                rotate_left
                ·simp only [Act.put, s1, s2, s3, i64_w, i32_w]
                 rfl
                refine pure_ (i := 66) (N := some 185) (v := ?_) (a' := ?_) m67_ rfl rfl (any_of HT_.out (by kernel_rfl)) (fun _ _ _ h => h) (Or.inl ⟨by rfl, ?_⟩) ?_ ?_
                rotate_left
                ·intro w'
                 go_simp
                 with_reducible rfl
                rotate_left
                ·simp only [Act.put, s1, s2, s3, i64_w, i32_w]
                 rfl
                refine pure_ (i := 67) (N := some 186) (v := ?_) (a' := ?_) m68_ rfl rfl (any_of HT_.out (by kernel_rfl)) (fun _ _ _ h => h) (Or.inl ⟨by rfl, ?_⟩) ?_ ?_
                rotate_left
                ·intro w'
                 go_simp
                 with_reducible rfl
                rotate_left
                ·simp only [Act.put, s1, s2, s3, i64_w, i32_w]
                 rfl
                refine pure_ (i := 68) (N := some 187) (v := ?_) (a' := ?_) m69_ rfl rfl (any_of HT_.out (by kernel_rfl)) (fun _ _ _ h => h) (Or.inl ⟨by rfl, ?_⟩) ?_ ?_
                rotate_left
                ·intro w'
                 go_simp
                 with_reducible rfl
                rotate_left
                ·simp only [Act.put, s1, s2, s3, i64_w, i32_w]
                 rfl
                refine pure_ (i := 69) (N := some 188) (v := ?_) (a' := ?_) m70_ rfl rfl (any_of HT_.out (by kernel_rfl)) (fun _ _ _ h => h) (Or.inl ⟨by rfl, ?_⟩) ?_ ?_
                rotate_left
                ·intro w'
                 go_simp
                 with_reducible rfl
                rotate_left
                ·simp only [Act.put, s1, s2, s3, i64_w, i32_w]
                 rfl
                refine pure_ (i := 70) (N := some 189) (v := ?_) (a' := ?_) m71_ rfl rfl (any_of HT_.out (by kernel_rfl)) (fun _ _ _ h => h) (Or.inl ⟨by rfl, ?_⟩) ?_ ?_
                rotate_left
                ·intro w'
                 go_simp
                 with_reducible rfl
                rotate_left
                ·simp only [Act.put, s1, s2, s3, i64_w, i32_w]
                 rfl
                refine pure_ (i := 71) (N := some 190) (v := ?_) (a' := ?_) m72_ rfl rfl (any_of HT_.out (by kernel_rfl)) (fun _ _ _ h => h) (Or.inl ⟨by rfl, ?_⟩) ?_ ?_
                rotate_left
                ·intro w'
                 go_simp
                 with_reducible rfl
                rotate_left
                ·simp only [Act.put, s1, s2, s3, i64_w, i32_w]
                 rfl
                refine pure_ (i := 72) (N := some 191) (v := ?_) (a' := ?_) m73_ rfl rfl (any_of HT_.out (by kernel_rfl)) (fun _ _ _ h => h) (Or.inl ⟨by rfl, ?_⟩) ?_ ?_
                rotate_left
                ·intro w'
                 go_simp
                 with_reducible rfl
                rotate_left
                ·simp only [Act.put, s1, s2, s3, i64_w, i32_w]
                 rfl
                refine done_ (done_of HT_.out (by kernel_rfl)) ?_
                try go_wp2
                go_meet
                case rel => exact ⟨_, ((t329 != t320)), zx', H', ⟨ze4'⟩, ⟨zt5'⟩, ⟨zp5'⟩, ⟨zq5'⟩, ⟨zu5'⟩, ⟨zr5'⟩, ⟨zt'⟩, ⟨zf1'⟩, ⟨zn'⟩⟩
         ·rw [if_neg c56] at H
          exact absurd H (by simp)
       ·replace c49 := Bool.eq_false_iff.mpr c49
        subst c49
        have H1 : (none) = some r := by rw [if_neg (show ¬ (false = true) by decide)] at H; exact H
        clear H; have H := H1
        exact absurd H (by simp)
     ·rw [if_neg c43] at H
      exact absurd H (by simp)
    ·replace c42 := Bool.eq_false_iff.mpr c42
     subst c42
     have H1 : (none) = some r := by rw [if_neg (show ¬ (false = true) by decide)] at H; exact H
     clear H; have H := H1
     exact absurd H (by simp)
  case rest => as_aux_lemma =>
   clear HC14; (try clear p2); (try clear c4); (try clear c42); (try clear c45); obtain ⟨kq, x191_13, rfl, HA, HJ13, HO_5, HO_7, HO_13, HO_21, HO_23, BK315, BK348, HB⟩ := hcut
   cases kq with
   | zero => exact absurd HA.out (by simp [laws_FnBlends.j0])
   | succ kj13 =>
    have H := HA.out; clear HA; simp only [laws_FnBlends.j0] at H
    by_cases c146 : x191_13 = true
    ·subst c146
     have H1 : (none) = some r := by rw [if_pos rfl] at H; exact H
     clear H; have H := H1
     exact absurd H (by simp)
    ·replace c146 := Bool.eq_false_iff.mpr c146
     subst c146
     have H1 : (if t350 = true then (laws_FnBlends.j1 kj13 t308 t316 t320 t324 t326 t338 t345 t351 t311 t312 t313 t314 t341 t342 t343 t344) else (laws_FnBlends.j1 kj13 t308 t316 t320 t324 t326 t338 t345 false t311 t312 t313 t314 t341 t342 t343 t344)) = some r := by rw [if_neg (show ¬ (false = true) by decide)] at H; exact H
     clear H; have H := H1; clear H1; have HC147 := Aside0.mk H; clear H
     go_upto_region 15 with (fail)
     go_cut [195] (fun v195 wc => ∃ (kq : Nat) (x195_146 : Bool), v195 = .bool x195_146 ∧ Aside0 (laws_FnBlends.j1 kq t308 t316 t320 t324 t326 t338 t345 x195_146 t311 t312 t313 t314 t341 t342 t343 t344 = some r) ∧ Aside0 (kq ≤ kj13) ∧ Aside0 (Kd.R k63 63 wc w.heap.size (fun k_ => some k_ ≠ ((.slice Ao34 t338.length co34) : Value).ownBlock) (.slice Ao18 t308.length co18) t308) ∧ Aside0 (Kd.R (Kd.int .i64) 3 wc w.heap.size (fun k_ => some k_ ≠ (v327 : Value).ownBlock ∧ some k_ ≠ ((.slice Ao35 t345.length co35) : Value).ownBlock) v317 t316) ∧ Aside0 (Kd.R (Kd.int .i64) 3 wc w.heap.size (fun k_ => some k_ ≠ (v317 : Value).ownBlock ∧ some k_ ≠ ((.slice Ao35 t345.length co35) : Value).ownBlock) v327 t326) ∧ Aside0 (Kd.R k63 63 wc w.heap.size (fun k_ => some k_ ≠ ((.slice Ao18 t308.length co18) : Value).ownBlock) (.slice Ao34 t338.length co34) t338) ∧ Aside0 (Kd.R (Kd.int .i64) 3 wc w.heap.size (fun k_ => some k_ ≠ (v317 : Value).ownBlock ∧ some k_ ≠ (v327 : Value).ownBlock) (.slice Ao35 t345.length co35) t345) ∧ Aside0 (wc.heap[gb315]? = some (.cells #[.int .i64 t311, .int .i64 t312, .int .i64 t313, .int .i64 t314] 45 (0, 0))) ∧ Aside0 (wc.heap[gb348]? = some (.cells #[.int .i64 t341, .int .i64 t342, .int .i64 t343, .int .i64 t344] 45 (0, 0))) ∧ Aside0 (Below w.heap.size w wc))
     case first => as_aux_lemma =>
      have H := HC147.out; clear HC147
      by_cases c148 : t350 = true
      ·subst c148
       have H1 : (laws_FnBlends.j1 kj13 t308 t316 t320 t324 t326 t338 t345 t351 t311 t312 t313 t314 t341 t342 t343 t344) = some r := by rw [if_pos rfl] at H; exact H
       clear H; have H := H1; clear H1; have H' := Aside0.mk H; clear H
       go_wp2
       go_meet
       case rel => exact ⟨_, (t351), zx', H', ⟨by have := HJ13.out; first | omega | exact Nat.le_refl _⟩, ⟨zd1'⟩, ⟨zy1'⟩, ⟨zh2'⟩, ⟨zi4'⟩, ⟨zx3'⟩, ⟨zt'⟩, ⟨zf1'⟩, ⟨zn'⟩⟩
      ·replace c148 := Bool.eq_false_iff.mpr c148
       subst c148
       have H1 : (laws_FnBlends.j1 kj13 t308 t316 t320 t324 t326 t338 t345 false t311 t312 t313 t314 t341 t342 t343 t344) = some r := by rw [if_neg (show ¬ (false = true) by decide)] at H; exact H
       clear H; have H := H1; clear H1; have H' := Aside0.mk H; clear H
       go_wp2
       go_meet
       case rel => exact ⟨_, (false), zx', H', ⟨by have := HJ13.out; first | omega | exact Nat.le_refl _⟩, ⟨zd1'⟩, ⟨zy1'⟩, ⟨zh2'⟩, ⟨zi4'⟩, ⟨zx3'⟩, ⟨zt'⟩, ⟨zf1'⟩, ⟨zn'⟩⟩
     case rest => as_aux_lemma =>
      clear HC147; (try clear c1); (try clear p2); (try clear c4); (try clear c14); (try clear c42); (try clear c45); (try clear c146); (try clear c148); (try clear p2); obtain ⟨kq, x195_146, rfl, HA, HJ146, HO_5, HO_7, HO_13, HO_21, HO_23, BK315, BK348, HB⟩ := hcut
      cases kq with
      | zero => exact absurd HA.out (by simp [laws_FnBlends.j1])
      | succ kj146 =>
       have H := HA.out; clear HA; simp only [laws_FnBlends.j1] at H; have HC149 := Aside0.mk H; clear H
       go_upto_if 195 with (fail)
       go_cut [] (fun wc => ∃ (kq : Nat), Aside0 (laws_FnBlends.j2 kq t308 t316 t320 t324 t326 t311 t312 t313 t314 = some r) ∧ Aside0 (kq ≤ kj146) ∧ Aside0 (Kd.R k63 63 wc w.heap.size (fun _ => True) (.slice Ao18 t308.length co18) t308) ∧ Aside0 (Kd.R (Kd.int .i64) 3 wc w.heap.size (fun k_ => some k_ ≠ (v327 : Value).ownBlock) v317 t316) ∧ Aside0 (Kd.R (Kd.int .i64) 3 wc w.heap.size (fun k_ => some k_ ≠ (v317 : Value).ownBlock) v327 t326) ∧ Aside0 (wc.heap[gb315]? = some (.cells #[.int .i64 t311, .int .i64 t312, .int .i64 t313, .int .i64 t314] 45 (0, 0))) ∧ Aside0 (wc.heap[gb348]? = some (.cells #[.int .i64 t341, .int .i64 t342, .int .i64 t343, .int .i64 t344] 45 (0, 0))) ∧ Aside0 (Below w.heap.size w wc))
       case first => as_aux_lemma =>
        have H := HC149.out; clear HC149
        by_cases c150 : x195_146 = true
        ·subst c150
         have H1 : (((impl_CheapestBlend.f kj146 t338 t341 t342 t343 t344).bind fun bt359 => ((impl_BlendSums.f kj146 t338 t345).bind fun bt364 => (if bt359.2.2 = true then (if bt364.2.2.2.2 = true then (if bt359.2.1 > bt364.2.2.2.1 then (none) else (laws_FnBlends.j2 kj146 t308 t316 t320 t324 t326 t311 t312 t313 t314)) else (none)) else (none))))) = some r := by rw [if_pos rfl] at H; exact H
         clear H; have H := H1; clear H1; replace H := Option.bind_eq_some_iff.mp H; obtain ⟨⟨t359, t362, t363⟩, A1510, H⟩ := H; replace H : (((impl_BlendSums.f kj146 t338 t345).bind fun bt364 => (if t363 = true then (if bt364.2.2.2.2 = true then (if t362 > bt364.2.2.2.1 then (none) else (laws_FnBlends.j2 kj146 t308 t316 t320 t324 t326 t311 t312 t313 t314)) else (none)) else (none)))) = some r := H; have A151 := Aside0.mk A1510; clear A1510; replace H := Option.bind_eq_some_iff.mp H; obtain ⟨⟨t364, t365, t366, t367, t368⟩, A1520, H⟩ := H; replace H : (if t363 = true then (if t368 = true then (if t362 > t367 then (none) else (laws_FnBlends.j2 kj146 t308 t316 t320 t324 t326 t311 t312 t313 t314)) else (none)) else (none)) = some r := H; have A152 := Aside0.mk A1520; clear A1520
         by_cases c153 : t363 = true
         ·subst c153
          have H1 : (if t368 = true then (if t362 > t367 then (none) else (laws_FnBlends.j2 kj146 t308 t316 t320 t324 t326 t311 t312 t313 t314)) else (none)) = some r := by rw [if_pos rfl] at H; exact H
          clear H; have H := H1; clear H1
          by_cases c154 : t368 = true
          ·subst c154
           have H1 : (if t362 > t367 then (none) else (laws_FnBlends.j2 kj146 t308 t316 t320 t324 t326 t311 t312 t313 t314)) = some r := by rw [if_pos rfl] at H; exact H
           clear H; have H := H1; clear H1
           by_cases c155 : t362 > t367
           ·rw [if_pos c155] at H
            exact absurd H (by simp)
           ·rw [if_neg c155] at H
            have c155b0 : decide (t367 < t362) = false := decide_eq_false c155; clear c155
            (first | rw [c155b0] | (simp only [i64_w, i32_w]; rw [c155b0]) | skip)
            have H' := Aside0.mk H; clear H; have hnb160 := NB348_315.out; have hnc160 := NB315_348.out; have hcz161_0 : wc.cell? ⟨gb348, 0, none⟩ = some (.int .i64 t341) := (blk_cell BK348.out 0).trans rfl; have hcz161_1 : wc.cell? ⟨gb348, 1, none⟩ = some (.int .i64 t342) := (blk_cell BK348.out 1).trans rfl; have hcz161_2 : wc.cell? ⟨gb348, 2, none⟩ = some (.int .i64 t343) := (blk_cell BK348.out 2).trans rfl; have hcz161_3 : wc.cell? ⟨gb348, 3, none⟩ = some (.int .i64 t344) := (blk_cell BK348.out 3).trans rfl; have hfz161_0 := blk_frozen BK348.out 0; have hfz161_1 := blk_frozen BK348.out 1; have hfz161_2 := blk_frozen BK348.out 2; have hfz161_3 := blk_frozen BK348.out 3
            go_wp2_with (first | ((with_reducible refine gate_callee (f := 30) rfl ?_); refine goesL_ (some 199) rfl rfl Try.func30 (by kernel_rfl) rfl #[.slice Ao34 t338.length co34, .agg #[.int .i64 t341, .int .i64 t342, .int .i64 t343, .int .i64 t344]] rfl zb' ?_; (with_reducible refine (impl_CheapestBlend.calls kj146 _ _ t338 t341 t342 t343 t344 t359 t362 true _ ?side1 ?side2 A151.out).mono ?_); (case side1 => exact zd5'); (case side2 => exact (Kd.R_reads' HO_21.out).2.1); rintro e w162 ⟨v360, rfl, ho0, hb⟩; refine ⟨_, rfl, ?_⟩; have n0_ := am (Kd.R_below zd1' hb); have n1_ := am (Kd.R_elder' zy1' (Kd.R_base ho0) hb); have n2_ := am (Kd.R_elder' zh2' (Kd.R_base ho0) hb); have n3_ := am (Kd.R_below zi4' hb); have n4_ := am (Kd.R_elder' zx3' (Kd.R_base ho0) hb); have n5_ := am (Kd.R_lower (Kd.R_new' (Kd.R_new' (Kd.R_new' ho0 (Kd.R_lt zy1')) (Kd.R_lt zh2')) (Kd.R_lt zx3')) (below_size zn')); have n6_ := am (blk_below (g := gb315) (o := o2') zt' hb); have n7_ := am (blk_below (g := gb348) (o := o3') zf1' hb); have n8_ := am (below_step zn' hb); clear HO_5; clear HO_7; clear HO_13; clear HO_21; clear HO_23; clear BK315; clear BK348; clear HB; have HO_5 := n0_; have HO_7 := n1_; have HO_13 := n2_; have HO_21 := n3_; have HO_23 := n4_; have HO361 := n5_; have BK315 := n6_; have BK348 := n7_; have HB := n8_; clear n0_ n1_ n2_ n3_ n4_ n5_ n6_ n7_ n8_; (try clear hb); (try clear hb2); (try clear hk); (try clear hi); (try clear ho0)) | ((with_reducible refine gate_callee (f := 32) rfl ?_); refine goesL_ (some 206) rfl rfl Try.func32 (by kernel_rfl) rfl #[.slice Ao34 t338.length co34, .slice Ao35 t345.length co35] rfl zb' ?_; (with_reducible refine (impl_BlendSums.calls kj146 _ _ t338 _ _ t345 t364 t365 t366 t367 true _ ?side1 ?side2 ?side3 ?side4 A152.out).mono ?_); (case side1 => exact zd5'); (case side2 => exact (Kd.R_reads' HO_21.out).2.1); (case side3 => repeat (first | exact (Kd.R_reads' HO_23.out).2.2 | (with_reducible refine Kd.C_alloc ?_ _) | (with_reducible refine Kd.C_drewN ?_ _) | (with_reducible refine Kd.C_drew ?_))); (case side4 => exact (Kd.R_reads' HO_23.out).2.1); rintro e w163 ⟨rfl, hb⟩; refine ⟨_, rfl, ?_⟩; have n0_ := am (Kd.R_below zd1' hb); have n1_ := am (Kd.R_below zy1' hb); have n2_ := am (Kd.R_below zh2' hb); have n3_ := am (Kd.R_below zi4' hb); have n4_ := am (Kd.R_below zx3' hb); have n5_ := am (Kd.R_below (by (with_reducible repeat (first | apply Kd.R_alloc | apply Kd.R_drewN | apply Kd.R_drew)); exact HO361.out) hb); have n6_ := am (blk_below (g := gb315) (o := o2') zt' hb); have n7_ := am (blk_below (g := gb348) (o := o3') zf1' hb); have n8_ := am (below_step zn' hb); clear HO_5; clear HO_7; clear HO_13; clear HO_21; clear HO_23; clear HO361; clear BK315; clear BK348; clear HB; have HO_5 := n0_; have HO_7 := n1_; have HO_13 := n2_; have HO_21 := n3_; have HO_23 := n4_; have HO361 := n5_; have BK315 := n6_; have BK348 := n7_; have HB := n8_; clear n0_ n1_ n2_ n3_ n4_ n5_ n6_ n7_ n8_; (try clear hb); (try clear hb2); (try clear hk); (try clear hi)))
            go_meet
            case rel => exact ⟨_, H', ⟨by have := HJ13.out; have := HJ146.out; first | omega | exact Nat.le_refl _⟩, ⟨zm4'⟩, ⟨by (with_reducible repeat (first | apply Kd.R_alloc | apply Kd.R_drewN | apply Kd.R_drew)); exact Kd.R_mono HO_7.out (fun _ hk => hk.1.1)⟩, ⟨by (with_reducible repeat (first | apply Kd.R_alloc | apply Kd.R_drewN | apply Kd.R_drew)); exact Kd.R_mono HO_13.out (fun _ hk => hk.1.1)⟩, ⟨zt'⟩, ⟨zf1'⟩, ⟨zn'⟩⟩
          ·replace c154 := Bool.eq_false_iff.mpr c154
           subst c154
           have H1 : (none) = some r := by rw [if_neg (show ¬ (false = true) by decide)] at H; exact H
           clear H; have H := H1
           exact absurd H (by simp)
         ·replace c153 := Bool.eq_false_iff.mpr c153
          subst c153
          have H1 : (none) = some r := by rw [if_neg (show ¬ (false = true) by decide)] at H; exact H
          clear H; have H := H1
          exact absurd H (by simp)
        ·replace c150 := Bool.eq_false_iff.mpr c150
         subst c150
         have H1 : (laws_FnBlends.j2 kj146 t308 t316 t320 t324 t326 t311 t312 t313 t314) = some r := by rw [if_neg (show ¬ (false = true) by decide)] at H; exact H
         clear H; have H := H1; clear H1; have H' := Aside0.mk H; clear H
         go_wp2
         go_meet
         case rel => exact ⟨_, H', ⟨by have := HJ13.out; have := HJ146.out; first | omega | exact Nat.le_refl _⟩, ⟨zm4'⟩, ⟨by (with_reducible repeat (first | apply Kd.R_alloc | apply Kd.R_drewN | apply Kd.R_drew)); exact Kd.R_mono HO_7.out (fun _ hk => hk.1)⟩, ⟨by (with_reducible repeat (first | apply Kd.R_alloc | apply Kd.R_drewN | apply Kd.R_drew)); exact Kd.R_mono HO_13.out (fun _ hk => hk.1)⟩, ⟨zt'⟩, ⟨zf1'⟩, ⟨zn'⟩⟩
       case rest => as_aux_lemma =>
        clear HC149; (try clear c1); (try clear p2); (try clear c3); (try clear c4); (try clear c14); (try clear c15); (try clear c16); (try clear c30); (try clear c32); (try clear c42); (try clear c45); (try clear c146); (try clear c148); (try clear c150); (try clear c153); (try clear c154); (try clear c155); (try clear c155b0); (try clear c156); (try clear c160); (try clear c164); (try clear c168); (try clear hcz157_0); (try clear hcz157_1); (try clear hcz157_2); (try clear hcz157_3); (try clear hcz161_0); (try clear hcz161_1); (try clear hcz161_2); (try clear hcz161_3); (try clear hcz165_0); (try clear hcz165_1); (try clear hcz165_2); (try clear hcz165_3); (try clear hcz169_0); (try clear hcz169_1); (try clear hcz169_2); (try clear hcz169_3); (try clear hfz157_0); (try clear hfz157_1); (try clear hfz157_2); (try clear hfz157_3); (try clear hfz161_0); (try clear hfz161_1); (try clear hfz161_2); (try clear hfz161_3); (try clear hfz165_0); (try clear hfz165_1); (try clear hfz165_2); (try clear hfz165_3); (try clear hfz169_0); (try clear hfz169_1); (try clear hfz169_2); (try clear hfz169_3); (try clear p2); obtain ⟨kq, HA, HJ148, HO_5, HO_7, HO_13, BK315, BK348, HB⟩ := hcut
        cases kq with
        | zero => exact absurd HA.out (by simp [laws_FnBlends.j2])
        | succ kj148 =>
         have H := HA.out; clear HA; simp only [laws_FnBlends.j2] at H
         by_cases c172 : t320 = true
         ·subst c172
          have H1 : (((impl_MeetsWanted.f kj148 t308 t311 t312 t313 t314 t316).bind fun bt369 => ((impl_MeetsWanted.f kj148 t308 t311 t312 t313 t314 t326).bind fun bt371 => ((impl_BlendSums.f kj148 t308 t316).bind fun bt373 => ((impl_BlendSums.f kj148 t308 t326).bind fun bt378 => (if bt369.2 = true then (if bt369.1 = true then (if bt371.2 = true then (if bt371.1 = true then (if bt373.2.2.2.2 = true then (if bt378.2.2.2.2 = true then (if bt373.1 = t311 then (if bt373.2.2.2.1 = t324 then (if bt378.2.2.2.1 ≥ t324 then (some (decide (bt378.2.1 ≥ bt373.2.1))) else (none)) else (none)) else (none)) else (none)) else (none)) else (none)) else (none)) else (none)) else (none))))))) = some r := by rw [if_pos rfl] at H; exact H
          clear H; have H := H1; clear H1; replace H := Option.bind_eq_some_iff.mp H; obtain ⟨⟨t369, t370⟩, A1730, H⟩ := H; replace H : (((impl_MeetsWanted.f kj148 t308 t311 t312 t313 t314 t326).bind fun bt371 => ((impl_BlendSums.f kj148 t308 t316).bind fun bt373 => ((impl_BlendSums.f kj148 t308 t326).bind fun bt378 => (if t370 = true then (if t369 = true then (if bt371.2 = true then (if bt371.1 = true then (if bt373.2.2.2.2 = true then (if bt378.2.2.2.2 = true then (if bt373.1 = t311 then (if bt373.2.2.2.1 = t324 then (if bt378.2.2.2.1 ≥ t324 then (some (decide (bt378.2.1 ≥ bt373.2.1))) else (none)) else (none)) else (none)) else (none)) else (none)) else (none)) else (none)) else (none)) else (none)))))) = some r := H; have A173 := Aside0.mk A1730; clear A1730; replace H := Option.bind_eq_some_iff.mp H; obtain ⟨⟨t371, t372⟩, A1740, H⟩ := H; replace H : (((impl_BlendSums.f kj148 t308 t316).bind fun bt373 => ((impl_BlendSums.f kj148 t308 t326).bind fun bt378 => (if t370 = true then (if t369 = true then (if t372 = true then (if t371 = true then (if bt373.2.2.2.2 = true then (if bt378.2.2.2.2 = true then (if bt373.1 = t311 then (if bt373.2.2.2.1 = t324 then (if bt378.2.2.2.1 ≥ t324 then (some (decide (bt378.2.1 ≥ bt373.2.1))) else (none)) else (none)) else (none)) else (none)) else (none)) else (none)) else (none)) else (none)) else (none))))) = some r := H; have A174 := Aside0.mk A1740; clear A1740; replace H := Option.bind_eq_some_iff.mp H; obtain ⟨⟨t373, t374, t375, t376, t377⟩, A1750, H⟩ := H
          replace H : (((impl_BlendSums.f kj148 t308 t326).bind fun bt378 => (if t370 = true then (if t369 = true then (if t372 = true then (if t371 = true then (if t377 = true then (if bt378.2.2.2.2 = true then (if t373 = t311 then (if t376 = t324 then (if bt378.2.2.2.1 ≥ t324 then (some (decide (bt378.2.1 ≥ t374))) else (none)) else (none)) else (none)) else (none)) else (none)) else (none)) else (none)) else (none)) else (none)))) = some r := H; have A175 := Aside0.mk A1750; clear A1750; replace H := Option.bind_eq_some_iff.mp H; obtain ⟨⟨t378, t379, t380, t381, t382⟩, A1760, H⟩ := H; replace H : (if t370 = true then (if t369 = true then (if t372 = true then (if t371 = true then (if t377 = true then (if t382 = true then (if t373 = t311 then (if t376 = t324 then (if t381 ≥ t324 then (some (decide (t379 ≥ t374))) else (none)) else (none)) else (none)) else (none)) else (none)) else (none)) else (none)) else (none)) else (none)) = some r := H; have A176 := Aside0.mk A1760; clear A1760
          by_cases c177 : t370 = true
          ·subst c177
           have H1 : (if t369 = true then (if t372 = true then (if t371 = true then (if t377 = true then (if t382 = true then (if t373 = t311 then (if t376 = t324 then (if t381 ≥ t324 then (some (decide (t379 ≥ t374))) else (none)) else (none)) else (none)) else (none)) else (none)) else (none)) else (none)) else (none)) = some r := by rw [if_pos rfl] at H; exact H
           clear H; have H := H1; clear H1
           by_cases c178 : t369 = true
           ·subst c178
            have H1 : (if t372 = true then (if t371 = true then (if t377 = true then (if t382 = true then (if t373 = t311 then (if t376 = t324 then (if t381 ≥ t324 then (some (decide (t379 ≥ t374))) else (none)) else (none)) else (none)) else (none)) else (none)) else (none)) else (none)) = some r := by rw [if_pos rfl] at H; exact H
            clear H; have H := H1; clear H1
            by_cases c179 : t372 = true
            ·subst c179
             have H1 : (if t371 = true then (if t377 = true then (if t382 = true then (if t373 = t311 then (if t376 = t324 then (if t381 ≥ t324 then (some (decide (t379 ≥ t374))) else (none)) else (none)) else (none)) else (none)) else (none)) else (none)) = some r := by rw [if_pos rfl] at H; exact H
             clear H; have H := H1; clear H1
             by_cases c180 : t371 = true
             ·subst c180
              have H1 : (if t377 = true then (if t382 = true then (if t373 = t311 then (if t376 = t324 then (if t381 ≥ t324 then (some (decide (t379 ≥ t374))) else (none)) else (none)) else (none)) else (none)) else (none)) = some r := by rw [if_pos rfl] at H; exact H
              clear H; have H := H1; clear H1
              by_cases c181 : t377 = true
              ·subst c181
               have H1 : (if t382 = true then (if t373 = t311 then (if t376 = t324 then (if t381 ≥ t324 then (some (decide (t379 ≥ t374))) else (none)) else (none)) else (none)) else (none)) = some r := by rw [if_pos rfl] at H; exact H
               clear H; have H := H1; clear H1
               by_cases c182 : t382 = true
               ·subst c182
                have H1 : (if t373 = t311 then (if t376 = t324 then (if t381 ≥ t324 then (some (decide (t379 ≥ t374))) else (none)) else (none)) else (none)) = some r := by rw [if_pos rfl] at H; exact H
                clear H; have H := H1; clear H1
                by_cases c183 : t373 = t311
                ·rw [if_pos c183] at H
                 have c183b0 : (t373 == t311) = true := beq_iff_eq.mpr c183; have c183b1 : (t373 != t311) = false := bne_eq_false_iff_eq.mpr c183; clear c183
                 by_cases c184 : t376 = t324
                 ·rw [if_pos c184] at H
                  have c184b0 : (t376 == t324) = true := beq_iff_eq.mpr c184; have c184b1 : (t376 != t324) = false := bne_eq_false_iff_eq.mpr c184; clear c184
                  by_cases c185 : t381 ≥ t324
                  ·rw [if_pos c185] at H
                   have c185b0 : decide (t324 ≤ t381) = true := decide_eq_true c185; clear c185; obtain rfl := Option.some.inj H; have hnb186 := NB315_348.out; have hnc186 := NB348_315.out; have hcz187_0 : wc.cell? ⟨gb315, 0, none⟩ = some (.int .i64 t311) := (blk_cell BK315.out 0).trans rfl; have hcz187_1 : wc.cell? ⟨gb315, 1, none⟩ = some (.int .i64 t312) := (blk_cell BK315.out 1).trans rfl; have hcz187_2 : wc.cell? ⟨gb315, 2, none⟩ = some (.int .i64 t313) := (blk_cell BK315.out 2).trans rfl; have hcz187_3 : wc.cell? ⟨gb315, 3, none⟩ = some (.int .i64 t314) := (blk_cell BK315.out 3).trans rfl; have hfz187_0 := blk_frozen BK315.out 0; have hfz187_1 := blk_frozen BK315.out 1; have hfz187_2 := blk_frozen BK315.out 2; have hfz187_3 := blk_frozen BK315.out 3; obtain ⟨Ao188, co188, eo188⟩ := Kd.R_slice HO_7.out; subst eo188
                   go_wp2_with (first | ((with_reducible refine gate_callee (f := 43) rfl ?_); refine goesL_ (some 229) rfl rfl Try.func43 (by kernel_rfl) rfl #[.slice Ao18 t308.length co18, .agg #[.int .i64 t311, .int .i64 t312, .int .i64 t313, .int .i64 t314], .slice Ao188 t316.length co188] rfl zb' ?_; (with_reducible refine (impl_MeetsWanted.calls kj148 _ _ t308 t311 t312 t313 t314 _ _ t316 true true _ ?side1 ?side2 ?side3 ?side4 A173.out).mono ?_); (case side1 => exact zk3'); (case side2 => exact (Kd.R_reads' HO_5.out).2.1); (case side3 => exact zd4'); (case side4 => exact (Kd.R_reads' HO_7.out).2.1); rintro e w189 ⟨rfl, hb⟩; refine ⟨_, rfl, ?_⟩; have n0_ := am (Kd.R_below zd1' hb); have n1_ := am (Kd.R_below zy1' hb); have n2_ := am (Kd.R_below zh2' hb); have n3_ := am (blk_below (g := gb315) (o := o2') zt' hb); have n4_ := am (blk_below (g := gb348) (o := o3') zf1' hb); have n5_ := am (below_step zn' hb); clear HO_5; clear HO_7; clear HO_13; clear BK315; clear BK348; clear HB; have HO_5 := n0_; have HO_7 := n1_; have HO_13 := n2_; have BK315 := n3_; have BK348 := n4_; have HB := n5_; clear n0_ n1_ n2_ n3_ n4_ n5_; (try clear hb); (try clear hb2); (try clear hk); (try clear hi); have hcz190_0 : w189.cell? ⟨gb315, 0, none⟩ = some (.int .i64 t311) := (blk_cell BK315.out 0).trans rfl; have hcz190_1 : w189.cell? ⟨gb315, 1, none⟩ = some (.int .i64 t312) := (blk_cell BK315.out 1).trans rfl; have hcz190_2 : w189.cell? ⟨gb315, 2, none⟩ = some (.int .i64 t313) := (blk_cell BK315.out 2).trans rfl; have hcz190_3 : w189.cell? ⟨gb315, 3, none⟩ = some (.int .i64 t314) := (blk_cell BK315.out 3).trans rfl; have hfz190_0 := blk_frozen BK315.out 0; have hfz190_1 := blk_frozen BK315.out 1; have hfz190_2 := blk_frozen BK315.out 2; have hfz190_3 := blk_frozen BK315.out 3; obtain ⟨Ao191, co191, eo191⟩ := Kd.R_slice HO_13.out; subst eo191) | ((with_reducible refine gate_callee (f := 43) rfl ?_); refine goesL_ (some 236) rfl rfl Try.func43 (by kernel_rfl) rfl #[.slice Ao18 t308.length co18, .agg #[.int .i64 t311, .int .i64 t312, .int .i64 t313, .int .i64 t314], .slice Ao191 t326.length co191] rfl zb' ?_; (with_reducible refine (impl_MeetsWanted.calls kj148 _ _ t308 t311 t312 t313 t314 _ _ t326 true true _ ?side1 ?side2 ?side3 ?side4 A174.out).mono ?_); (case side1 => exact zk3'); (case side2 => exact (Kd.R_reads' HO_5.out).2.1); (case side3 => exact ze5'); (case side4 => exact (Kd.R_reads' HO_13.out).2.1); rintro e w192 ⟨rfl, hb⟩; refine ⟨_, rfl, ?_⟩; have n0_ := am (Kd.R_below zd1' hb); have n1_ := am (Kd.R_below zy1' hb); have n2_ := am (Kd.R_below zh2' hb); have n3_ := am (blk_below (g := gb315) (o := o2') zt' hb); have n4_ := am (blk_below (g := gb348) (o := o3') zf1' hb); have n5_ := am (below_step zn' hb); clear HO_5; clear HO_7; clear HO_13; clear BK315; clear BK348; clear HB; have HO_5 := n0_; have HO_7 := n1_; have HO_13 := n2_; have BK315 := n3_; have BK348 := n4_; have HB := n5_; clear n0_ n1_ n2_ n3_ n4_ n5_; (try clear hb); (try clear hb2); (try clear hk); (try clear hi)) | ((with_reducible refine gate_callee (f := 32) rfl ?_); refine goesL_ (some 242) rfl rfl Try.func32 (by kernel_rfl) rfl #[.slice Ao18 t308.length co18, .slice Ao188 t316.length co188] rfl zb' ?_; (with_reducible refine (impl_BlendSums.calls kj148 _ _ t308 _ _ t316 t373 t374 t375 t376 true _ ?side1 ?side2 ?side3 ?side4 A175.out).mono ?_); (case side1 => exact zk3'); (case side2 => exact (Kd.R_reads' HO_5.out).2.1); (case side3 => exact zd4'); (case side4 => exact (Kd.R_reads' HO_7.out).2.1); rintro e w193 ⟨rfl, hb⟩; refine ⟨_, rfl, ?_⟩; have n0_ := am (Kd.R_below zd1' hb); have n1_ := am (Kd.R_below zy1' hb); have n2_ := am (Kd.R_below zh2' hb); have n3_ := am (blk_below (g := gb315) (o := o2') zt' hb); have n4_ := am (blk_below (g := gb348) (o := o3') zf1' hb); have n5_ := am (below_step zn' hb); clear HO_5; clear HO_7; clear HO_13; clear BK315; clear BK348; clear HB; have HO_5 := n0_; have HO_7 := n1_; have HO_13 := n2_; have BK315 := n3_; have BK348 := n4_; have HB := n5_; clear n0_ n1_ n2_ n3_ n4_ n5_; (try clear hb); (try clear hb2); (try clear hk); (try clear hi)) | ((with_reducible refine gate_callee (f := 32) rfl ?_); refine goesL_ (some 251) rfl rfl Try.func32 (by kernel_rfl) rfl #[.slice Ao18 t308.length co18, .slice Ao191 t326.length co191] rfl zb' ?_; (with_reducible refine (impl_BlendSums.calls kj148 _ _ t308 _ _ t326 t378 t379 t380 t381 true _ ?side1 ?side2 ?side3 ?side4 A176.out).mono ?_); (case side1 => exact zk3'); (case side2 => exact (Kd.R_reads' HO_5.out).2.1); (case side3 => exact ze5'); (case side4 => exact (Kd.R_reads' HO_13.out).2.1); rintro e w194 ⟨rfl, hb⟩; refine ⟨_, rfl, ?_⟩; have n0_ := am (Kd.R_below zd1' hb); have n1_ := am (Kd.R_below zy1' hb); have n2_ := am (Kd.R_below zh2' hb); have n3_ := am (blk_below (g := gb315) (o := o2') zt' hb); have n4_ := am (blk_below (g := gb348) (o := o3') zf1' hb); have n5_ := am (below_step zn' hb); clear HO_5; clear HO_7; clear HO_13; clear BK315; clear BK348; clear HB; have HO_5 := n0_; have HO_7 := n1_; have HO_13 := n2_; have BK315 := n3_; have BK348 := n4_; have HB := n5_; clear n0_ n1_ n2_ n3_ n4_ n5_; (try clear hb); (try clear hb2); (try clear hk); (try clear hi); have hcz195_0 : w194.cell? ⟨gb315, 0, none⟩ = some (.int .i64 t311) := (blk_cell BK315.out 0).trans rfl; have hcz195_1 : w194.cell? ⟨gb315, 1, none⟩ = some (.int .i64 t312) := (blk_cell BK315.out 1).trans rfl; have hcz195_2 : w194.cell? ⟨gb315, 2, none⟩ = some (.int .i64 t313) := (blk_cell BK315.out 2).trans rfl; have hcz195_3 : w194.cell? ⟨gb315, 3, none⟩ = some (.int .i64 t314) := (blk_cell BK315.out 3).trans rfl; have hfz195_0 := blk_frozen BK315.out 0; have hfz195_1 := blk_frozen BK315.out 1; have hfz195_2 := blk_frozen BK315.out 2; have hfz195_3 := blk_frozen BK315.out 3))
                   go_ret
                   exact ⟨by first | rfl | (simp [errW_none, errW_some] <;> rfl) | (simp [*, errW_none, errW_some] <;> rfl), by repeat (first | (with_reducible first | exact HB.out | apply ba | apply bn | apply below_drew1 | refine below_set ?_ GE315.out | refine below_set ?_ GE348.out) | exact HB.out)⟩
                  ·rw [if_neg c185] at H
                   exact absurd H (by simp)
                 ·rw [if_neg c184] at H
                  exact absurd H (by simp)
                ·rw [if_neg c183] at H
                 exact absurd H (by simp)
               ·replace c182 := Bool.eq_false_iff.mpr c182
                subst c182
                have H1 : (none) = some r := by rw [if_neg (show ¬ (false = true) by decide)] at H; exact H
                clear H; have H := H1
                exact absurd H (by simp)
              ·replace c181 := Bool.eq_false_iff.mpr c181
               subst c181
               have H1 : (none) = some r := by rw [if_neg (show ¬ (false = true) by decide)] at H; exact H
               clear H; have H := H1
               exact absurd H (by simp)
             ·replace c180 := Bool.eq_false_iff.mpr c180
              subst c180
              have H1 : (none) = some r := by rw [if_neg (show ¬ (false = true) by decide)] at H; exact H
              clear H; have H := H1
              exact absurd H (by simp)
            ·replace c179 := Bool.eq_false_iff.mpr c179
             subst c179
             have H1 : (none) = some r := by rw [if_neg (show ¬ (false = true) by decide)] at H; exact H
             clear H; have H := H1
             exact absurd H (by simp)
           ·replace c178 := Bool.eq_false_iff.mpr c178
            subst c178
            have H1 : (none) = some r := by rw [if_neg (show ¬ (false = true) by decide)] at H; exact H
            clear H; have H := H1
            exact absurd H (by simp)
          ·replace c177 := Bool.eq_false_iff.mpr c177
           subst c177
           have H1 : (none) = some r := by rw [if_neg (show ¬ (false = true) by decide)] at H; exact H
           clear H; have H := H1
           exact absurd H (by simp)
         ·replace c172 := Bool.eq_false_iff.mpr c172
          subst c172
          have H1 : (some true) = some r := by rw [if_neg (show ¬ (false = true) by decide)] at H; exact H
          clear H; have H := H1; clear H1; obtain rfl := Option.some.inj H
          go_wp2
          go_ret
          exact ⟨by first | rfl | (simp [errW_none, errW_some] <;> rfl) | (simp [*, errW_none, errW_some] <;> rfl), by repeat (first | (with_reducible first | exact HB.out | apply ba | apply bn | apply below_drew1 | refine below_set ?_ GE315.out | refine below_set ?_ GE348.out) | exact HB.out)⟩

/-- THE ONE PURE STATEMENT of laws_FnBlends: yours. -/
def laws_FnBlends.Pure : Prop := ∀ (l0 : List Int) (l1 : List Int), l0.length ≤ maxLen → l0.length * 1 ≤ 140737488351232 → (∀ x ∈ l0, (Lit.int .u8 x).wf = true) → l1.length ≤ maxLen → l1.length * 1 ≤ 140737488351232 → (∀ x ∈ l1, (Lit.int .u8 x).wf = true) → ∃ k, laws_FnBlends.f k l0 l1 = some true
theorem laws_FnBlends.walk (P : laws_FnBlends.Pure) (a0 : Option Addr) (len0 cap0 : Nat) (z0 : List Int) (a1 : Option Addr) (len1 cap1 : Nat) (z1 : List Int) (w : World) (w0 : (a0 = none ∧ len0 = 0 ∧ cap0 = 0 ∧ z0 = []) ∨ ∃ x, a0 = some x ∧ len0 ≤ cap0 ∧ cap0 ≤ maxLen ∧ z0.length = cap0 ∧ (∀ i, i < z0.length → w.cell? (x.add i) = some (.int .u8 (z0.getD i 0))) ∧ ∀ n ∈ z0, (Lit.int .u8 n).wf = true) (y0 : len0 * 1 ≤ 140737488351232) (w1 : (a1 = none ∧ len1 = 0 ∧ cap1 = 0 ∧ z1 = []) ∨ ∃ x, a1 = some x ∧ len1 ≤ cap1 ∧ cap1 ≤ maxLen ∧ z1.length = cap1 ∧ (∀ i, i < z1.length → w.cell? (x.add i) = some (.int .u8 (z1.getD i 0))) ∧ ∀ n ∈ z1, (Lit.int .u8 n).wf = true) (y1 : len1 * 1 ≤ 140737488351232) :
  Calls Try.prog 9 #[.slice a0 len0 cap0, .slice a1 len1 cap1] w fun e w' => e = .returned (.bool true) ∧ Below w.heap.size w w' := by
 obtain ⟨l0, rfl, hr0, hm0, hw0, hc0⟩ := ReadsInt.ofRowC w0
 obtain ⟨l1, rfl, hr1, hm1, hw1, hc1⟩ := ReadsInt.ofRowC w1
 obtain ⟨k, h⟩ := P l0 l1 hm0 y0 hw0 hm1 y1 hw1
 refine (laws_FnBlends.calls k _ _ l0 _ _ l1 true w (Kd.C_of_reads (d := (0 : Int)) (h1 := fun _ => rfl) hr0) hc0 (Kd.C_of_reads (d := (0 : Int)) (h1 := fun _ => rfl) hr1) hc1 h).mono ?_
 rintro e w' ⟨rfl, hd⟩
 exact ⟨rfl, hd⟩

end Go.Proofs.Ytcinecbfkeefaaa.PFnBlends
