/- Text written by a program for this claim: contracts of the functions of one law. -/
import Derived.Test.YtociipogjmidiaaPFnCyclesx0
import Derived.Test.YtociipogjmidiaaPFnCyclesx1
import Derived.Test.YtociipogjmidiaaPFnCyclesx2
import Derived.Test.YtociipogjmidiaaPFnCyclesx3
import Derived.Test.YtociipogjmidiaaPFnCyclesx4
namespace Go.Proofs.Ytociipogjmidiaa.PFnCycles
open Go.RowKit Go.Proofs.YtociipogjmidiaaW.PrintWords Go.Proofs.YtociipogjmidiaaW.PrintLast Go.Proofs.YtociipogjmidiaaW.PrintMore
attribute [local go_sem] max2_int min2_int max_two min_two max_three min_three max_four min_four   -- for this text's walks alone
set_option linter.unusedVariables false
set_option linter.unusedSimpArgs false
open ShortPFnCycles0
namespace ShortPFnCycles5
abbrev m0_ : Array Bool := #[Z,Z,Z,Z,Z,Z,Z,Z,Z,Z,Z,Z,Z,Z,Z,Z,Z,Z,Z,Z,Z,Z,Z,Z,Z,Z,Z,Z,Z,Z,Z,Z,Z,Z,Z,Z,Z,Z,Z,Z,Z,Z,Z,Z,Z,Z,Z,Z,Z,Z,Z,Z,Z,Z,Z,Z]
abbrev m1_ : Array Bool := #[Y,Z,Z,Z,Z,Z,Z,Z,Z,Z,Z,Z,Z,Z,Z,Z,Z,Z,Z,Z,Z,Z,Z,Z,Z,Z,Z,Z,Z,Z,Z,Z,Z,Z,Z,Z,Z,Z,Z,Z,Z,Z,Z,Z,Z,Z,Z,Z,Z,Z,Z,Z,Z,Z,Z,Z]
abbrev m2_ : Array Bool := #[Y,Y,Z,Z,Z,Z,Z,Z,Z,Z,Z,Z,Z,Z,Z,Z,Z,Z,Z,Z,Z,Z,Z,Z,Z,Z,Z,Z,Z,Z,Z,Z,Z,Z,Z,Z,Z,Z,Z,Z,Z,Z,Z,Z,Z,Z,Z,Z,Z,Z,Z,Z,Z,Z,Z,Z]
abbrev m3_ : Array Bool := #[Y,Y,Y,Z,Z,Z,Z,Z,Z,Z,Z,Z,Z,Z,Z,Z,Z,Z,Z,Z,Z,Z,Z,Z,Z,Z,Z,Z,Z,Z,Z,Z,Z,Z,Z,Z,Z,Z,Z,Z,Z,Z,Z,Z,Z,Z,Z,Z,Z,Z,Z,Z,Z,Z,Z,Z]
abbrev m4_ : Array Bool := #[Y,Y,Y,Y,Z,Z,Z,Z,Z,Z,Z,Z,Z,Z,Z,Z,Z,Z,Z,Z,Z,Z,Z,Z,Z,Z,Z,Z,Z,Z,Z,Z,Z,Z,Z,Z,Z,Z,Z,Z,Z,Z,Z,Z,Z,Z,Z,Z,Z,Z,Z,Z,Z,Z,Z,Z]
abbrev m5_ : Array Bool := #[Y,Y,Y,Y,Y,Z,Z,Z,Z,Z,Z,Z,Z,Z,Z,Z,Z,Z,Z,Z,Z,Z,Z,Z,Z,Z,Z,Z,Z,Z,Z,Z,Z,Z,Z,Z,Z,Z,Z,Z,Z,Z,Z,Z,Z,Z,Z,Z,Z,Z,Z,Z,Z,Z,Z,Z]
abbrev m6_ : Array Bool := #[Y,Y,Y,Y,Y,Y,Z,Z,Z,Z,Z,Z,Z,Z,Z,Z,Z,Z,Z,Z,Z,Z,Z,Z,Z,Z,Z,Z,Z,Z,Z,Z,Z,Z,Z,Z,Z,Z,Z,Z,Z,Z,Z,Z,Z,Z,Z,Z,Z,Z,Z,Z,Z,Z,Z,Z]
abbrev m7_ : Array Bool := #[Y,Y,Y,Y,Y,Y,Y,Z,Z,Z,Z,Z,Z,Z,Z,Z,Z,Z,Z,Z,Z,Z,Z,Z,Z,Z,Z,Z,Z,Z,Z,Z,Z,Z,Z,Z,Z,Z,Z,Z,Z,Z,Z,Z,Z,Z,Z,Z,Z,Z,Z,Z,Z,Z,Z,Z]
abbrev m8_ : Array Bool := #[Y,Y,Y,Y,Y,Y,Y,Y,Z,Z,Z,Z,Z,Z,Z,Z,Z,Z,Z,Z,Z,Z,Z,Z,Z,Z,Z,Z,Z,Z,Z,Z,Z,Z,Z,Z,Z,Z,Z,Z,Z,Z,Z,Z,Z,Z,Z,Z,Z,Z,Z,Z,Z,Z,Z,Z]
abbrev m9_ : Array Bool := #[Y,Y,Y,Y,Y,Y,Y,Y,Y,Z,Z,Z,Z,Z,Z,Z,Z,Z,Z,Z,Z,Z,Z,Z,Z,Z,Z,Z,Z,Z,Z,Z,Z,Z,Z,Z,Z,Z,Z,Z,Z,Z,Z,Z,Z,Z,Z,Z,Z,Z,Z,Z,Z,Z,Z,Z]
abbrev m10_ : Array Bool := #[Y,Y,Y,Y,Y,Y,Y,Y,Y,Y,Z,Z,Z,Z,Z,Z,Z,Z,Z,Z,Z,Z,Z,Z,Z,Z,Z,Z,Z,Z,Z,Z,Z,Z,Z,Z,Z,Z,Z,Z,Z,Z,Z,Z,Z,Z,Z,Z,Z,Z,Z,Z,Z,Z,Z,Z]
abbrev m11_ : Array Bool := #[Y,Y,Y,Y,Y,Y,Y,Y,Y,Y,Y,Z,Z,Z,Z,Z,Z,Z,Z,Z,Z,Z,Z,Z,Z,Z,Z,Z,Z,Z,Z,Z,Z,Z,Z,Z,Z,Z,Z,Z,Z,Z,Z,Z,Z,Z,Z,Z,Z,Z,Z,Z,Z,Z,Z,Z]
abbrev m12_ : Array Bool := #[Y,Y,Y,Y,Y,Y,Y,Y,Y,Y,Y,Y,Z,Z,Z,Z,Z,Z,Z,Z,Z,Z,Z,Z,Z,Z,Z,Z,Z,Z,Z,Z,Z,Z,Z,Z,Z,Z,Z,Z,Z,Z,Z,Z,Z,Z,Z,Z,Z,Z,Z,Z,Z,Z,Z,Z]
abbrev m13_ : Array Bool := #[Y,Y,Y,Y,Y,Y,Y,Y,Y,Y,Y,Y,Y,Z,Z,Z,Z,Z,Z,Z,Z,Z,Z,Z,Z,Z,Z,Z,Z,Z,Z,Z,Z,Z,Z,Z,Z,Z,Z,Z,Z,Z,Z,Z,Z,Z,Z,Z,Z,Z,Z,Z,Z,Z,Z,Z]
abbrev m14_ : Array Bool := #[Y,Y,Y,Y,Y,Y,Y,Y,Y,Y,Y,Y,Y,Y,Z,Z,Z,Z,Z,Z,Z,Z,Z,Z,Z,Z,Z,Z,Z,Z,Z,Z,Z,Z,Z,Z,Z,Z,Z,Z,Z,Z,Z,Z,Z,Z,Z,Z,Z,Z,Z,Z,Z,Z,Z,Z]
abbrev m15_ : Array Bool := #[Y,Y,Y,Y,Y,Y,Y,Y,Y,Y,Y,Y,Y,Y,Y,Z,Z,Z,Z,Z,Z,Z,Z,Z,Z,Z,Z,Z,Z,Z,Z,Z,Z,Z,Z,Z,Z,Z,Z,Z,Z,Z,Z,Z,Z,Z,Z,Z,Z,Z,Z,Z,Z,Z,Z,Z]
abbrev m16_ : Array Bool := #[Y,Y,Y,Y,Y,Y,Y,Y,Y,Y,Y,Y,Y,Y,Y,Y,Z,Z,Z,Z,Z,Z,Z,Z,Z,Z,Z,Z,Z,Z,Z,Z,Z,Z,Z,Z,Z,Z,Z,Z,Z,Z,Z,Z,Z,Z,Z,Z,Z,Z,Z,Z,Z,Z,Z,Z]
abbrev m17_ : Array Bool := #[Y,Y,Y,Y,Y,Y,Y,Y,Y,Y,Y,Y,Y,Y,Y,Y,Y,Z,Z,Z,Z,Z,Z,Z,Z,Z,Z,Z,Z,Z,Z,Z,Z,Z,Z,Z,Z,Z,Z,Z,Z,Z,Z,Z,Z,Z,Z,Z,Z,Z,Z,Z,Z,Z,Z,Z]
abbrev m18_ : Array Bool := #[Y,Y,Y,Y,Y,Y,Y,Y,Y,Y,Y,Y,Y,Y,Y,Y,Y,Y,Z,Z,Z,Z,Z,Z,Z,Z,Z,Z,Z,Z,Z,Z,Z,Z,Z,Z,Z,Z,Z,Z,Z,Z,Z,Z,Z,Z,Z,Z,Z,Z,Z,Z,Z,Z,Z,Z]
abbrev m19_ : Array Bool := #[Y,Y,Y,Y,Y,Y,Y,Y,Y,Y,Y,Y,Y,Y,Y,Y,Y,Y,Y,Z,Z,Z,Z,Z,Z,Z,Z,Z,Z,Z,Z,Z,Z,Z,Z,Z,Z,Z,Z,Z,Z,Z,Z,Z,Z,Z,Z,Z,Z,Z,Z,Z,Z,Z,Z,Z]
abbrev m20_ : Array Bool := #[Y,Y,Y,Y,Y,Y,Y,Y,Y,Y,Y,Y,Y,Y,Y,Y,Y,Y,Y,Y,Z,Z,Z,Z,Z,Z,Z,Z,Z,Z,Z,Z,Z,Z,Z,Z,Z,Z,Z,Z,Z,Z,Z,Z,Z,Z,Z,Z,Z,Z,Z,Z,Z,Z,Z,Z]
abbrev m21_ : Array Bool := #[Y,Y,Y,Y,Y,Y,Y,Y,Y,Y,Y,Y,Y,Y,Y,Y,Y,Y,Y,Y,Y,Z,Z,Z,Z,Z,Z,Z,Z,Z,Z,Z,Z,Z,Z,Z,Z,Z,Z,Z,Z,Z,Z,Z,Z,Z,Z,Z,Z,Z,Z,Z,Z,Z,Z,Z]
abbrev m22_ : Array Bool := #[Y,Y,Y,Y,Y,Y,Y,Y,Y,Y,Y,Y,Y,Y,Y,Y,Y,Y,Y,Y,Y,Y,Z,Z,Z,Z,Z,Z,Z,Z,Z,Z,Z,Z,Z,Z,Z,Z,Z,Z,Z,Z,Z,Z,Z,Z,Z,Z,Z,Z,Z,Z,Z,Z,Z,Z]
abbrev m23_ : Array Bool := #[Y,Y,Y,Y,Y,Y,Y,Y,Y,Y,Y,Y,Y,Y,Y,Y,Y,Y,Y,Y,Y,Y,Y,Z,Z,Z,Z,Z,Z,Z,Z,Z,Z,Z,Z,Z,Z,Z,Z,Z,Z,Z,Z,Z,Z,Z,Z,Z,Z,Z,Z,Z,Z,Z,Z,Z]
abbrev m24_ : Array Bool := #[Y,Y,Y,Y,Y,Y,Y,Y,Y,Y,Y,Y,Y,Y,Y,Y,Y,Y,Y,Y,Y,Y,Y,Y,Z,Z,Z,Z,Z,Z,Z,Z,Z,Z,Z,Z,Z,Z,Z,Z,Z,Z,Z,Z,Z,Z,Z,Z,Z,Z,Z,Z,Z,Z,Z,Z]
abbrev m25_ : Array Bool := #[Y,Y,Y,Y,Y,Y,Y,Y,Y,Y,Y,Y,Y,Y,Y,Y,Y,Y,Y,Y,Y,Y,Y,Y,Y,Z,Z,Z,Z,Z,Z,Z,Z,Z,Z,Z,Z,Z,Z,Z,Z,Z,Z,Z,Z,Z,Z,Z,Z,Z,Z,Z,Z,Z,Z,Z]
abbrev m26_ : Array Bool := #[Y,Y,Y,Y,Y,Y,Y,Y,Y,Y,Y,Y,Y,Y,Y,Y,Y,Y,Y,Y,Y,Y,Y,Y,Y,Y,Z,Z,Z,Z,Z,Z,Z,Z,Z,Z,Z,Z,Z,Z,Z,Z,Z,Z,Z,Z,Z,Z,Z,Z,Z,Z,Z,Z,Z,Z]
abbrev m27_ : Array Bool := #[Y,Y,Y,Y,Y,Y,Y,Y,Y,Y,Y,Y,Y,Y,Y,Y,Y,Y,Y,Y,Y,Y,Y,Y,Y,Y,Y,Z,Z,Z,Z,Z,Z,Z,Z,Z,Z,Z,Z,Z,Z,Z,Z,Z,Z,Z,Z,Z,Z,Z,Z,Z,Z,Z,Z,Z]
abbrev m28_ : Array Bool := #[Y,Y,Y,Y,Y,Y,Y,Y,Y,Y,Y,Y,Y,Y,Y,Y,Y,Y,Y,Y,Y,Y,Y,Y,Y,Y,Y,Y,Z,Z,Z,Z,Z,Z,Z,Z,Z,Z,Z,Z,Z,Z,Z,Z,Z,Z,Z,Z,Z,Z,Z,Z,Z,Z,Z,Z]
abbrev m29_ : Array Bool := #[Y,Y,Y,Y,Y,Y,Y,Y,Y,Y,Y,Y,Y,Y,Y,Y,Y,Y,Y,Y,Y,Y,Y,Y,Y,Y,Y,Y,Y,Z,Z,Z,Z,Z,Z,Z,Z,Z,Z,Z,Z,Z,Z,Z,Z,Z,Z,Z,Z,Z,Z,Z,Z,Z,Z,Z]
abbrev m30_ : Array Bool := #[Y,Y,Y,Y,Y,Y,Y,Y,Y,Y,Y,Y,Y,Y,Y,Y,Y,Y,Y,Y,Y,Y,Y,Y,Y,Y,Y,Y,Y,Y,Z,Z,Z,Z,Z,Z,Z,Z,Z,Z,Z,Z,Z,Z,Z,Z,Z,Z,Z,Z,Z,Z,Z,Z,Z,Z]
abbrev m31_ : Array Bool := #[Y,Y,Y,Y,Y,Y,Y,Y,Y,Y,Y,Y,Y,Y,Y,Y,Y,Y,Y,Y,Y,Y,Y,Y,Y,Y,Y,Y,Y,Y,Y,Z,Z,Z,Z,Z,Z,Z,Z,Z,Z,Z,Z,Z,Z,Z,Z,Z,Z,Z,Z,Z,Z,Z,Z,Z]
abbrev m32_ : Array Bool := #[Y,Y,Y,Y,Y,Y,Y,Y,Y,Y,Y,Y,Y,Y,Y,Y,Y,Y,Y,Y,Y,Y,Y,Y,Y,Y,Y,Y,Y,Y,Y,Y,Z,Z,Z,Z,Z,Z,Z,Z,Z,Z,Z,Z,Z,Z,Z,Z,Z,Z,Z,Z,Z,Z,Z,Z]
abbrev m33_ : Array Bool := #[Y,Y,Y,Y,Y,Y,Y,Y,Y,Y,Y,Y,Y,Y,Y,Y,Y,Y,Y,Y,Y,Y,Y,Y,Y,Y,Y,Y,Y,Y,Y,Y,Y,Z,Z,Z,Z,Z,Z,Z,Z,Z,Z,Z,Z,Z,Z,Z,Z,Z,Z,Z,Z,Z,Z,Z]
abbrev m34_ : Array Bool := #[Y,Y,Y,Y,Y,Y,Y,Y,Y,Y,Y,Y,Y,Y,Y,Y,Y,Y,Y,Y,Y,Y,Y,Y,Y,Y,Y,Y,Y,Y,Y,Y,Y,Y,Z,Z,Z,Z,Z,Z,Z,Z,Z,Z,Z,Z,Z,Z,Z,Z,Z,Z,Z,Z,Z,Z]
abbrev m35_ : Array Bool := #[Y,Y,Y,Y,Y,Y,Y,Y,Y,Y,Y,Y,Y,Y,Y,Y,Y,Y,Y,Y,Y,Y,Y,Y,Y,Y,Y,Y,Y,Y,Y,Y,Y,Y,Y,Z,Z,Z,Z,Z,Z,Z,Z,Z,Z,Z,Z,Z,Z,Z,Z,Z,Z,Z,Z,Z]
abbrev m36_ : Array Bool := #[Y,Y,Y,Y,Y,Y,Y,Y,Y,Y,Y,Y,Y,Y,Y,Y,Y,Y,Y,Y,Y,Y,Y,Y,Y,Y,Y,Y,Y,Y,Y,Y,Y,Y,Y,Y,Z,Z,Z,Z,Z,Z,Z,Z,Z,Z,Z,Z,Z,Z,Z,Z,Z,Z,Z,Z]
abbrev m37_ : Array Bool := #[Y,Y,Y,Y,Y,Y,Y,Y,Y,Y,Y,Y,Y,Y,Y,Y,Y,Y,Y,Y,Y,Y,Y,Y,Y,Y,Y,Y,Y,Y,Y,Y,Y,Y,Y,Y,Y,Z,Z,Z,Z,Z,Z,Z,Z,Z,Z,Z,Z,Z,Z,Z,Z,Z,Z,Z]
abbrev m38_ : Array Bool := #[Y,Y,Y,Y,Y,Y,Y,Y,Y,Y,Y,Y,Y,Y,Y,Y,Y,Y,Y,Y,Y,Y,Y,Y,Y,Y,Y,Y,Y,Y,Y,Y,Y,Y,Y,Y,Y,Y,Z,Z,Z,Z,Z,Z,Z,Z,Z,Z,Z,Z,Z,Z,Z,Z,Z,Z]
abbrev m39_ : Array Bool := #[Y,Y,Y,Y,Y,Y,Y,Y,Y,Y,Y,Y,Y,Y,Y,Y,Y,Y,Y,Y,Y,Y,Y,Y,Y,Y,Y,Y,Y,Y,Y,Y,Y,Y,Y,Y,Y,Y,Y,Z,Z,Z,Z,Z,Z,Z,Z,Z,Z,Z,Z,Z,Z,Z,Z,Z]
abbrev m40_ : Array Bool := #[Y,Y,Y,Y,Y,Y,Y,Y,Y,Y,Y,Y,Y,Y,Y,Y,Y,Y,Y,Y,Y,Y,Y,Y,Y,Y,Y,Y,Y,Y,Y,Y,Y,Y,Y,Y,Y,Y,Y,Y,Z,Z,Z,Z,Z,Z,Z,Z,Z,Z,Z,Z,Z,Z,Z,Z]
abbrev m41_ : Array Bool := #[Y,Y,Y,Y,Y,Y,Y,Y,Y,Y,Y,Y,Y,Y,Y,Y,Y,Y,Y,Y,Y,Y,Y,Y,Y,Y,Y,Y,Y,Y,Y,Y,Y,Y,Y,Y,Y,Y,Y,Y,Y,Z,Z,Z,Z,Z,Z,Z,Z,Z,Z,Z,Z,Z,Z,Z]
abbrev m42_ : Array Bool := #[Y,Y,Y,Y,Y,Y,Y,Y,Y,Y,Y,Y,Y,Y,Y,Y,Y,Y,Y,Y,Y,Y,Y,Y,Y,Y,Y,Y,Y,Y,Y,Y,Y,Y,Y,Y,Y,Y,Y,Y,Y,Z,Y,Z,Z,Z,Z,Z,Z,Z,Z,Z,Z,Z,Z,Z]
abbrev m43_ : Array Bool := #[Y,Y,Y,Y,Y,Y,Y,Y,Y,Y,Y,Y,Y,Y,Y,Y,Y,Y,Y,Y,Y,Y,Y,Y,Y,Y,Y,Y,Y,Y,Y,Y,Y,Y,Y,Y,Y,Y,Y,Y,Y,Y,Y,Z,Z,Z,Z,Z,Z,Z,Z,Z,Z,Z,Z,Z]
abbrev m44_ : Array Bool := #[Y,Y,Y,Y,Y,Y,Y,Y,Y,Y,Y,Y,Y,Y,Y,Y,Y,Y,Y,Y,Y,Y,Y,Y,Y,Y,Y,Y,Y,Y,Y,Y,Y,Y,Y,Y,Y,Y,Y,Y,Y,Y,Y,Y,Z,Z,Z,Z,Z,Z,Z,Z,Z,Z,Z,Z]
abbrev m45_ : Array Bool := #[Y,Y,Y,Y,Y,Y,Y,Y,Y,Y,Y,Y,Y,Y,Y,Y,Y,Y,Y,Y,Y,Y,Y,Y,Y,Y,Y,Y,Y,Y,Y,Y,Y,Y,Y,Y,Y,Y,Y,Y,Y,Y,Y,Y,Y,Z,Z,Z,Z,Z,Z,Z,Z,Z,Z,Z]
abbrev m46_ : Array Bool := #[Y,Y,Y,Y,Y,Y,Y,Y,Y,Y,Y,Y,Y,Y,Y,Y,Y,Y,Y,Y,Y,Y,Y,Y,Y,Y,Y,Y,Y,Y,Y,Y,Y,Y,Y,Y,Y,Y,Y,Y,Y,Y,Y,Y,Y,Y,Z,Z,Z,Z,Z,Z,Z,Z,Z,Z]
abbrev m47_ : Array Bool := #[Y,Y,Y,Y,Y,Y,Y,Y,Y,Y,Y,Y,Y,Y,Y,Y,Y,Y,Y,Y,Y,Y,Y,Y,Y,Y,Y,Y,Y,Y,Y,Y,Y,Y,Y,Y,Y,Y,Y,Y,Y,Y,Y,Y,Y,Y,Y,Z,Z,Z,Z,Z,Z,Z,Z,Z]
abbrev m48_ : Array Bool := #[Y,Y,Y,Y,Y,Y,Y,Y,Y,Y,Y,Y,Y,Y,Y,Y,Y,Y,Y,Y,Y,Y,Y,Y,Y,Y,Y,Y,Y,Y,Y,Y,Y,Y,Y,Y,Y,Y,Y,Y,Y,Y,Y,Y,Y,Y,Y,Y,Z,Z,Z,Z,Z,Z,Z,Z]
abbrev m49_ : Array Bool := #[Y,Y,Y,Y,Y,Y,Y,Y,Y,Y,Y,Y,Y,Y,Y,Y,Y,Y,Y,Y,Y,Y,Y,Y,Y,Y,Y,Y,Y,Y,Y,Y,Y,Y,Y,Y,Y,Y,Y,Y,Y,Y,Y,Y,Y,Y,Y,Y,Y,Z,Z,Z,Z,Z,Z,Z]
abbrev m50_ : Array Bool := #[Y,Y,Y,Y,Y,Y,Y,Y,Y,Y,Y,Y,Y,Y,Y,Y,Y,Y,Y,Y,Y,Y,Y,Y,Y,Y,Y,Y,Y,Y,Y,Y,Y,Y,Y,Y,Y,Y,Y,Y,Y,Y,Y,Y,Y,Y,Y,Y,Y,Y,Z,Z,Z,Z,Z,Z]
abbrev m51_ : Array Bool := #[Y,Y,Y,Y,Y,Y,Y,Y,Y,Y,Y,Y,Y,Y,Y,Y,Y,Y,Y,Y,Y,Y,Y,Y,Y,Y,Y,Y,Y,Y,Y,Y,Y,Y,Y,Y,Y,Y,Y,Y,Y,Y,Y,Y,Y,Y,Y,Y,Y,Y,Y,Z,Z,Z,Z,Z]
abbrev m52_ : Array Bool := #[Y,Y,Y,Y,Y,Y,Y,Y,Y,Y,Y,Y,Y,Y,Y,Y,Y,Y,Y,Y,Y,Y,Y,Y,Y,Y,Y,Y,Y,Y,Y,Y,Y,Y,Y,Y,Y,Y,Y,Y,Y,Y,Y,Y,Y,Y,Y,Y,Y,Y,Y,Y,Z,Z,Z,Z]
abbrev m53_ : Array Bool := #[Y,Y,Y,Y,Y,Y,Y,Y,Y,Y,Y,Y,Y,Y,Y,Y,Y,Y,Y,Y,Y,Y,Y,Y,Y,Y,Y,Y,Y,Y,Y,Y,Y,Y,Y,Y,Y,Y,Y,Y,Y,Y,Y,Y,Y,Y,Y,Y,Y,Y,Y,Y,Y,Z,Z,Z]
abbrev m54_ : Array Bool := #[Y,Y,Y,Y,Y,Y,Y,Y,Y,Y,Y,Y,Y,Y,Y,Y,Y,Y,Y,Y,Y,Y,Y,Y,Y,Y,Y,Y,Y,Y,Y,Y,Y,Y,Y,Y,Y,Y,Y,Y,Y,Y,Y,Y,Y,Y,Y,Y,Y,Y,Y,Y,Y,Y,Z,Z]
abbrev m55_ : Array Bool := #[Y,Y,Y,Y,Y,Y,Y,Y,Y,Y,Y,Y,Y,Y,Y,Y,Y,Y,Y,Y,Y,Y,Y,Y,Y,Y,Y,Y,Y,Y,Y,Y,Y,Y,Y,Y,Y,Y,Y,Y,Y,Y,Y,Y,Y,Y,Y,Y,Y,Y,Y,Y,Y,Y,Y,Z]
abbrev m56_ : Array Bool := #[Y,Y,Y,Y,Y,Y,Y,Y,Y,Y,Y,Y,Y,Y,Y,Y,Y,Y,Y,Y,Y,Y,Y,Y,Y,Y,Y,Y,Y,Y,Y,Y,Y,Y,Y,Y,Y,Y,Y,Y,Y,Y,Y,Y,Y,Y,Y,Y,Y,Y,Y,Y,Y,Y,Y,Y]
abbrev m57_ : Array Bool := #[Z,Z,Z,Z,Z,Z,Z,Z,Z,Z,Z,Z,Z,Z,Z,Z,Z,Z,Z,Z,Z,Z,Z,Z,Z,Z,Z,Z,Z,Z,Z,Z,Z,Z,Z,Z,Z,Z,Z,Z,Z,Z,Z,Z,Z,Z,Z]
abbrev m58_ : Array Bool := #[Y,Z,Z,Z,Z,Z,Z,Z,Z,Z,Z,Z,Z,Z,Z,Z,Z,Z,Z,Z,Z,Z,Z,Z,Z,Z,Z,Z,Z,Z,Z,Z,Z,Z,Z,Z,Z,Z,Z,Z,Z,Z,Z,Z,Z,Z,Z]
abbrev m59_ : Array Bool := #[Y,Y,Z,Z,Z,Z,Z,Z,Z,Z,Z,Z,Z,Z,Z,Z,Z,Z,Z,Z,Z,Z,Z,Z,Z,Z,Z,Z,Z,Z,Z,Z,Z,Z,Z,Z,Z,Z,Z,Z,Z,Z,Z,Z,Z,Z,Z]
abbrev m60_ : Array Bool := #[Y,Y,Y,Z,Z,Z,Z,Z,Z,Z,Z,Z,Z,Z,Z,Z,Z,Z,Z,Z,Z,Z,Z,Z,Z,Z,Z,Z,Z,Z,Z,Z,Z,Z,Z,Z,Z,Z,Z,Z,Z,Z,Z,Z,Z,Z,Z]
abbrev m61_ : Array Bool := #[Y,Y,Y,Y,Z,Z,Z,Z,Z,Z,Z,Z,Z,Z,Z,Z,Z,Z,Z,Z,Z,Z,Z,Z,Z,Z,Z,Z,Z,Z,Z,Z,Z,Z,Z,Z,Z,Z,Z,Z,Z,Z,Z,Z,Z,Z,Z]
abbrev m62_ : Array Bool := #[Y,Y,Y,Y,Y,Z,Z,Z,Z,Z,Z,Z,Z,Z,Z,Z,Z,Z,Z,Z,Z,Z,Z,Z,Z,Z,Z,Z,Z,Z,Z,Z,Z,Z,Z,Z,Z,Z,Z,Z,Z,Z,Z,Z,Z,Z,Z]
abbrev m63_ : Array Bool := #[Y,Y,Y,Y,Y,Z,Y,Z,Z,Z,Z,Z,Z,Z,Z,Z,Z,Z,Z,Z,Z,Z,Z,Z,Z,Z,Z,Z,Z,Z,Z,Z,Z,Z,Z,Z,Z,Z,Z,Z,Z,Z,Z,Z,Z,Z,Z]
abbrev m64_ : Array Bool := #[Y,Y,Y,Y,Y,Z,Y,Z,Z,Y,Z,Z,Z,Z,Z,Z,Z,Z,Z,Z,Z,Z,Z,Z,Z,Z,Z,Z,Z,Z,Z,Z,Z,Z,Z,Z,Z,Z,Z,Z,Z,Z,Z,Z,Z,Z,Z]
abbrev m65_ : Array Bool := #[Y,Y,Y,Y,Y,Y,Y,Z,Z,Y,Z,Z,Z,Z,Z,Z,Z,Z,Z,Z,Z,Z,Z,Z,Z,Z,Z,Z,Z,Z,Z,Z,Z,Z,Z,Z,Z,Z,Z,Z,Z,Z,Z,Z,Z,Z,Z]
abbrev m66_ : Array Bool := #[Y,Y,Y,Y,Y,Y,Y,Y,Z,Y,Z,Z,Z,Z,Z,Z,Z,Z,Z,Z,Z,Z,Z,Z,Z,Z,Z,Z,Z,Z,Z,Z,Z,Z,Z,Z,Z,Z,Z,Z,Z,Z,Z,Z,Z,Z,Z]
abbrev m67_ : Array Bool := #[Y,Y,Y,Y,Y,Y,Y,Y,Y,Y,Z,Z,Z,Z,Z,Z,Z,Z,Z,Z,Z,Z,Z,Z,Z,Z,Z,Z,Z,Z,Z,Z,Z,Z,Z,Z,Z,Z,Z,Z,Z,Z,Z,Z,Z,Z,Z]
abbrev m68_ : Array Bool := #[Y,Y,Y,Y,Y,Y,Y,Y,Y,Y,Y,Z,Z,Z,Z,Z,Z,Z,Z,Z,Z,Z,Z,Z,Z,Z,Z,Z,Z,Z,Z,Z,Z,Z,Z,Z,Z,Z,Z,Z,Z,Z,Z,Z,Z,Z,Z]
abbrev m69_ : Array Bool := #[Y,Y,Y,Y,Y,Y,Y,Y,Y,Y,Y,Y,Z,Z,Z,Z,Z,Z,Z,Z,Z,Z,Z,Z,Z,Z,Z,Z,Z,Z,Z,Z,Z,Z,Z,Z,Z,Z,Z,Z,Z,Z,Z,Z,Z,Z,Z]
abbrev m70_ : Array Bool := #[Y,Y,Y,Y,Y,Y,Y,Y,Y,Y,Y,Y,Y,Z,Z,Z,Z,Z,Z,Z,Z,Z,Z,Z,Z,Z,Z,Z,Z,Z,Z,Z,Z,Z,Z,Z,Z,Z,Z,Z,Z,Z,Z,Z,Z,Z,Z]
abbrev m71_ : Array Bool := #[Y,Y,Y,Y,Y,Y,Y,Y,Y,Y,Y,Y,Y,Y,Z,Z,Z,Z,Z,Z,Z,Z,Z,Z,Z,Z,Z,Z,Z,Z,Z,Z,Z,Z,Z,Z,Z,Z,Z,Z,Z,Z,Z,Z,Z,Z,Z]
abbrev m72_ : Array Bool := #[Y,Y,Y,Y,Y,Y,Y,Y,Y,Y,Y,Y,Y,Y,Y,Z,Z,Z,Z,Z,Z,Z,Z,Z,Z,Z,Z,Z,Z,Z,Z,Z,Z,Z,Z,Z,Z,Z,Z,Z,Z,Z,Z,Z,Z,Z,Z]
abbrev m73_ : Array Bool := #[Y,Y,Y,Y,Y,Y,Y,Y,Y,Y,Y,Y,Y,Y,Y,Y,Z,Z,Z,Z,Z,Z,Z,Z,Z,Z,Z,Z,Z,Z,Z,Z,Z,Z,Z,Z,Z,Z,Z,Z,Z,Z,Z,Z,Z,Z,Z]
abbrev m74_ : Array Bool := #[Y,Y,Y,Y,Y,Y,Y,Y,Y,Y,Y,Y,Y,Y,Y,Y,Y,Z,Z,Z,Z,Z,Z,Z,Z,Z,Z,Z,Z,Z,Z,Z,Z,Z,Z,Z,Z,Z,Z,Z,Z,Z,Z,Z,Z,Z,Z]
abbrev m75_ : Array Bool := #[Y,Y,Y,Y,Y,Y,Y,Y,Y,Y,Y,Y,Y,Y,Y,Y,Y,Y,Z,Z,Z,Z,Z,Z,Z,Z,Z,Z,Z,Z,Z,Z,Z,Z,Z,Z,Z,Z,Z,Z,Z,Z,Z,Z,Z,Z,Z]
abbrev m76_ : Array Bool := #[Y,Y,Y,Y,Y,Y,Y,Y,Y,Y,Y,Y,Y,Y,Y,Y,Y,Y,Y,Z,Z,Z,Z,Z,Z,Z,Z,Z,Z,Z,Z,Z,Z,Z,Z,Z,Z,Z,Z,Z,Z,Z,Z,Z,Z,Z,Z]
abbrev m77_ : Array Bool := #[Y,Y,Y,Y,Y,Y,Y,Y,Y,Y,Y,Y,Y,Y,Y,Y,Y,Y,Y,Y,Z,Z,Z,Z,Z,Z,Z,Z,Z,Z,Z,Z,Z,Z,Z,Z,Z,Z,Z,Z,Z,Z,Z,Z,Z,Z,Z]
abbrev m78_ : Array Bool := #[Y,Y,Y,Y,Y,Y,Y,Y,Y,Y,Y,Y,Y,Y,Y,Y,Y,Y,Y,Y,Y,Z,Z,Z,Z,Z,Z,Z,Z,Z,Z,Z,Z,Z,Z,Z,Z,Z,Z,Z,Z,Z,Z,Z,Z,Z,Z]
abbrev m79_ : Array Bool := #[Y,Y,Y,Y,Y,Y,Y,Y,Y,Y,Y,Y,Y,Y,Y,Y,Y,Y,Y,Y,Y,Y,Z,Z,Z,Z,Z,Z,Z,Z,Z,Z,Z,Z,Z,Z,Z,Z,Z,Z,Z,Z,Z,Z,Z,Z,Z]
abbrev m80_ : Array Bool := #[Y,Y,Y,Y,Y,Y,Y,Y,Y,Y,Y,Y,Y,Y,Y,Y,Y,Y,Y,Y,Y,Y,Y,Z,Z,Z,Z,Z,Z,Z,Z,Z,Z,Z,Z,Z,Z,Z,Z,Z,Z,Z,Z,Z,Z,Z,Z]
abbrev m81_ : Array Bool := #[Y,Y,Y,Y,Y,Y,Y,Y,Y,Y,Y,Y,Y,Y,Y,Y,Y,Y,Y,Y,Y,Y,Y,Y,Z,Z,Z,Z,Z,Z,Z,Z,Z,Z,Z,Z,Z,Z,Z,Z,Z,Z,Z,Z,Z,Z,Z]
abbrev m82_ : Array Bool := #[Y,Y,Y,Y,Y,Y,Y,Y,Y,Y,Y,Y,Y,Y,Y,Y,Y,Y,Y,Y,Y,Y,Y,Y,Y,Z,Z,Z,Z,Z,Z,Z,Z,Z,Z,Z,Z,Z,Z,Z,Z,Z,Z,Z,Z,Z,Z]
abbrev m83_ : Array Bool := #[Y,Y,Y,Y,Y,Y,Y,Y,Y,Y,Y,Y,Y,Y,Y,Y,Y,Y,Y,Y,Y,Y,Y,Y,Y,Y,Z,Z,Z,Z,Z,Z,Z,Z,Z,Z,Z,Z,Z,Z,Z,Z,Z,Z,Z,Z,Z]
abbrev m84_ : Array Bool := #[Y,Y,Y,Y,Y,Y,Y,Y,Y,Y,Y,Y,Y,Y,Y,Y,Y,Y,Y,Y,Y,Y,Y,Y,Y,Y,Y,Z,Z,Z,Z,Z,Z,Z,Z,Z,Z,Z,Z,Z,Z,Z,Z,Z,Z,Z,Z]
abbrev m85_ : Array Bool := #[Y,Y,Y,Y,Y,Y,Y,Y,Y,Y,Y,Y,Y,Y,Y,Y,Y,Y,Y,Y,Y,Y,Y,Y,Y,Y,Y,Y,Z,Z,Z,Z,Z,Z,Z,Z,Z,Z,Z,Z,Z,Z,Z,Z,Z,Z,Z]
abbrev m86_ : Array Bool := #[Y,Y,Y,Y,Y,Y,Y,Y,Y,Y,Y,Y,Y,Y,Y,Y,Y,Y,Y,Y,Y,Y,Y,Y,Y,Y,Y,Y,Y,Z,Z,Z,Z,Z,Z,Z,Z,Z,Z,Z,Z,Z,Z,Z,Z,Z,Z]
abbrev m87_ : Array Bool := #[Y,Y,Y,Y,Y,Y,Y,Y,Y,Y,Y,Y,Y,Y,Y,Y,Y,Y,Y,Y,Y,Y,Y,Y,Y,Y,Y,Y,Y,Y,Z,Z,Z,Z,Z,Z,Z,Z,Z,Z,Z,Z,Z,Z,Z,Z,Z]
abbrev m88_ : Array Bool := #[Y,Y,Y,Y,Y,Y,Y,Y,Y,Y,Y,Y,Y,Y,Y,Y,Y,Y,Y,Y,Y,Y,Y,Y,Y,Y,Y,Y,Y,Y,Y,Z,Z,Z,Z,Z,Z,Z,Z,Z,Z,Z,Z,Z,Z,Z,Z]
abbrev m89_ : Array Bool := #[Y,Y,Y,Y,Y,Y,Y,Y,Y,Y,Y,Y,Y,Y,Y,Y,Y,Y,Y,Y,Y,Y,Y,Y,Y,Y,Y,Y,Y,Y,Y,Y,Z,Z,Z,Z,Z,Z,Z,Z,Z,Z,Z,Z,Z,Z,Z]
abbrev m90_ : Array Bool := #[Y,Y,Y,Y,Y,Y,Y,Y,Y,Y,Y,Y,Y,Y,Y,Y,Y,Y,Y,Y,Y,Y,Y,Y,Y,Y,Y,Y,Y,Y,Y,Y,Y,Z,Z,Z,Z,Z,Z,Z,Z,Z,Z,Z,Z,Z,Z]
abbrev m91_ : Array Bool := #[Y,Y,Y,Y,Y,Y,Y,Y,Y,Y,Y,Y,Y,Y,Y,Y,Y,Y,Y,Y,Y,Y,Y,Y,Y,Y,Y,Y,Y,Y,Y,Y,Y,Y,Z,Z,Z,Z,Z,Z,Z,Z,Z,Z,Z,Z,Z]
abbrev m92_ : Array Bool := #[Y,Y,Y,Y,Y,Y,Y,Y,Y,Y,Y,Y,Y,Y,Y,Y,Y,Y,Y,Y,Y,Y,Y,Y,Y,Y,Y,Y,Y,Y,Y,Y,Y,Y,Y,Z,Z,Z,Z,Z,Z,Z,Z,Z,Z,Z,Z]
abbrev m93_ : Array Bool := #[Y,Y,Y,Y,Y,Y,Y,Y,Y,Y,Y,Y,Y,Y,Y,Y,Y,Y,Y,Y,Y,Y,Y,Y,Y,Y,Y,Y,Y,Y,Y,Y,Y,Y,Y,Y,Z,Z,Z,Z,Z,Z,Z,Z,Z,Z,Z]
abbrev m94_ : Array Bool := #[Y,Y,Y,Y,Y,Y,Y,Y,Y,Y,Y,Y,Y,Y,Y,Y,Y,Y,Y,Y,Y,Y,Y,Y,Y,Y,Y,Y,Y,Y,Y,Y,Y,Y,Y,Y,Y,Z,Z,Z,Z,Z,Z,Z,Z,Z,Z]
abbrev m95_ : Array Bool := #[Y,Y,Y,Y,Y,Y,Y,Y,Y,Y,Y,Y,Y,Y,Y,Y,Y,Y,Y,Y,Y,Y,Y,Y,Y,Y,Y,Y,Y,Y,Y,Y,Y,Y,Y,Y,Y,Y,Z,Z,Z,Z,Z,Z,Z,Z,Z]
abbrev m96_ : Array Bool := #[Y,Y,Y,Y,Y,Y,Y,Y,Y,Y,Y,Y,Y,Y,Y,Y,Y,Y,Y,Y,Y,Y,Y,Y,Y,Y,Y,Y,Y,Y,Y,Y,Y,Y,Y,Y,Y,Y,Y,Z,Z,Z,Z,Z,Z,Z,Z]
abbrev m97_ : Array Bool := #[Y,Y,Y,Y,Y,Y,Y,Y,Y,Y,Y,Y,Y,Y,Y,Y,Y,Y,Y,Y,Y,Y,Y,Y,Y,Y,Y,Y,Y,Y,Y,Y,Y,Y,Y,Y,Y,Y,Y,Y,Z,Z,Z,Z,Z,Z,Z]
abbrev m98_ : Array Bool := #[Y,Y,Y,Y,Y,Y,Y,Y,Y,Y,Y,Y,Y,Y,Y,Y,Y,Y,Y,Y,Y,Y,Y,Y,Y,Y,Y,Y,Y,Y,Y,Y,Y,Y,Y,Y,Y,Y,Y,Y,Y,Z,Z,Z,Z,Z,Z]
abbrev m99_ : Array Bool := #[Y,Y,Y,Y,Y,Y,Y,Y,Y,Y,Y,Y,Y,Y,Y,Y,Y,Y,Y,Y,Y,Y,Y,Y,Y,Y,Y,Y,Y,Y,Y,Y,Y,Y,Y,Y,Y,Y,Y,Y,Y,Z,Z,Y,Z,Z,Z]
abbrev m100_ : Array Bool := #[Y,Y,Y,Y,Y,Y,Y,Y,Y,Y,Y,Y,Y,Y,Y,Y,Y,Y,Y,Y,Y,Y,Y,Y,Y,Y,Y,Y,Y,Y,Y,Y,Y,Y,Y,Y,Y,Y,Y,Y,Y,Y,Z,Y,Z,Z,Z]
abbrev m101_ : Array Bool := #[Y,Y,Y,Y,Y,Y,Y,Y,Y,Y,Y,Y,Y,Y,Y,Y,Y,Y,Y,Y,Y,Y,Y,Y,Y,Y,Y,Y,Y,Y,Y,Y,Y,Y,Y,Y,Y,Y,Y,Y,Y,Y,Y,Y,Z,Z,Z]
abbrev m102_ : Array Bool := #[Y,Y,Y,Y,Y,Y,Y,Y,Y,Y,Y,Y,Y,Y,Y,Y,Y,Y,Y,Y,Y,Y,Y,Y,Y,Y,Y,Y,Y,Y,Y,Y,Y,Y,Y,Y,Y,Y,Y,Y,Y,Y,Y,Y,Y,Z,Z]
abbrev m103_ : Array Bool := #[Y,Y,Y,Y,Y,Y,Y,Y,Y,Y,Y,Y,Y,Y,Y,Y,Y,Y,Y,Y,Y,Y,Y,Y,Y,Y,Y,Y,Y,Y,Y,Y,Y,Y,Y,Y,Y,Y,Y,Y,Y,Y,Y,Y,Y,Y,Z]
abbrev m104_ : Array Bool := #[Y,Y,Y,Y,Y,Y,Y,Y,Y,Y,Y,Y,Y,Y,Y,Y,Y,Y,Y,Y,Y,Y,Y,Y,Y,Y,Y,Y,Y,Y,Y,Y,Y,Y,Y,Y,Y,Y,Y,Y,Y,Y,Y,Y,Y,Y,Y]
abbrev m105_ : Array Bool := #[Y,Y,Y,Y,Y,Y,Y,Y,Y,Y,Y,Y,Y,Y,Y,Y,Y,Y,Y,Y,Y,Y,Y,Y,Y,Y,Y,Y,Y,Y,Y,Y,Y,Y,Y,Y,Y,Y,Y,Y,Y,Y,Z,Z,Z,Z,Z]
abbrev m106_ : Array Bool := #[Y,Y,Y,Y,Y,Y,Y,Y,Y,Y,Y,Y,Y,Y,Y,Y,Y,Y,Y,Y,Y,Y,Y,Y,Y,Y,Y,Y,Y,Y,Y,Y,Y,Y,Y,Y,Y,Y,Y,Y,Y,Y,Y,Z,Z,Z,Z]
abbrev m107_ : Array Bool := #[Y,Y,Y,Y,Y,Y,Z,Z,Z,Z,Z,Z,Z,Z,Z,Z,Z,Z,Z,Z,Z,Z,Z,Z,Z,Z,Z,Z,Z,Z,Z,Z,Z,Z,Z,Z,Z,Z,Z,Z,Z,Z,Z,Z,Z,Z,Z]
abbrev m108_ : Array Bool := #[Y,Y,Y,Y,Y,Y,Y,Z,Z,Z,Z,Z,Z,Z,Z,Z,Z,Z,Z,Z,Z,Z,Z,Z,Z,Z,Z,Z,Z,Z,Z,Z,Z,Z,Z,Z,Z,Z,Z,Z,Z,Z,Z,Z,Z,Z,Z]
abbrev m109_ : Array Bool := #[Y,Y,Y,Y,Y,Y,Y,Y,Z,Z,Z,Z,Z,Z,Z,Z,Z,Z,Z,Z,Z,Z,Z,Z,Z,Z,Z,Z,Z,Z,Z,Z,Z,Z,Z,Z,Z,Z,Z,Z,Z,Z,Z,Z,Z,Z,Z]
abbrev m110_ : Array Bool := #[Y,Y,Y,Y,Y,Y,Y,Y,Y,Z,Z,Z,Z,Z,Z,Z,Z,Z,Z,Z,Z,Z,Z,Z,Z,Z,Z,Z,Z,Z,Z,Z,Z,Z,Z,Z,Z,Z,Z,Z,Z,Z,Z,Z,Z,Z,Z]
abbrev m111_ : Array Bool := #[Y,Y,Y,Y,Y,Y,Y,Y,Y,Y,Y,Y,Y,Y,Y,Y,Y,Y,Y,Y,Y,Y,Y,Z,Z,Y,Z,Z,Z,Z,Z,Z,Z,Z,Z,Z,Z,Z,Z,Z,Z,Z,Z,Z,Z,Z,Z]
abbrev m112_ : Array Bool := #[Y,Y,Y,Y,Y,Y,Y,Y,Y,Y,Y,Y,Y,Y,Y,Y,Y,Y,Y,Y,Y,Y,Y,Y,Z,Y,Z,Z,Z,Z,Z,Z,Z,Z,Z,Z,Z,Z,Z,Z,Z,Z,Z,Z,Z,Z,Z]
end ShortPFnCycles5
open ShortPFnCycles5

/-! ### laws_FnCycles: function 13 -/
mutual
def laws_FnCycles.j0 : Nat → Int → Int → Bool → List Int → Int → Int → Int → Int → Bool → Int → Bool → Int → Int → Int → Int → Int → Int → Int → Int → Option (Bool)
 | 0, _, _, _, _, _, _, _, _, _, _, _, _, _, _, _, _, _, _, _ => none
 | k + 1, x6, x7, x9, x10, x14, x18, x21, x22, x24, x25, x166, x304000, x304001, x304002, x304003, x327000, x327001, x327002, x327003 => if x166 = true then (none) else (if x24 = true then ((impl_DumpTimes.f k x327000 x327001 x327002 x327003 x21 200).bind fun bt334 => ((spec_DumpTimes.f k x327000 x327001 x327002 x327003 x21 200).bind fun bt338 => (if bt334.2 = true then (if bt338.2 = true then ((laws_qInts.f k bt334.1 bt338.1).bind fun t342 => (if t342 = true then (if x25 > 0 then (if 0 ≤ (wrap64 (x25 - 1)) then (if (wrap64 (x25 - 1)) < (bt338.1.length : Int) then (if (rd bt338.1 (wrap64 (x25 - 1))) > x22 then (none) else (if x25 < (bt338.1.length : Int) then (if 0 ≤ x25 then (if (rd bt338.1 x25) ≤ x22 then (none) else (laws_FnCycles.j1 k x6 x7 x9 x10 x14 x18 x304000 x304001 x304002 x304003)) else (none)) else (laws_FnCycles.j1 k x6 x7 x9 x10 x14 x18 x304000 x304001 x304002 x304003))) else (none)) else (none)) else (if x25 < (bt338.1.length : Int) then (if 0 ≤ x25 then (if (rd bt338.1 x25) ≤ x22 then (none) else (laws_FnCycles.j1 k x6 x7 x9 x10 x14 x18 x304000 x304001 x304002 x304003)) else (none)) else (laws_FnCycles.j1 k x6 x7 x9 x10 x14 x18 x304000 x304001 x304002 x304003))) else (none))) else (none)) else (none)))) else (laws_FnCycles.j1 k x6 x7 x9 x10 x14 x18 x304000 x304001 x304002 x304003))
def laws_FnCycles.j1 : Nat → Int → Int → Bool → List Int → Int → Int → Int → Int → Int → Int → Option (Bool)
 | 0, _, _, _, _, _, _, _, _, _, _ => none
 | k + 1, x6, x7, x9, x10, x14, x18, x304000, x304001, x304002, x304003 => if x9 = true then ((impl_RoundTime.f k x304000 x304001 x304002 x304003 x6).bind fun bt346 => ((impl_CycleTime.f k x304000 x304001 x304002 x304003).bind fun bt348 => (if bt346.2 = true then (if bt348.2 = true then (if x18 < 0 then (none) else (if x14 < 0 then (none) else (laws_FnCycles.j2 k x6 x10 bt346.1 bt348.1 ((x10.length : Int) != x7) x304000 x304001 x304002 x304003))) else (none)) else (none)))) else (some true)
def laws_FnCycles.j2 : Nat → Int → List Int → Int → Int → Bool → Int → Int → Int → Int → Option (Bool)
 | 0, _, _, _, _, _, _, _, _, _ => none
 | k + 1, x6, x10, x31, x33, x251, x304000, x304001, x304002, x304003 => if x251 = true then (none) else (laws_FnCycles.l0 k x6 x10 x31 x33 x10 (x10.length : Int) 0 x304000 x304001 x304002 x304003)
def laws_FnCycles.l0 : Nat → Int → List Int → Int → Int → List Int → Int → Int → Int → Int → Int → Int → Option (Bool)
 | 0, _, _, _, _, _, _, _, _, _, _, _ => none
 | k + 1, x6, x10, x31, x33, x252, x253, x254, x304000, x304001, x304002, x304003 => if x254 < x253 then (if 0 ≤ x254 then (if x254 < (x252.length : Int) then (if x254 = 0 then (if (rd x252 x254) = (wrap64 ((wrap64 (x304000 + x304001)) + x304002)) then (if x254 > 0 then (none) else (if x254 ≥ x6 then (if 0 ≤ (wrap64 (x254 - x6)) then (if (wrap64 (x254 - x6)) < (x10.length : Int) then (if (wrap64 ((rd x252 x254) - (rd x10 (wrap64 (x254 - x6))))) = x31 then (laws_FnCycles.l0 k x6 x10 x31 x33 x252 x253 (wrap64 (x254 + 1)) x304000 x304001 x304002 x304003) else (none)) else (none)) else (none)) else (laws_FnCycles.l0 k x6 x10 x31 x33 x252 x253 (wrap64 (x254 + 1)) x304000 x304001 x304002 x304003))) else (none)) else (if x254 > 0 then (if 0 ≤ (wrap64 (x254 - 1)) then (if (wrap64 (x254 - 1)) < (x10.length : Int) then (if (wrap64 ((rd x252 x254) - (rd x10 (wrap64 (x254 - 1))))) < x304002 then (none) else (if x254 ≥ x6 then (if 0 ≤ (wrap64 (x254 - x6)) then (if (wrap64 (x254 - x6)) < (x10.length : Int) then (if (wrap64 ((rd x252 x254) - (rd x10 (wrap64 (x254 - x6))))) = x31 then (laws_FnCycles.l0 k x6 x10 x31 x33 x252 x253 (wrap64 (x254 + 1)) x304000 x304001 x304002 x304003) else (none)) else (none)) else (none)) else (laws_FnCycles.l0 k x6 x10 x31 x33 x252 x253 (wrap64 (x254 + 1)) x304000 x304001 x304002 x304003))) else (none)) else (none)) else (none))) else (none)) else (none)) else (some (decide (x31 ≥ x33)))
end
def laws_FnCycles.f (k : Nat) (l0 : List Int) (l1 : List Int) : Option (Bool) := if (wrap64 ((l0.length : Int) + (l1.length : Int))) > 1048576 then (some true) else ((spec_DrawDumpTimes.f l0).bind fun bt297 => ((impl_DumpTimes.f k bt297.1 bt297.2.1 bt297.2.2.1 bt297.2.2.2.1 bt297.2.2.2.2.1 bt297.2.2.2.2.2).bind fun bt304 => ((spec_DumpTimes.f k bt297.1 bt297.2.1 bt297.2.2.1 bt297.2.2.2.1 bt297.2.2.2.2.1 bt297.2.2.2.2.2).bind fun bt308 => ((impl_WaitingTime.f k bt297.1 bt297.2.1 bt297.2.2.1 bt297.2.2.2.1 bt297.2.2.2.2.1 bt297.2.2.2.2.2).bind fun bt312 => ((spec_WaitingTime.f k bt297.1 bt297.2.1 bt297.2.2.1 bt297.2.2.2.1 bt297.2.2.2.2.1 bt297.2.2.2.2.2).bind fun bt314 => ((impl_ShovelIdle.f k bt297.1 bt297.2.1 bt297.2.2.1 bt297.2.2.2.1 bt297.2.2.2.2.1 bt297.2.2.2.2.2).bind fun bt316 => ((spec_ShovelIdle.f k bt297.1 bt297.2.1 bt297.2.2.1 bt297.2.2.2.1 bt297.2.2.2.2.1 bt297.2.2.2.2.2).bind fun bt318 => ((spec_DrawLoadsBy.f l1).bind fun bt320 => ((impl_LoadsBy.f k bt320.1 bt320.2.1 bt320.2.2.1 bt320.2.2.2.1 bt320.2.2.2.2.1 bt320.2.2.2.2.2).bind fun bt327 => ((spec_LoadsBy.f k bt320.1 bt320.2.1 bt320.2.2.1 bt320.2.2.2.1 bt320.2.2.2.2.1 bt320.2.2.2.2.2).bind fun bt329 => (if (bt304.2 != bt308.2) = true then (none) else ((laws_qInts.f k bt304.1 bt308.1).bind fun t331 => (if t331 = true then (if (bt312.2 != bt314.2) = true then (none) else (if bt312.1 = bt314.1 then (if (bt316.2 != bt318.2) = true then (none) else (if bt316.1 = bt318.1 then (if (bt327.2 != bt329.2) = true then (none) else (if bt327.1 = bt329.1 then ((impl_IsCycle.f k bt297.1 bt297.2.1 bt297.2.2.1 bt297.2.2.2.1).bind fun t332 => ((spec_IsCycle.f k bt297.1 bt297.2.1 bt297.2.2.1 bt297.2.2.2.1).bind fun t333 => (if (t332 != t333) = true then (none) else (if (bt312.2 != bt304.2) = true then (none) else (laws_FnCycles.j0 k bt297.2.2.2.2.1 bt297.2.2.2.2.2 bt304.2 bt308.1 bt314.1 bt318.1 bt320.2.2.2.2.1 bt320.2.2.2.2.2 bt327.2 bt329.1 (bt316.2 != bt304.2) bt297.1 bt297.2.1 bt297.2.2.1 bt297.2.2.2.1 bt320.1 bt320.2.1 bt320.2.2.1 bt320.2.2.2.1))))) else (none))) else (none))) else (none))) else (none))))))))))))))
def laws_FnCycles.T13 : Bool × List (List Nat × List Nat) := (true, [([], []), ([], []), ([0, 1], [0, 1]), ([2], [2]), ([3], [3]), ([3], [3]), ([4, 5, 3, 3], [3, 4, 5]), ([6, 3], [3, 6]), ([3, 7], [3, 7]), ([8, 6], [8]), ([9], [9]), ([9], [9]), ([10, 11, 9], [9, 10, 11]), ([9, 12], [9, 12]), ([13, 9], [13]), ([14], [14]), ([14], [14]), ([15, 16, 14], [14, 15, 16]), ([14, 17], [14, 17]), ([18, 14], [18]), ([19], [19]), ([19], [19]), ([20, 21, 19], [19, 20, 21]), ([19, 22], [19, 22]), ([23, 19], [23]), ([24], [24]), ([24], [24]), ([25, 26, 24], [24, 25, 26]), ([24, 27], [24, 27]), ([28, 24], [28]), ([29], [29]), ([29], [29]), ([30, 31, 29], [29, 30, 31]), ([29, 32], [29, 32]), ([33, 29], [33]), ([34], [34]), ([34], [34]), ([35, 36, 34], [34, 35, 36]), ([34, 37], [34, 37]), ([38, 34], [38]), ([39], [39]), ([40, 39, 39], [39, 40]), ([39], [39]), ([42, 41, 39], [39, 42]), ([41, 43, 39], [39, 41, 43]), ([39, 44], [39, 44]), ([45, 43], [45]), ([46], [46]), ([46], [46]), ([47, 48, 46], [46, 47, 48]), ([46, 49], [46, 49]), ([50, 46], [50]), ([51], [51]), ([51], [51]), ([52, 53, 51], [51, 52, 53]), ([51, 54], [51, 54])])
def laws_FnCycles.B13 : List Nat := [0, 0, 3, 7, 15, 15, 63, 127, 255, 511, 1023, 1023, 4095, 8191, 16383, 32767, 32767, 131071, 262143, 524287, 1048575, 1048575, 4194303, 8388607, 16777215, 33554431, 33554431, 134217727, 268435455, 536870911, 1073741823, 1073741823, 4294967295, 8589934591, 17179869183, 34359738367, 34359738367, 137438953471, 274877906943, 549755813887, 1099511627775, 2199023255551, 1099511627775, 8796093022207, 17592186044415, 35184372088831, 70368744177663, 140737488355327, 140737488355327, 562949953421311, 1125899906842623, 2251799813685247, 4503599627370495, 4503599627370495, 18014398509481983, 36028797018963967]
theorem laws_FnCycles.tab13 : rtab .any (opsOf Try.f13 13) = laws_FnCycles.T13 := by kernel_rfl
theorem laws_FnCycles.bits13 : waitsOk laws_FnCycles.T13.2 laws_FnCycles.B13 = true := by kernel_rfl
def laws_FnCycles.T29 : Bool × List (List Nat × List Nat) := (true, [([], []), ([0], [0]), ([1], [1]), ([2], [2]), ([2], [2]), ([4, 2], [2, 4]), ([2], [2]), ([6, 2], [2, 6]), ([5, 7, 2], [2, 5, 7]), ([2], [2]), ([9, 2], [2, 9]), ([8, 10, 2], [2, 8, 10]), ([3, 11, 2], [2, 3, 11]), ([2, 12], [2, 12]), ([13, 2], [13]), ([14], [14]), ([15, 14], [14, 15]), ([16, 14, 14], [14, 16]), ([17], [17]), ([17], [17]), ([17], [17]), ([20, 17], [17, 20]), ([19, 21, 17], [17, 19, 21]), ([22, 17], [17, 22]), ([18, 23, 17], [17, 18, 23]), ([17], [17]), ([25, 17], [17, 25]), ([24, 26, 17], [17, 24, 26]), ([17, 27, 14], [14, 17, 27]), ([14, 28], [14, 28]), ([29, 17], [29]), ([30], [30]), ([30], [30]), ([31, 32, 30], [30, 31, 32]), ([33, 30, 30], [30, 33]), ([34], [34]), ([34], [34]), ([34], [34]), ([34], [34]), ([37, 38, 34], [34, 37, 38]), ([36, 39, 34], [34, 36, 39]), ([40, 34], [34, 40]), ([35, 41, 34], [34, 35, 41]), ([34], [34]), ([42, 43, 34], [34, 42, 43]), ([34, 44, 30], [30, 34, 44]), ([30, 45], [30, 45])])
def laws_FnCycles.B29 : List Nat := [0, 1, 3, 7, 7, 23, 7, 71, 247, 7, 519, 2039, 4095, 8191, 16383, 32767, 65535, 131071, 262143, 262143, 262143, 1310719, 3932159, 8126463, 16777215, 262143, 33816575, 134217727, 268435455, 536870911, 1073741823, 2147483647, 2147483647, 8589934591, 17179869183, 34359738367, 34359738367, 34359738367, 34359738367, 446676598783, 1065151889407, 2164663517183, 4398046511103, 34359738367, 17592186044415, 35184372088831, 70368744177663]
theorem laws_FnCycles.tab29 : rtab .any (opsOf Try.f13 29) = laws_FnCycles.T29 := by kernel_rfl
theorem laws_FnCycles.bits29 : waitsOk laws_FnCycles.T29.2 laws_FnCycles.B29 = true := by kernel_rfl
set_option maxHeartbeats 8000000 in
set_option maxRecDepth 100000 in
theorem laws_FnCycles.calls (k : Nat) (A0 : Option Addr) (c0 : Nat) (l0 : List Int) (A1 : Option Addr) (c1 : Nat) (l1 : List Int) (r : Bool) (w : World) (hr0 : Kd.C (Kd.int .u8) w A0 l0.length l0) (hc0 : l0.length ≤ c0) (hr1 : Kd.C (Kd.int .u8) w A1 l1.length l1) (hc1 : l1.length ≤ c1) (h : laws_FnCycles.f k l0 l1 = some r) :
  Calls Try.prog 13 #[.slice A0 l0.length c0, .slice A1 l1.length c1] w fun e w' => e = .returned (.bool r) ∧ Below w.heap.size w w' := by
 have hu25 := Try.underlying25
 have HR0 := Aside0.mk hr0
 have HC0 := Aside0.mk hc0
 clear hr0 hc0
 have HR1 := Aside0.mk hr1
 have HC1 := Aside0.mk hc1
 clear hr1 hc1
 have HB := am (Below.refl w.heap.size w)
 have H : (if (wrap64 ((l0.length : Int) + (l1.length : Int))) > 1048576 then (some true) else ((spec_DrawDumpTimes.f l0).bind fun bt297 => ((impl_DumpTimes.f k bt297.1 bt297.2.1 bt297.2.2.1 bt297.2.2.2.1 bt297.2.2.2.2.1 bt297.2.2.2.2.2).bind fun bt304 => ((spec_DumpTimes.f k bt297.1 bt297.2.1 bt297.2.2.1 bt297.2.2.2.1 bt297.2.2.2.2.1 bt297.2.2.2.2.2).bind fun bt308 => ((impl_WaitingTime.f k bt297.1 bt297.2.1 bt297.2.2.1 bt297.2.2.2.1 bt297.2.2.2.2.1 bt297.2.2.2.2.2).bind fun bt312 => ((spec_WaitingTime.f k bt297.1 bt297.2.1 bt297.2.2.1 bt297.2.2.2.1 bt297.2.2.2.2.1 bt297.2.2.2.2.2).bind fun bt314 => ((impl_ShovelIdle.f k bt297.1 bt297.2.1 bt297.2.2.1 bt297.2.2.2.1 bt297.2.2.2.2.1 bt297.2.2.2.2.2).bind fun bt316 => ((spec_ShovelIdle.f k bt297.1 bt297.2.1 bt297.2.2.1 bt297.2.2.2.1 bt297.2.2.2.2.1 bt297.2.2.2.2.2).bind fun bt318 => ((spec_DrawLoadsBy.f l1).bind fun bt320 => ((impl_LoadsBy.f k bt320.1 bt320.2.1 bt320.2.2.1 bt320.2.2.2.1 bt320.2.2.2.2.1 bt320.2.2.2.2.2).bind fun bt327 => ((spec_LoadsBy.f k bt320.1 bt320.2.1 bt320.2.2.1 bt320.2.2.2.1 bt320.2.2.2.2.1 bt320.2.2.2.2.2).bind fun bt329 => (if (bt304.2 != bt308.2) = true then (none) else ((laws_qInts.f k bt304.1 bt308.1).bind fun t331 => (if t331 = true then (if (bt312.2 != bt314.2) = true then (none) else (if bt312.1 = bt314.1 then (if (bt316.2 != bt318.2) = true then (none) else (if bt316.1 = bt318.1 then (if (bt327.2 != bt329.2) = true then (none) else (if bt327.1 = bt329.1 then ((impl_IsCycle.f k bt297.1 bt297.2.1 bt297.2.2.1 bt297.2.2.2.1).bind fun t332 => ((spec_IsCycle.f k bt297.1 bt297.2.1 bt297.2.2.1 bt297.2.2.2.1).bind fun t333 => (if (t332 != t333) = true then (none) else (if (bt312.2 != bt304.2) = true then (none) else (laws_FnCycles.j0 k bt297.2.2.2.2.1 bt297.2.2.2.2.2 bt304.2 bt308.1 bt314.1 bt318.1 bt320.2.2.2.2.1 bt320.2.2.2.2.2 bt327.2 bt329.1 (bt316.2 != bt304.2) bt297.1 bt297.2.1 bt297.2.2.1 bt297.2.2.2.1 bt320.1 bt320.2.1 bt320.2.2.1 bt320.2.2.2.1))))) else (none))) else (none))) else (none))) else (none))))))))))))))) = some r := h
 clear h
 by_cases c3 : (wrap64 ((l0.length : Int) + (l1.length : Int))) > 1048576
 ·rw [if_pos c3] at H
  have c3b0 : decide (1048576 < (wrap64 ((l0.length : Int) + (l1.length : Int)))) = true := decide_eq_true c3
  clear c3
  obtain rfl := Option.some.inj H
  go_enter Try.func13, Try.ntmps13
  go_wp2
  go_ret
  exact ⟨by first | rfl | (simp [errW_none, errW_some] <;> rfl) | (simp [*, errW_none, errW_some] <;> rfl), by repeat (first | (with_reducible first | exact HB.out | apply ba | apply bn | apply below_drew1) | exact HB.out)⟩
 ·rw [if_neg c3] at H
  have c3b0 : decide (1048576 < (wrap64 ((l0.length : Int) + (l1.length : Int)))) = false := decide_eq_false c3
  clear c3
  replace H := Option.bind_eq_some_iff.mp H
  obtain ⟨⟨t297, t298, t299, t300, t301, t302⟩, A40, H⟩ := H
  replace H : (((impl_DumpTimes.f k t297 t298 t299 t300 t301 t302).bind fun bt304 => ((spec_DumpTimes.f k t297 t298 t299 t300 t301 t302).bind fun bt308 => ((impl_WaitingTime.f k t297 t298 t299 t300 t301 t302).bind fun bt312 => ((spec_WaitingTime.f k t297 t298 t299 t300 t301 t302).bind fun bt314 => ((impl_ShovelIdle.f k t297 t298 t299 t300 t301 t302).bind fun bt316 => ((spec_ShovelIdle.f k t297 t298 t299 t300 t301 t302).bind fun bt318 => ((spec_DrawLoadsBy.f l1).bind fun bt320 => ((impl_LoadsBy.f k bt320.1 bt320.2.1 bt320.2.2.1 bt320.2.2.2.1 bt320.2.2.2.2.1 bt320.2.2.2.2.2).bind fun bt327 => ((spec_LoadsBy.f k bt320.1 bt320.2.1 bt320.2.2.1 bt320.2.2.2.1 bt320.2.2.2.2.1 bt320.2.2.2.2.2).bind fun bt329 => (if (bt304.2 != bt308.2) = true then (none) else ((laws_qInts.f k bt304.1 bt308.1).bind fun t331 => (if t331 = true then (if (bt312.2 != bt314.2) = true then (none) else (if bt312.1 = bt314.1 then (if (bt316.2 != bt318.2) = true then (none) else (if bt316.1 = bt318.1 then (if (bt327.2 != bt329.2) = true then (none) else (if bt327.1 = bt329.1 then ((impl_IsCycle.f k t297 t298 t299 t300).bind fun t332 => ((spec_IsCycle.f k t297 t298 t299 t300).bind fun t333 => (if (t332 != t333) = true then (none) else (if (bt312.2 != bt304.2) = true then (none) else (laws_FnCycles.j0 k t301 t302 bt304.2 bt308.1 bt314.1 bt318.1 bt320.2.2.2.2.1 bt320.2.2.2.2.2 bt327.2 bt329.1 (bt316.2 != bt304.2) t297 t298 t299 t300 bt320.1 bt320.2.1 bt320.2.2.1 bt320.2.2.2.1))))) else (none))) else (none))) else (none))) else (none)))))))))))))) = some r := H
  have A4 := Aside0.mk A40
  clear A40
  replace H := Option.bind_eq_some_iff.mp H
  obtain ⟨⟨t304, t307⟩, A50, H⟩ := H
  replace H : (((spec_DumpTimes.f k t297 t298 t299 t300 t301 t302).bind fun bt308 => ((impl_WaitingTime.f k t297 t298 t299 t300 t301 t302).bind fun bt312 => ((spec_WaitingTime.f k t297 t298 t299 t300 t301 t302).bind fun bt314 => ((impl_ShovelIdle.f k t297 t298 t299 t300 t301 t302).bind fun bt316 => ((spec_ShovelIdle.f k t297 t298 t299 t300 t301 t302).bind fun bt318 => ((spec_DrawLoadsBy.f l1).bind fun bt320 => ((impl_LoadsBy.f k bt320.1 bt320.2.1 bt320.2.2.1 bt320.2.2.2.1 bt320.2.2.2.2.1 bt320.2.2.2.2.2).bind fun bt327 => ((spec_LoadsBy.f k bt320.1 bt320.2.1 bt320.2.2.1 bt320.2.2.2.1 bt320.2.2.2.2.1 bt320.2.2.2.2.2).bind fun bt329 => (if (t307 != bt308.2) = true then (none) else ((laws_qInts.f k t304 bt308.1).bind fun t331 => (if t331 = true then (if (bt312.2 != bt314.2) = true then (none) else (if bt312.1 = bt314.1 then (if (bt316.2 != bt318.2) = true then (none) else (if bt316.1 = bt318.1 then (if (bt327.2 != bt329.2) = true then (none) else (if bt327.1 = bt329.1 then ((impl_IsCycle.f k t297 t298 t299 t300).bind fun t332 => ((spec_IsCycle.f k t297 t298 t299 t300).bind fun t333 => (if (t332 != t333) = true then (none) else (if (bt312.2 != t307) = true then (none) else (laws_FnCycles.j0 k t301 t302 t307 bt308.1 bt314.1 bt318.1 bt320.2.2.2.2.1 bt320.2.2.2.2.2 bt327.2 bt329.1 (bt316.2 != t307) t297 t298 t299 t300 bt320.1 bt320.2.1 bt320.2.2.1 bt320.2.2.2.1))))) else (none))) else (none))) else (none))) else (none))))))))))))) = some r := H
  have A5 := Aside0.mk A50
  clear A50
  replace H := Option.bind_eq_some_iff.mp H
  obtain ⟨⟨t308, t311⟩, A60, H⟩ := H
  replace H : (((impl_WaitingTime.f k t297 t298 t299 t300 t301 t302).bind fun bt312 => ((spec_WaitingTime.f k t297 t298 t299 t300 t301 t302).bind fun bt314 => ((impl_ShovelIdle.f k t297 t298 t299 t300 t301 t302).bind fun bt316 => ((spec_ShovelIdle.f k t297 t298 t299 t300 t301 t302).bind fun bt318 => ((spec_DrawLoadsBy.f l1).bind fun bt320 => ((impl_LoadsBy.f k bt320.1 bt320.2.1 bt320.2.2.1 bt320.2.2.2.1 bt320.2.2.2.2.1 bt320.2.2.2.2.2).bind fun bt327 => ((spec_LoadsBy.f k bt320.1 bt320.2.1 bt320.2.2.1 bt320.2.2.2.1 bt320.2.2.2.2.1 bt320.2.2.2.2.2).bind fun bt329 => (if (t307 != t311) = true then (none) else ((laws_qInts.f k t304 t308).bind fun t331 => (if t331 = true then (if (bt312.2 != bt314.2) = true then (none) else (if bt312.1 = bt314.1 then (if (bt316.2 != bt318.2) = true then (none) else (if bt316.1 = bt318.1 then (if (bt327.2 != bt329.2) = true then (none) else (if bt327.1 = bt329.1 then ((impl_IsCycle.f k t297 t298 t299 t300).bind fun t332 => ((spec_IsCycle.f k t297 t298 t299 t300).bind fun t333 => (if (t332 != t333) = true then (none) else (if (bt312.2 != t307) = true then (none) else (laws_FnCycles.j0 k t301 t302 t307 t308 bt314.1 bt318.1 bt320.2.2.2.2.1 bt320.2.2.2.2.2 bt327.2 bt329.1 (bt316.2 != t307) t297 t298 t299 t300 bt320.1 bt320.2.1 bt320.2.2.1 bt320.2.2.2.1))))) else (none))) else (none))) else (none))) else (none)))))))))))) = some r := H
  have A6 := Aside0.mk A60
  clear A60
  replace H := Option.bind_eq_some_iff.mp H
  obtain ⟨⟨t312, t313⟩, A70, H⟩ := H
  replace H : (((spec_WaitingTime.f k t297 t298 t299 t300 t301 t302).bind fun bt314 => ((impl_ShovelIdle.f k t297 t298 t299 t300 t301 t302).bind fun bt316 => ((spec_ShovelIdle.f k t297 t298 t299 t300 t301 t302).bind fun bt318 => ((spec_DrawLoadsBy.f l1).bind fun bt320 => ((impl_LoadsBy.f k bt320.1 bt320.2.1 bt320.2.2.1 bt320.2.2.2.1 bt320.2.2.2.2.1 bt320.2.2.2.2.2).bind fun bt327 => ((spec_LoadsBy.f k bt320.1 bt320.2.1 bt320.2.2.1 bt320.2.2.2.1 bt320.2.2.2.2.1 bt320.2.2.2.2.2).bind fun bt329 => (if (t307 != t311) = true then (none) else ((laws_qInts.f k t304 t308).bind fun t331 => (if t331 = true then (if (t313 != bt314.2) = true then (none) else (if t312 = bt314.1 then (if (bt316.2 != bt318.2) = true then (none) else (if bt316.1 = bt318.1 then (if (bt327.2 != bt329.2) = true then (none) else (if bt327.1 = bt329.1 then ((impl_IsCycle.f k t297 t298 t299 t300).bind fun t332 => ((spec_IsCycle.f k t297 t298 t299 t300).bind fun t333 => (if (t332 != t333) = true then (none) else (if (t313 != t307) = true then (none) else (laws_FnCycles.j0 k t301 t302 t307 t308 bt314.1 bt318.1 bt320.2.2.2.2.1 bt320.2.2.2.2.2 bt327.2 bt329.1 (bt316.2 != t307) t297 t298 t299 t300 bt320.1 bt320.2.1 bt320.2.2.1 bt320.2.2.2.1))))) else (none))) else (none))) else (none))) else (none))))))))))) = some r := H
  have A7 := Aside0.mk A70
  clear A70
  replace H := Option.bind_eq_some_iff.mp H
  obtain ⟨⟨t314, t315⟩, A80, H⟩ := H
  replace H : (((impl_ShovelIdle.f k t297 t298 t299 t300 t301 t302).bind fun bt316 => ((spec_ShovelIdle.f k t297 t298 t299 t300 t301 t302).bind fun bt318 => ((spec_DrawLoadsBy.f l1).bind fun bt320 => ((impl_LoadsBy.f k bt320.1 bt320.2.1 bt320.2.2.1 bt320.2.2.2.1 bt320.2.2.2.2.1 bt320.2.2.2.2.2).bind fun bt327 => ((spec_LoadsBy.f k bt320.1 bt320.2.1 bt320.2.2.1 bt320.2.2.2.1 bt320.2.2.2.2.1 bt320.2.2.2.2.2).bind fun bt329 => (if (t307 != t311) = true then (none) else ((laws_qInts.f k t304 t308).bind fun t331 => (if t331 = true then (if (t313 != t315) = true then (none) else (if t312 = t314 then (if (bt316.2 != bt318.2) = true then (none) else (if bt316.1 = bt318.1 then (if (bt327.2 != bt329.2) = true then (none) else (if bt327.1 = bt329.1 then ((impl_IsCycle.f k t297 t298 t299 t300).bind fun t332 => ((spec_IsCycle.f k t297 t298 t299 t300).bind fun t333 => (if (t332 != t333) = true then (none) else (if (t313 != t307) = true then (none) else (laws_FnCycles.j0 k t301 t302 t307 t308 t314 bt318.1 bt320.2.2.2.2.1 bt320.2.2.2.2.2 bt327.2 bt329.1 (bt316.2 != t307) t297 t298 t299 t300 bt320.1 bt320.2.1 bt320.2.2.1 bt320.2.2.2.1))))) else (none))) else (none))) else (none))) else (none)))))))))) = some r := H
  have A8 := Aside0.mk A80
  clear A80
  replace H := Option.bind_eq_some_iff.mp H
  obtain ⟨⟨t316, t317⟩, A90, H⟩ := H
  replace H : (((spec_ShovelIdle.f k t297 t298 t299 t300 t301 t302).bind fun bt318 => ((spec_DrawLoadsBy.f l1).bind fun bt320 => ((impl_LoadsBy.f k bt320.1 bt320.2.1 bt320.2.2.1 bt320.2.2.2.1 bt320.2.2.2.2.1 bt320.2.2.2.2.2).bind fun bt327 => ((spec_LoadsBy.f k bt320.1 bt320.2.1 bt320.2.2.1 bt320.2.2.2.1 bt320.2.2.2.2.1 bt320.2.2.2.2.2).bind fun bt329 => (if (t307 != t311) = true then (none) else ((laws_qInts.f k t304 t308).bind fun t331 => (if t331 = true then (if (t313 != t315) = true then (none) else (if t312 = t314 then (if (t317 != bt318.2) = true then (none) else (if t316 = bt318.1 then (if (bt327.2 != bt329.2) = true then (none) else (if bt327.1 = bt329.1 then ((impl_IsCycle.f k t297 t298 t299 t300).bind fun t332 => ((spec_IsCycle.f k t297 t298 t299 t300).bind fun t333 => (if (t332 != t333) = true then (none) else (if (t313 != t307) = true then (none) else (laws_FnCycles.j0 k t301 t302 t307 t308 t314 bt318.1 bt320.2.2.2.2.1 bt320.2.2.2.2.2 bt327.2 bt329.1 (t317 != t307) t297 t298 t299 t300 bt320.1 bt320.2.1 bt320.2.2.1 bt320.2.2.2.1))))) else (none))) else (none))) else (none))) else (none))))))))) = some r := H
  have A9 := Aside0.mk A90
  clear A90
  replace H := Option.bind_eq_some_iff.mp H
  obtain ⟨⟨t318, t319⟩, A100, H⟩ := H
  replace H : (((spec_DrawLoadsBy.f l1).bind fun bt320 => ((impl_LoadsBy.f k bt320.1 bt320.2.1 bt320.2.2.1 bt320.2.2.2.1 bt320.2.2.2.2.1 bt320.2.2.2.2.2).bind fun bt327 => ((spec_LoadsBy.f k bt320.1 bt320.2.1 bt320.2.2.1 bt320.2.2.2.1 bt320.2.2.2.2.1 bt320.2.2.2.2.2).bind fun bt329 => (if (t307 != t311) = true then (none) else ((laws_qInts.f k t304 t308).bind fun t331 => (if t331 = true then (if (t313 != t315) = true then (none) else (if t312 = t314 then (if (t317 != t319) = true then (none) else (if t316 = t318 then (if (bt327.2 != bt329.2) = true then (none) else (if bt327.1 = bt329.1 then ((impl_IsCycle.f k t297 t298 t299 t300).bind fun t332 => ((spec_IsCycle.f k t297 t298 t299 t300).bind fun t333 => (if (t332 != t333) = true then (none) else (if (t313 != t307) = true then (none) else (laws_FnCycles.j0 k t301 t302 t307 t308 t314 t318 bt320.2.2.2.2.1 bt320.2.2.2.2.2 bt327.2 bt329.1 (t317 != t307) t297 t298 t299 t300 bt320.1 bt320.2.1 bt320.2.2.1 bt320.2.2.2.1))))) else (none))) else (none))) else (none))) else (none)))))))) = some r := H
  have A10 := Aside0.mk A100
  clear A100
  replace H := Option.bind_eq_some_iff.mp H
  obtain ⟨⟨t320, t321, t322, t323, t324, t325⟩, A110, H⟩ := H
  replace H : (((impl_LoadsBy.f k t320 t321 t322 t323 t324 t325).bind fun bt327 => ((spec_LoadsBy.f k t320 t321 t322 t323 t324 t325).bind fun bt329 => (if (t307 != t311) = true then (none) else ((laws_qInts.f k t304 t308).bind fun t331 => (if t331 = true then (if (t313 != t315) = true then (none) else (if t312 = t314 then (if (t317 != t319) = true then (none) else (if t316 = t318 then (if (bt327.2 != bt329.2) = true then (none) else (if bt327.1 = bt329.1 then ((impl_IsCycle.f k t297 t298 t299 t300).bind fun t332 => ((spec_IsCycle.f k t297 t298 t299 t300).bind fun t333 => (if (t332 != t333) = true then (none) else (if (t313 != t307) = true then (none) else (laws_FnCycles.j0 k t301 t302 t307 t308 t314 t318 t324 t325 bt327.2 bt329.1 (t317 != t307) t297 t298 t299 t300 t320 t321 t322 t323))))) else (none))) else (none))) else (none))) else (none))))))) = some r := H
  have A11 := Aside0.mk A110
  clear A110
  replace H := Option.bind_eq_some_iff.mp H
  obtain ⟨⟨t327, t328⟩, A120, H⟩ := H
  replace H : (((spec_LoadsBy.f k t320 t321 t322 t323 t324 t325).bind fun bt329 => (if (t307 != t311) = true then (none) else ((laws_qInts.f k t304 t308).bind fun t331 => (if t331 = true then (if (t313 != t315) = true then (none) else (if t312 = t314 then (if (t317 != t319) = true then (none) else (if t316 = t318 then (if (t328 != bt329.2) = true then (none) else (if t327 = bt329.1 then ((impl_IsCycle.f k t297 t298 t299 t300).bind fun t332 => ((spec_IsCycle.f k t297 t298 t299 t300).bind fun t333 => (if (t332 != t333) = true then (none) else (if (t313 != t307) = true then (none) else (laws_FnCycles.j0 k t301 t302 t307 t308 t314 t318 t324 t325 t328 bt329.1 (t317 != t307) t297 t298 t299 t300 t320 t321 t322 t323))))) else (none))) else (none))) else (none))) else (none)))))) = some r := H
  have A12 := Aside0.mk A120
  clear A120
  replace H := Option.bind_eq_some_iff.mp H
  obtain ⟨⟨t329, t330⟩, A130, H⟩ := H
  replace H : (if (t307 != t311) = true then (none) else ((laws_qInts.f k t304 t308).bind fun t331 => (if t331 = true then (if (t313 != t315) = true then (none) else (if t312 = t314 then (if (t317 != t319) = true then (none) else (if t316 = t318 then (if (t328 != t330) = true then (none) else (if t327 = t329 then ((impl_IsCycle.f k t297 t298 t299 t300).bind fun t332 => ((spec_IsCycle.f k t297 t298 t299 t300).bind fun t333 => (if (t332 != t333) = true then (none) else (if (t313 != t307) = true then (none) else (laws_FnCycles.j0 k t301 t302 t307 t308 t314 t318 t324 t325 t328 t329 (t317 != t307) t297 t298 t299 t300 t320 t321 t322 t323))))) else (none))) else (none))) else (none))) else (none)))) = some r := H
  have A13 := Aside0.mk A130
  clear A130
  have HC14 := Aside0.mk H
  clear H
  go_enter Try.func13, Try.ntmps13
  go_upto_region 13 with (first | ((with_reducible refine gate_callee (f := 39) rfl ?_); refine goesL_ (some 45) rfl rfl Try.func39 (by kernel_rfl) rfl #[.slice A0 l0.length c0] rfl zb' ?_; (with_reducible refine (spec_DrawDumpTimes.calls _ _ l0 t297 t298 t299 t300 t301 t302 _ ?side1 ?side2 A4.out).mono ?_); (case side1 => repeat (first | exact HR0.out | (with_reducible refine Kd.C_alloc ?_ _) | (with_reducible refine Kd.C_drewN ?_ _) | (with_reducible refine Kd.C_drew ?_))); (case side2 => exact HC0.out); rintro e w15 ⟨rfl, hb⟩; refine ⟨_, rfl, ?_⟩; have n0_ := am (below_step za' hb); clear HB; have HB := n0_; clear n0_; (try clear hb); (try clear hb2); (try clear hk); (try clear hi)) | ((with_reducible refine gate_dst (N := 5) rfl ?_); (try (refine gate_guard (by rfl) ?_; dsimp only)); refine box_event ?hg (N := 5) ?hd (cs := #[.int .i64 0, .int .i64 0, .int .i64 0, .int .i64 0]) (t := 25) ?hr ?_; (case hd => rfl); (case hg => rfl); (case hr => exact zq'); intro gb303 hg w16 hbox hb; have n0_ := am (below_step za' hb); have n1_ := am (hbox); have n2_ := am ((by rw [hg]; exact (below_size za') : w.heap.size ≤ gb303)); have n3_ := am ((by rw [hg]; exact (below_size za') : w.heap.size ≤ gb303)); clear HB; have HB := n0_; have BK303 := n1_; have GW303 := n2_; have GE303 := n3_; clear n0_ n1_ n2_ n3_; clear hb hbox hg; have hcz17_0 : w16.cell? ⟨gb303, 0, none⟩ = some (.int .i64 0) := (blk_cell BK303.out 0).trans rfl; have hcz17_1 : w16.cell? ⟨gb303, 1, none⟩ = some (.int .i64 0) := (blk_cell BK303.out 1).trans rfl; have hcz17_2 : w16.cell? ⟨gb303, 2, none⟩ = some (.int .i64 0) := (blk_cell BK303.out 2).trans rfl; have hcz17_3 : w16.cell? ⟨gb303, 3, none⟩ = some (.int .i64 0) := (blk_cell BK303.out 3).trans rfl; have hfz17_0 := blk_frozen BK303.out 0; have hfz17_1 := blk_frozen BK303.out 1; have hfz17_2 := blk_frozen BK303.out 2; have hfz17_3 := blk_frozen BK303.out 3) | ((with_reducible refine gate_callee (f := 35) rfl ?_); refine goesL_ (some 53) rfl rfl Try.func35 (by kernel_rfl) rfl #[.agg #[.int .i64 t297, .int .i64 t298, .int .i64 t299, .int .i64 t300], .int .i64 t301, .int .i64 t302] rfl zb' ?_; (with_reducible refine (impl_DumpTimes.calls k t297 t298 t299 t300 t301 t302 t304 t307 _ A5.out).mono ?_); rintro e w18 ⟨v305, rfl, ho0, hb⟩; refine ⟨_, rfl, ?_⟩; have n0_ := am (Kd.R_lower ho0 (below_size zx')); have n1_ := am (blk_below (g := gb303) (o := o2') (by (with_reducible repeat (first | apply kn | apply kd | apply ka)); refine blk_put (cs := #[.int .i64 t297, .int .i64 t298, .int .i64 t299, .int .i64 0]) ?_ 3 _ rfl; (with_reducible repeat (first | apply kn | apply kd | apply ka)); refine blk_put (cs := #[.int .i64 t297, .int .i64 t298, .int .i64 0, .int .i64 0]) ?_ 2 _ rfl; (with_reducible repeat (first | apply kn | apply kd | apply ka)); refine blk_put (cs := #[.int .i64 t297, .int .i64 0, .int .i64 0, .int .i64 0]) ?_ 1 _ rfl; (with_reducible repeat (first | apply kn | apply kd | apply ka)); refine blk_put (cs := #[.int .i64 0, .int .i64 0, .int .i64 0, .int .i64 0]) ?_ 0 _ rfl; (with_reducible repeat (first | apply kn | apply kd | apply ka)); exact BK303.out) hb); have n2_ := am (below_step zx' hb); clear BK303; clear HB; have HO306 := n0_; have BK303 := n1_; have HB := n2_; clear n0_ n1_ n2_; (try clear hb); (try clear hb2); (try clear hk); (try clear hi); (try clear ho0); have hcz19_0 : w18.cell? ⟨gb303, 0, none⟩ = some (.int .i64 t297) := (blk_cell BK303.out 0).trans rfl; have hcz19_1 : w18.cell? ⟨gb303, 1, none⟩ = some (.int .i64 t298) := (blk_cell BK303.out 1).trans rfl; have hcz19_2 : w18.cell? ⟨gb303, 2, none⟩ = some (.int .i64 t299) := (blk_cell BK303.out 2).trans rfl; have hcz19_3 : w18.cell? ⟨gb303, 3, none⟩ = some (.int .i64 t300) := (blk_cell BK303.out 3).trans rfl; have hfz19_0 := blk_frozen BK303.out 0; have hfz19_1 := blk_frozen BK303.out 1; have hfz19_2 := blk_frozen BK303.out 2; have hfz19_3 := blk_frozen BK303.out 3) | ((with_reducible refine gate_callee (f := 34) rfl ?_); refine goesL_ (some 60) rfl rfl Try.func34 (by kernel_rfl) rfl #[.agg #[.int .i64 t297, .int .i64 t298, .int .i64 t299, .int .i64 t300], .int .i64 t301, .int .i64 t302] rfl zb' ?_; (with_reducible refine (spec_DumpTimes.calls k t297 t298 t299 t300 t301 t302 t308 t311 _ A6.out).mono ?_); rintro e w20 ⟨v309, rfl, ho0, hb⟩; refine ⟨_, rfl, ?_⟩; have n0_ := am (Kd.R_elder' zb1' (Kd.R_base ho0) hb); have n1_ := am (Kd.R_lower (Kd.R_new' ho0 (Kd.R_lt zb1')) (below_size zx')); have n2_ := am (blk_below (g := gb303) (o := o2') zp' hb); have n3_ := am (below_step zx' hb); clear HO306; clear BK303; clear HB; have HO306 := n0_; have HO310 := n1_; have BK303 := n2_; have HB := n3_; clear n0_ n1_ n2_ n3_; (try clear hb); (try clear hb2); (try clear hk); (try clear hi); (try clear ho0); have hcz21_0 : w20.cell? ⟨gb303, 0, none⟩ = some (.int .i64 t297) := (blk_cell BK303.out 0).trans rfl; have hcz21_1 : w20.cell? ⟨gb303, 1, none⟩ = some (.int .i64 t298) := (blk_cell BK303.out 1).trans rfl; have hcz21_2 : w20.cell? ⟨gb303, 2, none⟩ = some (.int .i64 t299) := (blk_cell BK303.out 2).trans rfl; have hcz21_3 : w20.cell? ⟨gb303, 3, none⟩ = some (.int .i64 t300) := (blk_cell BK303.out 3).trans rfl; have hfz21_0 := blk_frozen BK303.out 0; have hfz21_1 := blk_frozen BK303.out 1; have hfz21_2 := blk_frozen BK303.out 2; have hfz21_3 := blk_frozen BK303.out 3) | ((with_reducible refine gate_callee (f := 27) rfl ?_); refine goesL_ (some 67) rfl rfl Try.func27 (by kernel_rfl) rfl #[.agg #[.int .i64 t297, .int .i64 t298, .int .i64 t299, .int .i64 t300], .int .i64 t301, .int .i64 t302] rfl zb' ?_; (with_reducible refine (impl_WaitingTime.calls k t297 t298 t299 t300 t301 t302 t312 t313 _ A7.out).mono ?_); rintro e w22 ⟨rfl, hb⟩; refine ⟨_, rfl, ?_⟩; have n0_ := am (Kd.R_below zb1' hb); have n1_ := am (Kd.R_below ze1' hb); have n2_ := am (blk_below (g := gb303) (o := o2') zp' hb); have n3_ := am (below_step zx' hb); clear HO306; clear HO310; clear BK303; clear HB; have HO306 := n0_; have HO310 := n1_; have BK303 := n2_; have HB := n3_; clear n0_ n1_ n2_ n3_; (try clear hb); (try clear hb2); (try clear hk); (try clear hi); have hcz23_0 : w22.cell? ⟨gb303, 0, none⟩ = some (.int .i64 t297) := (blk_cell BK303.out 0).trans rfl; have hcz23_1 : w22.cell? ⟨gb303, 1, none⟩ = some (.int .i64 t298) := (blk_cell BK303.out 1).trans rfl; have hcz23_2 : w22.cell? ⟨gb303, 2, none⟩ = some (.int .i64 t299) := (blk_cell BK303.out 2).trans rfl; have hcz23_3 : w22.cell? ⟨gb303, 3, none⟩ = some (.int .i64 t300) := (blk_cell BK303.out 3).trans rfl; have hfz23_0 := blk_frozen BK303.out 0; have hfz23_1 := blk_frozen BK303.out 1; have hfz23_2 := blk_frozen BK303.out 2; have hfz23_3 := blk_frozen BK303.out 3) | ((with_reducible refine gate_callee (f := 26) rfl ?_); refine goesL_ (some 74) rfl rfl Try.func26 (by kernel_rfl) rfl #[.agg #[.int .i64 t297, .int .i64 t298, .int .i64 t299, .int .i64 t300], .int .i64 t301, .int .i64 t302] rfl zb' ?_; (with_reducible refine (spec_WaitingTime.calls k t297 t298 t299 t300 t301 t302 t314 t315 _ A8.out).mono ?_); rintro e w24 ⟨rfl, hb⟩; refine ⟨_, rfl, ?_⟩; have n0_ := am (Kd.R_below zb1' hb); have n1_ := am (Kd.R_below ze1' hb); have n2_ := am (blk_below (g := gb303) (o := o2') zp' hb); have n3_ := am (below_step zx' hb); clear HO306; clear HO310; clear BK303; clear HB; have HO306 := n0_; have HO310 := n1_; have BK303 := n2_; have HB := n3_; clear n0_ n1_ n2_ n3_; (try clear hb); (try clear hb2); (try clear hk); (try clear hi); have hcz25_0 : w24.cell? ⟨gb303, 0, none⟩ = some (.int .i64 t297) := (blk_cell BK303.out 0).trans rfl; have hcz25_1 : w24.cell? ⟨gb303, 1, none⟩ = some (.int .i64 t298) := (blk_cell BK303.out 1).trans rfl; have hcz25_2 : w24.cell? ⟨gb303, 2, none⟩ = some (.int .i64 t299) := (blk_cell BK303.out 2).trans rfl; have hcz25_3 : w24.cell? ⟨gb303, 3, none⟩ = some (.int .i64 t300) := (blk_cell BK303.out 3).trans rfl; have hfz25_0 := blk_frozen BK303.out 0; have hfz25_1 := blk_frozen BK303.out 1; have hfz25_2 := blk_frozen BK303.out 2; have hfz25_3 := blk_frozen BK303.out 3) | ((with_reducible refine gate_callee (f := 29) rfl ?_); refine goesL_ (some 81) rfl rfl Try.func29 (by kernel_rfl) rfl #[.agg #[.int .i64 t297, .int .i64 t298, .int .i64 t299, .int .i64 t300], .int .i64 t301, .int .i64 t302] rfl zb' ?_; (with_reducible refine (impl_ShovelIdle.calls k t297 t298 t299 t300 t301 t302 t316 t317 _ A9.out).mono ?_); rintro e w26 ⟨rfl, hb⟩; refine ⟨_, rfl, ?_⟩; have n0_ := am (Kd.R_below zb1' hb); have n1_ := am (Kd.R_below ze1' hb); have n2_ := am (blk_below (g := gb303) (o := o2') zp' hb); have n3_ := am (below_step zx' hb); clear HO306; clear HO310; clear BK303; clear HB; have HO306 := n0_; have HO310 := n1_; have BK303 := n2_; have HB := n3_; clear n0_ n1_ n2_ n3_; (try clear hb); (try clear hb2); (try clear hk); (try clear hi); have hcz27_0 : w26.cell? ⟨gb303, 0, none⟩ = some (.int .i64 t297) := (blk_cell BK303.out 0).trans rfl; have hcz27_1 : w26.cell? ⟨gb303, 1, none⟩ = some (.int .i64 t298) := (blk_cell BK303.out 1).trans rfl; have hcz27_2 : w26.cell? ⟨gb303, 2, none⟩ = some (.int .i64 t299) := (blk_cell BK303.out 2).trans rfl; have hcz27_3 : w26.cell? ⟨gb303, 3, none⟩ = some (.int .i64 t300) := (blk_cell BK303.out 3).trans rfl; have hfz27_0 := blk_frozen BK303.out 0; have hfz27_1 := blk_frozen BK303.out 1; have hfz27_2 := blk_frozen BK303.out 2; have hfz27_3 := blk_frozen BK303.out 3) | ((with_reducible refine gate_callee (f := 28) rfl ?_); refine goesL_ (some 88) rfl rfl Try.func28 (by kernel_rfl) rfl #[.agg #[.int .i64 t297, .int .i64 t298, .int .i64 t299, .int .i64 t300], .int .i64 t301, .int .i64 t302] rfl zb' ?_; (with_reducible refine (spec_ShovelIdle.calls k t297 t298 t299 t300 t301 t302 t318 t319 _ A10.out).mono ?_); rintro e w28 ⟨rfl, hb⟩; refine ⟨_, rfl, ?_⟩; have n0_ := am (Kd.R_below zb1' hb); have n1_ := am (Kd.R_below ze1' hb); have n2_ := am (blk_below (g := gb303) (o := o2') zp' hb); have n3_ := am (below_step zx' hb); clear HO306; clear HO310; clear BK303; clear HB; have HO306 := n0_; have HO310 := n1_; have BK303 := n2_; have HB := n3_; clear n0_ n1_ n2_ n3_; (try clear hb); (try clear hb2); (try clear hk); (try clear hi)) | ((with_reducible refine gate_callee (f := 40) rfl ?_); refine goesL_ (some 93) rfl rfl Try.func40 (by kernel_rfl) rfl #[.slice A1 l1.length c1] rfl zb' ?_; (with_reducible refine (spec_DrawLoadsBy.calls _ _ l1 t320 t321 t322 t323 t324 t325 _ ?side1 ?side2 A11.out).mono ?_); (case side1 => repeat (first | exact (Kd.C_below HR1.out HB.out) | (with_reducible refine Kd.C_alloc ?_ _) | (with_reducible refine Kd.C_drewN ?_ _) | (with_reducible refine Kd.C_drew ?_))); (case side2 => exact HC1.out); rintro e w29 ⟨rfl, hb⟩; refine ⟨_, rfl, ?_⟩; have n0_ := am (Kd.R_below zb1' hb); have n1_ := am (Kd.R_below ze1' hb); have n2_ := am (blk_below (g := gb303) (o := o2') zp' hb); have n3_ := am (below_step zx' hb); clear HO306; clear HO310; clear BK303; clear HB; have HO306 := n0_; have HO310 := n1_; have BK303 := n2_; have HB := n3_; clear n0_ n1_ n2_ n3_; (try clear hb); (try clear hb2); (try clear hk); (try clear hi)) | ((with_reducible refine gate_dst (N := 20) rfl ?_); (try (refine gate_guard (by rfl) ?_; dsimp only)); refine box_event ?hg (N := 20) ?hd (cs := #[.int .i64 0, .int .i64 0, .int .i64 0, .int .i64 0]) (t := 25) ?hr ?_; (case hd => rfl); (case hg => rfl); (case hr => exact zq'); intro gb326 hg w30 hbox hb; have n0_ := am (Kd.R_below zb1' hb); have n1_ := am (Kd.R_below ze1' hb); have n2_ := am (blk_below (g := gb303) (o := o2') zp' hb); have n3_ := am (below_step zx' hb); have n4_ := am (hbox); have n5_ := am ((by rw [hg]; exact (below_size zx') : w.heap.size ≤ gb326)); have n6_ := am ((by rw [hg]; exact (below_size zx') : w.heap.size ≤ gb326)); have n7_ := am ((by rw [hg]; exact Nat.ne_of_lt (blk_lt (g := gb303) (o := o2') zp') : gb303 ≠ gb326)); have n8_ := am ((by rw [hg]; exact Nat.ne_of_gt (blk_lt (g := gb303) (o := o2') zp') : gb326 ≠ gb303)); clear HO306; clear HO310; clear BK303; clear HB; have HO306 := n0_; have HO310 := n1_; have BK303 := n2_; have HB := n3_; have BK326 := n4_; have GW326 := n5_; have GE326 := n6_; have NB303_326 := n7_; have NB326_303 := n8_; clear n0_ n1_ n2_ n3_ n4_ n5_ n6_ n7_ n8_; clear hb hbox hg; have hnb31 := NB326_303.out; have hnc31 := NB303_326.out; have hcz32_0 : w30.cell? ⟨gb326, 0, none⟩ = some (.int .i64 0) := (blk_cell BK326.out 0).trans rfl; have hcz32_1 : w30.cell? ⟨gb326, 1, none⟩ = some (.int .i64 0) := (blk_cell BK326.out 1).trans rfl; have hcz32_2 : w30.cell? ⟨gb326, 2, none⟩ = some (.int .i64 0) := (blk_cell BK326.out 2).trans rfl; have hcz32_3 : w30.cell? ⟨gb326, 3, none⟩ = some (.int .i64 0) := (blk_cell BK326.out 3).trans rfl; have hfz32_0 := blk_frozen BK326.out 0; have hfz32_1 := blk_frozen BK326.out 1; have hfz32_2 := blk_frozen BK326.out 2; have hfz32_3 := blk_frozen BK326.out 3) | ((with_reducible refine gate_callee (f := 31) rfl ?_); refine goesL_ (some 101) rfl rfl Try.func31 (by kernel_rfl) rfl #[.agg #[.int .i64 t320, .int .i64 t321, .int .i64 t322, .int .i64 t323], .int .i64 t324, .int .i64 t325] rfl zb' ?_; (with_reducible refine (impl_LoadsBy.calls k t320 t321 t322 t323 t324 t325 t327 t328 _ A12.out).mono ?_); rintro e w33 ⟨rfl, hb⟩; refine ⟨_, rfl, ?_⟩; have n0_ := am (Kd.R_below (by (with_reducible repeat (first | apply Kd.R_alloc | apply Kd.R_drewN | apply Kd.R_drew)); exact (Kd.R_mono (Kd.R_far (p := ⟨gb326, 3, none⟩) (Kd.R_far (p := ⟨gb326, 2, none⟩) (Kd.R_far (p := ⟨gb326, 1, none⟩) (Kd.R_far (p := ⟨gb326, 0, none⟩) (Kd.R_types HO306.out BK326.out (by decide)) (fun _ hk => hk.2) (.int .i64 t320)) (fun _ hk => hk.2) (.int .i64 t321)) (fun _ hk => hk.2) (.int .i64 t322)) (fun _ hk => hk.2) (.int .i64 t323)) (fun _ h_ => h_.1))) hb); have n1_ := am (Kd.R_below (by (with_reducible repeat (first | apply Kd.R_alloc | apply Kd.R_drewN | apply Kd.R_drew)); exact (Kd.R_mono (Kd.R_far (p := ⟨gb326, 3, none⟩) (Kd.R_far (p := ⟨gb326, 2, none⟩) (Kd.R_far (p := ⟨gb326, 1, none⟩) (Kd.R_far (p := ⟨gb326, 0, none⟩) (Kd.R_types HO310.out BK326.out (by decide)) (fun _ hk => hk.2) (.int .i64 t320)) (fun _ hk => hk.2) (.int .i64 t321)) (fun _ hk => hk.2) (.int .i64 t322)) (fun _ hk => hk.2) (.int .i64 t323)) (fun _ h_ => h_.1))) hb); have n2_ := am (blk_below (g := gb303) (o := o2') (by (with_reducible repeat (first | apply kn | apply kd | apply ka)); refine blk_far ?_ NB303_326.out _; (with_reducible repeat (first | apply kn | apply kd | apply ka)); refine blk_far ?_ NB303_326.out _; (with_reducible repeat (first | apply kn | apply kd | apply ka)); refine blk_far ?_ NB303_326.out _; (with_reducible repeat (first | apply kn | apply kd | apply ka)); refine blk_far ?_ NB303_326.out _; (with_reducible repeat (first | apply kn | apply kd | apply ka)); exact BK303.out) hb); have n3_ := am (blk_below (g := gb326) (o := o4') (by (with_reducible repeat (first | apply kn | apply kd | apply ka)); refine blk_put (cs := #[.int .i64 t320, .int .i64 t321, .int .i64 t322, .int .i64 0]) ?_ 3 _ rfl; (with_reducible repeat (first | apply kn | apply kd | apply ka)); refine blk_put (cs := #[.int .i64 t320, .int .i64 t321, .int .i64 0, .int .i64 0]) ?_ 2 _ rfl; (with_reducible repeat (first | apply kn | apply kd | apply ka)); refine blk_put (cs := #[.int .i64 t320, .int .i64 0, .int .i64 0, .int .i64 0]) ?_ 1 _ rfl; (with_reducible repeat (first | apply kn | apply kd | apply ka)); refine blk_put (cs := #[.int .i64 0, .int .i64 0, .int .i64 0, .int .i64 0]) ?_ 0 _ rfl; (with_reducible repeat (first | apply kn | apply kd | apply ka)); exact BK326.out) hb); have n4_ := am (below_step zd' hb); clear HO306; clear HO310; clear BK303; clear BK326; clear HB; have HO306 := n0_; have HO310 := n1_; have BK303 := n2_; have BK326 := n3_; have HB := n4_; clear n0_ n1_ n2_ n3_ n4_; (try clear hb); (try clear hb2); (try clear hk); (try clear hi); have hcz34_0 : w33.cell? ⟨gb326, 0, none⟩ = some (.int .i64 t320) := (blk_cell BK326.out 0).trans rfl; have hcz34_1 : w33.cell? ⟨gb326, 1, none⟩ = some (.int .i64 t321) := (blk_cell BK326.out 1).trans rfl; have hcz34_2 : w33.cell? ⟨gb326, 2, none⟩ = some (.int .i64 t322) := (blk_cell BK326.out 2).trans rfl; have hcz34_3 : w33.cell? ⟨gb326, 3, none⟩ = some (.int .i64 t323) := (blk_cell BK326.out 3).trans rfl; have hfz34_0 := blk_frozen BK326.out 0; have hfz34_1 := blk_frozen BK326.out 1; have hfz34_2 := blk_frozen BK326.out 2; have hfz34_3 := blk_frozen BK326.out 3) | ((with_reducible refine gate_callee (f := 30) rfl ?_); refine goesL_ (some 108) rfl rfl Try.func30 (by kernel_rfl) rfl #[.agg #[.int .i64 t320, .int .i64 t321, .int .i64 t322, .int .i64 t323], .int .i64 t324, .int .i64 t325] rfl zb' ?_; (with_reducible refine (spec_LoadsBy.calls k t320 t321 t322 t323 t324 t325 t329 t330 _ A13.out).mono ?_); rintro e w35 ⟨rfl, hb⟩; refine ⟨_, rfl, ?_⟩; have n0_ := am (Kd.R_below zb1' hb); have n1_ := am (Kd.R_below ze1' hb); have n2_ := am (blk_below (g := gb303) (o := o2') zp' hb); have n3_ := am (blk_below (g := gb326) (o := o4') zu' hb); have n4_ := am (below_step zd' hb); clear HO306; clear HO310; clear BK303; clear BK326; clear HB; have HO306 := n0_; have HO310 := n1_; have BK303 := n2_; have BK326 := n3_; have HB := n4_; clear n0_ n1_ n2_ n3_ n4_; (try clear hb); (try clear hb2); (try clear hk); (try clear hi)))
  (try simp only [Act.put, s1, s2, s3])
  go_cut [166] (fun v166 wc => ∃ (kq : Nat) (x166_13 : Bool), v166 = .bool x166_13 ∧ Aside0 (laws_FnCycles.j0 kq t301 t302 t307 t308 t314 t318 t324 t325 t328 t329 x166_13 t297 t298 t299 t300 t320 t321 t322 t323 = some r) ∧ Aside0 (kq ≤ k) ∧ Aside0 (Kd.R (Kd.int .i64) 3 wc w.heap.size (fun _ => True) v309 t308) ∧ Aside0 (wc.heap[gb303]? = some (.cells #[.int .i64 t297, .int .i64 t298, .int .i64 t299, .int .i64 t300] 25 (0, 0))) ∧ Aside0 (wc.heap[gb326]? = some (.cells #[.int .i64 t320, .int .i64 t321, .int .i64 t322, .int .i64 t323] 25 (0, 0))) ∧ Aside0 (Below w.heap.size w wc))
  case first => as_aux_lemma =>
   have H := HC14.out; clear HC14
   by_cases c36 : (t307 != t311) = true
   ·rw [if_pos c36] at H
    exact absurd H (by simp)
   ·rw [if_neg c36] at H
    have c36b0 : (t307 != t311) = false := by simpa using c36
    (try (have c36b1 : decide (t307 = t311) = true := by simpa using c36)); (try (have c36b2 : (t307 == t311) = true := by simpa using c36)); clear c36
    (first | rw [c36b0] | (simp only [i64_w, i32_w]; rw [c36b0]) | skip)
    replace H := Option.bind_eq_some_iff.mp H; obtain ⟨t331, A380, H⟩ := H; replace H : (if t331 = true then (if (t313 != t315) = true then (none) else (if t312 = t314 then (if (t317 != t319) = true then (none) else (if t316 = t318 then (if (t328 != t330) = true then (none) else (if t327 = t329 then ((impl_IsCycle.f k t297 t298 t299 t300).bind fun t332 => ((spec_IsCycle.f k t297 t298 t299 t300).bind fun t333 => (if (t332 != t333) = true then (none) else (if (t313 != t307) = true then (none) else (laws_FnCycles.j0 k t301 t302 t307 t308 t314 t318 t324 t325 t328 t329 (t317 != t307) t297 t298 t299 t300 t320 t321 t322 t323))))) else (none))) else (none))) else (none))) else (none)) = some r := H; have A38 := Aside0.mk A380; clear A380
    by_cases c39 : t331 = true
    ·subst c39
     have H1 : (if (t313 != t315) = true then (none) else (if t312 = t314 then (if (t317 != t319) = true then (none) else (if t316 = t318 then (if (t328 != t330) = true then (none) else (if t327 = t329 then ((impl_IsCycle.f k t297 t298 t299 t300).bind fun t332 => ((spec_IsCycle.f k t297 t298 t299 t300).bind fun t333 => (if (t332 != t333) = true then (none) else (if (t313 != t307) = true then (none) else (laws_FnCycles.j0 k t301 t302 t307 t308 t314 t318 t324 t325 t328 t329 (t317 != t307) t297 t298 t299 t300 t320 t321 t322 t323))))) else (none))) else (none))) else (none))) = some r := by rw [if_pos rfl] at H; exact H
     clear H; have H := H1; clear H1
     by_cases c40 : (t313 != t315) = true
     ·rw [if_pos c40] at H
      exact absurd H (by simp)
     ·rw [if_neg c40] at H
      have c40b0 : (t313 != t315) = false := by simpa using c40
      (try (have c40b1 : decide (t313 = t315) = true := by simpa using c40)); (try (have c40b2 : (t313 == t315) = true := by simpa using c40)); clear c40
      by_cases c44 : t312 = t314
      ·rw [if_pos c44] at H
       have c44b0 : (t312 == t314) = true := beq_iff_eq.mpr c44; have c44b1 : (t312 != t314) = false := bne_eq_false_iff_eq.mpr c44; clear c44
       by_cases c45 : (t317 != t319) = true
       ·rw [if_pos c45] at H
        exact absurd H (by simp)
       ·rw [if_neg c45] at H
        have c45b0 : (t317 != t319) = false := by simpa using c45
        (try (have c45b1 : decide (t317 = t319) = true := by simpa using c45)); (try (have c45b2 : (t317 == t319) = true := by simpa using c45)); clear c45
        by_cases c49 : t316 = t318
        ·rw [if_pos c49] at H
         have c49b0 : (t316 == t318) = true := beq_iff_eq.mpr c49; have c49b1 : (t316 != t318) = false := bne_eq_false_iff_eq.mpr c49; clear c49
         by_cases c50 : (t328 != t330) = true
         ·rw [if_pos c50] at H
          exact absurd H (by simp)
         ·rw [if_neg c50] at H
          have c50b0 : (t328 != t330) = false := by simpa using c50
          (try (have c50b1 : decide (t328 = t330) = true := by simpa using c50)); (try (have c50b2 : (t328 == t330) = true := by simpa using c50)); clear c50
          by_cases c54 : t327 = t329
          ·rw [if_pos c54] at H
           have c54b0 : (t327 == t329) = true := beq_iff_eq.mpr c54; have c54b1 : (t327 != t329) = false := bne_eq_false_iff_eq.mpr c54; clear c54; replace H := Option.bind_eq_some_iff.mp H; obtain ⟨t332, A550, H⟩ := H; replace H : (((spec_IsCycle.f k t297 t298 t299 t300).bind fun t333 => (if (t332 != t333) = true then (none) else (if (t313 != t307) = true then (none) else (laws_FnCycles.j0 k t301 t302 t307 t308 t314 t318 t324 t325 t328 t329 (t317 != t307) t297 t298 t299 t300 t320 t321 t322 t323))))) = some r := H; have A55 := Aside0.mk A550; clear A550; replace H := Option.bind_eq_some_iff.mp H; obtain ⟨t333, A560, H⟩ := H; replace H : (if (t332 != t333) = true then (none) else (if (t313 != t307) = true then (none) else (laws_FnCycles.j0 k t301 t302 t307 t308 t314 t318 t324 t325 t328 t329 (t317 != t307) t297 t298 t299 t300 t320 t321 t322 t323))) = some r := H; have A56 := Aside0.mk A560; clear A560
           by_cases c57 : (t332 != t333) = true
           ·rw [if_pos c57] at H
            exact absurd H (by simp)
           ·rw [if_neg c57] at H
            have c57b0 : (t332 != t333) = false := by simpa using c57
            (try (have c57b1 : decide (t332 = t333) = true := by simpa using c57)); (try (have c57b2 : (t332 == t333) = true := by simpa using c57)); clear c57
            by_cases c63 : (t313 != t307) = true
            ·rw [if_pos c63] at H
             exact absurd H (by simp)
            ·rw [if_neg c63] at H
             have c63b0 : (t313 != t307) = false := by simpa using c63
             (try (have c63b1 : decide (t313 = t307) = true := by simpa using c63)); (try (have c63b2 : (t313 == t307) = true := by simpa using c63)); clear c63; have H' := Aside0.mk H; clear H
             try go_wp2
             have n0_ := am (Kd.R_drew HO306.out); have n1_ := am (Kd.R_drew HO310.out); have n2_ := am (blk_drew BK303.out); have n3_ := am (blk_drew BK326.out); have n4_ := am (below_drew1 HB.out); clear HO306; clear HO310; clear BK303; clear BK326; clear HB; have HO306 := n0_; have HO310 := n1_; have BK303 := n2_; have BK326 := n3_; have HB := n4_; clear n0_ n1_ n2_ n3_ n4_; obtain ⟨Ao70, co70, eo70⟩ := Kd.R_slice HO306.out
             (first | subst eo70 | (injection eo70 with f1_ f2_ f3_; have f4_ := f1_.symm; have f5_ := f3_.symm; clear f1_ f2_ f3_; subst f4_; subst f5_))
             obtain ⟨Ao71, co71, eo71⟩ := Kd.R_slice HO310.out
             (first | subst eo71 | (injection eo71 with f1_ f2_ f3_; have f4_ := f1_.symm; have f5_ := f3_.symm; clear f1_ f2_ f3_; subst f4_; subst f5_))
             refine start_ (n := 56) (S := fun w' => w'.cell? ⟨gb303, 0, none⟩ = some (.int .i64 t297) ∧ w'.cell? ⟨gb303, 1, none⟩ = some (.int .i64 t298) ∧ w'.cell? ⟨gb303, 2, none⟩ = some (.int .i64 t299) ∧ w'.cell? ⟨gb303, 3, none⟩ = some (.int .i64 t300)) (ds := []) m0_ (by kernel_rfl) rfl rfl ⟨(blk_cell BK303.out 0).trans rfl, (blk_cell BK303.out 1).trans rfl, (blk_cell BK303.out 2).trans rfl, (blk_cell BK303.out 3).trans rfl⟩ (fun hHeld => ?_); refine with_tabW laws_FnCycles.tab13 laws_FnCycles.bits13 (fun HT_ HW_ => ?_)
             generalize w35.drew = w69 at HO306 HO310 BK303 BK326 HB hHeld ⊢
             refine pure_ (i := 0) (N := some 111) (v := ?_) (a' := ?_) m1_ rfl rfl (any_of HT_.out (by kernel_rfl)) (fun _ _ _ h => h) (Or.inl ⟨by rfl, ?_⟩) ?_ ?_
             rotate_left
             ·intro w'
              go_simp
              with_reducible rfl
             rotate_left
             ·simp only [Act.put, s1, s2, s3, i64_w, i32_w]
              rfl
             refine pure_ (i := 1) (N := some 112) (v := ?_) (a' := ?_) m2_ rfl rfl (any_of HT_.out (by kernel_rfl)) (fun _ _ _ h => h) (Or.inl ⟨by rfl, ?_⟩) ?_ ?_
             rotate_left
             ·intro w'
              go_simp
              with_reducible rfl
             rotate_left
             ·simp only [Act.put, s1, s2, s3, i64_w, i32_w]
              rfl
             refine pure_ (i := 2) (N := some 113) (v := ?_) (a' := ?_) m3_ rfl rfl (any_of HT_.out (by kernel_rfl)) (fun _ _ _ h => h) (Or.inl ⟨by rfl, ?_⟩) ?_ ?_
             rotate_left
             ·intro w'
              go_simp
              with_reducible rfl
             rotate_left
             ·simp only [Act.put, s1, s2, s3, i64_w, i32_w]
              rfl
             refine pure_ (i := 3) (N := some 114) (v := ?_) (a' := ?_) m4_ rfl rfl (any_of HT_.out (by kernel_rfl)) (fun _ _ _ h => h) (Or.inl ⟨by rfl, ?_⟩) ?_ ?_
             rotate_left
             ·intro w'
              go_simp
              with_reducible rfl
             rotate_left
             ·simp only [Act.put, s1, s2, s3, i64_w, i32_w]
              rfl
             refine pure_ (i := 4) (N := some 115) (v := ?_) (a' := ?_) m5_ rfl rfl (any_of HT_.out (by kernel_rfl)) (fun _ _ _ h => h) (Or.inl ⟨by rfl, ?_⟩) ?_ ?_
             rotate_left
             ·intro w'
              go_simp
              with_reducible rfl
             rotate_left
             ·simp only [Act.put, s1, s2, s3, i64_w, i32_w]
              rfl
             refine pure_ (i := 5) (N := some 116) (v := ?_) (a' := ?_) m6_ rfl rfl (any_of HT_.out (by kernel_rfl)) (fun _ _ _ h => h) (Or.inl ⟨by rfl, ?_⟩) ?_ ?_
             rotate_left
             ·intro w'
              go_simp
              with_reducible rfl
             rotate_left
             ·simp only [Act.put, s1, s2, s3, i64_w, i32_w]
              rfl
             refine one_ (i := 6) (N := some 117) m7_ rfl rfl (one_of HT_.out (by kernel_rfl)) (by decide) (fun K hK => ?_)
             refine goes_ Try.func41 (by kernel_rfl) rfl #[.slice Ao70 t304.length co70, .slice Ao71 t308.length co71] (by rfl) rfl rfl zb' ?_
             with_reducible refine (laws_qInts.calls k _ _ t304 _ _ t308 true _ ?side1 ?side2 ?side3 ?side4 A38.out).mono ?_
             (case side1 => repeat (first | exact (Kd.R_reads' HO306.out).2.2 | (with_reducible refine Kd.C_alloc ?_ _) | (with_reducible refine Kd.C_drewN ?_ _) | (with_reducible refine Kd.C_drew ?_)))
             (case side2 => exact (Kd.R_reads' HO306.out).2.1)
             (case side3 => repeat (first | exact (Kd.R_reads' HO310.out).2.2 | (with_reducible refine Kd.C_alloc ?_ _) | (with_reducible refine Kd.C_drewN ?_ _) | (with_reducible refine Kd.C_drew ?_)))
             (case side4 => exact (Kd.R_reads' HO310.out).2.1)
             rintro e w' ⟨rfl, ⟨nd, rfl⟩⟩
             refine ⟨_, rfl, ?_⟩
             refine hK.out _ _ ⟨(blk_cell BK303.out 0).trans rfl, (blk_cell BK303.out 1).trans rfl, (blk_cell BK303.out 2).trans rfl, (blk_cell BK303.out 3).trans rfl⟩ (fun hHeld => ?_)
             clear hK K
             refine norm_ (a' := ?_) ?_ ?_
             rotate_left
             ·show Act.put _ (some 117) _ = _
              simp only [Act.put, s1, s2, s3, i64_w, i32_w]
              rfl
             refine pure_ (i := 7) (N := some 118) (v := ?_) (a' := ?_) m8_ rfl rfl (any_of HT_.out (by kernel_rfl)) (fun _ _ _ h => h) (Or.inl ⟨by rfl, ?_⟩) ?_ ?_
             rotate_left
             ·intro w'
              go_simp
              with_reducible rfl
             rotate_left
             ·simp only [Act.put, s1, s2, s3, i64_w, i32_w]
              rfl
             refine pure_ (i := 8) (N := some 119) (v := ?_) (a' := ?_) m9_ rfl rfl (any_of HT_.out (by kernel_rfl)) (fun _ _ _ h => h) (Or.inl ⟨by rfl, ?_⟩) ?_ ?_
             rotate_left
             ·intro w'
              go_simp
              with_reducible rfl
             rotate_left
             ·simp only [Act.put, s1, s2, s3, i64_w, i32_w]
              rfl
             refine pure_ (i := 9) (N := some 120) (v := ?_) (a' := ?_) m10_ rfl rfl (any_of HT_.out (by kernel_rfl)) (fun _ _ _ h => h) (Or.inl ⟨by rfl, ?_⟩) ?_ ?_
             rotate_left
             ·intro w'
              go_simp
              with_reducible rfl
             rotate_left
             ·simp only [Act.put, s1, s2, s3, i64_w, i32_w]
              rfl
             refine pure_ (i := 10) (N := some 121) (v := ?_) (a' := ?_) m11_ rfl rfl (any_of HT_.out (by kernel_rfl)) (fun _ _ _ h => h) (Or.inl ⟨by rfl, ?_⟩) ?_ ?_
             rotate_left
             ·intro w'
              go_simp
              with_reducible rfl
             rotate_left
             ·simp only [Act.put, s1, s2, s3, i64_w, i32_w]
              rfl
             refine pure_ (i := 11) (N := some 122) (v := ?_) (a' := ?_) m12_ rfl rfl (any_of HT_.out (by kernel_rfl)) (fun _ _ _ h => h) (Or.inl ⟨by rfl, ?_⟩) ?_ ?_
             rotate_left
             ·intro w'
              go_simp
              with_reducible rfl
             rotate_left
             ·simp only [Act.put, s1, s2, s3, i64_w, i32_w]
              rfl
             refine pure_ (i := 12) (N := some 123) (v := ?_) (a' := ?_) m13_ rfl rfl (any_of HT_.out (by kernel_rfl)) (fun _ _ _ h => h) (Or.inl ⟨by rfl, ?_⟩) ?_ ?_
             rotate_left
             ·intro w'
              go_simp
              with_reducible rfl
             rotate_left
             ·simp only [Act.put, s1, s2, s3, i64_w, i32_w]
              rfl
             refine pure_ (i := 13) (N := some 124) (v := ?_) (a' := ?_) m14_ rfl rfl (any_of HT_.out (by kernel_rfl)) (fun _ _ _ h => h) (Or.inl ⟨by rfl, ?_⟩) ?_ ?_
             rotate_left
             ·intro w'
              go_simp
              with_reducible rfl
             rotate_left
             ·simp only [Act.put, s1, s2, s3, i64_w, i32_w]
              rfl
             refine pure_ (i := 14) (N := some 125) (v := ?_) (a' := ?_) m15_ rfl rfl (any_of HT_.out (by kernel_rfl)) (fun _ _ _ h => h) (Or.inl ⟨by rfl, ?_⟩) ?_ ?_
             rotate_left
             ·intro w'
              go_simp
              with_reducible rfl
             rotate_left
             ·simp only [Act.put, s1, s2, s3, i64_w, i32_w]
              rfl
             refine pure_ (i := 15) (N := some 126) (v := ?_) (a' := ?_) m16_ rfl rfl (any_of HT_.out (by kernel_rfl)) (fun _ _ _ h => h) (Or.inl ⟨by rfl, ?_⟩) ?_ ?_
             rotate_left
             ·intro w'
              go_simp
              with_reducible rfl
             rotate_left
             ·simp only [Act.put, s1, s2, s3, i64_w, i32_w]
              rfl
             refine pure_ (i := 16) (N := some 127) (v := ?_) (a' := ?_) m17_ rfl rfl (any_of HT_.out (by kernel_rfl)) (fun _ _ _ h => h) (Or.inl ⟨by rfl, ?_⟩) ?_ ?_
             rotate_left
             ·intro w'
              go_simp
              with_reducible rfl
             rotate_left
             ·simp only [Act.put, s1, s2, s3, i64_w, i32_w]
              rfl
             refine pure_ (i := 17) (N := some 128) (v := ?_) (a' := ?_) m18_ rfl rfl (any_of HT_.out (by kernel_rfl)) (fun _ _ _ h => h) (Or.inl ⟨by rfl, ?_⟩) ?_ ?_
             rotate_left
             ·intro w'
              go_simp
              with_reducible rfl
             rotate_left
             ·simp only [Act.put, s1, s2, s3, i64_w, i32_w]
              rfl
             refine pure_ (i := 18) (N := some 129) (v := ?_) (a' := ?_) m19_ rfl rfl (any_of HT_.out (by kernel_rfl)) (fun _ _ _ h => h) (Or.inl ⟨by rfl, ?_⟩) ?_ ?_
             rotate_left
             ·intro w'
              go_simp
              with_reducible rfl
             rotate_left
             ·simp only [Act.put, s1, s2, s3, i64_w, i32_w]
              rfl
             refine pure_ (i := 19) (N := some 130) (v := ?_) (a' := ?_) m20_ rfl rfl (any_of HT_.out (by kernel_rfl)) (fun _ _ _ h => h) (Or.inl ⟨by rfl, ?_⟩) ?_ ?_
             rotate_left
             ·intro w'
              go_simp
              with_reducible rfl
             rotate_left
             ·simp only [Act.put, s1, s2, s3, i64_w, i32_w]
              rfl
             refine pure_ (i := 20) (N := some 131) (v := ?_) (a' := ?_) m21_ rfl rfl (any_of HT_.out (by kernel_rfl)) (fun _ _ _ h => h) (Or.inl ⟨by rfl, ?_⟩) ?_ ?_
             rotate_left
             ·intro w'
              go_simp
              with_reducible rfl
             rotate_left
             ·simp only [Act.put, s1, s2, s3, i64_w, i32_w]
              rfl
             refine pure_ (i := 21) (N := some 132) (v := ?_) (a' := ?_) m22_ rfl rfl (any_of HT_.out (by kernel_rfl)) (fun _ _ _ h => h) (Or.inl ⟨by rfl, ?_⟩) ?_ ?_
             rotate_left
             ·intro w'
              go_simp
              with_reducible rfl
             rotate_left
             ·simp only [Act.put, s1, s2, s3, i64_w, i32_w]
              rfl
             refine pure_ (i := 22) (N := some 133) (v := ?_) (a' := ?_) m23_ rfl rfl (any_of HT_.out (by kernel_rfl)) (fun _ _ _ h => h) (Or.inl ⟨by rfl, ?_⟩) ?_ ?_
             rotate_left
             ·intro w'
              go_simp
              with_reducible rfl
             rotate_left
             ·simp only [Act.put, s1, s2, s3, i64_w, i32_w]
              rfl
             refine pure_ (i := 23) (N := some 134) (v := ?_) (a' := ?_) m24_ rfl rfl (any_of HT_.out (by kernel_rfl)) (fun _ _ _ h => h) (Or.inl ⟨by rfl, ?_⟩) ?_ ?_
             rotate_left
             ·intro w'
              go_simp
              with_reducible rfl
             rotate_left
             ·simp only [Act.put, s1, s2, s3, i64_w, i32_w]
              rfl
             refine pure_ (i := 24) (N := some 135) (v := ?_) (a' := ?_) m25_ rfl rfl (any_of HT_.out (by kernel_rfl)) (fun _ _ _ h => h) (Or.inl ⟨by rfl, ?_⟩) ?_ ?_
             rotate_left
             ·intro w'
              go_simp
              with_reducible rfl
             rotate_left
             ·simp only [Act.put, s1, s2, s3, i64_w, i32_w]
              rfl
             refine pure_ (i := 25) (N := some 136) (v := ?_) (a' := ?_) m26_ rfl rfl (any_of HT_.out (by kernel_rfl)) (fun _ _ _ h => h) (Or.inl ⟨by rfl, ?_⟩) ?_ ?_
             rotate_left
             ·intro w'
              go_simp
              with_reducible rfl
             rotate_left
             ·simp only [Act.put, s1, s2, s3, i64_w, i32_w]
              rfl
             refine pure_ (i := 26) (N := some 137) (v := ?_) (a' := ?_) m27_ rfl rfl (any_of HT_.out (by kernel_rfl)) (fun _ _ _ h => h) (Or.inl ⟨by rfl, ?_⟩) ?_ ?_
             rotate_left
             ·intro w'
              go_simp
              with_reducible rfl
             rotate_left
             ·simp only [Act.put, s1, s2, s3, i64_w, i32_w]
              rfl
             refine pure_ (i := 27) (N := some 138) (v := ?_) (a' := ?_) m28_ rfl rfl (any_of HT_.out (by kernel_rfl)) (fun _ _ _ h => h) (Or.inl ⟨by rfl, ?_⟩) ?_ ?_
             rotate_left
             ·intro w'
              go_simp
              with_reducible rfl
             rotate_left
             ·simp only [Act.put, s1, s2, s3, i64_w, i32_w]
              rfl
             refine pure_ (i := 28) (N := some 139) (v := ?_) (a' := ?_) m29_ rfl rfl (any_of HT_.out (by kernel_rfl)) (fun _ _ _ h => h) (Or.inl ⟨by rfl, ?_⟩) ?_ ?_
             rotate_left
             ·intro w'
              go_simp
              with_reducible rfl
             rotate_left
             ·simp only [Act.put, s1, s2, s3, i64_w, i32_w]
              rfl
             refine pure_ (i := 29) (N := some 140) (v := ?_) (a' := ?_) m30_ rfl rfl (any_of HT_.out (by kernel_rfl)) (fun _ _ _ h => h) (Or.inl ⟨by rfl, ?_⟩) ?_ ?_
             rotate_left
             ·intro w'
              go_simp
              with_reducible rfl
             rotate_left
             ·simp only [Act.put, s1, s2, s3, i64_w, i32_w]
              rfl
             refine pure_ (i := 30) (N := some 141) (v := ?_) (a' := ?_) m31_ rfl rfl (any_of HT_.out (by kernel_rfl)) (fun _ _ _ h => h) (Or.inl ⟨by rfl, ?_⟩) ?_ ?_
             rotate_left
             ·intro w'
              go_simp
              with_reducible rfl
             rotate_left
             ·simp only [Act.put, s1, s2, s3, i64_w, i32_w]
              rfl
             refine pure_ (i := 31) (N := some 142) (v := ?_) (a' := ?_) m32_ rfl rfl (any_of HT_.out (by kernel_rfl)) (fun _ _ _ h => h) (Or.inl ⟨by rfl, ?_⟩) ?_ ?_
             rotate_left
             ·intro w'
              go_simp
              with_reducible rfl
             rotate_left
             ·simp only [Act.put, s1, s2, s3, i64_w, i32_w]
              rfl
             refine pure_ (i := 32) (N := some 143) (v := ?_) (a' := ?_) m33_ rfl rfl (any_of HT_.out (by kernel_rfl)) (fun _ _ _ h => h) (Or.inl ⟨by rfl, ?_⟩) ?_ ?_
             rotate_left
             ·intro w'
              go_simp
              with_reducible rfl
             rotate_left
             ·simp only [Act.put, s1, s2, s3, i64_w, i32_w]
              rfl
             refine pure_ (i := 33) (N := some 144) (v := ?_) (a' := ?_) m34_ rfl rfl (any_of HT_.out (by kernel_rfl)) (fun _ _ _ h => h) (Or.inl ⟨by rfl, ?_⟩) ?_ ?_
             rotate_left
             ·intro w'
              go_simp
              with_reducible rfl
             rotate_left
             ·simp only [Act.put, s1, s2, s3, i64_w, i32_w]
              rfl
             refine pure_ (i := 34) (N := some 145) (v := ?_) (a' := ?_) m35_ rfl rfl (any_of HT_.out (by kernel_rfl)) (fun _ _ _ h => h) (Or.inl ⟨by rfl, ?_⟩) ?_ ?_
             rotate_left
             ·intro w'
              go_simp
              with_reducible rfl
             rotate_left
             ·simp only [Act.put, s1, s2, s3, i64_w, i32_w]
              rfl
             refine pure_ (i := 35) (N := some 146) (v := ?_) (a' := ?_) m36_ rfl rfl (any_of HT_.out (by kernel_rfl)) (fun _ _ _ h => h) (Or.inl ⟨by rfl, ?_⟩) ?_ ?_
             rotate_left
             ·intro w'
              go_simp
              with_reducible rfl
             rotate_left
             ·simp only [Act.put, s1, s2, s3, i64_w, i32_w]
              rfl
             refine pure_ (i := 36) (N := some 147) (v := ?_) (a' := ?_) m37_ rfl rfl (any_of HT_.out (by kernel_rfl)) (fun _ _ _ h => h) (Or.inl ⟨by rfl, ?_⟩) ?_ ?_
             rotate_left
             ·intro w'
              go_simp
              with_reducible rfl
             rotate_left
             ·simp only [Act.put, s1, s2, s3, i64_w, i32_w]
              rfl
             refine pure_ (i := 37) (N := some 148) (v := ?_) (a' := ?_) m38_ rfl rfl (any_of HT_.out (by kernel_rfl)) (fun _ _ _ h => h) (Or.inl ⟨by rfl, ?_⟩) ?_ ?_
             rotate_left
             ·intro w'
              go_simp
              with_reducible rfl
             rotate_left
             ·simp only [Act.put, s1, s2, s3, i64_w, i32_w]
              rfl
             refine pure_ (i := 38) (N := some 149) (v := ?_) (a' := ?_) m39_ rfl rfl (any_of HT_.out (by kernel_rfl)) (fun _ _ _ h => h) (Or.inl ⟨by rfl, ?_⟩) ?_ ?_
             rotate_left
             ·intro w'
              go_simp
              with_reducible rfl
             rotate_left
             ·simp only [Act.put, s1, s2, s3, i64_w, i32_w]
              rfl
             refine pure_ (i := 39) (N := some 150) (v := ?_) (a' := ?_) m40_ rfl rfl (any_of HT_.out (by kernel_rfl)) (fun _ _ _ h => h) (Or.inl ⟨by rfl, ?_⟩) ?_ ?_
             rotate_left
             ·intro w'
              go_simp
              with_reducible rfl
             rotate_left
             ·simp only [Act.put, s1, s2, s3, i64_w, i32_w]
              rfl
             refine take_ (i := 40) (N := some 151) (v := ?_) (a' := ?_) m41_ rfl rfl (take_ofW HT_.out HW_.out (by kernel_rfl)) (fun _ _ _ h => h) (Or.inl ⟨by rfl, ?_⟩) hHeld ?_ ?_
             rotate_left
             ·rintro w' ⟨s0, s1, s2, s3⟩
              go_simp
              with_reducible rfl
             rotate_left
             ·simp only [Act.put, s1, s2, s3, i64_w, i32_w]
              rfl
             refine take_ (i := 42) (N := some 153) (v := ?_) (a' := ?_) m42_ rfl rfl (take_ofW HT_.out HW_.out (by kernel_rfl)) (fun _ _ _ h => h) (Or.inl ⟨by rfl, ?_⟩) hHeld ?_ ?_
             rotate_left
             ·rintro w' ⟨s0, s1, s2, s3⟩
              go_simp
              with_reducible rfl
             rotate_left
             ·simp only [Act.put, s1, s2, s3, i64_w, i32_w]
              rfl
             refine one_ (i := 41) (N := some 152) m43_ rfl rfl (one_of HT_.out (by kernel_rfl)) (by decide) (fun K hK => ?_)
             refine goes_ Try.func17 (by kernel_rfl) rfl #[.agg #[.int .i64 t297, .int .i64 t298, .int .i64 t299, .int .i64 t300]] (by rfl) rfl rfl zb' ?_
             with_reducible refine (impl_IsCycle.calls k t297 t298 t299 t300 t332 _ A55.out).mono ?_
             rintro e w72 ⟨rfl, hb⟩
             refine ⟨_, rfl, ?_⟩
             have n0_ := am (Kd.R_below zb1' hb); have n1_ := am (Kd.R_below ze1' hb); have n2_ := am (blk_below (g := gb303) (o := o2') zp' hb); have n3_ := am (blk_below (g := gb326) (o := o4') zu' hb); have n4_ := am (below_step zd' hb); clear HO306; clear HO310; clear BK303; clear BK326; clear HB; have HO306 := n0_; have HO310 := n1_; have BK303 := n2_; have BK326 := n3_; have HB := n4_; clear n0_ n1_ n2_ n3_ n4_; (try clear hb); (try clear hb2); (try clear hk); (try clear hi)
             refine hK.out _ _ ⟨(blk_cell BK303.out 0).trans rfl, (blk_cell BK303.out 1).trans rfl, (blk_cell BK303.out 2).trans rfl, (blk_cell BK303.out 3).trans rfl⟩ (fun hHeld => ?_)
             clear hK K
             refine norm_ (a' := ?_) ?_ ?_
             rotate_left
             ·show Act.put _ (some 152) _ = _
              simp only [Act.put, s1, s2, s3, i64_w, i32_w]
              rfl
             refine one_ (i := 43) (N := some 154) m44_ rfl rfl (one_of HT_.out (by kernel_rfl)) (by decide) (fun K hK => ?_)
             refine goes_ Try.func15 (by kernel_rfl) rfl #[.agg #[.int .i64 t297, .int .i64 t298, .int .i64 t299, .int .i64 t300]] (by rfl) rfl rfl zb' ?_
             with_reducible refine (spec_IsCycle.calls k t297 t298 t299 t300 t333 _ A56.out).mono ?_
             rintro e w73 ⟨rfl, hb⟩
             refine ⟨_, rfl, ?_⟩
             have n0_ := am (Kd.R_below zb1' hb); have n1_ := am (Kd.R_below ze1' hb); have n2_ := am (blk_below (g := gb303) (o := o2') zp' hb); have n3_ := am (blk_below (g := gb326) (o := o4') zu' hb); have n4_ := am (below_step zd' hb); clear HO306; clear HO310; clear BK303; clear BK326; clear HB; have HO306 := n0_; have HO310 := n1_; have BK303 := n2_; have BK326 := n3_; have HB := n4_; clear n0_ n1_ n2_ n3_ n4_; (try clear hb); (try clear hb2); (try clear hk); (try clear hi)
             refine hK.out _ _ ⟨(blk_cell BK303.out 0).trans rfl, (blk_cell BK303.out 1).trans rfl, (blk_cell BK303.out 2).trans rfl, (blk_cell BK303.out 3).trans rfl⟩ (fun hHeld => ?_)
             clear hK K
             refine norm_ (a' := ?_) ?_ ?_
             rotate_left
             ·show Act.put _ (some 154) _ = _
              simp only [Act.put, s1, s2, s3, i64_w, i32_w]
              rfl
             refine pure_ (i := 44) (N := some 155) (v := ?_) (a' := ?_) m45_ rfl rfl (any_of HT_.out (by kernel_rfl)) (fun _ _ _ h => h) (Or.inl ⟨by rfl, ?_⟩) ?_ ?_
             rotate_left
             ·intro w'
              go_simp
              with_reducible rfl
             rotate_left
             ·simp only [Act.put, s1, s2, s3, i64_w, i32_w]
              rfl
             refine pure_ (i := 45) (N := some 156) (v := ?_) (a' := ?_) m46_ rfl rfl (any_of HT_.out (by kernel_rfl)) (fun _ _ _ h => h) (Or.inl ⟨by rfl, ?_⟩) ?_ ?_
             rotate_left
             ·intro w'
              go_simp
              with_reducible rfl
             rotate_left
             ·simp only [Act.put, s1, s2, s3, i64_w, i32_w]
              rfl
             refine pure_ (i := 46) (N := some 157) (v := ?_) (a' := ?_) m47_ rfl rfl (any_of HT_.out (by kernel_rfl)) (fun _ _ _ h => h) (Or.inl ⟨by rfl, ?_⟩) ?_ ?_
             rotate_left
             ·intro w'
              go_simp
              with_reducible rfl
             rotate_left
             ·simp only [Act.put, s1, s2, s3, i64_w, i32_w]
              rfl
             refine pure_ (i := 47) (N := some 158) (v := ?_) (a' := ?_) m48_ rfl rfl (any_of HT_.out (by kernel_rfl)) (fun _ _ _ h => h) (Or.inl ⟨by rfl, ?_⟩) ?_ ?_
             rotate_left
             ·intro w'
              go_simp
              with_reducible rfl
             rotate_left
             ·simp only [Act.put, s1, s2, s3, i64_w, i32_w]
              rfl
             refine pure_ (i := 48) (N := some 159) (v := ?_) (a' := ?_) m49_ rfl rfl (any_of HT_.out (by kernel_rfl)) (fun _ _ _ h => h) (Or.inl ⟨by rfl, ?_⟩) ?_ ?_
             rotate_left
             ·intro w'
              go_simp
              with_reducible rfl
             rotate_left
             ·simp only [Act.put, s1, s2, s3, i64_w, i32_w]
              rfl
             refine pure_ (i := 49) (N := some 160) (v := ?_) (a' := ?_) m50_ rfl rfl (any_of HT_.out (by kernel_rfl)) (fun _ _ _ h => h) (Or.inl ⟨by rfl, ?_⟩) ?_ ?_
             rotate_left
             ·intro w'
              go_simp
              with_reducible rfl
             rotate_left
             ·simp only [Act.put, s1, s2, s3, i64_w, i32_w]
              rfl
             refine pure_ (i := 50) (N := some 161) (v := ?_) (a' := ?_) m51_ rfl rfl (any_of HT_.out (by kernel_rfl)) (fun _ _ _ h => h) (Or.inl ⟨by rfl, ?_⟩) ?_ ?_
             rotate_left
             ·intro w'
              go_simp
              with_reducible rfl
             rotate_left
             ·simp only [Act.put, s1, s2, s3, i64_w, i32_w]
              rfl
             refine pure_ (i := 51) (N := some 162) (v := ?_) (a' := ?_) m52_ rfl rfl (any_of HT_.out (by kernel_rfl)) (fun _ _ _ h => h) (Or.inl ⟨by rfl, ?_⟩) ?_ ?_
             rotate_left
             ·intro w'
              go_simp
              with_reducible rfl
             rotate_left
             ·simp only [Act.put, s1, s2, s3, i64_w, i32_w]
              rfl
             refine pure_ (i := 52) (N := some 163) (v := ?_) (a' := ?_) m53_ rfl rfl (any_of HT_.out (by kernel_rfl)) (fun _ _ _ h => h) (Or.inl ⟨by rfl, ?_⟩) ?_ ?_
             rotate_left
             ·intro w'
              go_simp
              with_reducible rfl
             rotate_left
             ·simp only [Act.put, s1, s2, s3, i64_w, i32_w]
              rfl
             refine pure_ (i := 53) (N := some 164) (v := ?_) (a' := ?_) m54_ rfl rfl (any_of HT_.out (by kernel_rfl)) (fun _ _ _ h => h) (Or.inl ⟨by rfl, ?_⟩) ?_ ?_
             rotate_left
             ·intro w'
              go_simp
              with_reducible rfl
             rotate_left
             ·simp only [Act.put, s1, s2, s3, i64_w, i32_w]
              rfl
             refine pure_ (i := 54) (N := some 165) (v := ?_) (a' := ?_) m55_ rfl rfl (any_of HT_.out (by kernel_rfl)) (fun _ _ _ h => h) (Or.inl ⟨by rfl, ?_⟩) ?_ ?_
             rotate_left
             ·intro w'
              go_simp
              with_reducible rfl
             rotate_left
             ·simp only [Act.put, s1, s2, s3, i64_w, i32_w]
              rfl
             refine pure_ (i := 55) (N := some 166) (v := ?_) (a' := ?_) m56_ rfl rfl (any_of HT_.out (by kernel_rfl)) (fun _ _ _ h => h) (Or.inl ⟨by rfl, ?_⟩) ?_ ?_
             rotate_left
             ·intro w'
              go_simp
              with_reducible rfl
             rotate_left
             ·simp only [Act.put, s1, s2, s3, i64_w, i32_w]
              rfl
             refine done_ (done_of HT_.out (by kernel_rfl)) ?_
             try go_wp2
             go_meet
             case rel => exact ⟨_, ((t317 != t307)), zw', H', ⟨by first | omega | exact Nat.le_refl _⟩, ⟨by (with_reducible repeat (first | apply Kd.R_alloc | apply Kd.R_drewN | apply Kd.R_drew)); exact Kd.R_mono HO310.out (fun _ hk => trivial)⟩, ⟨zp'⟩, ⟨zu'⟩, ⟨zd'⟩⟩
          ·rw [if_neg c54] at H
           exact absurd H (by simp)
        ·rw [if_neg c49] at H
         exact absurd H (by simp)
      ·rw [if_neg c44] at H
       exact absurd H (by simp)
    ·replace c39 := Bool.eq_false_iff.mpr c39
     subst c39
     have H1 : (none) = some r := by rw [if_neg (show ¬ (false = true) by decide)] at H; exact H
     clear H; have H := H1
     exact absurd H (by simp)
  case rest => as_aux_lemma =>
   clear HC14; (try clear p2); (try clear c3); (try clear c4); (try clear c39); (try clear c41); obtain ⟨kq, x166_13, rfl, HA, HJ13, HO_10, BK303, BK326, HB⟩ := hcut
   cases kq with
   | zero => exact absurd HA.out (by simp [laws_FnCycles.j0])
   | succ kj13 =>
    have H := HA.out; clear HA; simp only [laws_FnCycles.j0] at H
    by_cases c86 : x166_13 = true
    ·subst c86
     have H1 : (none) = some r := by rw [if_pos rfl] at H; exact H
     clear H; have H := H1
     exact absurd H (by simp)
    ·replace c86 := Bool.eq_false_iff.mpr c86
     subst c86
     have H1 : (if t328 = true then ((impl_DumpTimes.f kj13 t320 t321 t322 t323 t324 200).bind fun bt334 => ((spec_DumpTimes.f kj13 t320 t321 t322 t323 t324 200).bind fun bt338 => (if bt334.2 = true then (if bt338.2 = true then ((laws_qInts.f kj13 bt334.1 bt338.1).bind fun t342 => (if t342 = true then (if t329 > 0 then (if 0 ≤ (wrap64 (t329 - 1)) then (if (wrap64 (t329 - 1)) < (bt338.1.length : Int) then (if (rd bt338.1 (wrap64 (t329 - 1))) > t325 then (none) else (if t329 < (bt338.1.length : Int) then (if 0 ≤ t329 then (if (rd bt338.1 t329) ≤ t325 then (none) else (laws_FnCycles.j1 kj13 t301 t302 t307 t308 t314 t318 t297 t298 t299 t300)) else (none)) else (laws_FnCycles.j1 kj13 t301 t302 t307 t308 t314 t318 t297 t298 t299 t300))) else (none)) else (none)) else (if t329 < (bt338.1.length : Int) then (if 0 ≤ t329 then (if (rd bt338.1 t329) ≤ t325 then (none) else (laws_FnCycles.j1 kj13 t301 t302 t307 t308 t314 t318 t297 t298 t299 t300)) else (none)) else (laws_FnCycles.j1 kj13 t301 t302 t307 t308 t314 t318 t297 t298 t299 t300))) else (none))) else (none)) else (none)))) else (laws_FnCycles.j1 kj13 t301 t302 t307 t308 t314 t318 t297 t298 t299 t300)) = some r := by rw [if_neg (show ¬ (false = true) by decide)] at H; exact H
     clear H; have H := H1; clear H1; have HC87 := Aside0.mk H; clear H
     go_upto_if 167 with (fail)
     go_cut [] (fun wc => ∃ (kq : Nat), Aside0 (laws_FnCycles.j1 kq t301 t302 t307 t308 t314 t318 t297 t298 t299 t300 = some r) ∧ Aside0 (kq ≤ kj13) ∧ Aside0 (Kd.R (Kd.int .i64) 3 wc w.heap.size (fun _ => True) v309 t308) ∧ Aside0 (wc.heap[gb303]? = some (.cells #[.int .i64 t297, .int .i64 t298, .int .i64 t299, .int .i64 t300] 25 (0, 0))) ∧ Aside0 (wc.heap[gb326]? = some (.cells #[.int .i64 t320, .int .i64 t321, .int .i64 t322, .int .i64 t323] 25 (0, 0))) ∧ Aside0 (Below w.heap.size w wc))
     case first => as_aux_lemma =>
      have H := HC87.out; clear HC87
      by_cases c88 : t328 = true
      ·subst c88
       have H1 : (((impl_DumpTimes.f kj13 t320 t321 t322 t323 t324 200).bind fun bt334 => ((spec_DumpTimes.f kj13 t320 t321 t322 t323 t324 200).bind fun bt338 => (if bt334.2 = true then (if bt338.2 = true then ((laws_qInts.f kj13 bt334.1 bt338.1).bind fun t342 => (if t342 = true then (if t329 > 0 then (if 0 ≤ (wrap64 (t329 - 1)) then (if (wrap64 (t329 - 1)) < (bt338.1.length : Int) then (if (rd bt338.1 (wrap64 (t329 - 1))) > t325 then (none) else (if t329 < (bt338.1.length : Int) then (if 0 ≤ t329 then (if (rd bt338.1 t329) ≤ t325 then (none) else (laws_FnCycles.j1 kj13 t301 t302 t307 t308 t314 t318 t297 t298 t299 t300)) else (none)) else (laws_FnCycles.j1 kj13 t301 t302 t307 t308 t314 t318 t297 t298 t299 t300))) else (none)) else (none)) else (if t329 < (bt338.1.length : Int) then (if 0 ≤ t329 then (if (rd bt338.1 t329) ≤ t325 then (none) else (laws_FnCycles.j1 kj13 t301 t302 t307 t308 t314 t318 t297 t298 t299 t300)) else (none)) else (laws_FnCycles.j1 kj13 t301 t302 t307 t308 t314 t318 t297 t298 t299 t300))) else (none))) else (none)) else (none))))) = some r := by rw [if_pos rfl] at H; exact H
       clear H; have H := H1; clear H1; replace H := Option.bind_eq_some_iff.mp H; obtain ⟨⟨t334, t337⟩, A890, H⟩ := H; replace H : (((spec_DumpTimes.f kj13 t320 t321 t322 t323 t324 200).bind fun bt338 => (if t337 = true then (if bt338.2 = true then ((laws_qInts.f kj13 t334 bt338.1).bind fun t342 => (if t342 = true then (if t329 > 0 then (if 0 ≤ (wrap64 (t329 - 1)) then (if (wrap64 (t329 - 1)) < (bt338.1.length : Int) then (if (rd bt338.1 (wrap64 (t329 - 1))) > t325 then (none) else (if t329 < (bt338.1.length : Int) then (if 0 ≤ t329 then (if (rd bt338.1 t329) ≤ t325 then (none) else (laws_FnCycles.j1 kj13 t301 t302 t307 t308 t314 t318 t297 t298 t299 t300)) else (none)) else (laws_FnCycles.j1 kj13 t301 t302 t307 t308 t314 t318 t297 t298 t299 t300))) else (none)) else (none)) else (if t329 < (bt338.1.length : Int) then (if 0 ≤ t329 then (if (rd bt338.1 t329) ≤ t325 then (none) else (laws_FnCycles.j1 kj13 t301 t302 t307 t308 t314 t318 t297 t298 t299 t300)) else (none)) else (laws_FnCycles.j1 kj13 t301 t302 t307 t308 t314 t318 t297 t298 t299 t300))) else (none))) else (none)) else (none)))) = some r := H; have A89 := Aside0.mk A890; clear A890; replace H := Option.bind_eq_some_iff.mp H; obtain ⟨⟨t338, t341⟩, A900, H⟩ := H; replace H : (if t337 = true then (if t341 = true then ((laws_qInts.f kj13 t334 t338).bind fun t342 => (if t342 = true then (if t329 > 0 then (if 0 ≤ (wrap64 (t329 - 1)) then (if (wrap64 (t329 - 1)) < (t338.length : Int) then (if (rd t338 (wrap64 (t329 - 1))) > t325 then (none) else (if t329 < (t338.length : Int) then (if 0 ≤ t329 then (if (rd t338 t329) ≤ t325 then (none) else (laws_FnCycles.j1 kj13 t301 t302 t307 t308 t314 t318 t297 t298 t299 t300)) else (none)) else (laws_FnCycles.j1 kj13 t301 t302 t307 t308 t314 t318 t297 t298 t299 t300))) else (none)) else (none)) else (if t329 < (t338.length : Int) then (if 0 ≤ t329 then (if (rd t338 t329) ≤ t325 then (none) else (laws_FnCycles.j1 kj13 t301 t302 t307 t308 t314 t318 t297 t298 t299 t300)) else (none)) else (laws_FnCycles.j1 kj13 t301 t302 t307 t308 t314 t318 t297 t298 t299 t300))) else (none))) else (none)) else (none)) = some r := H
       have A90 := Aside0.mk A900; clear A900
       by_cases c91 : t337 = true
       ·subst c91
        have H1 : (if t341 = true then ((laws_qInts.f kj13 t334 t338).bind fun t342 => (if t342 = true then (if t329 > 0 then (if 0 ≤ (wrap64 (t329 - 1)) then (if (wrap64 (t329 - 1)) < (t338.length : Int) then (if (rd t338 (wrap64 (t329 - 1))) > t325 then (none) else (if t329 < (t338.length : Int) then (if 0 ≤ t329 then (if (rd t338 t329) ≤ t325 then (none) else (laws_FnCycles.j1 kj13 t301 t302 t307 t308 t314 t318 t297 t298 t299 t300)) else (none)) else (laws_FnCycles.j1 kj13 t301 t302 t307 t308 t314 t318 t297 t298 t299 t300))) else (none)) else (none)) else (if t329 < (t338.length : Int) then (if 0 ≤ t329 then (if (rd t338 t329) ≤ t325 then (none) else (laws_FnCycles.j1 kj13 t301 t302 t307 t308 t314 t318 t297 t298 t299 t300)) else (none)) else (laws_FnCycles.j1 kj13 t301 t302 t307 t308 t314 t318 t297 t298 t299 t300))) else (none))) else (none)) = some r := by rw [if_pos rfl] at H; exact H
        clear H; have H := H1; clear H1
        by_cases c92 : t341 = true
        ·subst c92
         have H1 : (((laws_qInts.f kj13 t334 t338).bind fun t342 => (if t342 = true then (if t329 > 0 then (if 0 ≤ (wrap64 (t329 - 1)) then (if (wrap64 (t329 - 1)) < (t338.length : Int) then (if (rd t338 (wrap64 (t329 - 1))) > t325 then (none) else (if t329 < (t338.length : Int) then (if 0 ≤ t329 then (if (rd t338 t329) ≤ t325 then (none) else (laws_FnCycles.j1 kj13 t301 t302 t307 t308 t314 t318 t297 t298 t299 t300)) else (none)) else (laws_FnCycles.j1 kj13 t301 t302 t307 t308 t314 t318 t297 t298 t299 t300))) else (none)) else (none)) else (if t329 < (t338.length : Int) then (if 0 ≤ t329 then (if (rd t338 t329) ≤ t325 then (none) else (laws_FnCycles.j1 kj13 t301 t302 t307 t308 t314 t318 t297 t298 t299 t300)) else (none)) else (laws_FnCycles.j1 kj13 t301 t302 t307 t308 t314 t318 t297 t298 t299 t300))) else (none)))) = some r := by rw [if_pos rfl] at H; exact H
         clear H; have H := H1; clear H1; replace H := Option.bind_eq_some_iff.mp H; obtain ⟨t342, A930, H⟩ := H; replace H : (if t342 = true then (if t329 > 0 then (if 0 ≤ (wrap64 (t329 - 1)) then (if (wrap64 (t329 - 1)) < (t338.length : Int) then (if (rd t338 (wrap64 (t329 - 1))) > t325 then (none) else (if t329 < (t338.length : Int) then (if 0 ≤ t329 then (if (rd t338 t329) ≤ t325 then (none) else (laws_FnCycles.j1 kj13 t301 t302 t307 t308 t314 t318 t297 t298 t299 t300)) else (none)) else (laws_FnCycles.j1 kj13 t301 t302 t307 t308 t314 t318 t297 t298 t299 t300))) else (none)) else (none)) else (if t329 < (t338.length : Int) then (if 0 ≤ t329 then (if (rd t338 t329) ≤ t325 then (none) else (laws_FnCycles.j1 kj13 t301 t302 t307 t308 t314 t318 t297 t298 t299 t300)) else (none)) else (laws_FnCycles.j1 kj13 t301 t302 t307 t308 t314 t318 t297 t298 t299 t300))) else (none)) = some r := H; have A93 := Aside0.mk A930; clear A930
         by_cases c94 : t342 = true
         ·subst c94
          have H1 : (if t329 > 0 then (if 0 ≤ (wrap64 (t329 - 1)) then (if (wrap64 (t329 - 1)) < (t338.length : Int) then (if (rd t338 (wrap64 (t329 - 1))) > t325 then (none) else (if t329 < (t338.length : Int) then (if 0 ≤ t329 then (if (rd t338 t329) ≤ t325 then (none) else (laws_FnCycles.j1 kj13 t301 t302 t307 t308 t314 t318 t297 t298 t299 t300)) else (none)) else (laws_FnCycles.j1 kj13 t301 t302 t307 t308 t314 t318 t297 t298 t299 t300))) else (none)) else (none)) else (if t329 < (t338.length : Int) then (if 0 ≤ t329 then (if (rd t338 t329) ≤ t325 then (none) else (laws_FnCycles.j1 kj13 t301 t302 t307 t308 t314 t318 t297 t298 t299 t300)) else (none)) else (laws_FnCycles.j1 kj13 t301 t302 t307 t308 t314 t318 t297 t298 t299 t300))) = some r := by rw [if_pos rfl] at H; exact H
          clear H; have H := H1; clear H1
          by_cases c95 : t329 > 0
          ·rw [if_pos c95] at H
           have c95b0 : decide (0 < t329) = true := decide_eq_true c95; clear c95
           (first | rw [c95b0] | (simp only [i64_w, i32_w]; rw [c95b0]) | skip)
           obtain ⟨ji96, hji96⟩ : ∃ j_ : Int, (wrap64 (t329 - 1)) = j_ := ⟨_, rfl⟩
           replace H : (if 0 ≤ (ji96) then (if (ji96) < (t338.length : Int) then (if (rd t338 (ji96)) > t325 then (none) else (if t329 < (t338.length : Int) then (if 0 ≤ t329 then (if (rd t338 t329) ≤ t325 then (none) else (laws_FnCycles.j1 kj13 t301 t302 t307 t308 t314 t318 t297 t298 t299 t300)) else (none)) else (laws_FnCycles.j1 kj13 t301 t302 t307 t308 t314 t318 t297 t298 t299 t300))) else (none)) else (none)) = some r := by first | (rw [hji96] at H; exact H) | (simp only [hji96] at H ⊢; exact H)
           (try rw [hji96] at A89); (try rw [hji96] at A90); (try rw [hji96] at A93); have hji96w : (IntKind.i64.wrap (t329 - 1)) = ji96 := (i64_w _).trans hji96
           by_cases c97 : 0 ≤ (ji96)
           ·rw [if_pos c97] at H
            have c97b0 : decide (0 ≤ (ji96)) = true := decide_eq_true c97; clear c97
            by_cases c98 : (ji96) < (t338.length : Int)
            ·rw [if_pos c98] at H
             have c98b0 : decide ((ji96) < (t338.length : Int)) = true := decide_eq_true c98; clear c98
             by_cases c99 : (rd t338 (ji96)) > t325
             ·rw [if_pos c99] at H
              exact absurd H (by simp)
             ·rw [if_neg c99] at H
              have c99b0 : decide (t325 < (rd t338 (ji96))) = false := decide_eq_false c99; clear c99
              by_cases c107 : t329 < (t338.length : Int)
              ·rw [if_pos c107] at H
               have c107b0 : decide (t329 < (t338.length : Int)) = true := decide_eq_true c107; clear c107
               by_cases c108 : 0 ≤ t329
               ·rw [if_pos c108] at H
                have c108b0 : decide (0 ≤ t329) = true := decide_eq_true c108; clear c108
                by_cases c109 : (rd t338 t329) ≤ t325
                ·rw [if_pos c109] at H
                 exact absurd H (by simp)
                ·rw [if_neg c109] at H
                 have c109b0 : decide ((rd t338 t329) ≤ t325) = false := decide_eq_false c109; clear c109; have H' := Aside0.mk H; clear H; have hnb117 := NB326_303.out; have hnc117 := NB303_326.out; have hcz118_0 : wc.cell? ⟨gb326, 0, none⟩ = some (.int .i64 t320) := (blk_cell BK326.out 0).trans rfl; have hcz118_1 : wc.cell? ⟨gb326, 1, none⟩ = some (.int .i64 t321) := (blk_cell BK326.out 1).trans rfl; have hcz118_2 : wc.cell? ⟨gb326, 2, none⟩ = some (.int .i64 t322) := (blk_cell BK326.out 2).trans rfl; have hcz118_3 : wc.cell? ⟨gb326, 3, none⟩ = some (.int .i64 t323) := (blk_cell BK326.out 3).trans rfl; have hfz118_0 := blk_frozen BK326.out 0; have hfz118_1 := blk_frozen BK326.out 1; have hfz118_2 := blk_frozen BK326.out 2; have hfz118_3 := blk_frozen BK326.out 3
                 go_wp2_with (first | ((with_reducible refine gate_callee (f := 35) rfl ?_); refine goesL_ (some 171) rfl rfl Try.func35 (by kernel_rfl) rfl #[.agg #[.int .i64 t320, .int .i64 t321, .int .i64 t322, .int .i64 t323], .int .i64 t324, .int .i64 200] rfl zb' ?_; (with_reducible refine (impl_DumpTimes.calls kj13 t320 t321 t322 t323 t324 200 t334 true _ A89.out).mono ?_); rintro e w119 ⟨v335, rfl, ho0, hb⟩; refine ⟨_, rfl, ?_⟩; have n0_ := am (Kd.R_elder' zl' (Kd.R_base ho0) hb); have n1_ := am (Kd.R_lower (Kd.R_new' ho0 (Kd.R_lt zl')) (below_size zd')); have n2_ := am (blk_below (g := gb303) (o := o2') zp' hb); have n3_ := am (blk_below (g := gb326) (o := o4') zu' hb); have n4_ := am (below_step zd' hb); clear HO_10; clear BK303; clear BK326; clear HB; have HO_10 := n0_; have HO336 := n1_; have BK303 := n2_; have BK326 := n3_; have HB := n4_; clear n0_ n1_ n2_ n3_ n4_; (try clear hb); (try clear hb2); (try clear hk); (try clear hi); (try clear ho0); have hcz120_0 : w119.cell? ⟨gb326, 0, none⟩ = some (.int .i64 t320) := (blk_cell BK326.out 0).trans rfl; have hcz120_1 : w119.cell? ⟨gb326, 1, none⟩ = some (.int .i64 t321) := (blk_cell BK326.out 1).trans rfl; have hcz120_2 : w119.cell? ⟨gb326, 2, none⟩ = some (.int .i64 t322) := (blk_cell BK326.out 2).trans rfl; have hcz120_3 : w119.cell? ⟨gb326, 3, none⟩ = some (.int .i64 t323) := (blk_cell BK326.out 3).trans rfl; have hfz120_0 := blk_frozen BK326.out 0; have hfz120_1 := blk_frozen BK326.out 1; have hfz120_2 := blk_frozen BK326.out 2; have hfz120_3 := blk_frozen BK326.out 3) | ((with_reducible refine gate_callee (f := 34) rfl ?_); refine goesL_ (some 177) rfl rfl Try.func34 (by kernel_rfl) rfl #[.agg #[.int .i64 t320, .int .i64 t321, .int .i64 t322, .int .i64 t323], .int .i64 t324, .int .i64 200] rfl zb' ?_; (with_reducible refine (spec_DumpTimes.calls kj13 t320 t321 t322 t323 t324 200 t338 true _ A90.out).mono ?_); rintro e w121 ⟨v339, rfl, ho0, hb⟩; refine ⟨_, rfl, ?_⟩; have n0_ := am (Kd.R_elder' zl' (Kd.R_base ho0) hb); have n1_ := am (Kd.R_elder' zh1' (Kd.R_base ho0) hb); have n2_ := am (Kd.R_lower (Kd.R_new' (Kd.R_new' ho0 (Kd.R_lt zl')) (Kd.R_lt zh1')) (below_size zd')); have n3_ := am (blk_below (g := gb303) (o := o2') zp' hb); have n4_ := am (blk_below (g := gb326) (o := o4') zu' hb); have n5_ := am (below_step zd' hb); clear HO_10; clear HO336; clear BK303; clear BK326; clear HB; have HO_10 := n0_; have HO336 := n1_; have HO340 := n2_; have BK303 := n3_; have BK326 := n4_; have HB := n5_; clear n0_ n1_ n2_ n3_ n4_ n5_; (try clear hb); (try clear hb2); (try clear hk); (try clear hi); (try clear ho0); obtain ⟨Ao122, co122, eo122⟩ := Kd.R_slice HO336.out; subst eo122; obtain ⟨Ao123, co123, eo123⟩ := Kd.R_slice HO340.out; subst eo123) | (go_at_call 41; (with_reducible refine (laws_qInts.calls kj13 _ _ t334 _ _ t338 true _ ?side1 ?side2 ?side3 ?side4 A93.out).mono ?_); (case side1 => exact zp1'); (case side2 => exact (Kd.R_reads' HO336.out).2.1); (case side3 => exact zq1'); (case side4 => exact (Kd.R_reads' HO340.out).2.1); rintro e w' ⟨rfl, ⟨nd, rfl⟩⟩; have p343 : 0 ≤ ((ji96) : Int) := odt; have q343 : (ji96) < (t338.length : Int) := odt; obtain ⟨ad343, e343, hx343_0⟩ := Kd.at_int (Kd.R_reads' HO340.out).2.2 (ji96) p343 q343; cases e343; replace p343 := eq_true p343; replace q343 := eq_true q343; have p344 : 0 ≤ (t329 : Int) := odt; have q344 : t329 < (t338.length : Int) := odt; obtain ⟨ad344, e344, hx344_0⟩ := Kd.at_int (Kd.R_reads' HO340.out).2.2 t329 p344 q344; obtain rfl : ad343 = ad344 := (by injection e344); replace p344 := eq_true p344; replace q344 := eq_true q344))
                 go_meet
                 case rel => exact ⟨_, H', ⟨zk2'⟩, ⟨zw1'⟩, ⟨zp'⟩, ⟨zu'⟩, ⟨zd'⟩⟩
               ·rw [if_neg c108] at H
                exact absurd H (by simp)
              ·rw [if_neg c107] at H
               have c107b0 : decide (t329 < (t338.length : Int)) = false := decide_eq_false c107; clear c107; have H' := Aside0.mk H; clear H; have hnb124 := NB326_303.out; have hnc124 := NB303_326.out; have hcz125_0 : wc.cell? ⟨gb326, 0, none⟩ = some (.int .i64 t320) := (blk_cell BK326.out 0).trans rfl; have hcz125_1 : wc.cell? ⟨gb326, 1, none⟩ = some (.int .i64 t321) := (blk_cell BK326.out 1).trans rfl; have hcz125_2 : wc.cell? ⟨gb326, 2, none⟩ = some (.int .i64 t322) := (blk_cell BK326.out 2).trans rfl; have hcz125_3 : wc.cell? ⟨gb326, 3, none⟩ = some (.int .i64 t323) := (blk_cell BK326.out 3).trans rfl; have hfz125_0 := blk_frozen BK326.out 0; have hfz125_1 := blk_frozen BK326.out 1; have hfz125_2 := blk_frozen BK326.out 2; have hfz125_3 := blk_frozen BK326.out 3
               go_wp2_with (first | ((with_reducible refine gate_callee (f := 35) rfl ?_); refine goesL_ (some 171) rfl rfl Try.func35 (by kernel_rfl) rfl #[.agg #[.int .i64 t320, .int .i64 t321, .int .i64 t322, .int .i64 t323], .int .i64 t324, .int .i64 200] rfl zb' ?_; (with_reducible refine (impl_DumpTimes.calls kj13 t320 t321 t322 t323 t324 200 t334 true _ A89.out).mono ?_); rintro e w126 ⟨v335, rfl, ho0, hb⟩; refine ⟨_, rfl, ?_⟩; have n0_ := am (Kd.R_elder' zl' (Kd.R_base ho0) hb); have n1_ := am (Kd.R_lower (Kd.R_new' ho0 (Kd.R_lt zl')) (below_size zd')); have n2_ := am (blk_below (g := gb303) (o := o2') zp' hb); have n3_ := am (blk_below (g := gb326) (o := o4') zu' hb); have n4_ := am (below_step zd' hb); clear HO_10; clear BK303; clear BK326; clear HB; have HO_10 := n0_; have HO336 := n1_; have BK303 := n2_; have BK326 := n3_; have HB := n4_; clear n0_ n1_ n2_ n3_ n4_; (try clear hb); (try clear hb2); (try clear hk); (try clear hi); (try clear ho0); have hcz127_0 : w126.cell? ⟨gb326, 0, none⟩ = some (.int .i64 t320) := (blk_cell BK326.out 0).trans rfl; have hcz127_1 : w126.cell? ⟨gb326, 1, none⟩ = some (.int .i64 t321) := (blk_cell BK326.out 1).trans rfl; have hcz127_2 : w126.cell? ⟨gb326, 2, none⟩ = some (.int .i64 t322) := (blk_cell BK326.out 2).trans rfl; have hcz127_3 : w126.cell? ⟨gb326, 3, none⟩ = some (.int .i64 t323) := (blk_cell BK326.out 3).trans rfl; have hfz127_0 := blk_frozen BK326.out 0; have hfz127_1 := blk_frozen BK326.out 1; have hfz127_2 := blk_frozen BK326.out 2; have hfz127_3 := blk_frozen BK326.out 3) | ((with_reducible refine gate_callee (f := 34) rfl ?_); refine goesL_ (some 177) rfl rfl Try.func34 (by kernel_rfl) rfl #[.agg #[.int .i64 t320, .int .i64 t321, .int .i64 t322, .int .i64 t323], .int .i64 t324, .int .i64 200] rfl zb' ?_; (with_reducible refine (spec_DumpTimes.calls kj13 t320 t321 t322 t323 t324 200 t338 true _ A90.out).mono ?_); rintro e w128 ⟨v339, rfl, ho0, hb⟩; refine ⟨_, rfl, ?_⟩; have n0_ := am (Kd.R_elder' zl' (Kd.R_base ho0) hb); have n1_ := am (Kd.R_elder' zh1' (Kd.R_base ho0) hb); have n2_ := am (Kd.R_lower (Kd.R_new' (Kd.R_new' ho0 (Kd.R_lt zl')) (Kd.R_lt zh1')) (below_size zd')); have n3_ := am (blk_below (g := gb303) (o := o2') zp' hb); have n4_ := am (blk_below (g := gb326) (o := o4') zu' hb); have n5_ := am (below_step zd' hb); clear HO_10; clear HO336; clear BK303; clear BK326; clear HB; have HO_10 := n0_; have HO336 := n1_; have HO340 := n2_; have BK303 := n3_; have BK326 := n4_; have HB := n5_; clear n0_ n1_ n2_ n3_ n4_ n5_; (try clear hb); (try clear hb2); (try clear hk); (try clear hi); (try clear ho0); obtain ⟨Ao129, co129, eo129⟩ := Kd.R_slice HO336.out; subst eo129; obtain ⟨Ao130, co130, eo130⟩ := Kd.R_slice HO340.out; subst eo130) | (go_at_call 41; (with_reducible refine (laws_qInts.calls kj13 _ _ t334 _ _ t338 true _ ?side1 ?side2 ?side3 ?side4 A93.out).mono ?_); (case side1 => exact zp1'); (case side2 => exact (Kd.R_reads' HO336.out).2.1); (case side3 => exact zq1'); (case side4 => exact (Kd.R_reads' HO340.out).2.1); rintro e w' ⟨rfl, ⟨nd, rfl⟩⟩; have p343 : 0 ≤ ((ji96) : Int) := odt; have q343 : (ji96) < (t338.length : Int) := odt; obtain ⟨ad343, e343, hx343_0⟩ := Kd.at_int (Kd.R_reads' HO340.out).2.2 (ji96) p343 q343; cases e343; replace p343 := eq_true p343; replace q343 := eq_true q343))
               go_meet
               case rel => exact ⟨_, H', ⟨zk2'⟩, ⟨zw1'⟩, ⟨zp'⟩, ⟨zu'⟩, ⟨zd'⟩⟩
            ·rw [if_neg c98] at H
             exact absurd H (by simp)
           ·rw [if_neg c97] at H
            exact absurd H (by simp)
          ·rw [if_neg c95] at H
           have c95b0 : decide (0 < t329) = false := decide_eq_false c95; clear c95
           (first | rw [c95b0] | (simp only [i64_w, i32_w]; rw [c95b0]) | skip)
           by_cases c131 : t329 < (t338.length : Int)
           ·rw [if_pos c131] at H
            have c131b0 : decide (t329 < (t338.length : Int)) = true := decide_eq_true c131; clear c131
            by_cases c132 : 0 ≤ t329
            ·rw [if_pos c132] at H
             have c132b0 : decide (0 ≤ t329) = true := decide_eq_true c132; clear c132
             by_cases c133 : (rd t338 t329) ≤ t325
             ·rw [if_pos c133] at H
              exact absurd H (by simp)
             ·rw [if_neg c133] at H
              have c133b0 : decide ((rd t338 t329) ≤ t325) = false := decide_eq_false c133; clear c133; have H' := Aside0.mk H; clear H; have hnb141 := NB326_303.out; have hnc141 := NB303_326.out; have hcz142_0 : wc.cell? ⟨gb326, 0, none⟩ = some (.int .i64 t320) := (blk_cell BK326.out 0).trans rfl; have hcz142_1 : wc.cell? ⟨gb326, 1, none⟩ = some (.int .i64 t321) := (blk_cell BK326.out 1).trans rfl; have hcz142_2 : wc.cell? ⟨gb326, 2, none⟩ = some (.int .i64 t322) := (blk_cell BK326.out 2).trans rfl; have hcz142_3 : wc.cell? ⟨gb326, 3, none⟩ = some (.int .i64 t323) := (blk_cell BK326.out 3).trans rfl; have hfz142_0 := blk_frozen BK326.out 0; have hfz142_1 := blk_frozen BK326.out 1; have hfz142_2 := blk_frozen BK326.out 2; have hfz142_3 := blk_frozen BK326.out 3
              go_wp2_with (first | ((with_reducible refine gate_callee (f := 35) rfl ?_); refine goesL_ (some 171) rfl rfl Try.func35 (by kernel_rfl) rfl #[.agg #[.int .i64 t320, .int .i64 t321, .int .i64 t322, .int .i64 t323], .int .i64 t324, .int .i64 200] rfl zb' ?_; (with_reducible refine (impl_DumpTimes.calls kj13 t320 t321 t322 t323 t324 200 t334 true _ A89.out).mono ?_); rintro e w143 ⟨v335, rfl, ho0, hb⟩; refine ⟨_, rfl, ?_⟩; have n0_ := am (Kd.R_elder' zl' (Kd.R_base ho0) hb); have n1_ := am (Kd.R_lower (Kd.R_new' ho0 (Kd.R_lt zl')) (below_size zd')); have n2_ := am (blk_below (g := gb303) (o := o2') zp' hb); have n3_ := am (blk_below (g := gb326) (o := o4') zu' hb); have n4_ := am (below_step zd' hb); clear HO_10; clear BK303; clear BK326; clear HB; have HO_10 := n0_; have HO336 := n1_; have BK303 := n2_; have BK326 := n3_; have HB := n4_; clear n0_ n1_ n2_ n3_ n4_; (try clear hb); (try clear hb2); (try clear hk); (try clear hi); (try clear ho0); have hcz144_0 : w143.cell? ⟨gb326, 0, none⟩ = some (.int .i64 t320) := (blk_cell BK326.out 0).trans rfl; have hcz144_1 : w143.cell? ⟨gb326, 1, none⟩ = some (.int .i64 t321) := (blk_cell BK326.out 1).trans rfl; have hcz144_2 : w143.cell? ⟨gb326, 2, none⟩ = some (.int .i64 t322) := (blk_cell BK326.out 2).trans rfl; have hcz144_3 : w143.cell? ⟨gb326, 3, none⟩ = some (.int .i64 t323) := (blk_cell BK326.out 3).trans rfl; have hfz144_0 := blk_frozen BK326.out 0; have hfz144_1 := blk_frozen BK326.out 1; have hfz144_2 := blk_frozen BK326.out 2; have hfz144_3 := blk_frozen BK326.out 3) | ((with_reducible refine gate_callee (f := 34) rfl ?_); refine goesL_ (some 177) rfl rfl Try.func34 (by kernel_rfl) rfl #[.agg #[.int .i64 t320, .int .i64 t321, .int .i64 t322, .int .i64 t323], .int .i64 t324, .int .i64 200] rfl zb' ?_; (with_reducible refine (spec_DumpTimes.calls kj13 t320 t321 t322 t323 t324 200 t338 true _ A90.out).mono ?_); rintro e w145 ⟨v339, rfl, ho0, hb⟩; refine ⟨_, rfl, ?_⟩; have n0_ := am (Kd.R_elder' zl' (Kd.R_base ho0) hb); have n1_ := am (Kd.R_elder' zh1' (Kd.R_base ho0) hb); have n2_ := am (Kd.R_lower (Kd.R_new' (Kd.R_new' ho0 (Kd.R_lt zl')) (Kd.R_lt zh1')) (below_size zd')); have n3_ := am (blk_below (g := gb303) (o := o2') zp' hb); have n4_ := am (blk_below (g := gb326) (o := o4') zu' hb); have n5_ := am (below_step zd' hb); clear HO_10; clear HO336; clear BK303; clear BK326; clear HB; have HO_10 := n0_; have HO336 := n1_; have HO340 := n2_; have BK303 := n3_; have BK326 := n4_; have HB := n5_; clear n0_ n1_ n2_ n3_ n4_ n5_; (try clear hb); (try clear hb2); (try clear hk); (try clear hi); (try clear ho0); obtain ⟨Ao146, co146, eo146⟩ := Kd.R_slice HO336.out; subst eo146; obtain ⟨Ao147, co147, eo147⟩ := Kd.R_slice HO340.out; subst eo147) | (go_at_call 41; (with_reducible refine (laws_qInts.calls kj13 _ _ t334 _ _ t338 true _ ?side1 ?side2 ?side3 ?side4 A93.out).mono ?_); (case side1 => exact zp1'); (case side2 => exact (Kd.R_reads' HO336.out).2.1); (case side3 => exact zq1'); (case side4 => exact (Kd.R_reads' HO340.out).2.1); rintro e w' ⟨rfl, ⟨nd, rfl⟩⟩; have p345 : 0 ≤ (t329 : Int) := odt; have q345 : t329 < (t338.length : Int) := odt; obtain ⟨ad345, e345, hx345_0⟩ := Kd.at_int (Kd.R_reads' HO340.out).2.2 t329 p345 q345; cases e345; replace p345 := eq_true p345; replace q345 := eq_true q345))
              go_meet
              case rel => exact ⟨_, H', ⟨zk2'⟩, ⟨zw1'⟩, ⟨zp'⟩, ⟨zu'⟩, ⟨zd'⟩⟩
            ·rw [if_neg c132] at H
             exact absurd H (by simp)
           ·rw [if_neg c131] at H
            have c131b0 : decide (t329 < (t338.length : Int)) = false := decide_eq_false c131; clear c131; have H' := Aside0.mk H; clear H; have hnb148 := NB326_303.out; have hnc148 := NB303_326.out; have hcz149_0 : wc.cell? ⟨gb326, 0, none⟩ = some (.int .i64 t320) := (blk_cell BK326.out 0).trans rfl; have hcz149_1 : wc.cell? ⟨gb326, 1, none⟩ = some (.int .i64 t321) := (blk_cell BK326.out 1).trans rfl; have hcz149_2 : wc.cell? ⟨gb326, 2, none⟩ = some (.int .i64 t322) := (blk_cell BK326.out 2).trans rfl; have hcz149_3 : wc.cell? ⟨gb326, 3, none⟩ = some (.int .i64 t323) := (blk_cell BK326.out 3).trans rfl; have hfz149_0 := blk_frozen BK326.out 0; have hfz149_1 := blk_frozen BK326.out 1; have hfz149_2 := blk_frozen BK326.out 2; have hfz149_3 := blk_frozen BK326.out 3
            go_wp2_with (first | ((with_reducible refine gate_callee (f := 35) rfl ?_); refine goesL_ (some 171) rfl rfl Try.func35 (by kernel_rfl) rfl #[.agg #[.int .i64 t320, .int .i64 t321, .int .i64 t322, .int .i64 t323], .int .i64 t324, .int .i64 200] rfl zb' ?_; (with_reducible refine (impl_DumpTimes.calls kj13 t320 t321 t322 t323 t324 200 t334 true _ A89.out).mono ?_); rintro e w150 ⟨v335, rfl, ho0, hb⟩; refine ⟨_, rfl, ?_⟩; have n0_ := am (Kd.R_elder' zl' (Kd.R_base ho0) hb); have n1_ := am (Kd.R_lower (Kd.R_new' ho0 (Kd.R_lt zl')) (below_size zd')); have n2_ := am (blk_below (g := gb303) (o := o2') zp' hb); have n3_ := am (blk_below (g := gb326) (o := o4') zu' hb); have n4_ := am (below_step zd' hb); clear HO_10; clear BK303; clear BK326; clear HB; have HO_10 := n0_; have HO336 := n1_; have BK303 := n2_; have BK326 := n3_; have HB := n4_; clear n0_ n1_ n2_ n3_ n4_; (try clear hb); (try clear hb2); (try clear hk); (try clear hi); (try clear ho0); have hcz151_0 : w150.cell? ⟨gb326, 0, none⟩ = some (.int .i64 t320) := (blk_cell BK326.out 0).trans rfl; have hcz151_1 : w150.cell? ⟨gb326, 1, none⟩ = some (.int .i64 t321) := (blk_cell BK326.out 1).trans rfl; have hcz151_2 : w150.cell? ⟨gb326, 2, none⟩ = some (.int .i64 t322) := (blk_cell BK326.out 2).trans rfl; have hcz151_3 : w150.cell? ⟨gb326, 3, none⟩ = some (.int .i64 t323) := (blk_cell BK326.out 3).trans rfl; have hfz151_0 := blk_frozen BK326.out 0; have hfz151_1 := blk_frozen BK326.out 1; have hfz151_2 := blk_frozen BK326.out 2; have hfz151_3 := blk_frozen BK326.out 3) | ((with_reducible refine gate_callee (f := 34) rfl ?_); refine goesL_ (some 177) rfl rfl Try.func34 (by kernel_rfl) rfl #[.agg #[.int .i64 t320, .int .i64 t321, .int .i64 t322, .int .i64 t323], .int .i64 t324, .int .i64 200] rfl zb' ?_; (with_reducible refine (spec_DumpTimes.calls kj13 t320 t321 t322 t323 t324 200 t338 true _ A90.out).mono ?_); rintro e w152 ⟨v339, rfl, ho0, hb⟩; refine ⟨_, rfl, ?_⟩; have n0_ := am (Kd.R_elder' zl' (Kd.R_base ho0) hb); have n1_ := am (Kd.R_elder' zh1' (Kd.R_base ho0) hb); have n2_ := am (Kd.R_lower (Kd.R_new' (Kd.R_new' ho0 (Kd.R_lt zl')) (Kd.R_lt zh1')) (below_size zd')); have n3_ := am (blk_below (g := gb303) (o := o2') zp' hb); have n4_ := am (blk_below (g := gb326) (o := o4') zu' hb); have n5_ := am (below_step zd' hb); clear HO_10; clear HO336; clear BK303; clear BK326; clear HB; have HO_10 := n0_; have HO336 := n1_; have HO340 := n2_; have BK303 := n3_; have BK326 := n4_; have HB := n5_; clear n0_ n1_ n2_ n3_ n4_ n5_; (try clear hb); (try clear hb2); (try clear hk); (try clear hi); (try clear ho0); obtain ⟨Ao153, co153, eo153⟩ := Kd.R_slice HO336.out; subst eo153; obtain ⟨Ao154, co154, eo154⟩ := Kd.R_slice HO340.out; subst eo154) | (go_at_call 41; (with_reducible refine (laws_qInts.calls kj13 _ _ t334 _ _ t338 true _ ?side1 ?side2 ?side3 ?side4 A93.out).mono ?_); (case side1 => exact zp1'); (case side2 => exact (Kd.R_reads' HO336.out).2.1); (case side3 => exact zq1'); (case side4 => exact (Kd.R_reads' HO340.out).2.1); rintro e w' ⟨rfl, ⟨nd, rfl⟩⟩))
            go_meet
            case rel => exact ⟨_, H', ⟨zk2'⟩, ⟨zw1'⟩, ⟨zp'⟩, ⟨zu'⟩, ⟨zd'⟩⟩
         ·replace c94 := Bool.eq_false_iff.mpr c94
          subst c94
          have H1 : (none) = some r := by rw [if_neg (show ¬ (false = true) by decide)] at H; exact H
          clear H; have H := H1
          exact absurd H (by simp)
        ·replace c92 := Bool.eq_false_iff.mpr c92
         subst c92
         have H1 : (none) = some r := by rw [if_neg (show ¬ (false = true) by decide)] at H; exact H
         clear H; have H := H1
         exact absurd H (by simp)
       ·replace c91 := Bool.eq_false_iff.mpr c91
        subst c91
        have H1 : (none) = some r := by rw [if_neg (show ¬ (false = true) by decide)] at H; exact H
        clear H; have H := H1
        exact absurd H (by simp)
      ·replace c88 := Bool.eq_false_iff.mpr c88
       subst c88
       have H1 : (laws_FnCycles.j1 kj13 t301 t302 t307 t308 t314 t318 t297 t298 t299 t300) = some r := by rw [if_neg (show ¬ (false = true) by decide)] at H; exact H
       clear H; have H := H1; clear H1; have H' := Aside0.mk H; clear H
       go_wp2
       go_meet
       case rel => exact ⟨_, H', ⟨zk2'⟩, ⟨zl'⟩, ⟨zp'⟩, ⟨zu'⟩, ⟨zd'⟩⟩
     case rest => as_aux_lemma =>
      clear HC87; (try clear c1); (try clear p2); (try clear c3); (try clear p3); (try clear q3); (try clear hx3); (try clear c4); (try clear p6); (try clear c8); (try clear c9); (try clear c10); (try clear c11); (try clear c12); (try clear c13); (try clear c14); (try clear c15); (try clear c16); (try clear c34); (try clear p34); (try clear q34); (try clear hx34); (try clear c35); (try clear c39); (try clear c41); (try clear p64); (try clear c86); (try clear c88); (try clear c91); (try clear c92); (try clear c94); (try clear c95); (try clear c95b0); (try clear c97); (try clear c97b0); (try clear c98); (try clear c98b0); (try clear c99); (try clear c99b0); (try clear c100); (try clear c107); (try clear c107b0); (try clear c108); (try clear c108b0); (try clear c109); (try clear c109b0); (try clear c110); (try clear c117); (try clear c124); (try clear c131); (try clear c131b0); (try clear c132); (try clear c132b0); (try clear c133); (try clear c133b0); (try clear c134); (try clear c141); (try clear c148); (try clear c155); (try clear c162); (try clear c167); (try clear hcz101_0); (try clear hcz101_1); (try clear hcz101_2); (try clear hcz101_3); (try clear hcz103_0); (try clear hcz103_1); (try clear hcz103_2); (try clear hcz103_3); (try clear hcz111_0); (try clear hcz111_1); (try clear hcz111_2); (try clear hcz111_3); (try clear hcz113_0); (try clear hcz113_1); (try clear hcz113_2); (try clear hcz113_3); (try clear hcz118_0); (try clear hcz118_1); (try clear hcz118_2); (try clear hcz118_3)
      (try clear hcz120_0); (try clear hcz120_1); (try clear hcz120_2); (try clear hcz120_3); (try clear hcz125_0); (try clear hcz125_1); (try clear hcz125_2); (try clear hcz125_3); (try clear hcz127_0); (try clear hcz127_1); (try clear hcz127_2); (try clear hcz127_3); (try clear hcz135_0); (try clear hcz135_1); (try clear hcz135_2); (try clear hcz135_3); (try clear hcz137_0); (try clear hcz137_1); (try clear hcz137_2); (try clear hcz137_3); (try clear hcz142_0); (try clear hcz142_1); (try clear hcz142_2); (try clear hcz142_3); (try clear hcz144_0); (try clear hcz144_1); (try clear hcz144_2); (try clear hcz144_3); (try clear hcz149_0); (try clear hcz149_1); (try clear hcz149_2); (try clear hcz149_3); (try clear hcz151_0); (try clear hcz151_1); (try clear hcz151_2); (try clear hcz151_3); (try clear hcz156_0); (try clear hcz156_1); (try clear hcz156_2); (try clear hcz156_3); (try clear hcz158_0); (try clear hcz158_1); (try clear hcz158_2); (try clear hcz158_3); (try clear hcz163_0); (try clear hcz163_1); (try clear hcz163_2); (try clear hcz163_3); (try clear hcz165_0); (try clear hcz165_1); (try clear hcz165_2); (try clear hcz165_3); (try clear hcz168_0); (try clear hcz168_1); (try clear hcz168_2); (try clear hcz168_3); (try clear hcz170_0); (try clear hcz170_1); (try clear hcz170_2); (try clear hcz170_3); (try clear hfz101_0); (try clear hfz101_1); (try clear hfz101_2); (try clear hfz101_3); (try clear hfz103_0); (try clear hfz103_1); (try clear hfz103_2); (try clear hfz103_3); (try clear hfz111_0)
      (try clear hfz111_1); (try clear hfz111_2); (try clear hfz111_3); (try clear hfz113_0); (try clear hfz113_1); (try clear hfz113_2); (try clear hfz113_3); (try clear hfz118_0); (try clear hfz118_1); (try clear hfz118_2); (try clear hfz118_3); (try clear hfz120_0); (try clear hfz120_1); (try clear hfz120_2); (try clear hfz120_3); (try clear hfz125_0); (try clear hfz125_1); (try clear hfz125_2); (try clear hfz125_3); (try clear hfz127_0); (try clear hfz127_1); (try clear hfz127_2); (try clear hfz127_3); (try clear hfz135_0); (try clear hfz135_1); (try clear hfz135_2); (try clear hfz135_3); (try clear hfz137_0); (try clear hfz137_1); (try clear hfz137_2); (try clear hfz137_3); (try clear hfz142_0); (try clear hfz142_1); (try clear hfz142_2); (try clear hfz142_3); (try clear hfz144_0); (try clear hfz144_1); (try clear hfz144_2); (try clear hfz144_3); (try clear hfz149_0); (try clear hfz149_1); (try clear hfz149_2); (try clear hfz149_3); (try clear hfz151_0); (try clear hfz151_1); (try clear hfz151_2); (try clear hfz151_3); (try clear hfz156_0); (try clear hfz156_1); (try clear hfz156_2); (try clear hfz156_3); (try clear hfz158_0); (try clear hfz158_1); (try clear hfz158_2); (try clear hfz158_3); (try clear hfz163_0); (try clear hfz163_1); (try clear hfz163_2); (try clear hfz163_3); (try clear hfz165_0); (try clear hfz165_1); (try clear hfz165_2); (try clear hfz165_3); (try clear hfz168_0); (try clear hfz168_1); (try clear hfz168_2); (try clear hfz168_3); (try clear hfz170_0); (try clear hfz170_1)
      (try clear hfz170_2); (try clear hfz170_3); (try clear hx343_0); (try clear hx344_0); (try clear hx345_0); (try clear p2); (try clear p343); (try clear p344); (try clear p345); (try clear q343); (try clear q344); (try clear q345); obtain ⟨kq, HA, HJ86, HO_10, BK303, BK326, HB⟩ := hcut
      cases kq with
      | zero => exact absurd HA.out (by simp [laws_FnCycles.j1])
      | succ kj86 =>
       have H := HA.out; clear HA; simp only [laws_FnCycles.j1] at H
       by_cases c172 : t307 = true
       ·subst c172
        have H1 : (((impl_RoundTime.f kj86 t297 t298 t299 t300 t301).bind fun bt346 => ((impl_CycleTime.f kj86 t297 t298 t299 t300).bind fun bt348 => (if bt346.2 = true then (if bt348.2 = true then (if t318 < 0 then (none) else (if t314 < 0 then (none) else (laws_FnCycles.j2 kj86 t301 t308 bt346.1 bt348.1 ((t308.length : Int) != t302) t297 t298 t299 t300))) else (none)) else (none))))) = some r := by rw [if_pos rfl] at H; exact H
        clear H; have H := H1; clear H1; replace H := Option.bind_eq_some_iff.mp H; obtain ⟨⟨t346, t347⟩, A1730, H⟩ := H; replace H : (((impl_CycleTime.f kj86 t297 t298 t299 t300).bind fun bt348 => (if t347 = true then (if bt348.2 = true then (if t318 < 0 then (none) else (if t314 < 0 then (none) else (laws_FnCycles.j2 kj86 t301 t308 t346 bt348.1 ((t308.length : Int) != t302) t297 t298 t299 t300))) else (none)) else (none)))) = some r := H; have A173 := Aside0.mk A1730; clear A1730; replace H := Option.bind_eq_some_iff.mp H; obtain ⟨⟨t348, t349⟩, A1740, H⟩ := H; replace H : (if t347 = true then (if t349 = true then (if t318 < 0 then (none) else (if t314 < 0 then (none) else (laws_FnCycles.j2 kj86 t301 t308 t346 t348 ((t308.length : Int) != t302) t297 t298 t299 t300))) else (none)) else (none)) = some r := H; have A174 := Aside0.mk A1740; clear A1740; have HC175 := Aside0.mk H; clear H; have hnb176 := NB303_326.out; have hnc176 := NB326_303.out; have hcz177_0 : wc.cell? ⟨gb303, 0, none⟩ = some (.int .i64 t297) := (blk_cell BK303.out 0).trans rfl; have hcz177_1 : wc.cell? ⟨gb303, 1, none⟩ = some (.int .i64 t298) := (blk_cell BK303.out 1).trans rfl; have hcz177_2 : wc.cell? ⟨gb303, 2, none⟩ = some (.int .i64 t299) := (blk_cell BK303.out 2).trans rfl; have hcz177_3 : wc.cell? ⟨gb303, 3, none⟩ = some (.int .i64 t300) := (blk_cell BK303.out 3).trans rfl; have hfz177_0 := blk_frozen BK303.out 0; have hfz177_1 := blk_frozen BK303.out 1; have hfz177_2 := blk_frozen BK303.out 2; have hfz177_3 := blk_frozen BK303.out 3
        go_upto_region 24 with (first | ((with_reducible refine gate_callee (f := 21) rfl ?_); refine goesL_ (some 224) rfl rfl Try.func21 (by kernel_rfl) rfl #[.agg #[.int .i64 t297, .int .i64 t298, .int .i64 t299, .int .i64 t300], .int .i64 t301] rfl zb' ?_; (with_reducible refine (impl_RoundTime.calls kj86 t297 t298 t299 t300 t301 t346 t347 _ A173.out).mono ?_); rintro e w178 ⟨rfl, hb⟩; refine ⟨_, rfl, ?_⟩; have n0_ := am (Kd.R_below zl' hb); have n1_ := am (blk_below (g := gb303) (o := o2') zp' hb); have n2_ := am (blk_below (g := gb326) (o := o4') zu' hb); have n3_ := am (below_step zd' hb); clear HO_10; clear BK303; clear BK326; clear HB; have HO_10 := n0_; have BK303 := n1_; have BK326 := n2_; have HB := n3_; clear n0_ n1_ n2_ n3_; (try clear hb); (try clear hb2); (try clear hk); (try clear hi); have hcz179_0 : w178.cell? ⟨gb303, 0, none⟩ = some (.int .i64 t297) := (blk_cell BK303.out 0).trans rfl; have hcz179_1 : w178.cell? ⟨gb303, 1, none⟩ = some (.int .i64 t298) := (blk_cell BK303.out 1).trans rfl; have hcz179_2 : w178.cell? ⟨gb303, 2, none⟩ = some (.int .i64 t299) := (blk_cell BK303.out 2).trans rfl; have hcz179_3 : w178.cell? ⟨gb303, 3, none⟩ = some (.int .i64 t300) := (blk_cell BK303.out 3).trans rfl; have hfz179_0 := blk_frozen BK303.out 0; have hfz179_1 := blk_frozen BK303.out 1; have hfz179_2 := blk_frozen BK303.out 2; have hfz179_3 := blk_frozen BK303.out 3) | ((with_reducible refine gate_callee (f := 19) rfl ?_); refine goesL_ (some 229) rfl rfl Try.func19 (by kernel_rfl) rfl #[.agg #[.int .i64 t297, .int .i64 t298, .int .i64 t299, .int .i64 t300]] rfl zb' ?_; (with_reducible refine (impl_CycleTime.calls kj86 t297 t298 t299 t300 t348 t349 _ A174.out).mono ?_); rintro e w180 ⟨rfl, hb⟩; refine ⟨_, rfl, ?_⟩; have n0_ := am (Kd.R_below zl' hb); have n1_ := am (blk_below (g := gb303) (o := o2') zp' hb); have n2_ := am (blk_below (g := gb326) (o := o4') zu' hb); have n3_ := am (below_step zd' hb); clear HO_10; clear BK303; clear BK326; clear HB; have HO_10 := n0_; have BK303 := n1_; have BK326 := n2_; have HB := n3_; clear n0_ n1_ n2_ n3_; (try clear hb); (try clear hb2); (try clear hk); (try clear hi)))
        (try simp only [Act.put, s1, s2, s3])
        go_cut [251] (fun v251 wc => ∃ (kq : Nat) (x251_174 : Bool), v251 = .bool x251_174 ∧ Aside0 (laws_FnCycles.j2 kq t301 t308 t346 t348 x251_174 t297 t298 t299 t300 = some r) ∧ Aside0 (kq ≤ kj86) ∧ Aside0 (Kd.R (Kd.int .i64) 3 wc w.heap.size (fun _ => True) v309 t308) ∧ Aside0 (wc.heap[gb303]? = some (.cells #[.int .i64 t297, .int .i64 t298, .int .i64 t299, .int .i64 t300] 25 (0, 0))) ∧ Aside0 (wc.heap[gb326]? = some (.cells #[.int .i64 t320, .int .i64 t321, .int .i64 t322, .int .i64 t323] 25 (0, 0))) ∧ Aside0 (Below w.heap.size w wc))
        case first => as_aux_lemma =>
         have H := HC175.out; clear HC175
         by_cases c181 : t347 = true
         ·subst c181
          have H1 : (if t349 = true then (if t318 < 0 then (none) else (if t314 < 0 then (none) else (laws_FnCycles.j2 kj86 t301 t308 t346 t348 ((t308.length : Int) != t302) t297 t298 t299 t300))) else (none)) = some r := by rw [if_pos rfl] at H; exact H
          clear H; have H := H1; clear H1
          by_cases c182 : t349 = true
          ·subst c182
           have H1 : (if t318 < 0 then (none) else (if t314 < 0 then (none) else (laws_FnCycles.j2 kj86 t301 t308 t346 t348 ((t308.length : Int) != t302) t297 t298 t299 t300))) = some r := by rw [if_pos rfl] at H; exact H
           clear H; have H := H1; clear H1
           by_cases c183 : t318 < 0
           ·rw [if_pos c183] at H
            exact absurd H (by simp)
           ·rw [if_neg c183] at H
            have c183b0 : decide (t318 < 0) = false := decide_eq_false c183; clear c183
            (first | rw [c183b0] | (simp only [i64_w, i32_w]; rw [c183b0]) | skip)
            by_cases c184 : t314 < 0
            ·rw [if_pos c184] at H
             exact absurd H (by simp)
            ·rw [if_neg c184] at H
             have c184b0 : decide (t314 < 0) = false := decide_eq_false c184; clear c184; have H' := Aside0.mk H; clear H; obtain ⟨Ao185, co185, eo185⟩ := Kd.R_slice HO_10.out; subst eo185
             go_wp2
             go_meet
             case rel => exact ⟨_, (((t308.length : Int) != t302)), zw', H', ⟨by have := HJ13.out; have := HJ86.out; first | omega | exact Nat.le_refl _⟩, ⟨zl'⟩, ⟨zp'⟩, ⟨zu'⟩, ⟨zd'⟩⟩
          ·replace c182 := Bool.eq_false_iff.mpr c182
           subst c182
           have H1 : (none) = some r := by rw [if_neg (show ¬ (false = true) by decide)] at H; exact H
           clear H; have H := H1
           exact absurd H (by simp)
         ·replace c181 := Bool.eq_false_iff.mpr c181
          subst c181
          have H1 : (none) = some r := by rw [if_neg (show ¬ (false = true) by decide)] at H; exact H
          clear H; have H := H1
          exact absurd H (by simp)
        case rest => as_aux_lemma =>
         clear HC175; (try clear c1); (try clear c2); (try clear p2); (try clear c3); (try clear p3); (try clear q3); (try clear hx3); (try clear c4); (try clear p6); (try clear c8); (try clear c9); (try clear c10); (try clear c11); (try clear c12); (try clear c13); (try clear c14); (try clear c15); (try clear c16); (try clear c17); (try clear c18); (try clear c19); (try clear c21); (try clear c34); (try clear p34); (try clear q34); (try clear hx34); (try clear c35); (try clear c39); (try clear c41); (try clear p64); (try clear c86); (try clear c88); (try clear c91); (try clear c92); (try clear c94); (try clear c95); (try clear c95b0); (try clear c97); (try clear c97b0); (try clear c98); (try clear c98b0); (try clear c99); (try clear c99b0); (try clear c100); (try clear c107); (try clear c107b0); (try clear c108); (try clear c108b0); (try clear c109); (try clear c109b0); (try clear c110); (try clear c117); (try clear c124); (try clear c131); (try clear c131b0); (try clear c132); (try clear c132b0); (try clear c133); (try clear c133b0); (try clear c134); (try clear c141); (try clear c148); (try clear c155); (try clear c162); (try clear c167); (try clear c172); (try clear c176); (try clear c181); (try clear c182); (try clear c183); (try clear c183b0); (try clear c184); (try clear c184b0); (try clear hcz101_0); (try clear hcz101_1); (try clear hcz101_2); (try clear hcz101_3); (try clear hcz103_0); (try clear hcz103_1); (try clear hcz103_2); (try clear hcz103_3); (try clear hcz111_0); (try clear hcz111_1)
         (try clear hcz111_2); (try clear hcz111_3); (try clear hcz113_0); (try clear hcz113_1); (try clear hcz113_2); (try clear hcz113_3); (try clear hcz118_0); (try clear hcz118_1); (try clear hcz118_2); (try clear hcz118_3); (try clear hcz120_0); (try clear hcz120_1); (try clear hcz120_2); (try clear hcz120_3); (try clear hcz125_0); (try clear hcz125_1); (try clear hcz125_2); (try clear hcz125_3); (try clear hcz127_0); (try clear hcz127_1); (try clear hcz127_2); (try clear hcz127_3); (try clear hcz135_0); (try clear hcz135_1); (try clear hcz135_2); (try clear hcz135_3); (try clear hcz137_0); (try clear hcz137_1); (try clear hcz137_2); (try clear hcz137_3); (try clear hcz142_0); (try clear hcz142_1); (try clear hcz142_2); (try clear hcz142_3); (try clear hcz144_0); (try clear hcz144_1); (try clear hcz144_2); (try clear hcz144_3); (try clear hcz149_0); (try clear hcz149_1); (try clear hcz149_2); (try clear hcz149_3); (try clear hcz151_0); (try clear hcz151_1); (try clear hcz151_2); (try clear hcz151_3); (try clear hcz156_0); (try clear hcz156_1); (try clear hcz156_2); (try clear hcz156_3); (try clear hcz158_0); (try clear hcz158_1); (try clear hcz158_2); (try clear hcz158_3); (try clear hcz163_0); (try clear hcz163_1); (try clear hcz163_2); (try clear hcz163_3); (try clear hcz165_0); (try clear hcz165_1); (try clear hcz165_2); (try clear hcz165_3); (try clear hcz168_0); (try clear hcz168_1); (try clear hcz168_2); (try clear hcz168_3); (try clear hcz170_0); (try clear hcz170_1); (try clear hcz170_2)
         (try clear hcz170_3); (try clear hcz177_0); (try clear hcz177_1); (try clear hcz177_2); (try clear hcz177_3); (try clear hcz179_0); (try clear hcz179_1); (try clear hcz179_2); (try clear hcz179_3); (try clear hfz101_0); (try clear hfz101_1); (try clear hfz101_2); (try clear hfz101_3); (try clear hfz103_0); (try clear hfz103_1); (try clear hfz103_2); (try clear hfz103_3); (try clear hfz111_0); (try clear hfz111_1); (try clear hfz111_2); (try clear hfz111_3); (try clear hfz113_0); (try clear hfz113_1); (try clear hfz113_2); (try clear hfz113_3); (try clear hfz118_0); (try clear hfz118_1); (try clear hfz118_2); (try clear hfz118_3); (try clear hfz120_0); (try clear hfz120_1); (try clear hfz120_2); (try clear hfz120_3); (try clear hfz125_0); (try clear hfz125_1); (try clear hfz125_2); (try clear hfz125_3); (try clear hfz127_0); (try clear hfz127_1); (try clear hfz127_2); (try clear hfz127_3); (try clear hfz135_0); (try clear hfz135_1); (try clear hfz135_2); (try clear hfz135_3); (try clear hfz137_0); (try clear hfz137_1); (try clear hfz137_2); (try clear hfz137_3); (try clear hfz142_0); (try clear hfz142_1); (try clear hfz142_2); (try clear hfz142_3); (try clear hfz144_0); (try clear hfz144_1); (try clear hfz144_2); (try clear hfz144_3); (try clear hfz149_0); (try clear hfz149_1); (try clear hfz149_2); (try clear hfz149_3); (try clear hfz151_0); (try clear hfz151_1); (try clear hfz151_2); (try clear hfz151_3); (try clear hfz156_0); (try clear hfz156_1); (try clear hfz156_2); (try clear hfz156_3)
         (try clear hfz158_0); (try clear hfz158_1); (try clear hfz158_2); (try clear hfz158_3); (try clear hfz163_0); (try clear hfz163_1); (try clear hfz163_2); (try clear hfz163_3); (try clear hfz165_0); (try clear hfz165_1); (try clear hfz165_2); (try clear hfz165_3); (try clear hfz168_0); (try clear hfz168_1); (try clear hfz168_2); (try clear hfz168_3); (try clear hfz170_0); (try clear hfz170_1); (try clear hfz170_2); (try clear hfz170_3); (try clear hfz177_0); (try clear hfz177_1); (try clear hfz177_2); (try clear hfz177_3); (try clear hfz179_0); (try clear hfz179_1); (try clear hfz179_2); (try clear hfz179_3); (try clear hx343_0); (try clear hx344_0); (try clear hx345_0); (try clear p2); (try clear p3); (try clear p34); (try clear p343); (try clear p344); (try clear p345); (try clear p6); (try clear p64); (try clear q3); (try clear q34); (try clear q343); (try clear q344); (try clear q345); obtain ⟨kq, x251_174, rfl, HA, HJ174, HO_10, BK303, BK326, HB⟩ := hcut
         cases kq with
         | zero => exact absurd HA.out (by simp [laws_FnCycles.j2])
         | succ kj174 =>
          have H := HA.out; clear HA; simp only [laws_FnCycles.j2] at H
          by_cases c186 : x251_174 = true
          ·subst c186
           have H1 : (none) = some r := by rw [if_pos rfl] at H; exact H
           clear H; have H := H1
           exact absurd H (by simp)
          ·replace c186 := Bool.eq_false_iff.mpr c186
           subst c186
           have H1 : (laws_FnCycles.l0 kj174 t301 t308 t346 t348 t308 (t308.length : Int) 0 t297 t298 t299 t300) = some r := by rw [if_neg (show ¬ (false = true) by decide)] at H; exact H
           clear H; have H := H1; clear H1; have H' := Aside0.mk H; clear H; obtain ⟨Ao187, co187, eo187⟩ := Kd.R_slice HO_10.out; subst eo187
           go_wp2
           go_loopg [254] kj174 (fun kq v254 w' => ∃ (x254_4 : Int), v254 = .int .i64 x254_4 ∧ Aside0 (laws_FnCycles.l0 kq t301 t308 t346 t348 t308 (t308.length : Int) x254_4 t297 t298 t299 t300 = some r) ∧ Aside0 (kq ≤ kj174) ∧ Aside0 (Kd.R (Kd.int .i64) 3 w' w.heap.size (fun _ => True) (.slice Ao187 t308.length co187) t308) ∧ Aside0 (Kd.R (Kd.int .i64) 3 w' w.heap.size (fun _ => True) (.slice Ao187 t308.length co187) t308) ∧ Aside0 (w'.heap[gb303]? = some (.cells #[.int .i64 t297, .int .i64 t298, .int .i64 t299, .int .i64 t300] 25 (0, 0))) ∧ Aside0 (w'.heap[gb326]? = some (.cells #[.int .i64 t320, .int .i64 t321, .int .i64 t322, .int .i64 t323] 25 (0, 0))) ∧ Aside0 (Below w.heap.size w w'))
           case atStart => exact ⟨(0), zw', H', ⟨Nat.le_refl _⟩, ⟨zl'⟩, ⟨zl'⟩, ⟨zp'⟩, ⟨zu'⟩, ⟨zd'⟩⟩
           case round => as_aux_lemma =>
            clear H'; (try clear c1); (try clear c2); (try clear p2); (try clear c3); (try clear p3); (try clear q3); (try clear hx3); (try clear c4); (try clear p6); (try clear c8); (try clear c9); (try clear c10); (try clear c11); (try clear c12); (try clear c13); (try clear c14); (try clear c15); (try clear c16); (try clear c17); (try clear c18); (try clear c19); (try clear c21); (try clear c34); (try clear p34); (try clear q34); (try clear hx34); (try clear c35); (try clear c39); (try clear c41); (try clear p64); (try clear c86); (try clear c88); (try clear c91); (try clear c92); (try clear c94); (try clear c95); (try clear c95b0); (try clear c97); (try clear c97b0); (try clear c98); (try clear c98b0); (try clear c99); (try clear c99b0); (try clear c100); (try clear c107); (try clear c107b0); (try clear c108); (try clear c108b0); (try clear c109); (try clear c109b0); (try clear c110); (try clear c117); (try clear c124); (try clear c131); (try clear c131b0); (try clear c132); (try clear c132b0); (try clear c133); (try clear c133b0); (try clear c134); (try clear c141); (try clear c148); (try clear c155); (try clear c162); (try clear c167); (try clear c172); (try clear c176); (try clear c181); (try clear c182); (try clear c183); (try clear c183b0); (try clear c184); (try clear c184b0); (try clear c186); (try clear hcz101_0); (try clear hcz101_1); (try clear hcz101_2); (try clear hcz101_3); (try clear hcz103_0); (try clear hcz103_1); (try clear hcz103_2); (try clear hcz103_3); (try clear hcz111_0)
            (try clear hcz111_1); (try clear hcz111_2); (try clear hcz111_3); (try clear hcz113_0); (try clear hcz113_1); (try clear hcz113_2); (try clear hcz113_3); (try clear hcz118_0); (try clear hcz118_1); (try clear hcz118_2); (try clear hcz118_3); (try clear hcz120_0); (try clear hcz120_1); (try clear hcz120_2); (try clear hcz120_3); (try clear hcz125_0); (try clear hcz125_1); (try clear hcz125_2); (try clear hcz125_3); (try clear hcz127_0); (try clear hcz127_1); (try clear hcz127_2); (try clear hcz127_3); (try clear hcz135_0); (try clear hcz135_1); (try clear hcz135_2); (try clear hcz135_3); (try clear hcz137_0); (try clear hcz137_1); (try clear hcz137_2); (try clear hcz137_3); (try clear hcz142_0); (try clear hcz142_1); (try clear hcz142_2); (try clear hcz142_3); (try clear hcz144_0); (try clear hcz144_1); (try clear hcz144_2); (try clear hcz144_3); (try clear hcz149_0); (try clear hcz149_1); (try clear hcz149_2); (try clear hcz149_3); (try clear hcz151_0); (try clear hcz151_1); (try clear hcz151_2); (try clear hcz151_3); (try clear hcz156_0); (try clear hcz156_1); (try clear hcz156_2); (try clear hcz156_3); (try clear hcz158_0); (try clear hcz158_1); (try clear hcz158_2); (try clear hcz158_3); (try clear hcz163_0); (try clear hcz163_1); (try clear hcz163_2); (try clear hcz163_3); (try clear hcz165_0); (try clear hcz165_1); (try clear hcz165_2); (try clear hcz165_3); (try clear hcz168_0); (try clear hcz168_1); (try clear hcz168_2); (try clear hcz168_3); (try clear hcz170_0); (try clear hcz170_1)
            (try clear hcz170_2); (try clear hcz170_3); (try clear hcz177_0); (try clear hcz177_1); (try clear hcz177_2); (try clear hcz177_3); (try clear hcz179_0); (try clear hcz179_1); (try clear hcz179_2); (try clear hcz179_3); (try clear hfz101_0); (try clear hfz101_1); (try clear hfz101_2); (try clear hfz101_3); (try clear hfz103_0); (try clear hfz103_1); (try clear hfz103_2); (try clear hfz103_3); (try clear hfz111_0); (try clear hfz111_1); (try clear hfz111_2); (try clear hfz111_3); (try clear hfz113_0); (try clear hfz113_1); (try clear hfz113_2); (try clear hfz113_3); (try clear hfz118_0); (try clear hfz118_1); (try clear hfz118_2); (try clear hfz118_3); (try clear hfz120_0); (try clear hfz120_1); (try clear hfz120_2); (try clear hfz120_3); (try clear hfz125_0); (try clear hfz125_1); (try clear hfz125_2); (try clear hfz125_3); (try clear hfz127_0); (try clear hfz127_1); (try clear hfz127_2); (try clear hfz127_3); (try clear hfz135_0); (try clear hfz135_1); (try clear hfz135_2); (try clear hfz135_3); (try clear hfz137_0); (try clear hfz137_1); (try clear hfz137_2); (try clear hfz137_3); (try clear hfz142_0); (try clear hfz142_1); (try clear hfz142_2); (try clear hfz142_3); (try clear hfz144_0); (try clear hfz144_1); (try clear hfz144_2); (try clear hfz144_3); (try clear hfz149_0); (try clear hfz149_1); (try clear hfz149_2); (try clear hfz149_3); (try clear hfz151_0); (try clear hfz151_1); (try clear hfz151_2); (try clear hfz151_3); (try clear hfz156_0); (try clear hfz156_1); (try clear hfz156_2)
            (try clear hfz156_3); (try clear hfz158_0); (try clear hfz158_1); (try clear hfz158_2); (try clear hfz158_3); (try clear hfz163_0); (try clear hfz163_1); (try clear hfz163_2); (try clear hfz163_3); (try clear hfz165_0); (try clear hfz165_1); (try clear hfz165_2); (try clear hfz165_3); (try clear hfz168_0); (try clear hfz168_1); (try clear hfz168_2); (try clear hfz168_3); (try clear hfz170_0); (try clear hfz170_1); (try clear hfz170_2); (try clear hfz170_3); (try clear hfz177_0); (try clear hfz177_1); (try clear hfz177_2); (try clear hfz177_3); (try clear hfz179_0); (try clear hfz179_1); (try clear hfz179_2); (try clear hfz179_3); (try clear hx343_0); (try clear hx344_0); (try clear hx345_0); (try clear p2); (try clear p3); (try clear p34); (try clear p343); (try clear p344); (try clear p345); (try clear p6); (try clear p64); (try clear q3); (try clear q34); (try clear q343); (try clear q344); (try clear q345); obtain ⟨x254_4, rfl, HA, HK4, HO_10, HO_252, BK303, BK326, HB⟩ := hrel
            cases gk with
            | zero => exact absurd HA.out (by simp [laws_FnCycles.l0])
            | succ k4 =>
             have H := HA.out; clear HA; simp only [laws_FnCycles.l0] at H
             by_cases c188 : x254_4 < (t308.length : Int)
             ·rw [if_pos c188] at H
              have c188b0 : decide (x254_4 < (t308.length : Int)) = true := decide_eq_true c188; clear c188
              by_cases c189 : 0 ≤ x254_4
              ·rw [if_pos c189] at H
               have c189b0 : decide (0 ≤ x254_4) = true := decide_eq_true c189; clear c189
               by_cases c190 : x254_4 < (t308.length : Int)
               ·rw [if_pos c190] at H
                have c190b0 : decide (x254_4 < (t308.length : Int)) = true := decide_eq_true c190; clear c190
                by_cases c191 : x254_4 = 0
                ·rw [if_pos c191] at H
                 have c191b0 : (x254_4 == 0) = true := beq_iff_eq.mpr c191; have c191b1 : (x254_4 != 0) = false := bne_eq_false_iff_eq.mpr c191; clear c191
                 by_cases c192 : (rd t308 x254_4) = (wrap64 ((wrap64 (t297 + t298)) + t299))
                 ·rw [if_pos c192] at H
                  have c192b0 : ((rd t308 x254_4) == (wrap64 ((wrap64 (t297 + t298)) + t299))) = true := beq_iff_eq.mpr c192; have c192b1 : ((rd t308 x254_4) != (wrap64 ((wrap64 (t297 + t298)) + t299))) = false := bne_eq_false_iff_eq.mpr c192; clear c192
                  by_cases c193 : x254_4 > 0
                  ·rw [if_pos c193] at H
                   exact absurd H (by simp)
                  ·rw [if_neg c193] at H
                   have c193b0 : decide (0 < x254_4) = false := decide_eq_false c193; clear c193
                   by_cases c207 : x254_4 ≥ t301
                   ·rw [if_pos c207] at H
                    have c207b0 : decide (t301 ≤ x254_4) = true := decide_eq_true c207; clear c207
                    obtain ⟨ji208, hji208⟩ : ∃ j_ : Int, (wrap64 (x254_4 - t301)) = j_ := ⟨_, rfl⟩
                    replace H : (if 0 ≤ (ji208) then (if (ji208) < (t308.length : Int) then (if (wrap64 ((rd t308 x254_4) - (rd t308 (ji208)))) = t346 then (laws_FnCycles.l0 k4 t301 t308 t346 t348 t308 (t308.length : Int) (wrap64 (x254_4 + 1)) t297 t298 t299 t300) else (none)) else (none)) else (none)) = some r := by first | (rw [hji208] at H; exact H) | (simp only [hji208] at H ⊢; exact H)
                    have hji208w : (IntKind.i64.wrap (x254_4 - t301)) = ji208 := (i64_w _).trans hji208
                    by_cases c209 : 0 ≤ (ji208)
                    ·rw [if_pos c209] at H
                     have c209b0 : decide (0 ≤ (ji208)) = true := decide_eq_true c209; clear c209
                     by_cases c210 : (ji208) < (t308.length : Int)
                     ·rw [if_pos c210] at H
                      have c210b0 : decide ((ji208) < (t308.length : Int)) = true := decide_eq_true c210; clear c210
                      by_cases c211 : (wrap64 ((rd t308 x254_4) - (rd t308 (ji208)))) = t346
                      ·rw [if_pos c211] at H
                       have c211b0 : ((wrap64 ((rd t308 x254_4) - (rd t308 (ji208)))) == t346) = true := beq_iff_eq.mpr c211; have c211b1 : ((wrap64 ((rd t308 x254_4) - (rd t308 (ji208)))) != t346) = false := bne_eq_false_iff_eq.mpr c211; clear c211; have H' := Aside0.mk H; clear H; have p350 : 0 ≤ (x254_4 : Int) := odt; have q350 : x254_4 < (t308.length : Int) := odt; obtain ⟨ad350, e350, hx350_0⟩ := Kd.at_int (Kd.R_reads' HO_252.out).2.2 x254_4 p350 q350; cases e350; replace p350 := eq_true p350; replace q350 := eq_true q350
                       try go_wp2
                       have n0_ := am (Kd.R_drew HO_10.out); have n1_ := am (Kd.R_drew HO_252.out); have n2_ := am (blk_drew BK303.out); have n3_ := am (blk_drew BK326.out); have n4_ := am (below_drew1 HB.out); clear HO_10; clear HO_252; clear BK303; clear BK326; clear HB; have HO_10 := n0_; have HO_252 := n1_; have BK303 := n2_; have BK326 := n3_; have HB := n4_; clear n0_ n1_ n2_ n3_ n4_; have p353 : 0 ≤ ((ji208) : Int) := odt; have q353 : (ji208) < (t308.length : Int) := odt; obtain ⟨ad353, e353, hx353_0⟩ := Kd.at_int (Kd.R_reads' HO_10.out).2.2 (ji208) p353 q353; obtain rfl : ad350 = ad353 := (by injection e353); replace p353 := eq_true p353; replace q353 := eq_true q353
                       refine start_ (n := 47) (S := fun w' => w'.cell? ⟨gb303, 0, none⟩ = some (.int .i64 t297) ∧ w'.cell? ⟨gb303, 1, none⟩ = some (.int .i64 t298) ∧ w'.cell? ⟨gb303, 2, none⟩ = some (.int .i64 t299) ∧ w'.cell? ⟨gb303, 3, none⟩ = some (.int .i64 t300) ∧ w'.cell? (ad350.add ((ji208)).toNat) = some (.int .i64 (rd t308 (ji208)))) (ds := []) m57_ (by kernel_rfl) rfl rfl ⟨(blk_cell BK303.out 0).trans rfl, (blk_cell BK303.out 1).trans rfl, (blk_cell BK303.out 2).trans rfl, (blk_cell BK303.out 3).trans rfl, hx353_0⟩ (fun hHeld => ?_); refine with_tabW laws_FnCycles.tab29 laws_FnCycles.bits29 (fun HT_ HW_ => ?_)
                       generalize wr.drew = w212 at HO_10 HO_252 BK303 BK326 HB hx353_0 hHeld ⊢
                       refine pure_ (i := 0) (N := some 259) (v := ?_) (a' := ?_) m58_ rfl rfl (any_of HT_.out (by kernel_rfl)) (fun _ _ _ h => h) (Or.inl ⟨by rfl, ?_⟩) ?_ ?_
                       rotate_left
                       ·intro w'
                        go_simp
                        with_reducible rfl
                       rotate_left
                       ·simp only [Act.put, s1, s2, s3, i64_w, i32_w]
                        rfl
                       refine pure_ (i := 1) (N := some 260) (v := ?_) (a' := ?_) m59_ rfl rfl (any_of HT_.out (by kernel_rfl)) (fun _ _ _ h => h) (Or.inl ⟨by rfl, ?_⟩) ?_ ?_
                       rotate_left
                       ·intro w'
                        go_simp
                        with_reducible rfl
                       rotate_left
                       ·simp only [Act.put, s1, s2, s3, i64_w, i32_w]
                        rfl
                       refine pure_ (i := 2) (N := some 261) (v := ?_) (a' := ?_) m60_ rfl rfl (any_of HT_.out (by kernel_rfl)) (fun _ _ _ h => h) (Or.inl ⟨by rfl, ?_⟩) ?_ ?_
                       rotate_left
                       ·intro w'
                        go_simp
                        with_reducible rfl
                       rotate_left
                       ·simp only [Act.put, s1, s2, s3, i64_w, i32_w]
                        rfl
                       refine pure_ (i := 3) (N := some 262) (v := ?_) (a' := ?_) m61_ rfl rfl (any_of HT_.out (by kernel_rfl)) (fun _ _ _ h => h) (Or.inl ⟨by rfl, ?_⟩) ?_ ?_
                       rotate_left
                       ·intro w'
                        go_simp
                        with_reducible rfl
                       rotate_left
                       ·simp only [Act.put, s1, s2, s3, i64_w, i32_w]
                        rfl
                       refine pure_ (i := 4) (N := some 263) (v := ?_) (a' := ?_) m62_ rfl rfl (any_of HT_.out (by kernel_rfl)) (fun _ _ _ h => h) (Or.inl ⟨by rfl, ?_⟩) ?_ ?_
                       rotate_left
                       ·intro w'
                        go_simp
                        with_reducible rfl
                       rotate_left
                       ·simp only [Act.put, s1, s2, s3, i64_w, i32_w]
                        rfl
                       refine pure_ (i := 6) (N := some 265) (v := ?_) (a' := ?_) m63_ rfl rfl (any_of HT_.out (by kernel_rfl)) (fun _ _ _ h => h) (Or.inl ⟨by rfl, ?_⟩) ?_ ?_
                       rotate_left
                       ·intro w'
                        go_simp
                        with_reducible rfl
                       rotate_left
                       ·simp only [Act.put, s1, s2, s3, i64_w, i32_w]
                        rfl
                       refine pure_ (i := 9) (N := some 268) (v := ?_) (a' := ?_) m64_ rfl rfl (any_of HT_.out (by kernel_rfl)) (fun _ _ _ h => h) (Or.inl ⟨by rfl, ?_⟩) ?_ ?_
                       rotate_left
                       ·intro w'
                        go_simp
                        with_reducible rfl
                       rotate_left
                       ·simp only [Act.put, s1, s2, s3, i64_w, i32_w]
                        rfl
                       refine take_ (i := 5) (N := some 264) (v := ?_) (a' := ?_) m65_ rfl rfl (take_ofW HT_.out HW_.out (by kernel_rfl)) (fun _ _ _ h => h) (Or.inl ⟨by rfl, ?_⟩) hHeld ?_ ?_
                       rotate_left
                       ·rintro w' ⟨s0, s1, s2, s3, s4⟩
                        go_simp
                        with_reducible rfl
                       rotate_left
                       ·simp only [Act.put, s1, s2, s3, i64_w, i32_w]
                        rfl
                       refine take_ (i := 7) (N := some 266) (v := ?_) (a' := ?_) m66_ rfl rfl (take_ofW HT_.out HW_.out (by kernel_rfl)) (fun _ _ _ h => h) (Or.inl ⟨by rfl, ?_⟩) hHeld ?_ ?_
                       rotate_left
                       ·rintro w' ⟨s0, s1, s2, s3, s4⟩
                        go_simp
                        with_reducible rfl
                       rotate_left
                       ·simp only [Act.put, s1, s2, s3, i64_w, i32_w]
                        rfl
                       refine pure_ (i := 8) (N := some 267) (v := ?_) (a' := ?_) m67_ rfl rfl (any_of HT_.out (by kernel_rfl)) (fun _ _ _ h => h) (Or.inl ⟨by rfl, ?_⟩) ?_ ?_
                       rotate_left
                       ·intro w'
                        go_simp
                        with_reducible rfl
                       rotate_left
                       ·simp only [Act.put, s1, s2, s3, i64_w, i32_w]
                        rfl
                       refine take_ (i := 10) (N := some 269) (v := ?_) (a' := ?_) m68_ rfl rfl (take_ofW HT_.out HW_.out (by kernel_rfl)) (fun _ _ _ h => h) (Or.inl ⟨by rfl, ?_⟩) hHeld ?_ ?_
                       rotate_left
                       ·rintro w' ⟨s0, s1, s2, s3, s4⟩
                        go_simp
                        with_reducible rfl
                       rotate_left
                       ·simp only [Act.put, s1, s2, s3, i64_w, i32_w]
                        rfl
                       refine pure_ (i := 11) (N := some 270) (v := ?_) (a' := ?_) m69_ rfl rfl (any_of HT_.out (by kernel_rfl)) (fun _ _ _ h => h) (Or.inl ⟨by rfl, ?_⟩) ?_ ?_
                       rotate_left
                       ·intro w'
                        go_simp
                        with_reducible rfl
                       rotate_left
                       ·simp only [Act.put, s1, s2, s3, i64_w, i32_w]
                        rfl
                       refine pure_ (i := 12) (N := some 271) (v := ?_) (a' := ?_) m70_ rfl rfl (any_of HT_.out (by kernel_rfl)) (fun _ _ _ h => h) (Or.inl ⟨by rfl, ?_⟩) ?_ ?_
                       rotate_left
                       ·intro w'
                        go_simp
                        with_reducible rfl
                       rotate_left
                       ·simp only [Act.put, s1, s2, s3, i64_w, i32_w]
                        rfl
                       refine pure_ (i := 13) (N := some 272) (v := ?_) (a' := ?_) m71_ rfl rfl (any_of HT_.out (by kernel_rfl)) (fun _ _ _ h => h) (Or.inl ⟨by rfl, ?_⟩) ?_ ?_
                       rotate_left
                       ·intro w'
                        go_simp
                        with_reducible rfl
                       rotate_left
                       ·simp only [Act.put, s1, s2, s3, i64_w, i32_w]
                        rfl
                       refine pure_ (i := 14) (N := some 273) (v := ?_) (a' := ?_) m72_ rfl rfl (any_of HT_.out (by kernel_rfl)) (fun _ _ _ h => h) (Or.inl ⟨by rfl, ?_⟩) ?_ ?_
                       rotate_left
                       ·intro w'
                        go_simp
                        with_reducible rfl
                       rotate_left
                       ·simp only [Act.put, s1, s2, s3, i64_w, i32_w]
                        rfl
                       refine pure_ (i := 15) (N := some 274) (v := ?_) (a' := ?_) m73_ rfl rfl (any_of HT_.out (by kernel_rfl)) (fun _ _ _ h => h) (Or.inl ⟨by rfl, ?_⟩) ?_ ?_
                       rotate_left
                       ·intro w'
                        go_simp
                        with_reducible rfl
                       rotate_left
                       ·simp only [Act.put, s1, s2, s3, i64_w, i32_w]
                        rfl
                       refine pure_ (i := 16) (N := some 275) (v := ?_) (a' := ?_) m74_ rfl rfl (any_of HT_.out (by kernel_rfl)) (fun _ _ _ h => h) (Or.inl ⟨by rfl, ?_⟩) ?_ ?_
                       rotate_left
                       ·intro w'
                        go_simp
                        with_reducible rfl
                       rotate_left
                       ·simp only [Act.put, s1, s2, s3, i64_w, i32_w]
                        rfl
                       refine pure_ (i := 17) (N := some 276) (v := ?_) (a' := ?_) m75_ rfl rfl (any_of HT_.out (by kernel_rfl)) (fun _ _ _ h => h) (Or.inl ⟨by rfl, ?_⟩) ?_ ?_
                       rotate_left
                       ·intro w'
                        go_simp
                        with_reducible rfl
                       rotate_left
                       ·simp only [Act.put, s1, s2, s3, i64_w, i32_w]
                        rfl
                       refine pure_ (i := 18) (N := some 277) (v := undef) (a' := ?_) m76_ rfl rfl (any_of HT_.out (by kernel_rfl)) (fun _ _ _ h => h) (Or.inr ⟨by rfl, rfl⟩) ?_ ?_
                       rotate_left
                       ·simp only [Act.put, s1, s2, s3, i64_w, i32_w]
                        rfl
                       refine pure_ (i := 19) (N := some 278) (v := undef) (a' := ?_) m77_ rfl rfl (any_of HT_.out (by kernel_rfl)) (fun _ _ _ h => h) (Or.inr ⟨by rfl, rfl⟩) ?_ ?_
                       rotate_left
                       ·simp only [Act.put, s1, s2, s3, i64_w, i32_w]
                        rfl
                       refine pure_ (i := 20) (N := some 279) (v := undef) (a' := ?_) m78_ rfl rfl (any_of HT_.out (by kernel_rfl)) (fun _ _ _ h => h) (Or.inr ⟨by rfl, rfl⟩) ?_ ?_
                       rotate_left
                       ·simp only [Act.put, s1, s2, s3, i64_w, i32_w]
                        rfl
                       refine pure_ (i := 21) (N := some 280) (v := undef) (a' := ?_) m79_ rfl rfl (any_of HT_.out (by kernel_rfl)) (fun _ _ _ h => h) (Or.inr ⟨by rfl, rfl⟩) ?_ ?_
                       rotate_left
                       ·simp only [Act.put, s1, s2, s3, i64_w, i32_w]
                        rfl
                       refine pure_ (i := 22) (N := some 281) (v := undef) (a' := ?_) m80_ rfl rfl (any_of HT_.out (by kernel_rfl)) (fun _ _ _ h => h) (Or.inr ⟨by rfl, rfl⟩) ?_ ?_
                       rotate_left
                       ·simp only [Act.put, s1, s2, s3, i64_w, i32_w]
                        rfl
                       refine pure_ (i := 23) (N := some 282) (v := undef) (a' := ?_) m81_ rfl rfl (any_of HT_.out (by kernel_rfl)) (fun _ _ _ h => h) (Or.inr ⟨by rfl, rfl⟩) ?_ ?_
                       rotate_left
                       ·simp only [Act.put, s1, s2, s3, i64_w, i32_w]
                        rfl
                       refine pure_ (i := 24) (N := some 283) (v := undef) (a' := ?_) m82_ rfl rfl (any_of HT_.out (by kernel_rfl)) (fun _ _ _ h => h) (Or.inr ⟨by rfl, rfl⟩) ?_ ?_
                       rotate_left
                       ·simp only [Act.put, s1, s2, s3, i64_w, i32_w]
                        rfl
                       refine pure_ (i := 25) (N := some 284) (v := undef) (a' := ?_) m83_ rfl rfl (any_of HT_.out (by kernel_rfl)) (fun _ _ _ h => h) (Or.inr ⟨by rfl, rfl⟩) ?_ ?_
                       rotate_left
                       ·simp only [Act.put, s1, s2, s3, i64_w, i32_w]
                        rfl
                       refine pure_ (i := 26) (N := some 285) (v := undef) (a' := ?_) m84_ rfl rfl (any_of HT_.out (by kernel_rfl)) (fun _ _ _ h => h) (Or.inr ⟨by rfl, rfl⟩) ?_ ?_
                       rotate_left
                       ·simp only [Act.put, s1, s2, s3, i64_w, i32_w]
                        rfl
                       refine pure_ (i := 27) (N := some 286) (v := undef) (a' := ?_) m85_ rfl rfl (any_of HT_.out (by kernel_rfl)) (fun _ _ _ h => h) (Or.inr ⟨by rfl, rfl⟩) ?_ ?_
                       rotate_left
                       ·simp only [Act.put, s1, s2, s3, i64_w, i32_w]
                        rfl
                       refine pure_ (i := 28) (N := some 287) (v := ?_) (a' := ?_) m86_ rfl rfl (any_of HT_.out (by kernel_rfl)) (fun _ _ _ h => h) (Or.inl ⟨by rfl, ?_⟩) ?_ ?_
                       rotate_left
                       ·intro w'
                        go_simp
                        with_reducible rfl
                       rotate_left
                       ·simp only [Act.put, s1, s2, s3, i64_w, i32_w]
                        rfl
                       refine pure_ (i := 29) (N := some 288) (v := ?_) (a' := ?_) m87_ rfl rfl (any_of HT_.out (by kernel_rfl)) (fun _ _ _ h => h) (Or.inl ⟨by rfl, ?_⟩) ?_ ?_
                       rotate_left
                       ·intro w'
                        go_simp
                        with_reducible rfl
                       rotate_left
                       ·simp only [Act.put, s1, s2, s3, i64_w, i32_w]
                        rfl
                       refine pure_ (i := 30) (N := some 289) (v := ?_) (a' := ?_) m88_ rfl rfl (any_of HT_.out (by kernel_rfl)) (fun _ _ _ h => h) (Or.inl ⟨by rfl, ?_⟩) ?_ ?_
                       rotate_left
                       ·intro w'
                        go_simp
                        with_reducible rfl
                       rotate_left
                       ·simp only [Act.put, s1, s2, s3, i64_w, i32_w]
                        rfl
                       refine pure_ (i := 31) (N := some 290) (v := ?_) (a' := ?_) m89_ rfl rfl (any_of HT_.out (by kernel_rfl)) (fun _ _ _ h => h) (Or.inl ⟨by rfl, ?_⟩) ?_ ?_
                       rotate_left
                       ·intro w'
                        go_simp
                        with_reducible rfl
                       rotate_left
                       ·simp only [Act.put, s1, s2, s3, i64_w, i32_w]
                        rfl
                       refine pure_ (i := 32) (N := some 291) (v := ?_) (a' := ?_) m90_ rfl rfl (any_of HT_.out (by kernel_rfl)) (fun _ _ _ h => h) (Or.inl ⟨by rfl, ?_⟩) ?_ ?_
                       rotate_left
                       ·intro w'
                        go_simp
                        with_reducible rfl
                       rotate_left
                       ·simp only [Act.put, s1, s2, s3, i64_w, i32_w]
                        rfl
                       refine pure_ (i := 33) (N := some 292) (v := ?_) (a' := ?_) m91_ rfl rfl (any_of HT_.out (by kernel_rfl)) (fun _ _ _ h => h) (Or.inl ⟨by rfl, ?_⟩) ?_ ?_
                       rotate_left
                       ·intro w'
                        go_simp
                        with_reducible rfl
                       rotate_left
                       ·simp only [Act.put, s1, s2, s3, i64_w, i32_w]
                        rfl
                       refine pure_ (i := 34) (N := some 293) (v := ?_) (a' := ?_) m92_ rfl rfl (any_of HT_.out (by kernel_rfl)) (fun _ _ _ h => h) (Or.inl ⟨by rfl, ?_⟩) ?_ ?_
                       rotate_left
                       ·intro w'
                        go_simp
                        with_reducible rfl
                       rotate_left
                       ·simp only [Act.put, s1, s2, s3, i64_w, i32_w]
                        rfl
                       refine pure_ (i := 35) (N := some 294) (v := ?_) (a' := ?_) m93_ rfl rfl (any_of HT_.out (by kernel_rfl)) (fun _ _ _ h => h) (Or.inl ⟨by rfl, ?_⟩) ?_ ?_
                       rotate_left
                       ·intro w'
                        go_simp
                        with_reducible rfl
                       rotate_left
                       ·simp only [Act.put, s1, s2, s3, i64_w, i32_w]
                        rfl
                       refine pure_ (i := 36) (N := some 295) (v := ?_) (a' := ?_) m94_ rfl rfl (any_of HT_.out (by kernel_rfl)) (fun _ _ _ h => h) (Or.inl ⟨by rfl, ?_⟩) ?_ ?_
                       rotate_left
                       ·intro w'
                        go_simp
                        with_reducible rfl
                       rotate_left
                       ·simp only [Act.put, s1, s2, s3, i64_w, i32_w]
                        rfl
                       refine pure_ (i := 37) (N := some 296) (v := ?_) (a' := ?_) m95_ rfl rfl (any_of HT_.out (by kernel_rfl)) (fun _ _ _ h => h) (Or.inl ⟨by rfl, ?_⟩) ?_ ?_
                       rotate_left
                       ·intro w'
                        go_simp
                        with_reducible rfl
                       rotate_left
                       ·simp only [Act.put, s1, s2, s3, i64_w, i32_w]
                        rfl
                       refine pure_ (i := 38) (N := some 297) (v := ?_) (a' := ?_) m96_ rfl rfl (any_of HT_.out (by kernel_rfl)) (fun _ _ _ h => h) (Or.inl ⟨by rfl, ?_⟩) ?_ ?_
                       rotate_left
                       ·intro w'
                        go_simp
                        with_reducible rfl
                       rotate_left
                       ·simp only [Act.put, s1, s2, s3, i64_w, i32_w]
                        rfl
                       refine pure_ (i := 39) (N := some 298) (v := ?_) (a' := ?_) m97_ rfl rfl (any_of HT_.out (by kernel_rfl)) (fun _ _ _ h => h) (Or.inl ⟨by rfl, ?_⟩) ?_ ?_
                       rotate_left
                       ·intro w'
                        go_simp
                        with_reducible rfl
                       rotate_left
                       ·simp only [Act.put, s1, s2, s3, i64_w, i32_w]
                        rfl
                       refine pure_ (i := 40) (N := some 299) (v := ?_) (a' := ?_) m98_ rfl rfl (any_of HT_.out (by kernel_rfl)) (fun _ _ _ h => h) (Or.inl ⟨by rfl, ?_⟩) ?_ ?_
                       rotate_left
                       ·intro w'
                        go_simp
                        with_reducible rfl
                       rotate_left
                       ·simp only [Act.put, s1, s2, s3, i64_w, i32_w]
                        rfl
                       refine pure_ (i := 43) (N := some 302) (v := ?_) (a' := ?_) m99_ rfl rfl (any_of HT_.out (by kernel_rfl)) (fun _ _ _ h => h) (Or.inl ⟨by rfl, ?_⟩) ?_ ?_
                       rotate_left
                       ·intro w'
                        go_simp
                        with_reducible rfl
                       rotate_left
                       ·simp only [Act.put, s1, s2, s3, i64_w, i32_w]
                        rfl
                       refine take_ (i := 41) (N := some 300) (v := ?_) (a' := ?_) m100_ rfl rfl (take_ofW HT_.out HW_.out (by kernel_rfl)) (fun _ _ _ h => h) (Or.inl ⟨by rfl, ?_⟩) hHeld ?_ ?_
                       rotate_left
                       ·rintro w' ⟨s0, s1, s2, s3, s4⟩
                        go_simp
                        with_reducible rfl
                       rotate_left
                       ·simp only [Act.put, s1, s2, s3, i64_w, i32_w]
                        rfl
                       refine pure_ (i := 42) (N := some 301) (v := ?_) (a' := ?_) m101_ rfl rfl (any_of HT_.out (by kernel_rfl)) (fun _ _ _ h => h) (Or.inl ⟨by rfl, ?_⟩) ?_ ?_
                       rotate_left
                       ·intro w'
                        go_simp
                        with_reducible rfl
                       rotate_left
                       ·simp only [Act.put, s1, s2, s3, i64_w, i32_w]
                        rfl
                       refine pure_ (i := 44) (N := some 303) (v := ?_) (a' := ?_) m102_ rfl rfl (any_of HT_.out (by kernel_rfl)) (fun _ _ _ h => h) (Or.inl ⟨by rfl, ?_⟩) ?_ ?_
                       rotate_left
                       ·intro w'
                        go_simp
                        with_reducible rfl
                       rotate_left
                       ·simp only [Act.put, s1, s2, s3, i64_w, i32_w]
                        rfl
                       refine pure_ (i := 45) (N := some 304) (v := ?_) (a' := ?_) m103_ rfl rfl (any_of HT_.out (by kernel_rfl)) (fun _ _ _ h => h) (Or.inl ⟨by rfl, ?_⟩) ?_ ?_
                       rotate_left
                       ·intro w'
                        go_simp
                        with_reducible rfl
                       rotate_left
                       ·simp only [Act.put, s1, s2, s3, i64_w, i32_w]
                        rfl
                       refine pure_ (i := 46) (N := some 305) (v := ?_) (a' := ?_) m104_ rfl rfl (any_of HT_.out (by kernel_rfl)) (fun _ _ _ h => h) (Or.inl ⟨by rfl, ?_⟩) ?_ ?_
                       rotate_left
                       ·intro w'
                        go_simp
                        with_reducible rfl
                       rotate_left
                       ·simp only [Act.put, s1, s2, s3, i64_w, i32_w]
                        rfl
                       refine done_ (done_of HT_.out (by kernel_rfl)) ?_
                       try go_wp2
                       go_roundg k4
                       case measure => have := HJ13.out; have := HJ86.out; have := HJ174.out; have := HK4.out; omega
                       case rel => exact ⟨(wrap64 (x254_4 + 1)), zw', H', ⟨zj2'⟩, ⟨zl'⟩, ⟨zb2'⟩, ⟨zp'⟩, ⟨zu'⟩, ⟨zd'⟩⟩
                      ·rw [if_neg c211] at H
                       exact absurd H (by simp)
                     ·rw [if_neg c210] at H
                      exact absurd H (by simp)
                    ·rw [if_neg c209] at H
                     exact absurd H (by simp)
                   ·rw [if_neg c207] at H
                    have c207b0 : decide (t301 ≤ x254_4) = false := decide_eq_false c207; clear c207; have H' := Aside0.mk H; clear H; have p350 : 0 ≤ (x254_4 : Int) := odt; have q350 : x254_4 < (t308.length : Int) := odt; obtain ⟨ad350, e350, hx350_0⟩ := Kd.at_int (Kd.R_reads' HO_252.out).2.2 x254_4 p350 q350; cases e350; replace p350 := eq_true p350; replace q350 := eq_true q350
                    try go_wp2
                    have n0_ := am (Kd.R_drew HO_10.out); have n1_ := am (Kd.R_drew HO_252.out); have n2_ := am (blk_drew BK303.out); have n3_ := am (blk_drew BK326.out); have n4_ := am (below_drew1 HB.out); clear HO_10; clear HO_252; clear BK303; clear BK326; clear HB; have HO_10 := n0_; have HO_252 := n1_; have BK303 := n2_; have BK326 := n3_; have HB := n4_; clear n0_ n1_ n2_ n3_ n4_
                    refine start_ (n := 47) (S := fun w' => w'.cell? ⟨gb303, 0, none⟩ = some (.int .i64 t297) ∧ w'.cell? ⟨gb303, 1, none⟩ = some (.int .i64 t298) ∧ w'.cell? ⟨gb303, 2, none⟩ = some (.int .i64 t299) ∧ w'.cell? ⟨gb303, 3, none⟩ = some (.int .i64 t300)) (ds := []) m57_ (by kernel_rfl) rfl rfl ⟨(blk_cell BK303.out 0).trans rfl, (blk_cell BK303.out 1).trans rfl, (blk_cell BK303.out 2).trans rfl, (blk_cell BK303.out 3).trans rfl⟩ (fun hHeld => ?_); refine with_tabW laws_FnCycles.tab29 laws_FnCycles.bits29 (fun HT_ HW_ => ?_)
                    generalize wr.drew = w214 at HO_10 HO_252 BK303 BK326 HB hHeld ⊢
                    refine pure_ (i := 0) (N := some 259) (v := ?_) (a' := ?_) m58_ rfl rfl (any_of HT_.out (by kernel_rfl)) (fun _ _ _ h => h) (Or.inl ⟨by rfl, ?_⟩) ?_ ?_
                    rotate_left
                    ·intro w'
                     go_simp
                     with_reducible rfl
                    rotate_left
                    ·simp only [Act.put, s1, s2, s3, i64_w, i32_w]
                     rfl
                    refine pure_ (i := 1) (N := some 260) (v := ?_) (a' := ?_) m59_ rfl rfl (any_of HT_.out (by kernel_rfl)) (fun _ _ _ h => h) (Or.inl ⟨by rfl, ?_⟩) ?_ ?_
                    rotate_left
                    ·intro w'
                     go_simp
                     with_reducible rfl
                    rotate_left
                    ·simp only [Act.put, s1, s2, s3, i64_w, i32_w]
                     rfl
                    refine pure_ (i := 2) (N := some 261) (v := ?_) (a' := ?_) m60_ rfl rfl (any_of HT_.out (by kernel_rfl)) (fun _ _ _ h => h) (Or.inl ⟨by rfl, ?_⟩) ?_ ?_
                    rotate_left
                    ·intro w'
                     go_simp
                     with_reducible rfl
                    rotate_left
                    ·simp only [Act.put, s1, s2, s3, i64_w, i32_w]
                     rfl
                    refine pure_ (i := 3) (N := some 262) (v := ?_) (a' := ?_) m61_ rfl rfl (any_of HT_.out (by kernel_rfl)) (fun _ _ _ h => h) (Or.inl ⟨by rfl, ?_⟩) ?_ ?_
                    rotate_left
                    ·intro w'
                     go_simp
                     with_reducible rfl
                    rotate_left
                    ·simp only [Act.put, s1, s2, s3, i64_w, i32_w]
                     rfl
                    refine pure_ (i := 4) (N := some 263) (v := ?_) (a' := ?_) m62_ rfl rfl (any_of HT_.out (by kernel_rfl)) (fun _ _ _ h => h) (Or.inl ⟨by rfl, ?_⟩) ?_ ?_
                    rotate_left
                    ·intro w'
                     go_simp
                     with_reducible rfl
                    rotate_left
                    ·simp only [Act.put, s1, s2, s3, i64_w, i32_w]
                     rfl
                    refine pure_ (i := 6) (N := some 265) (v := ?_) (a' := ?_) m63_ rfl rfl (any_of HT_.out (by kernel_rfl)) (fun _ _ _ h => h) (Or.inl ⟨by rfl, ?_⟩) ?_ ?_
                    rotate_left
                    ·intro w'
                     go_simp
                     with_reducible rfl
                    rotate_left
                    ·simp only [Act.put, s1, s2, s3, i64_w, i32_w]
                     rfl
                    refine pure_ (i := 9) (N := some 268) (v := ?_) (a' := ?_) m64_ rfl rfl (any_of HT_.out (by kernel_rfl)) (fun _ _ _ h => h) (Or.inl ⟨by rfl, ?_⟩) ?_ ?_
                    rotate_left
                    ·intro w'
                     go_simp
                     with_reducible rfl
                    rotate_left
                    ·simp only [Act.put, s1, s2, s3, i64_w, i32_w]
                     rfl
                    refine take_ (i := 5) (N := some 264) (v := ?_) (a' := ?_) m65_ rfl rfl (take_ofW HT_.out HW_.out (by kernel_rfl)) (fun _ _ _ h => h) (Or.inl ⟨by rfl, ?_⟩) hHeld ?_ ?_
                    rotate_left
                    ·rintro w' ⟨s0, s1, s2, s3⟩
                     go_simp
                     with_reducible rfl
                    rotate_left
                    ·simp only [Act.put, s1, s2, s3, i64_w, i32_w]
                     rfl
                    refine take_ (i := 7) (N := some 266) (v := ?_) (a' := ?_) m66_ rfl rfl (take_ofW HT_.out HW_.out (by kernel_rfl)) (fun _ _ _ h => h) (Or.inl ⟨by rfl, ?_⟩) hHeld ?_ ?_
                    rotate_left
                    ·rintro w' ⟨s0, s1, s2, s3⟩
                     go_simp
                     with_reducible rfl
                    rotate_left
                    ·simp only [Act.put, s1, s2, s3, i64_w, i32_w]
                     rfl
                    refine pure_ (i := 8) (N := some 267) (v := ?_) (a' := ?_) m67_ rfl rfl (any_of HT_.out (by kernel_rfl)) (fun _ _ _ h => h) (Or.inl ⟨by rfl, ?_⟩) ?_ ?_
                    rotate_left
                    ·intro w'
                     go_simp
                     with_reducible rfl
                    rotate_left
                    ·simp only [Act.put, s1, s2, s3, i64_w, i32_w]
                     rfl
                    refine take_ (i := 10) (N := some 269) (v := ?_) (a' := ?_) m68_ rfl rfl (take_ofW HT_.out HW_.out (by kernel_rfl)) (fun _ _ _ h => h) (Or.inl ⟨by rfl, ?_⟩) hHeld ?_ ?_
                    rotate_left
                    ·rintro w' ⟨s0, s1, s2, s3⟩
                     go_simp
                     with_reducible rfl
                    rotate_left
                    ·simp only [Act.put, s1, s2, s3, i64_w, i32_w]
                     rfl
                    refine pure_ (i := 11) (N := some 270) (v := ?_) (a' := ?_) m69_ rfl rfl (any_of HT_.out (by kernel_rfl)) (fun _ _ _ h => h) (Or.inl ⟨by rfl, ?_⟩) ?_ ?_
                    rotate_left
                    ·intro w'
                     go_simp
                     with_reducible rfl
                    rotate_left
                    ·simp only [Act.put, s1, s2, s3, i64_w, i32_w]
                     rfl
                    refine pure_ (i := 12) (N := some 271) (v := ?_) (a' := ?_) m70_ rfl rfl (any_of HT_.out (by kernel_rfl)) (fun _ _ _ h => h) (Or.inl ⟨by rfl, ?_⟩) ?_ ?_
                    rotate_left
                    ·intro w'
                     go_simp
                     with_reducible rfl
                    rotate_left
                    ·simp only [Act.put, s1, s2, s3, i64_w, i32_w]
                     rfl
                    refine pure_ (i := 13) (N := some 272) (v := ?_) (a' := ?_) m71_ rfl rfl (any_of HT_.out (by kernel_rfl)) (fun _ _ _ h => h) (Or.inl ⟨by rfl, ?_⟩) ?_ ?_
                    rotate_left
                    ·intro w'
                     go_simp
                     with_reducible rfl
                    rotate_left
                    ·simp only [Act.put, s1, s2, s3, i64_w, i32_w]
                     rfl
                    refine pure_ (i := 14) (N := some 273) (v := ?_) (a' := ?_) m72_ rfl rfl (any_of HT_.out (by kernel_rfl)) (fun _ _ _ h => h) (Or.inl ⟨by rfl, ?_⟩) ?_ ?_
                    rotate_left
                    ·intro w'
                     go_simp
                     with_reducible rfl
                    rotate_left
                    ·simp only [Act.put, s1, s2, s3, i64_w, i32_w]
                     rfl
                    refine pure_ (i := 15) (N := some 274) (v := ?_) (a' := ?_) m73_ rfl rfl (any_of HT_.out (by kernel_rfl)) (fun _ _ _ h => h) (Or.inl ⟨by rfl, ?_⟩) ?_ ?_
                    rotate_left
                    ·intro w'
                     go_simp
                     with_reducible rfl
                    rotate_left
                    ·simp only [Act.put, s1, s2, s3, i64_w, i32_w]
                     rfl
                    refine pure_ (i := 16) (N := some 275) (v := ?_) (a' := ?_) m74_ rfl rfl (any_of HT_.out (by kernel_rfl)) (fun _ _ _ h => h) (Or.inl ⟨by rfl, ?_⟩) ?_ ?_
                    rotate_left
                    ·intro w'
                     go_simp
                     with_reducible rfl
                    rotate_left
                    ·simp only [Act.put, s1, s2, s3, i64_w, i32_w]
                     rfl
                    refine pure_ (i := 17) (N := some 276) (v := ?_) (a' := ?_) m75_ rfl rfl (any_of HT_.out (by kernel_rfl)) (fun _ _ _ h => h) (Or.inl ⟨by rfl, ?_⟩) ?_ ?_
                    rotate_left
                    ·intro w'
                     go_simp
                     with_reducible rfl
                    rotate_left
                    ·simp only [Act.put, s1, s2, s3, i64_w, i32_w]
                     rfl
                    refine pure_ (i := 18) (N := some 277) (v := undef) (a' := ?_) m76_ rfl rfl (any_of HT_.out (by kernel_rfl)) (fun _ _ _ h => h) (Or.inr ⟨by rfl, rfl⟩) ?_ ?_
                    rotate_left
                    ·simp only [Act.put, s1, s2, s3, i64_w, i32_w]
                     rfl
                    refine pure_ (i := 19) (N := some 278) (v := undef) (a' := ?_) m77_ rfl rfl (any_of HT_.out (by kernel_rfl)) (fun _ _ _ h => h) (Or.inr ⟨by rfl, rfl⟩) ?_ ?_
                    rotate_left
                    ·simp only [Act.put, s1, s2, s3, i64_w, i32_w]
                     rfl
                    refine pure_ (i := 20) (N := some 279) (v := undef) (a' := ?_) m78_ rfl rfl (any_of HT_.out (by kernel_rfl)) (fun _ _ _ h => h) (Or.inr ⟨by rfl, rfl⟩) ?_ ?_
                    rotate_left
                    ·simp only [Act.put, s1, s2, s3, i64_w, i32_w]
                     rfl
                    refine pure_ (i := 21) (N := some 280) (v := undef) (a' := ?_) m79_ rfl rfl (any_of HT_.out (by kernel_rfl)) (fun _ _ _ h => h) (Or.inr ⟨by rfl, rfl⟩) ?_ ?_
                    rotate_left
                    ·simp only [Act.put, s1, s2, s3, i64_w, i32_w]
                     rfl
                    refine pure_ (i := 22) (N := some 281) (v := undef) (a' := ?_) m80_ rfl rfl (any_of HT_.out (by kernel_rfl)) (fun _ _ _ h => h) (Or.inr ⟨by rfl, rfl⟩) ?_ ?_
                    rotate_left
                    ·simp only [Act.put, s1, s2, s3, i64_w, i32_w]
                     rfl
                    refine pure_ (i := 23) (N := some 282) (v := undef) (a' := ?_) m81_ rfl rfl (any_of HT_.out (by kernel_rfl)) (fun _ _ _ h => h) (Or.inr ⟨by rfl, rfl⟩) ?_ ?_
                    rotate_left
                    ·simp only [Act.put, s1, s2, s3, i64_w, i32_w]
                     rfl
                    refine pure_ (i := 24) (N := some 283) (v := undef) (a' := ?_) m82_ rfl rfl (any_of HT_.out (by kernel_rfl)) (fun _ _ _ h => h) (Or.inr ⟨by rfl, rfl⟩) ?_ ?_
                    rotate_left
                    ·simp only [Act.put, s1, s2, s3, i64_w, i32_w]
                     rfl
                    refine pure_ (i := 25) (N := some 284) (v := undef) (a' := ?_) m83_ rfl rfl (any_of HT_.out (by kernel_rfl)) (fun _ _ _ h => h) (Or.inr ⟨by rfl, rfl⟩) ?_ ?_
                    rotate_left
                    ·simp only [Act.put, s1, s2, s3, i64_w, i32_w]
                     rfl
                    refine pure_ (i := 26) (N := some 285) (v := undef) (a' := ?_) m84_ rfl rfl (any_of HT_.out (by kernel_rfl)) (fun _ _ _ h => h) (Or.inr ⟨by rfl, rfl⟩) ?_ ?_
                    rotate_left
                    ·simp only [Act.put, s1, s2, s3, i64_w, i32_w]
                     rfl
                    refine pure_ (i := 27) (N := some 286) (v := undef) (a' := ?_) m85_ rfl rfl (any_of HT_.out (by kernel_rfl)) (fun _ _ _ h => h) (Or.inr ⟨by rfl, rfl⟩) ?_ ?_
                    rotate_left
                    ·simp only [Act.put, s1, s2, s3, i64_w, i32_w]
                     rfl
                    refine pure_ (i := 28) (N := some 287) (v := ?_) (a' := ?_) m86_ rfl rfl (any_of HT_.out (by kernel_rfl)) (fun _ _ _ h => h) (Or.inl ⟨by rfl, ?_⟩) ?_ ?_
                    rotate_left
                    ·intro w'
                     go_simp
                     with_reducible rfl
                    rotate_left
                    ·simp only [Act.put, s1, s2, s3, i64_w, i32_w]
                     rfl
                    refine pure_ (i := 29) (N := some 288) (v := ?_) (a' := ?_) m87_ rfl rfl (any_of HT_.out (by kernel_rfl)) (fun _ _ _ h => h) (Or.inl ⟨by rfl, ?_⟩) ?_ ?_
                    rotate_left
                    ·intro w'
                     go_simp
                     with_reducible rfl
                    rotate_left
                    ·simp only [Act.put, s1, s2, s3, i64_w, i32_w]
                     rfl
                    refine pure_ (i := 30) (N := some 289) (v := ?_) (a' := ?_) m88_ rfl rfl (any_of HT_.out (by kernel_rfl)) (fun _ _ _ h => h) (Or.inl ⟨by rfl, ?_⟩) ?_ ?_
                    rotate_left
                    ·intro w'
                     go_simp
                     with_reducible rfl
                    rotate_left
                    ·simp only [Act.put, s1, s2, s3, i64_w, i32_w]
                     rfl
                    refine pure_ (i := 31) (N := some 290) (v := ?_) (a' := ?_) m89_ rfl rfl (any_of HT_.out (by kernel_rfl)) (fun _ _ _ h => h) (Or.inl ⟨by rfl, ?_⟩) ?_ ?_
                    rotate_left
                    ·intro w'
                     go_simp
                     with_reducible rfl
                    rotate_left
                    ·simp only [Act.put, s1, s2, s3, i64_w, i32_w]
                     rfl
                    refine pure_ (i := 32) (N := some 291) (v := ?_) (a' := ?_) m90_ rfl rfl (any_of HT_.out (by kernel_rfl)) (fun _ _ _ h => h) (Or.inl ⟨by rfl, ?_⟩) ?_ ?_
                    rotate_left
                    ·intro w'
                     go_simp
                     with_reducible rfl
                    rotate_left
                    ·simp only [Act.put, s1, s2, s3, i64_w, i32_w]
                     rfl
                    refine pure_ (i := 33) (N := some 292) (v := ?_) (a' := ?_) m91_ rfl rfl (any_of HT_.out (by kernel_rfl)) (fun _ _ _ h => h) (Or.inl ⟨by rfl, ?_⟩) ?_ ?_
                    rotate_left
                    ·intro w'
                     go_simp
                     with_reducible rfl
                    rotate_left
                    ·simp only [Act.put, s1, s2, s3, i64_w, i32_w]
                     rfl
                    refine pure_ (i := 34) (N := some 293) (v := ?_) (a' := ?_) m92_ rfl rfl (any_of HT_.out (by kernel_rfl)) (fun _ _ _ h => h) (Or.inl ⟨by rfl, ?_⟩) ?_ ?_
                    rotate_left
                    ·intro w'
                     go_simp
                     with_reducible rfl
                    rotate_left
                    ·simp only [Act.put, s1, s2, s3, i64_w, i32_w]
                     rfl
                    refine pure_ (i := 35) (N := some 294) (v := undef) (a' := ?_) m93_ rfl rfl (any_of HT_.out (by kernel_rfl)) (fun _ _ _ h => h) (Or.inr ⟨by rfl, rfl⟩) ?_ ?_
                    rotate_left
                    ·simp only [Act.put, s1, s2, s3, i64_w, i32_w]
                     rfl
                    refine pure_ (i := 36) (N := some 295) (v := undef) (a' := ?_) m94_ rfl rfl (any_of HT_.out (by kernel_rfl)) (fun _ _ _ h => h) (Or.inr ⟨by rfl, rfl⟩) ?_ ?_
                    rotate_left
                    ·simp only [Act.put, s1, s2, s3, i64_w, i32_w]
                     rfl
                    refine pure_ (i := 37) (N := some 296) (v := undef) (a' := ?_) m95_ rfl rfl (any_of HT_.out (by kernel_rfl)) (fun _ _ _ h => h) (Or.inr ⟨by rfl, rfl⟩) ?_ ?_
                    rotate_left
                    ·simp only [Act.put, s1, s2, s3, i64_w, i32_w]
                     rfl
                    refine pure_ (i := 38) (N := some 297) (v := undef) (a' := ?_) m96_ rfl rfl (any_of HT_.out (by kernel_rfl)) (fun _ _ _ h => h) (Or.inr ⟨by rfl, rfl⟩) ?_ ?_
                    rotate_left
                    ·simp only [Act.put, s1, s2, s3, i64_w, i32_w]
                     rfl
                    refine pure_ (i := 39) (N := some 298) (v := undef) (a' := ?_) m97_ rfl rfl (any_of HT_.out (by kernel_rfl)) (fun _ _ _ h => h) (Or.inr ⟨by rfl, rfl⟩) ?_ ?_
                    rotate_left
                    ·simp only [Act.put, s1, s2, s3, i64_w, i32_w]
                     rfl
                    refine pure_ (i := 40) (N := some 299) (v := undef) (a' := ?_) m98_ rfl rfl (any_of HT_.out (by kernel_rfl)) (fun _ _ _ h => h) (Or.inr ⟨by rfl, rfl⟩) ?_ ?_
                    rotate_left
                    ·simp only [Act.put, s1, s2, s3, i64_w, i32_w]
                     rfl
                    refine pure_ (i := 41) (N := some 300) (v := undef) (a' := ?_) m105_ rfl rfl (any_of HT_.out (by kernel_rfl)) (fun _ _ _ h => h) (Or.inr ⟨by rfl, rfl⟩) ?_ ?_
                    rotate_left
                    ·simp only [Act.put, s1, s2, s3, i64_w, i32_w]
                     rfl
                    refine pure_ (i := 42) (N := some 301) (v := undef) (a' := ?_) m106_ rfl rfl (any_of HT_.out (by kernel_rfl)) (fun _ _ _ h => h) (Or.inr ⟨by rfl, rfl⟩) ?_ ?_
                    rotate_left
                    ·simp only [Act.put, s1, s2, s3, i64_w, i32_w]
                     rfl
                    refine pure_ (i := 43) (N := some 302) (v := undef) (a' := ?_) m101_ rfl rfl (any_of HT_.out (by kernel_rfl)) (fun _ _ _ h => h) (Or.inr ⟨by rfl, rfl⟩) ?_ ?_
                    rotate_left
                    ·simp only [Act.put, s1, s2, s3, i64_w, i32_w]
                     rfl
                    refine pure_ (i := 44) (N := some 303) (v := undef) (a' := ?_) m102_ rfl rfl (any_of HT_.out (by kernel_rfl)) (fun _ _ _ h => h) (Or.inr ⟨by rfl, rfl⟩) ?_ ?_
                    rotate_left
                    ·simp only [Act.put, s1, s2, s3, i64_w, i32_w]
                     rfl
                    refine pure_ (i := 45) (N := some 304) (v := ?_) (a' := ?_) m103_ rfl rfl (any_of HT_.out (by kernel_rfl)) (fun _ _ _ h => h) (Or.inl ⟨by rfl, ?_⟩) ?_ ?_
                    rotate_left
                    ·intro w'
                     go_simp
                     with_reducible rfl
                    rotate_left
                    ·simp only [Act.put, s1, s2, s3, i64_w, i32_w]
                     rfl
                    refine pure_ (i := 46) (N := some 305) (v := ?_) (a' := ?_) m104_ rfl rfl (any_of HT_.out (by kernel_rfl)) (fun _ _ _ h => h) (Or.inl ⟨by rfl, ?_⟩) ?_ ?_
                    rotate_left
                    ·intro w'
                     go_simp
                     with_reducible rfl
                    rotate_left
                    ·simp only [Act.put, s1, s2, s3, i64_w, i32_w]
                     rfl
                    refine done_ (done_of HT_.out (by kernel_rfl)) ?_
                    try go_wp2
                    go_roundg k4
                    case measure => have := HJ13.out; have := HJ86.out; have := HJ174.out; have := HK4.out; omega
                    case rel => exact ⟨(wrap64 (x254_4 + 1)), zw', H', ⟨zj2'⟩, ⟨zl'⟩, ⟨zb2'⟩, ⟨zp'⟩, ⟨zu'⟩, ⟨zd'⟩⟩
                 ·rw [if_neg c192] at H
                  exact absurd H (by simp)
                ·rw [if_neg c191] at H
                 have c191b0 : (x254_4 == 0) = false := beq_eq_false_iff_ne.mpr c191; have c191b1 : (x254_4 != 0) = true := bne_iff_ne.mpr c191
                 by_cases c216 : x254_4 > 0
                 ·rw [if_pos c216] at H
                  have c216b0 : decide (0 < x254_4) = true := decide_eq_true c216; clear c216
                  obtain ⟨ji217, hji217⟩ : ∃ j_ : Int, (wrap64 (x254_4 - 1)) = j_ := ⟨_, rfl⟩
                  replace H : (if 0 ≤ (ji217) then (if (ji217) < (t308.length : Int) then (if (wrap64 ((rd t308 x254_4) - (rd t308 (ji217)))) < t299 then (none) else (if x254_4 ≥ t301 then (if 0 ≤ (wrap64 (x254_4 - t301)) then (if (wrap64 (x254_4 - t301)) < (t308.length : Int) then (if (wrap64 ((rd t308 x254_4) - (rd t308 (wrap64 (x254_4 - t301))))) = t346 then (laws_FnCycles.l0 k4 t301 t308 t346 t348 t308 (t308.length : Int) (wrap64 (x254_4 + 1)) t297 t298 t299 t300) else (none)) else (none)) else (none)) else (laws_FnCycles.l0 k4 t301 t308 t346 t348 t308 (t308.length : Int) (wrap64 (x254_4 + 1)) t297 t298 t299 t300))) else (none)) else (none)) = some r := by first | (rw [hji217] at H; exact H) | (simp only [hji217] at H ⊢; exact H)
                  have hji217w : (IntKind.i64.wrap (x254_4 - 1)) = ji217 := (i64_w _).trans hji217
                  by_cases c218 : 0 ≤ (ji217)
                  ·rw [if_pos c218] at H
                   have c218b0 : decide (0 ≤ (ji217)) = true := decide_eq_true c218; clear c218
                   by_cases c219 : (ji217) < (t308.length : Int)
                   ·rw [if_pos c219] at H
                    have c219b0 : decide ((ji217) < (t308.length : Int)) = true := decide_eq_true c219; clear c219
                    by_cases c220 : (wrap64 ((rd t308 x254_4) - (rd t308 (ji217)))) < t299
                    ·rw [if_pos c220] at H
                     exact absurd H (by simp)
                    ·rw [if_neg c220] at H
                     have c220b0 : decide ((wrap64 ((rd t308 x254_4) - (rd t308 (ji217)))) < t299) = false := decide_eq_false c220; clear c220
                     by_cases c222 : x254_4 ≥ t301
                     ·rw [if_pos c222] at H
                      have c222b0 : decide (t301 ≤ x254_4) = true := decide_eq_true c222; clear c222
                      obtain ⟨ji223, hji223⟩ : ∃ j_ : Int, (wrap64 (x254_4 - t301)) = j_ := ⟨_, rfl⟩
                      replace H : (if 0 ≤ (ji223) then (if (ji223) < (t308.length : Int) then (if (wrap64 ((rd t308 x254_4) - (rd t308 (ji223)))) = t346 then (laws_FnCycles.l0 k4 t301 t308 t346 t348 t308 (t308.length : Int) (wrap64 (x254_4 + 1)) t297 t298 t299 t300) else (none)) else (none)) else (none)) = some r := by first | (rw [hji223] at H; exact H) | (simp only [hji223] at H ⊢; exact H)
                      have hji223w : (IntKind.i64.wrap (x254_4 - t301)) = ji223 := (i64_w _).trans hji223
                      by_cases c224 : 0 ≤ (ji223)
                      ·rw [if_pos c224] at H
                       have c224b0 : decide (0 ≤ (ji223)) = true := decide_eq_true c224; clear c224
                       by_cases c225 : (ji223) < (t308.length : Int)
                       ·rw [if_pos c225] at H
                        have c225b0 : decide ((ji223) < (t308.length : Int)) = true := decide_eq_true c225; clear c225
                        by_cases c226 : (wrap64 ((rd t308 x254_4) - (rd t308 (ji223)))) = t346
                        ·rw [if_pos c226] at H
                         have c226b0 : ((wrap64 ((rd t308 x254_4) - (rd t308 (ji223)))) == t346) = true := beq_iff_eq.mpr c226; have c226b1 : ((wrap64 ((rd t308 x254_4) - (rd t308 (ji223)))) != t346) = false := bne_eq_false_iff_eq.mpr c226; clear c226; have H' := Aside0.mk H; clear H; have p350 : 0 ≤ (x254_4 : Int) := odt; have q350 : x254_4 < (t308.length : Int) := odt; obtain ⟨ad350, e350, hx350_0⟩ := Kd.at_int (Kd.R_reads' HO_252.out).2.2 x254_4 p350 q350; cases e350; replace p350 := eq_true p350; replace q350 := eq_true q350
                         try go_wp2
                         have n0_ := am (Kd.R_drew HO_10.out); have n1_ := am (Kd.R_drew HO_252.out); have n2_ := am (blk_drew BK303.out); have n3_ := am (blk_drew BK326.out); have n4_ := am (below_drew1 HB.out); clear HO_10; clear HO_252; clear BK303; clear BK326; clear HB; have HO_10 := n0_; have HO_252 := n1_; have BK303 := n2_; have BK326 := n3_; have HB := n4_; clear n0_ n1_ n2_ n3_ n4_; have p354 : 0 ≤ ((ji217) : Int) := odt; have q354 : (ji217) < (t308.length : Int) := odt; obtain ⟨ad354, e354, hx354_0⟩ := Kd.at_int (Kd.R_reads' HO_10.out).2.2 (ji217) p354 q354; obtain rfl : ad350 = ad354 := (by injection e354); replace p354 := eq_true p354; replace q354 := eq_true q354; have p355 : 0 ≤ ((ji223) : Int) := odt; have q355 : (ji223) < (t308.length : Int) := odt; obtain ⟨ad355, e355, hx355_0⟩ := Kd.at_int (Kd.R_reads' HO_10.out).2.2 (ji223) p355 q355; obtain rfl : ad350 = ad355 := (by injection e355); replace p355 := eq_true p355; replace q355 := eq_true q355
                         refine start_ (n := 47) (S := fun w' => w'.cell? ⟨gb303, 0, none⟩ = some (.int .i64 t297) ∧ w'.cell? ⟨gb303, 1, none⟩ = some (.int .i64 t298) ∧ w'.cell? ⟨gb303, 2, none⟩ = some (.int .i64 t299) ∧ w'.cell? ⟨gb303, 3, none⟩ = some (.int .i64 t300) ∧ w'.cell? (ad350.add ((ji217)).toNat) = some (.int .i64 (rd t308 (ji217))) ∧ w'.cell? (ad350.add ((ji223)).toNat) = some (.int .i64 (rd t308 (ji223)))) (ds := []) m57_ (by kernel_rfl) rfl rfl ⟨(blk_cell BK303.out 0).trans rfl, (blk_cell BK303.out 1).trans rfl, (blk_cell BK303.out 2).trans rfl, (blk_cell BK303.out 3).trans rfl, hx354_0, hx355_0⟩ (fun hHeld => ?_); refine with_tabW laws_FnCycles.tab29 laws_FnCycles.bits29 (fun HT_ HW_ => ?_)
                         generalize wr.drew = w227 at HO_10 HO_252 BK303 BK326 HB hx354_0 hx355_0 hHeld ⊢
                         refine pure_ (i := 0) (N := some 259) (v := ?_) (a' := ?_) m58_ rfl rfl (any_of HT_.out (by kernel_rfl)) (fun _ _ _ h => h) (Or.inl ⟨by rfl, ?_⟩) ?_ ?_
                         rotate_left
                         ·intro w'
                          go_simp
                          with_reducible rfl
                         rotate_left
                         ·simp only [Act.put, s1, s2, s3, i64_w, i32_w]
                          rfl
                         refine pure_ (i := 1) (N := some 260) (v := ?_) (a' := ?_) m59_ rfl rfl (any_of HT_.out (by kernel_rfl)) (fun _ _ _ h => h) (Or.inl ⟨by rfl, ?_⟩) ?_ ?_
                         rotate_left
                         ·intro w'
                          go_simp
                          with_reducible rfl
                         rotate_left
                         ·simp only [Act.put, s1, s2, s3, i64_w, i32_w]
                          rfl
                         refine pure_ (i := 2) (N := some 261) (v := ?_) (a' := ?_) m60_ rfl rfl (any_of HT_.out (by kernel_rfl)) (fun _ _ _ h => h) (Or.inl ⟨by rfl, ?_⟩) ?_ ?_
                         rotate_left
                         ·intro w'
                          go_simp
                          with_reducible rfl
                         rotate_left
                         ·simp only [Act.put, s1, s2, s3, i64_w, i32_w]
                          rfl
                         refine pure_ (i := 3) (N := some 262) (v := undef) (a' := ?_) m61_ rfl rfl (any_of HT_.out (by kernel_rfl)) (fun _ _ _ h => h) (Or.inr ⟨by rfl, rfl⟩) ?_ ?_
                         rotate_left
                         ·simp only [Act.put, s1, s2, s3, i64_w, i32_w]
                          rfl
                         refine pure_ (i := 4) (N := some 263) (v := undef) (a' := ?_) m62_ rfl rfl (any_of HT_.out (by kernel_rfl)) (fun _ _ _ h => h) (Or.inr ⟨by rfl, rfl⟩) ?_ ?_
                         rotate_left
                         ·simp only [Act.put, s1, s2, s3, i64_w, i32_w]
                          rfl
                         refine pure_ (i := 5) (N := some 264) (v := undef) (a' := ?_) m107_ rfl rfl (any_of HT_.out (by kernel_rfl)) (fun _ _ _ h => h) (Or.inr ⟨by rfl, rfl⟩) ?_ ?_
                         rotate_left
                         ·simp only [Act.put, s1, s2, s3, i64_w, i32_w]
                          rfl
                         refine pure_ (i := 6) (N := some 265) (v := undef) (a' := ?_) m108_ rfl rfl (any_of HT_.out (by kernel_rfl)) (fun _ _ _ h => h) (Or.inr ⟨by rfl, rfl⟩) ?_ ?_
                         rotate_left
                         ·simp only [Act.put, s1, s2, s3, i64_w, i32_w]
                          rfl
                         refine pure_ (i := 7) (N := some 266) (v := undef) (a' := ?_) m109_ rfl rfl (any_of HT_.out (by kernel_rfl)) (fun _ _ _ h => h) (Or.inr ⟨by rfl, rfl⟩) ?_ ?_
                         rotate_left
                         ·simp only [Act.put, s1, s2, s3, i64_w, i32_w]
                          rfl
                         refine pure_ (i := 8) (N := some 267) (v := undef) (a' := ?_) m110_ rfl rfl (any_of HT_.out (by kernel_rfl)) (fun _ _ _ h => h) (Or.inr ⟨by rfl, rfl⟩) ?_ ?_
                         rotate_left
                         ·simp only [Act.put, s1, s2, s3, i64_w, i32_w]
                          rfl
                         refine pure_ (i := 9) (N := some 268) (v := undef) (a' := ?_) m67_ rfl rfl (any_of HT_.out (by kernel_rfl)) (fun _ _ _ h => h) (Or.inr ⟨by rfl, rfl⟩) ?_ ?_
                         rotate_left
                         ·simp only [Act.put, s1, s2, s3, i64_w, i32_w]
                          rfl
                         refine pure_ (i := 10) (N := some 269) (v := undef) (a' := ?_) m68_ rfl rfl (any_of HT_.out (by kernel_rfl)) (fun _ _ _ h => h) (Or.inr ⟨by rfl, rfl⟩) ?_ ?_
                         rotate_left
                         ·simp only [Act.put, s1, s2, s3, i64_w, i32_w]
                          rfl
                         refine pure_ (i := 11) (N := some 270) (v := undef) (a' := ?_) m69_ rfl rfl (any_of HT_.out (by kernel_rfl)) (fun _ _ _ h => h) (Or.inr ⟨by rfl, rfl⟩) ?_ ?_
                         rotate_left
                         ·simp only [Act.put, s1, s2, s3, i64_w, i32_w]
                          rfl
                         refine pure_ (i := 12) (N := some 271) (v := undef) (a' := ?_) m70_ rfl rfl (any_of HT_.out (by kernel_rfl)) (fun _ _ _ h => h) (Or.inr ⟨by rfl, rfl⟩) ?_ ?_
                         rotate_left
                         ·simp only [Act.put, s1, s2, s3, i64_w, i32_w]
                          rfl
                         refine pure_ (i := 13) (N := some 272) (v := ?_) (a' := ?_) m71_ rfl rfl (any_of HT_.out (by kernel_rfl)) (fun _ _ _ h => h) (Or.inl ⟨by rfl, ?_⟩) ?_ ?_
                         rotate_left
                         ·intro w'
                          go_simp
                          with_reducible rfl
                         rotate_left
                         ·simp only [Act.put, s1, s2, s3, i64_w, i32_w]
                          rfl
                         refine pure_ (i := 14) (N := some 273) (v := ?_) (a' := ?_) m72_ rfl rfl (any_of HT_.out (by kernel_rfl)) (fun _ _ _ h => h) (Or.inl ⟨by rfl, ?_⟩) ?_ ?_
                         rotate_left
                         ·intro w'
                          go_simp
                          with_reducible rfl
                         rotate_left
                         ·simp only [Act.put, s1, s2, s3, i64_w, i32_w]
                          rfl
                         refine pure_ (i := 15) (N := some 274) (v := ?_) (a' := ?_) m73_ rfl rfl (any_of HT_.out (by kernel_rfl)) (fun _ _ _ h => h) (Or.inl ⟨by rfl, ?_⟩) ?_ ?_
                         rotate_left
                         ·intro w'
                          go_simp
                          with_reducible rfl
                         rotate_left
                         ·simp only [Act.put, s1, s2, s3, i64_w, i32_w]
                          rfl
                         refine pure_ (i := 16) (N := some 275) (v := ?_) (a' := ?_) m74_ rfl rfl (any_of HT_.out (by kernel_rfl)) (fun _ _ _ h => h) (Or.inl ⟨by rfl, ?_⟩) ?_ ?_
                         rotate_left
                         ·intro w'
                          go_simp
                          with_reducible rfl
                         rotate_left
                         ·simp only [Act.put, s1, s2, s3, i64_w, i32_w]
                          rfl
                         refine pure_ (i := 17) (N := some 276) (v := ?_) (a' := ?_) m75_ rfl rfl (any_of HT_.out (by kernel_rfl)) (fun _ _ _ h => h) (Or.inl ⟨by rfl, ?_⟩) ?_ ?_
                         rotate_left
                         ·intro w'
                          go_simp
                          with_reducible rfl
                         rotate_left
                         ·simp only [Act.put, s1, s2, s3, i64_w, i32_w]
                          rfl
                         refine pure_ (i := 18) (N := some 277) (v := ?_) (a' := ?_) m76_ rfl rfl (any_of HT_.out (by kernel_rfl)) (fun _ _ _ h => h) (Or.inl ⟨by rfl, ?_⟩) ?_ ?_
                         rotate_left
                         ·intro w'
                          go_simp
                          with_reducible rfl
                         rotate_left
                         ·simp only [Act.put, s1, s2, s3, i64_w, i32_w]
                          rfl
                         refine pure_ (i := 19) (N := some 278) (v := ?_) (a' := ?_) m77_ rfl rfl (any_of HT_.out (by kernel_rfl)) (fun _ _ _ h => h) (Or.inl ⟨by rfl, ?_⟩) ?_ ?_
                         rotate_left
                         ·intro w'
                          go_simp
                          with_reducible rfl
                         rotate_left
                         ·simp only [Act.put, s1, s2, s3, i64_w, i32_w]
                          rfl
                         refine pure_ (i := 20) (N := some 279) (v := ?_) (a' := ?_) m78_ rfl rfl (any_of HT_.out (by kernel_rfl)) (fun _ _ _ h => h) (Or.inl ⟨by rfl, ?_⟩) ?_ ?_
                         rotate_left
                         ·intro w'
                          go_simp
                          with_reducible rfl
                         rotate_left
                         ·simp only [Act.put, s1, s2, s3, i64_w, i32_w]
                          rfl
                         refine pure_ (i := 21) (N := some 280) (v := ?_) (a' := ?_) m79_ rfl rfl (any_of HT_.out (by kernel_rfl)) (fun _ _ _ h => h) (Or.inl ⟨by rfl, ?_⟩) ?_ ?_
                         rotate_left
                         ·intro w'
                          go_simp
                          with_reducible rfl
                         rotate_left
                         ·simp only [Act.put, s1, s2, s3, i64_w, i32_w]
                          rfl
                         refine pure_ (i := 22) (N := some 281) (v := ?_) (a' := ?_) m80_ rfl rfl (any_of HT_.out (by kernel_rfl)) (fun _ _ _ h => h) (Or.inl ⟨by rfl, ?_⟩) ?_ ?_
                         rotate_left
                         ·intro w'
                          go_simp
                          with_reducible rfl
                         rotate_left
                         ·simp only [Act.put, s1, s2, s3, i64_w, i32_w]
                          rfl
                         refine pure_ (i := 25) (N := some 284) (v := ?_) (a' := ?_) m111_ rfl rfl (any_of HT_.out (by kernel_rfl)) (fun _ _ _ h => h) (Or.inl ⟨by rfl, ?_⟩) ?_ ?_
                         rotate_left
                         ·intro w'
                          go_simp
                          with_reducible rfl
                         rotate_left
                         ·simp only [Act.put, s1, s2, s3, i64_w, i32_w]
                          rfl
                         refine take_ (i := 23) (N := some 282) (v := ?_) (a' := ?_) m112_ rfl rfl (take_ofW HT_.out HW_.out (by kernel_rfl)) (fun _ _ _ h => h) (Or.inl ⟨by rfl, ?_⟩) hHeld ?_ ?_
                         rotate_left
                         ·rintro w' ⟨s0, s1, s2, s3, s4, s5⟩
                          go_simp
                          with_reducible rfl
                         rotate_left
                         ·simp only [Act.put, s1, s2, s3, i64_w, i32_w]
                          rfl
                         refine pure_ (i := 24) (N := some 283) (v := ?_) (a' := ?_) m83_ rfl rfl (any_of HT_.out (by kernel_rfl)) (fun _ _ _ h => h) (Or.inl ⟨by rfl, ?_⟩) ?_ ?_
                         rotate_left
                         ·intro w'
                          go_simp
                          with_reducible rfl
                         rotate_left
                         ·simp only [Act.put, s1, s2, s3, i64_w, i32_w]
                          rfl
                         refine take_ (i := 26) (N := some 285) (v := ?_) (a' := ?_) m84_ rfl rfl (take_ofW HT_.out HW_.out (by kernel_rfl)) (fun _ _ _ h => h) (Or.inl ⟨by rfl, ?_⟩) hHeld ?_ ?_
                         rotate_left
                         ·rintro w' ⟨s0, s1, s2, s3, s4, s5⟩
                          go_simp
                          with_reducible rfl
                         rotate_left
                         ·simp only [Act.put, s1, s2, s3, i64_w, i32_w]
                          rfl
                         refine pure_ (i := 27) (N := some 286) (v := ?_) (a' := ?_) m85_ rfl rfl (any_of HT_.out (by kernel_rfl)) (fun _ _ _ h => h) (Or.inl ⟨by rfl, ?_⟩) ?_ ?_
                         rotate_left
                         ·intro w'
                          go_simp
                          with_reducible rfl
                         rotate_left
                         ·simp only [Act.put, s1, s2, s3, i64_w, i32_w]
                          rfl
                         refine pure_ (i := 28) (N := some 287) (v := ?_) (a' := ?_) m86_ rfl rfl (any_of HT_.out (by kernel_rfl)) (fun _ _ _ h => h) (Or.inl ⟨by rfl, ?_⟩) ?_ ?_
                         rotate_left
                         ·intro w'
                          go_simp
                          with_reducible rfl
                         rotate_left
                         ·simp only [Act.put, s1, s2, s3, i64_w, i32_w]
                          rfl
                         refine pure_ (i := 29) (N := some 288) (v := ?_) (a' := ?_) m87_ rfl rfl (any_of HT_.out (by kernel_rfl)) (fun _ _ _ h => h) (Or.inl ⟨by rfl, ?_⟩) ?_ ?_
                         rotate_left
                         ·intro w'
                          go_simp
                          with_reducible rfl
                         rotate_left
                         ·simp only [Act.put, s1, s2, s3, i64_w, i32_w]
                          rfl
                         refine pure_ (i := 30) (N := some 289) (v := ?_) (a' := ?_) m88_ rfl rfl (any_of HT_.out (by kernel_rfl)) (fun _ _ _ h => h) (Or.inl ⟨by rfl, ?_⟩) ?_ ?_
                         rotate_left
                         ·intro w'
                          go_simp
                          with_reducible rfl
                         rotate_left
                         ·simp only [Act.put, s1, s2, s3, i64_w, i32_w]
                          rfl
                         refine pure_ (i := 31) (N := some 290) (v := ?_) (a' := ?_) m89_ rfl rfl (any_of HT_.out (by kernel_rfl)) (fun _ _ _ h => h) (Or.inl ⟨by rfl, ?_⟩) ?_ ?_
                         rotate_left
                         ·intro w'
                          go_simp
                          with_reducible rfl
                         rotate_left
                         ·simp only [Act.put, s1, s2, s3, i64_w, i32_w]
                          rfl
                         refine pure_ (i := 32) (N := some 291) (v := ?_) (a' := ?_) m90_ rfl rfl (any_of HT_.out (by kernel_rfl)) (fun _ _ _ h => h) (Or.inl ⟨by rfl, ?_⟩) ?_ ?_
                         rotate_left
                         ·intro w'
                          go_simp
                          with_reducible rfl
                         rotate_left
                         ·simp only [Act.put, s1, s2, s3, i64_w, i32_w]
                          rfl
                         refine pure_ (i := 33) (N := some 292) (v := ?_) (a' := ?_) m91_ rfl rfl (any_of HT_.out (by kernel_rfl)) (fun _ _ _ h => h) (Or.inl ⟨by rfl, ?_⟩) ?_ ?_
                         rotate_left
                         ·intro w'
                          go_simp
                          with_reducible rfl
                         rotate_left
                         ·simp only [Act.put, s1, s2, s3, i64_w, i32_w]
                          rfl
                         refine pure_ (i := 34) (N := some 293) (v := ?_) (a' := ?_) m92_ rfl rfl (any_of HT_.out (by kernel_rfl)) (fun _ _ _ h => h) (Or.inl ⟨by rfl, ?_⟩) ?_ ?_
                         rotate_left
                         ·intro w'
                          go_simp
                          with_reducible rfl
                         rotate_left
                         ·simp only [Act.put, s1, s2, s3, i64_w, i32_w]
                          rfl
                         refine pure_ (i := 35) (N := some 294) (v := ?_) (a' := ?_) m93_ rfl rfl (any_of HT_.out (by kernel_rfl)) (fun _ _ _ h => h) (Or.inl ⟨by rfl, ?_⟩) ?_ ?_
                         rotate_left
                         ·intro w'
                          go_simp
                          with_reducible rfl
                         rotate_left
                         ·simp only [Act.put, s1, s2, s3, i64_w, i32_w]
                          rfl
                         refine pure_ (i := 36) (N := some 295) (v := ?_) (a' := ?_) m94_ rfl rfl (any_of HT_.out (by kernel_rfl)) (fun _ _ _ h => h) (Or.inl ⟨by rfl, ?_⟩) ?_ ?_
                         rotate_left
                         ·intro w'
                          go_simp
                          with_reducible rfl
                         rotate_left
                         ·simp only [Act.put, s1, s2, s3, i64_w, i32_w]
                          rfl
                         refine pure_ (i := 37) (N := some 296) (v := ?_) (a' := ?_) m95_ rfl rfl (any_of HT_.out (by kernel_rfl)) (fun _ _ _ h => h) (Or.inl ⟨by rfl, ?_⟩) ?_ ?_
                         rotate_left
                         ·intro w'
                          go_simp
                          with_reducible rfl
                         rotate_left
                         ·simp only [Act.put, s1, s2, s3, i64_w, i32_w]
                          rfl
                         refine pure_ (i := 38) (N := some 297) (v := ?_) (a' := ?_) m96_ rfl rfl (any_of HT_.out (by kernel_rfl)) (fun _ _ _ h => h) (Or.inl ⟨by rfl, ?_⟩) ?_ ?_
                         rotate_left
                         ·intro w'
                          go_simp
                          with_reducible rfl
                         rotate_left
                         ·simp only [Act.put, s1, s2, s3, i64_w, i32_w]
                          rfl
                         refine pure_ (i := 39) (N := some 298) (v := ?_) (a' := ?_) m97_ rfl rfl (any_of HT_.out (by kernel_rfl)) (fun _ _ _ h => h) (Or.inl ⟨by rfl, ?_⟩) ?_ ?_
                         rotate_left
                         ·intro w'
                          go_simp
                          with_reducible rfl
                         rotate_left
                         ·simp only [Act.put, s1, s2, s3, i64_w, i32_w]
                          rfl
                         refine pure_ (i := 40) (N := some 299) (v := ?_) (a' := ?_) m98_ rfl rfl (any_of HT_.out (by kernel_rfl)) (fun _ _ _ h => h) (Or.inl ⟨by rfl, ?_⟩) ?_ ?_
                         rotate_left
                         ·intro w'
                          go_simp
                          with_reducible rfl
                         rotate_left
                         ·simp only [Act.put, s1, s2, s3, i64_w, i32_w]
                          rfl
                         refine pure_ (i := 43) (N := some 302) (v := ?_) (a' := ?_) m99_ rfl rfl (any_of HT_.out (by kernel_rfl)) (fun _ _ _ h => h) (Or.inl ⟨by rfl, ?_⟩) ?_ ?_
                         rotate_left
                         ·intro w'
                          go_simp
                          with_reducible rfl
                         rotate_left
                         ·simp only [Act.put, s1, s2, s3, i64_w, i32_w]
                          rfl
                         refine take_ (i := 41) (N := some 300) (v := ?_) (a' := ?_) m100_ rfl rfl (take_ofW HT_.out HW_.out (by kernel_rfl)) (fun _ _ _ h => h) (Or.inl ⟨by rfl, ?_⟩) hHeld ?_ ?_
                         rotate_left
                         ·rintro w' ⟨s0, s1, s2, s3, s4, s5⟩
                          go_simp
                          with_reducible rfl
                         rotate_left
                         ·simp only [Act.put, s1, s2, s3, i64_w, i32_w]
                          rfl
                         refine pure_ (i := 42) (N := some 301) (v := ?_) (a' := ?_) m101_ rfl rfl (any_of HT_.out (by kernel_rfl)) (fun _ _ _ h => h) (Or.inl ⟨by rfl, ?_⟩) ?_ ?_
                         rotate_left
                         ·intro w'
                          go_simp
                          with_reducible rfl
                         rotate_left
                         ·simp only [Act.put, s1, s2, s3, i64_w, i32_w]
                          rfl
                         refine pure_ (i := 44) (N := some 303) (v := ?_) (a' := ?_) m102_ rfl rfl (any_of HT_.out (by kernel_rfl)) (fun _ _ _ h => h) (Or.inl ⟨by rfl, ?_⟩) ?_ ?_
                         rotate_left
                         ·intro w'
                          go_simp
                          with_reducible rfl
                         rotate_left
                         ·simp only [Act.put, s1, s2, s3, i64_w, i32_w]
                          rfl
                         refine pure_ (i := 45) (N := some 304) (v := ?_) (a' := ?_) m103_ rfl rfl (any_of HT_.out (by kernel_rfl)) (fun _ _ _ h => h) (Or.inl ⟨by rfl, ?_⟩) ?_ ?_
                         rotate_left
                         ·intro w'
                          go_simp
                          with_reducible rfl
                         rotate_left
                         ·simp only [Act.put, s1, s2, s3, i64_w, i32_w]
                          rfl
                         refine pure_ (i := 46) (N := some 305) (v := ?_) (a' := ?_) m104_ rfl rfl (any_of HT_.out (by kernel_rfl)) (fun _ _ _ h => h) (Or.inl ⟨by rfl, ?_⟩) ?_ ?_
                         rotate_left
                         ·intro w'
                          go_simp
                          with_reducible rfl
                         rotate_left
                         ·simp only [Act.put, s1, s2, s3, i64_w, i32_w]
                          rfl
                         refine done_ (done_of HT_.out (by kernel_rfl)) ?_
                         try go_wp2
                         go_roundg k4
                         case measure => have := HJ13.out; have := HJ86.out; have := HJ174.out; have := HK4.out; omega
                         case rel => exact ⟨(wrap64 (x254_4 + 1)), zw', H', ⟨zj2'⟩, ⟨zl'⟩, ⟨zb2'⟩, ⟨zp'⟩, ⟨zu'⟩, ⟨zd'⟩⟩
                        ·rw [if_neg c226] at H
                         exact absurd H (by simp)
                       ·rw [if_neg c225] at H
                        exact absurd H (by simp)
                      ·rw [if_neg c224] at H
                       exact absurd H (by simp)
                     ·rw [if_neg c222] at H
                      have c222b0 : decide (t301 ≤ x254_4) = false := decide_eq_false c222; clear c222; have H' := Aside0.mk H; clear H; have p350 : 0 ≤ (x254_4 : Int) := odt; have q350 : x254_4 < (t308.length : Int) := odt; obtain ⟨ad350, e350, hx350_0⟩ := Kd.at_int (Kd.R_reads' HO_252.out).2.2 x254_4 p350 q350; cases e350; replace p350 := eq_true p350; replace q350 := eq_true q350
                      try go_wp2
                      have n0_ := am (Kd.R_drew HO_10.out); have n1_ := am (Kd.R_drew HO_252.out); have n2_ := am (blk_drew BK303.out); have n3_ := am (blk_drew BK326.out); have n4_ := am (below_drew1 HB.out); clear HO_10; clear HO_252; clear BK303; clear BK326; clear HB; have HO_10 := n0_; have HO_252 := n1_; have BK303 := n2_; have BK326 := n3_; have HB := n4_; clear n0_ n1_ n2_ n3_ n4_; have p354 : 0 ≤ ((ji217) : Int) := odt; have q354 : (ji217) < (t308.length : Int) := odt; obtain ⟨ad354, e354, hx354_0⟩ := Kd.at_int (Kd.R_reads' HO_10.out).2.2 (ji217) p354 q354; obtain rfl : ad350 = ad354 := (by injection e354); replace p354 := eq_true p354; replace q354 := eq_true q354
                      refine start_ (n := 47) (S := fun w' => w'.cell? ⟨gb303, 0, none⟩ = some (.int .i64 t297) ∧ w'.cell? ⟨gb303, 1, none⟩ = some (.int .i64 t298) ∧ w'.cell? ⟨gb303, 2, none⟩ = some (.int .i64 t299) ∧ w'.cell? ⟨gb303, 3, none⟩ = some (.int .i64 t300) ∧ w'.cell? (ad350.add ((ji217)).toNat) = some (.int .i64 (rd t308 (ji217)))) (ds := []) m57_ (by kernel_rfl) rfl rfl ⟨(blk_cell BK303.out 0).trans rfl, (blk_cell BK303.out 1).trans rfl, (blk_cell BK303.out 2).trans rfl, (blk_cell BK303.out 3).trans rfl, hx354_0⟩ (fun hHeld => ?_); refine with_tabW laws_FnCycles.tab29 laws_FnCycles.bits29 (fun HT_ HW_ => ?_)
                      generalize wr.drew = w229 at HO_10 HO_252 BK303 BK326 HB hx354_0 hHeld ⊢
                      refine pure_ (i := 0) (N := some 259) (v := ?_) (a' := ?_) m58_ rfl rfl (any_of HT_.out (by kernel_rfl)) (fun _ _ _ h => h) (Or.inl ⟨by rfl, ?_⟩) ?_ ?_
                      rotate_left
                      ·intro w'
                       go_simp
                       with_reducible rfl
                      rotate_left
                      ·simp only [Act.put, s1, s2, s3, i64_w, i32_w]
                       rfl
                      refine pure_ (i := 1) (N := some 260) (v := ?_) (a' := ?_) m59_ rfl rfl (any_of HT_.out (by kernel_rfl)) (fun _ _ _ h => h) (Or.inl ⟨by rfl, ?_⟩) ?_ ?_
                      rotate_left
                      ·intro w'
                       go_simp
                       with_reducible rfl
                      rotate_left
                      ·simp only [Act.put, s1, s2, s3, i64_w, i32_w]
                       rfl
                      refine pure_ (i := 2) (N := some 261) (v := ?_) (a' := ?_) m60_ rfl rfl (any_of HT_.out (by kernel_rfl)) (fun _ _ _ h => h) (Or.inl ⟨by rfl, ?_⟩) ?_ ?_
                      rotate_left
                      ·intro w'
                       go_simp
                       with_reducible rfl
                      rotate_left
                      ·simp only [Act.put, s1, s2, s3, i64_w, i32_w]
                       rfl
                      refine pure_ (i := 3) (N := some 262) (v := undef) (a' := ?_) m61_ rfl rfl (any_of HT_.out (by kernel_rfl)) (fun _ _ _ h => h) (Or.inr ⟨by rfl, rfl⟩) ?_ ?_
                      rotate_left
                      ·simp only [Act.put, s1, s2, s3, i64_w, i32_w]
                       rfl
                      refine pure_ (i := 4) (N := some 263) (v := undef) (a' := ?_) m62_ rfl rfl (any_of HT_.out (by kernel_rfl)) (fun _ _ _ h => h) (Or.inr ⟨by rfl, rfl⟩) ?_ ?_
                      rotate_left
                      ·simp only [Act.put, s1, s2, s3, i64_w, i32_w]
                       rfl
                      refine pure_ (i := 5) (N := some 264) (v := undef) (a' := ?_) m107_ rfl rfl (any_of HT_.out (by kernel_rfl)) (fun _ _ _ h => h) (Or.inr ⟨by rfl, rfl⟩) ?_ ?_
                      rotate_left
                      ·simp only [Act.put, s1, s2, s3, i64_w, i32_w]
                       rfl
                      refine pure_ (i := 6) (N := some 265) (v := undef) (a' := ?_) m108_ rfl rfl (any_of HT_.out (by kernel_rfl)) (fun _ _ _ h => h) (Or.inr ⟨by rfl, rfl⟩) ?_ ?_
                      rotate_left
                      ·simp only [Act.put, s1, s2, s3, i64_w, i32_w]
                       rfl
                      refine pure_ (i := 7) (N := some 266) (v := undef) (a' := ?_) m109_ rfl rfl (any_of HT_.out (by kernel_rfl)) (fun _ _ _ h => h) (Or.inr ⟨by rfl, rfl⟩) ?_ ?_
                      rotate_left
                      ·simp only [Act.put, s1, s2, s3, i64_w, i32_w]
                       rfl
                      refine pure_ (i := 8) (N := some 267) (v := undef) (a' := ?_) m110_ rfl rfl (any_of HT_.out (by kernel_rfl)) (fun _ _ _ h => h) (Or.inr ⟨by rfl, rfl⟩) ?_ ?_
                      rotate_left
                      ·simp only [Act.put, s1, s2, s3, i64_w, i32_w]
                       rfl
                      refine pure_ (i := 9) (N := some 268) (v := undef) (a' := ?_) m67_ rfl rfl (any_of HT_.out (by kernel_rfl)) (fun _ _ _ h => h) (Or.inr ⟨by rfl, rfl⟩) ?_ ?_
                      rotate_left
                      ·simp only [Act.put, s1, s2, s3, i64_w, i32_w]
                       rfl
                      refine pure_ (i := 10) (N := some 269) (v := undef) (a' := ?_) m68_ rfl rfl (any_of HT_.out (by kernel_rfl)) (fun _ _ _ h => h) (Or.inr ⟨by rfl, rfl⟩) ?_ ?_
                      rotate_left
                      ·simp only [Act.put, s1, s2, s3, i64_w, i32_w]
                       rfl
                      refine pure_ (i := 11) (N := some 270) (v := undef) (a' := ?_) m69_ rfl rfl (any_of HT_.out (by kernel_rfl)) (fun _ _ _ h => h) (Or.inr ⟨by rfl, rfl⟩) ?_ ?_
                      rotate_left
                      ·simp only [Act.put, s1, s2, s3, i64_w, i32_w]
                       rfl
                      refine pure_ (i := 12) (N := some 271) (v := undef) (a' := ?_) m70_ rfl rfl (any_of HT_.out (by kernel_rfl)) (fun _ _ _ h => h) (Or.inr ⟨by rfl, rfl⟩) ?_ ?_
                      rotate_left
                      ·simp only [Act.put, s1, s2, s3, i64_w, i32_w]
                       rfl
                      refine pure_ (i := 13) (N := some 272) (v := ?_) (a' := ?_) m71_ rfl rfl (any_of HT_.out (by kernel_rfl)) (fun _ _ _ h => h) (Or.inl ⟨by rfl, ?_⟩) ?_ ?_
                      rotate_left
                      ·intro w'
                       go_simp
                       with_reducible rfl
                      rotate_left
                      ·simp only [Act.put, s1, s2, s3, i64_w, i32_w]
                       rfl
                      refine pure_ (i := 14) (N := some 273) (v := ?_) (a' := ?_) m72_ rfl rfl (any_of HT_.out (by kernel_rfl)) (fun _ _ _ h => h) (Or.inl ⟨by rfl, ?_⟩) ?_ ?_
                      rotate_left
                      ·intro w'
                       go_simp
                       with_reducible rfl
                      rotate_left
                      ·simp only [Act.put, s1, s2, s3, i64_w, i32_w]
                       rfl
                      refine pure_ (i := 15) (N := some 274) (v := ?_) (a' := ?_) m73_ rfl rfl (any_of HT_.out (by kernel_rfl)) (fun _ _ _ h => h) (Or.inl ⟨by rfl, ?_⟩) ?_ ?_
                      rotate_left
                      ·intro w'
                       go_simp
                       with_reducible rfl
                      rotate_left
                      ·simp only [Act.put, s1, s2, s3, i64_w, i32_w]
                       rfl
                      refine pure_ (i := 16) (N := some 275) (v := ?_) (a' := ?_) m74_ rfl rfl (any_of HT_.out (by kernel_rfl)) (fun _ _ _ h => h) (Or.inl ⟨by rfl, ?_⟩) ?_ ?_
                      rotate_left
                      ·intro w'
                       go_simp
                       with_reducible rfl
                      rotate_left
                      ·simp only [Act.put, s1, s2, s3, i64_w, i32_w]
                       rfl
                      refine pure_ (i := 17) (N := some 276) (v := ?_) (a' := ?_) m75_ rfl rfl (any_of HT_.out (by kernel_rfl)) (fun _ _ _ h => h) (Or.inl ⟨by rfl, ?_⟩) ?_ ?_
                      rotate_left
                      ·intro w'
                       go_simp
                       with_reducible rfl
                      rotate_left
                      ·simp only [Act.put, s1, s2, s3, i64_w, i32_w]
                       rfl
                      refine pure_ (i := 18) (N := some 277) (v := ?_) (a' := ?_) m76_ rfl rfl (any_of HT_.out (by kernel_rfl)) (fun _ _ _ h => h) (Or.inl ⟨by rfl, ?_⟩) ?_ ?_
                      rotate_left
                      ·intro w'
                       go_simp
                       with_reducible rfl
                      rotate_left
                      ·simp only [Act.put, s1, s2, s3, i64_w, i32_w]
                       rfl
                      refine pure_ (i := 19) (N := some 278) (v := ?_) (a' := ?_) m77_ rfl rfl (any_of HT_.out (by kernel_rfl)) (fun _ _ _ h => h) (Or.inl ⟨by rfl, ?_⟩) ?_ ?_
                      rotate_left
                      ·intro w'
                       go_simp
                       with_reducible rfl
                      rotate_left
                      ·simp only [Act.put, s1, s2, s3, i64_w, i32_w]
                       rfl
                      refine pure_ (i := 20) (N := some 279) (v := ?_) (a' := ?_) m78_ rfl rfl (any_of HT_.out (by kernel_rfl)) (fun _ _ _ h => h) (Or.inl ⟨by rfl, ?_⟩) ?_ ?_
                      rotate_left
                      ·intro w'
                       go_simp
                       with_reducible rfl
                      rotate_left
                      ·simp only [Act.put, s1, s2, s3, i64_w, i32_w]
                       rfl
                      refine pure_ (i := 21) (N := some 280) (v := ?_) (a' := ?_) m79_ rfl rfl (any_of HT_.out (by kernel_rfl)) (fun _ _ _ h => h) (Or.inl ⟨by rfl, ?_⟩) ?_ ?_
                      rotate_left
                      ·intro w'
                       go_simp
                       with_reducible rfl
                      rotate_left
                      ·simp only [Act.put, s1, s2, s3, i64_w, i32_w]
                       rfl
                      refine pure_ (i := 22) (N := some 281) (v := ?_) (a' := ?_) m80_ rfl rfl (any_of HT_.out (by kernel_rfl)) (fun _ _ _ h => h) (Or.inl ⟨by rfl, ?_⟩) ?_ ?_
                      rotate_left
                      ·intro w'
                       go_simp
                       with_reducible rfl
                      rotate_left
                      ·simp only [Act.put, s1, s2, s3, i64_w, i32_w]
                       rfl
                      refine pure_ (i := 25) (N := some 284) (v := ?_) (a' := ?_) m111_ rfl rfl (any_of HT_.out (by kernel_rfl)) (fun _ _ _ h => h) (Or.inl ⟨by rfl, ?_⟩) ?_ ?_
                      rotate_left
                      ·intro w'
                       go_simp
                       with_reducible rfl
                      rotate_left
                      ·simp only [Act.put, s1, s2, s3, i64_w, i32_w]
                       rfl
                      refine take_ (i := 23) (N := some 282) (v := ?_) (a' := ?_) m112_ rfl rfl (take_ofW HT_.out HW_.out (by kernel_rfl)) (fun _ _ _ h => h) (Or.inl ⟨by rfl, ?_⟩) hHeld ?_ ?_
                      rotate_left
                      ·rintro w' ⟨s0, s1, s2, s3, s4⟩
                       go_simp
                       with_reducible rfl
                      rotate_left
                      ·simp only [Act.put, s1, s2, s3, i64_w, i32_w]
                       rfl
                      refine pure_ (i := 24) (N := some 283) (v := ?_) (a' := ?_) m83_ rfl rfl (any_of HT_.out (by kernel_rfl)) (fun _ _ _ h => h) (Or.inl ⟨by rfl, ?_⟩) ?_ ?_
                      rotate_left
                      ·intro w'
                       go_simp
                       with_reducible rfl
                      rotate_left
                      ·simp only [Act.put, s1, s2, s3, i64_w, i32_w]
                       rfl
                      refine take_ (i := 26) (N := some 285) (v := ?_) (a' := ?_) m84_ rfl rfl (take_ofW HT_.out HW_.out (by kernel_rfl)) (fun _ _ _ h => h) (Or.inl ⟨by rfl, ?_⟩) hHeld ?_ ?_
                      rotate_left
                      ·rintro w' ⟨s0, s1, s2, s3, s4⟩
                       go_simp
                       with_reducible rfl
                      rotate_left
                      ·simp only [Act.put, s1, s2, s3, i64_w, i32_w]
                       rfl
                      refine pure_ (i := 27) (N := some 286) (v := ?_) (a' := ?_) m85_ rfl rfl (any_of HT_.out (by kernel_rfl)) (fun _ _ _ h => h) (Or.inl ⟨by rfl, ?_⟩) ?_ ?_
                      rotate_left
                      ·intro w'
                       go_simp
                       with_reducible rfl
                      rotate_left
                      ·simp only [Act.put, s1, s2, s3, i64_w, i32_w]
                       rfl
                      refine pure_ (i := 28) (N := some 287) (v := ?_) (a' := ?_) m86_ rfl rfl (any_of HT_.out (by kernel_rfl)) (fun _ _ _ h => h) (Or.inl ⟨by rfl, ?_⟩) ?_ ?_
                      rotate_left
                      ·intro w'
                       go_simp
                       with_reducible rfl
                      rotate_left
                      ·simp only [Act.put, s1, s2, s3, i64_w, i32_w]
                       rfl
                      refine pure_ (i := 29) (N := some 288) (v := ?_) (a' := ?_) m87_ rfl rfl (any_of HT_.out (by kernel_rfl)) (fun _ _ _ h => h) (Or.inl ⟨by rfl, ?_⟩) ?_ ?_
                      rotate_left
                      ·intro w'
                       go_simp
                       with_reducible rfl
                      rotate_left
                      ·simp only [Act.put, s1, s2, s3, i64_w, i32_w]
                       rfl
                      refine pure_ (i := 30) (N := some 289) (v := ?_) (a' := ?_) m88_ rfl rfl (any_of HT_.out (by kernel_rfl)) (fun _ _ _ h => h) (Or.inl ⟨by rfl, ?_⟩) ?_ ?_
                      rotate_left
                      ·intro w'
                       go_simp
                       with_reducible rfl
                      rotate_left
                      ·simp only [Act.put, s1, s2, s3, i64_w, i32_w]
                       rfl
                      refine pure_ (i := 31) (N := some 290) (v := ?_) (a' := ?_) m89_ rfl rfl (any_of HT_.out (by kernel_rfl)) (fun _ _ _ h => h) (Or.inl ⟨by rfl, ?_⟩) ?_ ?_
                      rotate_left
                      ·intro w'
                       go_simp
                       with_reducible rfl
                      rotate_left
                      ·simp only [Act.put, s1, s2, s3, i64_w, i32_w]
                       rfl
                      refine pure_ (i := 32) (N := some 291) (v := ?_) (a' := ?_) m90_ rfl rfl (any_of HT_.out (by kernel_rfl)) (fun _ _ _ h => h) (Or.inl ⟨by rfl, ?_⟩) ?_ ?_
                      rotate_left
                      ·intro w'
                       go_simp
                       with_reducible rfl
                      rotate_left
                      ·simp only [Act.put, s1, s2, s3, i64_w, i32_w]
                       rfl
                      refine pure_ (i := 33) (N := some 292) (v := ?_) (a' := ?_) m91_ rfl rfl (any_of HT_.out (by kernel_rfl)) (fun _ _ _ h => h) (Or.inl ⟨by rfl, ?_⟩) ?_ ?_
                      rotate_left
                      ·intro w'
                       go_simp
                       with_reducible rfl
                      rotate_left
                      ·simp only [Act.put, s1, s2, s3, i64_w, i32_w]
                       rfl
                      refine pure_ (i := 34) (N := some 293) (v := ?_) (a' := ?_) m92_ rfl rfl (any_of HT_.out (by kernel_rfl)) (fun _ _ _ h => h) (Or.inl ⟨by rfl, ?_⟩) ?_ ?_
                      rotate_left
                      ·intro w'
                       go_simp
                       with_reducible rfl
                      rotate_left
                      ·simp only [Act.put, s1, s2, s3, i64_w, i32_w]
                       rfl
                      refine pure_ (i := 35) (N := some 294) (v := undef) (a' := ?_) m93_ rfl rfl (any_of HT_.out (by kernel_rfl)) (fun _ _ _ h => h) (Or.inr ⟨by rfl, rfl⟩) ?_ ?_
                      rotate_left
                      ·simp only [Act.put, s1, s2, s3, i64_w, i32_w]
                       rfl
                      refine pure_ (i := 36) (N := some 295) (v := undef) (a' := ?_) m94_ rfl rfl (any_of HT_.out (by kernel_rfl)) (fun _ _ _ h => h) (Or.inr ⟨by rfl, rfl⟩) ?_ ?_
                      rotate_left
                      ·simp only [Act.put, s1, s2, s3, i64_w, i32_w]
                       rfl
                      refine pure_ (i := 37) (N := some 296) (v := undef) (a' := ?_) m95_ rfl rfl (any_of HT_.out (by kernel_rfl)) (fun _ _ _ h => h) (Or.inr ⟨by rfl, rfl⟩) ?_ ?_
                      rotate_left
                      ·simp only [Act.put, s1, s2, s3, i64_w, i32_w]
                       rfl
                      refine pure_ (i := 38) (N := some 297) (v := undef) (a' := ?_) m96_ rfl rfl (any_of HT_.out (by kernel_rfl)) (fun _ _ _ h => h) (Or.inr ⟨by rfl, rfl⟩) ?_ ?_
                      rotate_left
                      ·simp only [Act.put, s1, s2, s3, i64_w, i32_w]
                       rfl
                      refine pure_ (i := 39) (N := some 298) (v := undef) (a' := ?_) m97_ rfl rfl (any_of HT_.out (by kernel_rfl)) (fun _ _ _ h => h) (Or.inr ⟨by rfl, rfl⟩) ?_ ?_
                      rotate_left
                      ·simp only [Act.put, s1, s2, s3, i64_w, i32_w]
                       rfl
                      refine pure_ (i := 40) (N := some 299) (v := undef) (a' := ?_) m98_ rfl rfl (any_of HT_.out (by kernel_rfl)) (fun _ _ _ h => h) (Or.inr ⟨by rfl, rfl⟩) ?_ ?_
                      rotate_left
                      ·simp only [Act.put, s1, s2, s3, i64_w, i32_w]
                       rfl
                      refine pure_ (i := 41) (N := some 300) (v := undef) (a' := ?_) m105_ rfl rfl (any_of HT_.out (by kernel_rfl)) (fun _ _ _ h => h) (Or.inr ⟨by rfl, rfl⟩) ?_ ?_
                      rotate_left
                      ·simp only [Act.put, s1, s2, s3, i64_w, i32_w]
                       rfl
                      refine pure_ (i := 42) (N := some 301) (v := undef) (a' := ?_) m106_ rfl rfl (any_of HT_.out (by kernel_rfl)) (fun _ _ _ h => h) (Or.inr ⟨by rfl, rfl⟩) ?_ ?_
                      rotate_left
                      ·simp only [Act.put, s1, s2, s3, i64_w, i32_w]
                       rfl
                      refine pure_ (i := 43) (N := some 302) (v := undef) (a' := ?_) m101_ rfl rfl (any_of HT_.out (by kernel_rfl)) (fun _ _ _ h => h) (Or.inr ⟨by rfl, rfl⟩) ?_ ?_
                      rotate_left
                      ·simp only [Act.put, s1, s2, s3, i64_w, i32_w]
                       rfl
                      refine pure_ (i := 44) (N := some 303) (v := undef) (a' := ?_) m102_ rfl rfl (any_of HT_.out (by kernel_rfl)) (fun _ _ _ h => h) (Or.inr ⟨by rfl, rfl⟩) ?_ ?_
                      rotate_left
                      ·simp only [Act.put, s1, s2, s3, i64_w, i32_w]
                       rfl
                      refine pure_ (i := 45) (N := some 304) (v := ?_) (a' := ?_) m103_ rfl rfl (any_of HT_.out (by kernel_rfl)) (fun _ _ _ h => h) (Or.inl ⟨by rfl, ?_⟩) ?_ ?_
                      rotate_left
                      ·intro w'
                       go_simp
                       with_reducible rfl
                      rotate_left
                      ·simp only [Act.put, s1, s2, s3, i64_w, i32_w]
                       rfl
                      refine pure_ (i := 46) (N := some 305) (v := ?_) (a' := ?_) m104_ rfl rfl (any_of HT_.out (by kernel_rfl)) (fun _ _ _ h => h) (Or.inl ⟨by rfl, ?_⟩) ?_ ?_
                      rotate_left
                      ·intro w'
                       go_simp
                       with_reducible rfl
                      rotate_left
                      ·simp only [Act.put, s1, s2, s3, i64_w, i32_w]
                       rfl
                      refine done_ (done_of HT_.out (by kernel_rfl)) ?_
                      try go_wp2
                      go_roundg k4
                      case measure => have := HJ13.out; have := HJ86.out; have := HJ174.out; have := HK4.out; omega
                      case rel => exact ⟨(wrap64 (x254_4 + 1)), zw', H', ⟨zj2'⟩, ⟨zl'⟩, ⟨zb2'⟩, ⟨zp'⟩, ⟨zu'⟩, ⟨zd'⟩⟩
                   ·rw [if_neg c219] at H
                    exact absurd H (by simp)
                  ·rw [if_neg c218] at H
                   exact absurd H (by simp)
                 ·rw [if_neg c216] at H
                  exact absurd H (by simp)
               ·rw [if_neg c190] at H
                exact absurd H (by simp)
              ·rw [if_neg c189] at H
               exact absurd H (by simp)
             ·rw [if_neg c188] at H
              have c188b0 : decide (x254_4 < (t308.length : Int)) = false := decide_eq_false c188; clear c188; obtain rfl := Option.some.inj H
              go_wp2
              go_ret
              exact ⟨by first | rfl | (simp [errW_none, errW_some] <;> rfl) | (simp [*, errW_none, errW_some] <;> rfl), by repeat (first | (with_reducible first | exact HB.out | apply ba | apply bn | apply below_drew1 | refine below_set ?_ GE303.out | refine below_set ?_ GE326.out) | exact HB.out)⟩
       ·replace c172 := Bool.eq_false_iff.mpr c172
        subst c172
        have H1 : (some true) = some r := by rw [if_neg (show ¬ (false = true) by decide)] at H; exact H
        clear H; have H := H1; clear H1; obtain rfl := Option.some.inj H
        go_wp2
        go_ret
        exact ⟨by first | rfl | (simp [errW_none, errW_some] <;> rfl) | (simp [*, errW_none, errW_some] <;> rfl), by repeat (first | (with_reducible first | exact HB.out | apply ba | apply bn | apply below_drew1 | refine below_set ?_ GE303.out | refine below_set ?_ GE326.out) | exact HB.out)⟩

/-- THE ONE PURE STATEMENT of laws_FnCycles: yours. -/
def laws_FnCycles.Pure : Prop := ∀ (l0 : List Int) (l1 : List Int), l0.length ≤ maxLen → l0.length * 1 ≤ 140737488351232 → (∀ x ∈ l0, (Lit.int .u8 x).wf = true) → l1.length ≤ maxLen → l1.length * 1 ≤ 140737488351232 → (∀ x ∈ l1, (Lit.int .u8 x).wf = true) → ∃ k, laws_FnCycles.f k l0 l1 = some true
theorem laws_FnCycles.walk (P : laws_FnCycles.Pure) (a0 : Option Addr) (len0 cap0 : Nat) (z0 : List Int) (a1 : Option Addr) (len1 cap1 : Nat) (z1 : List Int) (w : World) (w0 : (a0 = none ∧ len0 = 0 ∧ cap0 = 0 ∧ z0 = []) ∨ ∃ x, a0 = some x ∧ len0 ≤ cap0 ∧ cap0 ≤ maxLen ∧ z0.length = cap0 ∧ (∀ i, i < z0.length → w.cell? (x.add i) = some (.int .u8 (z0.getD i 0))) ∧ ∀ n ∈ z0, (Lit.int .u8 n).wf = true) (y0 : len0 * 1 ≤ 140737488351232) (w1 : (a1 = none ∧ len1 = 0 ∧ cap1 = 0 ∧ z1 = []) ∨ ∃ x, a1 = some x ∧ len1 ≤ cap1 ∧ cap1 ≤ maxLen ∧ z1.length = cap1 ∧ (∀ i, i < z1.length → w.cell? (x.add i) = some (.int .u8 (z1.getD i 0))) ∧ ∀ n ∈ z1, (Lit.int .u8 n).wf = true) (y1 : len1 * 1 ≤ 140737488351232) :
  Calls Try.prog 13 #[.slice a0 len0 cap0, .slice a1 len1 cap1] w fun e w' => e = .returned (.bool true) ∧ Below w.heap.size w w' := by
 obtain ⟨l0, rfl, hr0, hm0, hw0, hc0⟩ := ReadsInt.ofRowC w0
 obtain ⟨l1, rfl, hr1, hm1, hw1, hc1⟩ := ReadsInt.ofRowC w1
 obtain ⟨k, h⟩ := P l0 l1 hm0 y0 hw0 hm1 y1 hw1
 refine (laws_FnCycles.calls k _ _ l0 _ _ l1 true w (Kd.C_of_reads (d := (0 : Int)) (h1 := fun _ => rfl) hr0) hc0 (Kd.C_of_reads (d := (0 : Int)) (h1 := fun _ => rfl) hr1) hc1 h).mono ?_
 rintro e w' ⟨rfl, hd⟩
 exact ⟨rfl, hd⟩

end Go.Proofs.Ytociipogjmidiaa.PFnCycles
