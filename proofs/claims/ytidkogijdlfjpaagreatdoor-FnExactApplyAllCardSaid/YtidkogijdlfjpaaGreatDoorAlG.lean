/- ApplyPrim: the reference's contract, and the law. -/
import Derived.Test.YtidkogijdlfjpaaGreatDoorApF
set_option linter.unusedVariables false
set_option linter.unusedSimpArgs false
set_option maxRecDepth 100000
open Go Go.Abs Go.Proofs V1 H1 F1 F2 T1 T2 T3 P1 P2 P3 P4 P5 P6 P7 P8 P9 P10 P11 P12 P13 P14 P15 P16 P17 P18 P19 P20
namespace P21
end P21
