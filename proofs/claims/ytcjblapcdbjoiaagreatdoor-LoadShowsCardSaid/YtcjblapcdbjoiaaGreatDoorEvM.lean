/- The closed part of the law, evaluated by the kernel, in parts: closed calls and what they come to. -/
import Derived.Test.YtcjblapcdbjoiaaGreatDoorEvL
import Derived.Test.YtcjblapcdbjoiaaGreatDoorEvH
set_option linter.unnecessarySimpa false
set_option linter.unusedVariables false
set_option linter.unusedSimpArgs false
set_option linter.unusedSectionVars false
namespace Go.Ev.A_law11_awake
set_option maxRecDepth 100000
def c0 : List (List PV) := [[(.i 2),(.s ⟨#[115]⟩),(.sl false [])],[(.i 2),(.s ⟨#[77]⟩),(.sl false [])]]
def c1 : List (List PV) := [[(.i 2),(.s ⟨#[115]⟩),(.sl false [])],[(.i 2),(.s ⟨#[80]⟩),(.sl false [])]]
def c2 : List (List PV) := [[(.i 2),(.s ⟨#[115]⟩),(.sl false [])],[(.i 2),(.s ⟨#[122]⟩),(.sl false [])]]
def c3 : List (List PV) := [[(.i 4),(.i 2),(.i 2),(.sl false [[(.i 4),(.i 2),(.i 1),(.sl false [])]])]]
def c4 : List (List PV) := [[(.i 4),(.i 2),(.i 0),(.sl false [])],[(.i 4),(.i 2),(.i 0),(.sl false [])]]
def c5 : List (List PV) := [[(.i 4),(.i 2),(.i 0),(.sl false [])],[(.i 1),(.i 0),(.i 0),(.sl false [])]]
def c6 : List (List PV) := [[(.i 2),(.s ⟨#[110,97,116]⟩),(.sl false [])],[(.i 1),(.s ⟨#[]⟩),(.sl false [])]]
def c7 : List (List PV) := [[(.i 2),(.s ⟨#[112,108,117,115]⟩),(.sl false [])],[(.i 2),(.s ⟨#[77]⟩),(.sl false [])]]
def c8 : List (List PV) := [[(.i 2),(.s ⟨#[112,108,117,115]⟩),(.sl false [])],[(.i 2),(.s ⟨#[122]⟩),(.sl false [])]]
def c9 : List (List PV) := [[(.i 2),(.s ⟨#[110,97,116]⟩),(.sl false [])],[(.i 2),(.s ⟨#[110,97,116]⟩),(.sl false [])]]
def c10 : List (List PV) := [[(.s ⟨#[77]⟩),(.i 4),(.i 2),(.i 0),(.sl false []),(.b false),(.i 0),(.i 0),(.i 0),(.sl false [])]]
def c11 : List (List PV) := [[(.i 4),(.i 2),(.i 1),(.sl false [])],[(.i 4),(.i 1),(.i 0),(.sl false [])],[(.i 4),(.i 1),(.i 0),(.sl false [])]]
def c12 : List (List PV) := [[(.i 4),(.i 1),(.i 2),(.sl false [])],[(.i 4),(.i 1),(.i 1),(.sl false [])],[(.i 4),(.i 1),(.i 0),(.sl false [])]]
def c13 : List (List PV) := [[(.i 4),(.i 3),(.i 0),(.sl false [])],[(.i 4),(.i 3),(.i 1),(.sl false [])],[(.i 4),(.i 3),(.i 2),(.sl false [])]]
def c14 : List (List PV) := [[(.i 4),(.i 3),(.i 3),(.sl false [])],[(.i 4),(.i 3),(.i 4),(.sl false [])],[(.i 4),(.i 3),(.i 5),(.sl false [])]]
def c15 : List (List PV) := [[(.i 2),(.s ⟨#[115]⟩),(.sl false [])],[(.i 4),(.s ⟨#[]⟩),(.sl false c2)]]
def c16 : List (List PV) := [[(.i 4),(.i 2),(.i 0),(.sl false [])],[(.i 2),(.i 0),(.i 0),(.sl false c5)]]
def c17 : List (List PV) := [[(.i 4),(.s ⟨#[]⟩),(.sl false c7)],[(.i 2),(.s ⟨#[78]⟩),(.sl false [])]]
def c18 : List (List PV) := [[(.i 4),(.s ⟨#[]⟩),(.sl false c8)],[(.i 2),(.s ⟨#[78]⟩),(.sl false [])]]
def c19 : List (List PV) := [[(.i 2),(.s ⟨#[112,108,117,115]⟩),(.sl false [])],[(.i 4),(.s ⟨#[]⟩),(.sl false c0)]]
def c20 : List (List PV) := [[(.i 2),(.s ⟨#[110,97,116]⟩),(.sl false [])],[(.i 6),(.s ⟨#[]⟩),(.sl false c6)]]
def c21 : List (List PV) := [[(.i 2),(.s ⟨#[112,115]⟩),(.sl false [])],[(.i 4),(.s ⟨#[]⟩),(.sl false [[(.i 2),(.s ⟨#[112,115]⟩),(.sl false [])],[(.i 2),(.s ⟨#[112,122]⟩),(.sl false [])]])]]
def c22 : List (List PV) := [[(.i 4),(.i 2),(.i 2),(.sl false [[(.i 4),(.i 3),(.i 0),(.sl false [])]])],[(.i 4),(.i 3),(.i 1),(.sl false [])],[(.i 4),(.i 2),(.i 2),(.sl false [[(.i 4),(.i 3),(.i 2),(.sl false [])]])]]
def c23 : List (List PV) := [[(.i 4),(.i 2),(.i 2),(.sl false [[(.i 4),(.i 1),(.i 3),(.sl false [])]])],[(.i 4),(.i 1),(.i 2),(.sl false [])],[(.i 4),(.i 2),(.i 2),(.sl false [[(.i 4),(.i 1),(.i 1),(.sl false [])]])]]
def c24 : List (List PV) := [[(.i 4),(.i 2),(.i 2),(.sl false [[(.i 4),(.i 3),(.i 0),(.sl false [])]])],[(.i 4),(.i 1),(.i 2),(.sl false [])],[(.i 4),(.i 2),(.i 2),(.sl false [[(.i 4),(.i 1),(.i 1),(.sl false [])]])]]
def c25 : List (List PV) := [[(.i 4),(.i 2),(.i 2),(.sl false [[(.i 4),(.i 3),(.i 0),(.sl false [])]])],[(.i 4),(.i 3),(.i 1),(.sl false [])],[(.i 4),(.i 2),(.i 2),(.sl false [[(.i 4),(.i 1),(.i 1),(.sl false [])]])]]
def c26 : List (List PV) := [[(.i 4),(.i 2),(.i 2),(.sl false [[(.i 4),(.i 3),(.i 3),(.sl false [])]])],[(.i 4),(.i 1),(.i 2),(.sl false [])],[(.i 4),(.i 2),(.i 2),(.sl false [[(.i 4),(.i 1),(.i 1),(.sl false [])]])]]
def c27 : List (List PV) := [[(.i 4),(.i 2),(.i 2),(.sl false [[(.i 4),(.i 3),(.i 3),(.sl false [])]])],[(.i 4),(.i 3),(.i 4),(.sl false [])],[(.i 4),(.i 2),(.i 2),(.sl false [[(.i 4),(.i 1),(.i 1),(.sl false [])]])]]
def c28 : List (List PV) := [[(.i 4),(.i 2),(.i 2),(.sl false [[(.i 4),(.i 3),(.i 3),(.sl false [])]])],[(.i 4),(.i 3),(.i 4),(.sl false [])],[(.i 4),(.i 2),(.i 2),(.sl false [[(.i 4),(.i 3),(.i 5),(.sl false [])]])]]
def c29 : List (List PV) := [[(.i 4),(.i 2),(.i 2),(.sl false [[(.i 4),(.i 2),(.i 1),(.sl false [])]])],[(.i 4),(.i 3),(.i 4),(.sl false [])],[(.i 4),(.i 2),(.i 2),(.sl false [[(.i 4),(.i 3),(.i 4),(.sl false [])]])]]
def c30 : List (List PV) := [[(.i 4),(.i 2),(.i 0),(.sl false [])],[(.i 4),(.i 2),(.i 3),(.sl false c11)]]
def c31 : List (List PV) := [[(.i 4),(.i 3),(.i 3),(.sl false [])],[(.i 4),(.i 3),(.i 4),(.sl false [])],[(.i 4),(.i 3),(.i 5),(.sl false [])],[(.i 4),(.i 2),(.i 4),(.sl false [[(.i 4),(.i 3),(.i 6),(.sl false [])]])]]
def c32 : List (List PV) := [[(.i 4),(.i 2),(.i 1),(.sl false [])],[(.i 4),(.i 2),(.i 1),(.sl false [])],[(.i 4),(.i 2),(.i 1),(.sl false [])],[(.i 4),(.i 2),(.i 4),(.sl false [[(.i 4),(.i 2),(.i 1),(.sl false [])]])]]
def c33 : List (List PV) := [[(.s ⟨#[]⟩),(.i 4),(.i 2),(.i 0),(.sl false []),(.b false),(.i 0),(.i 0),(.i 0),(.sl false [])],[(.s ⟨#[]⟩),(.i 4),(.i 2),(.i 0),(.sl false []),(.b false),(.i 0),(.i 0),(.i 0),(.sl false [])]]
def c34 : List (List PV) := [[(.s ⟨#[77]⟩),(.i 4),(.i 2),(.i 0),(.sl false []),(.b false),(.i 0),(.i 0),(.i 0),(.sl false [])],[(.s ⟨#[78]⟩),(.i 4),(.i 2),(.i 0),(.sl false []),(.b false),(.i 0),(.i 0),(.i 0),(.sl false [])]]
def c35 : List (List PV) := [[(.i 4),(.s ⟨#[]⟩),(.sl false c17)],[(.i 2),(.s ⟨#[80]⟩),(.sl false [])]]
def c36 : List (List PV) := [[(.i 4),(.i 2),(.i 0),(.sl false [])],[(.i 2),(.i 0),(.i 0),(.sl false c16)]]
def c37 : List (List PV) := [[(.i 4),(.s ⟨#[]⟩),(.sl false c18)],[(.i 2),(.s ⟨#[78]⟩),(.sl false [])]]
def c38 : List (List PV) := [[(.i 4),(.s ⟨#[]⟩),(.sl false c19)],[(.i 2),(.s ⟨#[78]⟩),(.sl false [])]]
def c39 : List (List PV) := [[(.i 2),(.s ⟨#[112,108,117,115]⟩),(.sl false [])],[(.i 4),(.s ⟨#[]⟩),(.sl false c15)]]
def c40 : List (List PV) := [[(.i 2),(.s ⟨#[110,97,116]⟩),(.sl false [])],[(.i 6),(.s ⟨#[]⟩),(.sl false c20)]]
def c41 : List (List PV) := [[(.s ⟨#[110,97,116]⟩),(.i 1),(.i 0),(.i 0),(.sl false []),(.i 0)],[(.s ⟨#[122]⟩),(.i 4),(.i 2),(.i 0),(.sl false []),(.i 0)],[(.s ⟨#[115]⟩),(.i 2),(.i 0),(.i 0),(.sl false c4),(.i 0)]]
def c42 : List (List PV) := [[(.i 4),(.i 2),(.i 2),(.sl false c3)],[(.i 4),(.i 2),(.i 1),(.sl false [])],[(.i 4),(.i 2),(.i 2),(.sl false c3)]]
def c43 : List (List PV) := [[(.i 4),(.i 2),(.i 2),(.sl false c3)],[(.i 4),(.i 3),(.i 1),(.sl false [])],[(.i 4),(.i 2),(.i 2),(.sl false [[(.i 4),(.i 2),(.i 2),(.sl false [[(.i 4),(.i 3),(.i 1),(.sl false [])]])]])]]
def c44 : List (List PV) := [[(.s ⟨#[]⟩),(.i 4),(.i 2),(.i 0),(.sl false []),(.b false),(.i 0),(.i 0),(.i 0),(.sl false [])],[(.s ⟨#[]⟩),(.i 4),(.i 2),(.i 0),(.sl false []),(.b false),(.i 0),(.i 0),(.i 0),(.sl false [])],[(.s ⟨#[]⟩),(.i 4),(.i 2),(.i 0),(.sl false []),(.b false),(.i 0),(.i 0),(.i 0),(.sl false [])]]
def c45 : List (List PV) := [[(.s ⟨#[77]⟩),(.i 4),(.i 2),(.i 0),(.sl false []),(.b false),(.i 0),(.i 0),(.i 0),(.sl false [])],[(.s ⟨#[78]⟩),(.i 4),(.i 2),(.i 0),(.sl false []),(.b false),(.i 0),(.i 0),(.i 0),(.sl false [])],[(.s ⟨#[80]⟩),(.i 4),(.i 2),(.i 0),(.sl false []),(.b false),(.i 0),(.i 0),(.i 0),(.sl false [])]]
def c46 : List (List PV) := [[(.i 4),(.s ⟨#[]⟩),(.sl false c39)],[(.i 2),(.s ⟨#[122]⟩),(.sl false [])]]
def c47 : List (List PV) := [[(.i 4),(.s ⟨#[]⟩),(.sl false c38)],[(.i 4),(.s ⟨#[]⟩),(.sl false c1)]]
def c48 : List (List PV) := [[(.i 4),(.i 2),(.i 3),(.sl false c13)],[(.i 4),(.i 2),(.i 3),(.sl false c22)]]
def c49 : List (List PV) := [[(.i 4),(.i 2),(.i 3),(.sl false c12)],[(.i 4),(.i 2),(.i 3),(.sl false c23)]]
def c50 : List (List PV) := [[(.i 4),(.i 2),(.i 3),(.sl false [[(.i 4),(.i 3),(.i 0),(.sl false [])],[(.i 4),(.i 1),(.i 1),(.sl false [])],[(.i 4),(.i 1),(.i 0),(.sl false [])]])],[(.i 4),(.i 2),(.i 3),(.sl false c24)]]
def c51 : List (List PV) := [[(.i 4),(.i 2),(.i 3),(.sl false [[(.i 4),(.i 3),(.i 0),(.sl false [])],[(.i 4),(.i 3),(.i 1),(.sl false [])],[(.i 4),(.i 1),(.i 0),(.sl false [])]])],[(.i 4),(.i 2),(.i 3),(.sl false c25)]]
def c52 : List (List PV) := [[(.i 4),(.i 2),(.i 3),(.sl false [[(.i 4),(.i 3),(.i 3),(.sl false [])],[(.i 4),(.i 1),(.i 1),(.sl false [])],[(.i 4),(.i 1),(.i 0),(.sl false [])]])],[(.i 4),(.i 2),(.i 3),(.sl false c26)]]
def c53 : List (List PV) := [[(.i 4),(.i 2),(.i 3),(.sl false [[(.i 4),(.i 3),(.i 3),(.sl false [])],[(.i 4),(.i 3),(.i 4),(.sl false [])],[(.i 4),(.i 1),(.i 0),(.sl false [])]])],[(.i 4),(.i 2),(.i 3),(.sl false c27)]]
def c54 : List (List PV) := [[(.i 4),(.i 2),(.i 3),(.sl false c14)],[(.i 4),(.i 2),(.i 3),(.sl false c28)]]
def c55 : List (List PV) := [[(.i 4),(.i 2),(.i 2),(.sl false [[(.i 4),(.i 2),(.i 1),(.sl false [])]])],[(.i 4),(.i 2),(.i 1),(.sl false [])],[(.i 4),(.i 2),(.i 2),(.sl false [[(.i 4),(.i 2),(.i 1),(.sl false [])]])],[(.i 4),(.i 2),(.i 5),(.sl false c32)]]
def c56 : List (List PV) := [[(.i 4),(.i 2),(.i 0),(.sl false [])],[(.i 2),(.i 0),(.i 0),(.sl false c49)]]
def c57 : List (List PV) := [[(.i 4),(.i 2),(.i 0),(.sl false [])],[(.i 2),(.i 0),(.i 0),(.sl false c50)]]
def c58 : List (List PV) := [[(.i 4),(.i 2),(.i 0),(.sl false [])],[(.i 2),(.i 0),(.i 0),(.sl false c51)]]
def c59 : List (List PV) := [[(.i 4),(.i 2),(.i 0),(.sl false [])],[(.i 2),(.i 0),(.i 0),(.sl false c52)]]
def c60 : List (List PV) := [[(.i 4),(.i 2),(.i 0),(.sl false [])],[(.i 2),(.i 0),(.i 0),(.sl false c53)]]
def c61 : List (List PV) := [[(.s ⟨#[]⟩),(.i 4),(.i 2),(.i 0),(.sl false []),(.b false),(.i 0),(.i 0),(.i 0),(.sl false [])],[(.s ⟨#[]⟩),(.i 4),(.i 2),(.i 0),(.sl false []),(.b false),(.i 0),(.i 0),(.i 0),(.sl false [])],[(.s ⟨#[]⟩),(.i 4),(.i 2),(.i 0),(.sl false []),(.b false),(.i 0),(.i 0),(.i 0),(.sl false [])],[(.s ⟨#[]⟩),(.i 4),(.i 2),(.i 0),(.sl false []),(.b false),(.i 0),(.i 0),(.i 0),(.sl false [])],[(.s ⟨#[]⟩),(.i 4),(.i 2),(.i 0),(.sl false []),(.b false),(.i 0),(.i 0),(.i 0),(.sl false [])]]
def c62 : List (List PV) := [[(.i 4),(.s ⟨#[]⟩),(.sl false c46)],[(.i 4),(.s ⟨#[]⟩),(.sl false c15)]]
def c63 : List (List PV) := [[(.i 4),(.i 2),(.i 0),(.sl false [])],[(.i 2),(.i 0),(.i 0),(.sl false c56)]]
def c64 : List (List PV) := [[(.i 4),(.i 2),(.i 0),(.sl false [])],[(.i 2),(.i 0),(.i 0),(.sl false c57)]]
def c65 : List (List PV) := [[(.i 4),(.i 2),(.i 0),(.sl false [])],[(.i 2),(.i 0),(.i 0),(.sl false c59)]]
def c66 : List (List PV) := [[(.s ⟨#[110,97,116]⟩),(.i 1),(.i 0),(.i 0),(.sl false []),(.i 0)],[(.s ⟨#[122]⟩),(.i 4),(.i 2),(.i 0),(.sl false []),(.i 0)],[(.s ⟨#[115]⟩),(.i 2),(.i 0),(.i 0),(.sl false c4),(.i 0)],[(.s ⟨#[112,108,117,115]⟩),(.i 2),(.i 0),(.i 0),(.sl false c36),(.i 0)]]
def c67 : List (List PV) := [[(.s ⟨#[]⟩),(.i 4),(.i 2),(.i 0),(.sl false []),(.b false),(.i 0),(.i 0),(.i 0),(.sl false [])],[(.s ⟨#[]⟩),(.i 4),(.i 2),(.i 0),(.sl false []),(.b false),(.i 0),(.i 0),(.i 0),(.sl false [])],[(.s ⟨#[]⟩),(.i 4),(.i 2),(.i 0),(.sl false []),(.b false),(.i 0),(.i 0),(.i 0),(.sl false [])],[(.s ⟨#[]⟩),(.i 4),(.i 2),(.i 0),(.sl false []),(.b false),(.i 0),(.i 0),(.i 0),(.sl false [])],[(.s ⟨#[]⟩),(.i 4),(.i 2),(.i 0),(.sl false []),(.b false),(.i 0),(.i 0),(.i 0),(.sl false [])],[(.s ⟨#[]⟩),(.i 4),(.i 2),(.i 0),(.sl false []),(.b false),(.i 0),(.i 0),(.i 0),(.sl false [])]]
def c68 : List (List PV) := [[(.i 4),(.i 2),(.i 0),(.sl false [])],[(.i 2),(.i 0),(.i 0),(.sl false c63)]]
def c69 : List (List PV) := [[(.i 4),(.s ⟨#[]⟩),(.sl false c35)],[(.i 4),(.s ⟨#[]⟩),(.sl false c47)]]
def c70 : List (List PV) := [[(.s ⟨#[]⟩),(.i 4),(.i 2),(.i 0),(.sl false []),(.b false),(.i 0),(.i 0),(.i 0),(.sl false [])],[(.s ⟨#[]⟩),(.i 4),(.i 2),(.i 0),(.sl false []),(.b false),(.i 0),(.i 0),(.i 0),(.sl false [])],[(.s ⟨#[]⟩),(.i 4),(.i 2),(.i 0),(.sl false []),(.b false),(.i 0),(.i 0),(.i 0),(.sl false [])],[(.s ⟨#[]⟩),(.i 4),(.i 2),(.i 0),(.sl false []),(.b true),(.i 4),(.i 2),(.i 1),(.sl false [])],[(.s ⟨#[]⟩),(.i 4),(.i 2),(.i 0),(.sl false []),(.b false),(.i 0),(.i 0),(.i 0),(.sl false [])],[(.s ⟨#[]⟩),(.i 4),(.i 2),(.i 0),(.sl false []),(.b true),(.i 4),(.i 3),(.i 4),(.sl false [])],[(.s ⟨#[]⟩),(.i 4),(.i 2),(.i 0),(.sl false []),(.b true),(.i 4),(.i 3),(.i 4),(.sl false [])]]
def c71 : List (List PV) := [[(.s ⟨#[]⟩),(.i 4),(.i 2),(.i 0),(.sl false []),(.b false),(.i 0),(.i 0),(.i 0),(.sl false [])],[(.s ⟨#[]⟩),(.i 4),(.i 2),(.i 0),(.sl false []),(.b false),(.i 0),(.i 0),(.i 0),(.sl false [])],[(.s ⟨#[]⟩),(.i 4),(.i 2),(.i 0),(.sl false []),(.b false),(.i 0),(.i 0),(.i 0),(.sl false [])],[(.s ⟨#[]⟩),(.i 4),(.i 2),(.i 0),(.sl false []),(.b false),(.i 0),(.i 0),(.i 0),(.sl false [])],[(.s ⟨#[]⟩),(.i 4),(.i 2),(.i 0),(.sl false []),(.b false),(.i 0),(.i 0),(.i 0),(.sl false [])],[(.s ⟨#[]⟩),(.i 4),(.i 2),(.i 0),(.sl false []),(.b false),(.i 0),(.i 0),(.i 0),(.sl false [])],[(.s ⟨#[]⟩),(.i 4),(.i 2),(.i 0),(.sl false []),(.b false),(.i 0),(.i 0),(.i 0),(.sl false [])]]
def c72 : List (List PV) := [[(.s ⟨#[]⟩),(.i 4),(.i 2),(.i 0),(.sl false []),(.b true),(.i 4),(.i 2),(.i 2),(.sl false [[(.i 4),(.i 2),(.i 1),(.sl false [])]])],[(.s ⟨#[]⟩),(.i 4),(.i 2),(.i 0),(.sl false []),(.b true),(.i 4),(.i 2),(.i 1),(.sl false [])],[(.s ⟨#[]⟩),(.i 4),(.i 2),(.i 0),(.sl false []),(.b true),(.i 4),(.i 2),(.i 2),(.sl false [[(.i 4),(.i 2),(.i 1),(.sl false [])]])],[(.s ⟨#[]⟩),(.i 4),(.i 2),(.i 0),(.sl false []),(.b true),(.i 4),(.i 2),(.i 1),(.sl false [])],[(.s ⟨#[]⟩),(.i 4),(.i 2),(.i 0),(.sl false []),(.b true),(.i 4),(.i 2),(.i 1),(.sl false [])],[(.s ⟨#[]⟩),(.i 4),(.i 2),(.i 0),(.sl false []),(.b true),(.i 4),(.i 2),(.i 1),(.sl false [])],[(.s ⟨#[]⟩),(.i 4),(.i 2),(.i 0),(.sl false []),(.b true),(.i 4),(.i 2),(.i 1),(.sl false [])]]
def c73 : List (List PV) := [[(.s ⟨#[]⟩),(.i 4),(.i 2),(.i 0),(.sl false []),(.b true),(.i 4),(.i 2),(.i 2),(.sl false [[(.i 4),(.i 2),(.i 1),(.sl false [])]])],[(.s ⟨#[]⟩),(.i 4),(.i 2),(.i 0),(.sl false []),(.b false),(.i 0),(.i 0),(.i 0),(.sl false [])],[(.s ⟨#[]⟩),(.i 4),(.i 2),(.i 0),(.sl false []),(.b true),(.i 4),(.i 2),(.i 2),(.sl false [[(.i 4),(.i 3),(.i 1),(.sl false [])]])],[(.s ⟨#[]⟩),(.i 4),(.i 2),(.i 0),(.sl false []),(.b true),(.i 4),(.i 2),(.i 1),(.sl false [])],[(.s ⟨#[]⟩),(.i 4),(.i 2),(.i 0),(.sl false []),(.b true),(.i 4),(.i 3),(.i 1),(.sl false [])],[(.s ⟨#[]⟩),(.i 4),(.i 2),(.i 0),(.sl false []),(.b true),(.i 4),(.i 3),(.i 1),(.sl false [])],[(.s ⟨#[]⟩),(.i 4),(.i 2),(.i 0),(.sl false []),(.b true),(.i 4),(.i 3),(.i 1),(.sl false [])]]
def c74 : List (List PV) := [[(.s ⟨#[110,97,116]⟩),(.i 1),(.i 0),(.i 0),(.sl false []),(.i 0)],[(.s ⟨#[122]⟩),(.i 4),(.i 2),(.i 0),(.sl false []),(.i 0)],[(.s ⟨#[115]⟩),(.i 2),(.i 0),(.i 0),(.sl false c4),(.i 0)],[(.s ⟨#[112,108,117,115]⟩),(.i 2),(.i 0),(.i 0),(.sl false c36),(.i 0)],[(.s ⟨#[112,122]⟩),(.i 2),(.i 0),(.i 0),(.sl false c30),(.i 1)]]
def c75 : List (List PV) := [[(.s ⟨#[110,97,116]⟩),(.i 1),(.i 0),(.i 0),(.sl false []),(.i 0)],[(.s ⟨#[122]⟩),(.i 4),(.i 2),(.i 0),(.sl false []),(.i 0)],[(.s ⟨#[115]⟩),(.i 2),(.i 0),(.i 0),(.sl false c4),(.i 0)],[(.s ⟨#[112,108,117,115]⟩),(.i 2),(.i 0),(.i 0),(.sl false c36),(.i 0)],[(.s ⟨#[112,122]⟩),(.i 2),(.i 0),(.i 0),(.sl false c30),(.i 1)],[(.s ⟨#[112,115]⟩),(.i 2),(.i 0),(.i 0),(.sl false c68),(.i 3)]]
abbrev OKM (m : FuncId × List PV × PV) : Prop := runV TT HH [] m.1 m.2.1 [] = some (.ret m.2.2,[])
def M0 : FuncId × List PV × PV := (57,[(.s ⟨#[110,97,116,32,58,32,116,121,112,101,46,32,122,32,58,32,110,97,116,46,32,115,32,58,32,110,97,116,32,45,62,32,110,97,116,46,32,112,108,117,115,32,58,32,110,97,116,32,45,62,32,110,97,116,32,45,62,32,110,97,116,32,45,62,32,116,121,112,101,46,32,112,122,32,58,32,112,108,117,115,32,122,32,78,32,78,46,32,112,115,32,58,32,112,108,117,115,32,40,115,32,77,41,32,78,32,40,115,32,80,41,32,60,45,32,112,108,117,115,32,77,32,78,32,80,46]⟩)],(.tup [(.sl false [[(.i 1),(.s ⟨#[110,97,116]⟩),(.i 0)],[(.i 4),(.s ⟨#[58]⟩),(.i 4)],[(.i 1),(.s ⟨#[116,121,112,101]⟩),(.i 6)],[(.i 4),(.s ⟨#[46]⟩),(.i 10)],[(.i 1),(.s ⟨#[122]⟩),(.i 12)],[(.i 4),(.s ⟨#[58]⟩),(.i 14)],[(.i 1),(.s ⟨#[110,97,116]⟩),(.i 16)],[(.i 4),(.s ⟨#[46]⟩),(.i 19)],[(.i 1),(.s ⟨#[115]⟩),(.i 21)],[(.i 4),(.s ⟨#[58]⟩),(.i 23)],[(.i 1),(.s ⟨#[110,97,116]⟩),(.i 25)],[(.i 4),(.s ⟨#[45,62]⟩),(.i 29)],[(.i 1),(.s ⟨#[110,97,116]⟩),(.i 32)],[(.i 4),(.s ⟨#[46]⟩),(.i 35)],[(.i 1),(.s ⟨#[112,108,117,115]⟩),(.i 37)],[(.i 4),(.s ⟨#[58]⟩),(.i 42)],[(.i 1),(.s ⟨#[110,97,116]⟩),(.i 44)],[(.i 4),(.s ⟨#[45,62]⟩),(.i 48)],[(.i 1),(.s ⟨#[110,97,116]⟩),(.i 51)],[(.i 4),(.s ⟨#[45,62]⟩),(.i 55)],[(.i 1),(.s ⟨#[110,97,116]⟩),(.i 58)],[(.i 4),(.s ⟨#[45,62]⟩),(.i 62)],[(.i 1),(.s ⟨#[116,121,112,101]⟩),(.i 65)],[(.i 4),(.s ⟨#[46]⟩),(.i 69)],[(.i 1),(.s ⟨#[112,122]⟩),(.i 71)],[(.i 4),(.s ⟨#[58]⟩),(.i 74)],[(.i 1),(.s ⟨#[112,108,117,115]⟩),(.i 76)],[(.i 1),(.s ⟨#[122]⟩),(.i 81)],[(.i 2),(.s ⟨#[78]⟩),(.i 83)],[(.i 2),(.s ⟨#[78]⟩),(.i 85)],[(.i 4),(.s ⟨#[46]⟩),(.i 86)],[(.i 1),(.s ⟨#[112,115]⟩),(.i 88)],[(.i 4),(.s ⟨#[58]⟩),(.i 91)],[(.i 1),(.s ⟨#[112,108,117,115]⟩),(.i 93)],[(.i 4),(.s ⟨#[40]⟩),(.i 98)],[(.i 1),(.s ⟨#[115]⟩),(.i 99)],[(.i 2),(.s ⟨#[77]⟩),(.i 101)],[(.i 4),(.s ⟨#[41]⟩),(.i 102)],[(.i 2),(.s ⟨#[78]⟩),(.i 104)],[(.i 4),(.s ⟨#[40]⟩),(.i 106)],[(.i 1),(.s ⟨#[115]⟩),(.i 107)],[(.i 2),(.s ⟨#[80]⟩),(.i 109)],[(.i 4),(.s ⟨#[41]⟩),(.i 110)],[(.i 4),(.s ⟨#[60,45]⟩),(.i 112)],[(.i 1),(.s ⟨#[112,108,117,115]⟩),(.i 115)],[(.i 2),(.s ⟨#[77]⟩),(.i 120)],[(.i 2),(.s ⟨#[78]⟩),(.i 122)],[(.i 2),(.s ⟨#[80]⟩),(.i 124)],[(.i 4),(.s ⟨#[46]⟩),(.i 125)],[(.i 7),(.s ⟨#[]⟩),(.i 126)]]),(.i 0),(.i 0)]))
def M1 : FuncId × List PV × PV := (51,[(.agg [(.s ⟨#[]⟩),(.s ⟨#[115]⟩),(.i 6),(.s ⟨#[]⟩),(.sl false c9),(.sl false [])])],(.i 0))
def M2 : FuncId × List PV × PV := (40,[(.agg [(.i 6),(.s ⟨#[]⟩),(.sl false c40)])],(.i 0))
def M3 : FuncId × List PV × PV := (51,[(.agg [(.s ⟨#[]⟩),(.s ⟨#[112,122]⟩),(.i 4),(.s ⟨#[]⟩),(.sl false c37),(.sl false [])])],(.i 0))
def M4 : FuncId × List PV × PV := (40,[(.agg [(.i 6),(.s ⟨#[]⟩),(.sl false c69)])],(.i 0))
def M5 : FuncId × List PV × PV := (46,[(.s ⟨#[110,97,116,32,58,32,116,121,112,101,46,32,122,32,58,32,110,97,116,46,32,115,32,58,32,110,97,116,32,45,62,32,110,97,116,46,32,112,108,117,115,32,58,32,110,97,116,32,45,62,32,110,97,116,32,45,62,32,110,97,116,32,45,62,32,116,121,112,101,46,32,112,122,32,58,32,112,108,117,115,32,122,32,78,32,78,46,32,112,115,32,58,32,112,108,117,115,32,40,115,32,77,41,32,78,32,40,115,32,80,41,32,60,45,32,112,108,117,115,32,77,32,78,32,80,46]⟩)],(.tup [(.sl false [[(.s ⟨#[]⟩),(.s ⟨#[110,97,116]⟩),(.i 1),(.s ⟨#[]⟩),(.sl false []),(.sl false [])],[(.s ⟨#[]⟩),(.s ⟨#[122]⟩),(.i 2),(.s ⟨#[110,97,116]⟩),(.sl false []),(.sl false [])],[(.s ⟨#[]⟩),(.s ⟨#[115]⟩),(.i 6),(.s ⟨#[]⟩),(.sl false c9),(.sl false [])],[(.s ⟨#[]⟩),(.s ⟨#[112,108,117,115]⟩),(.i 6),(.s ⟨#[]⟩),(.sl false c40),(.sl false [])],[(.s ⟨#[]⟩),(.s ⟨#[112,122]⟩),(.i 4),(.s ⟨#[]⟩),(.sl false c37),(.sl false [])],[(.s ⟨#[]⟩),(.s ⟨#[112,115]⟩),(.i 6),(.s ⟨#[]⟩),(.sl false c69),(.sl false [])]]),(.i 0),(.i 0)]))
def M6 : FuncId × List PV × PV := (98,[(.sl false []),(.s ⟨#[110,97,116]⟩),(.agg [(.i 1),(.s ⟨#[]⟩),(.sl false [])])],(.tup [(.sl false [[(.s ⟨#[110,97,116]⟩),(.i 1),(.i 0),(.i 0),(.sl false []),(.i 0)]]),(.i 0)]))
def M7 : FuncId × List PV × PV := (98,[(.sl false [[(.s ⟨#[110,97,116]⟩),(.i 1),(.i 0),(.i 0),(.sl false []),(.i 0)]]),(.s ⟨#[122]⟩),(.agg [(.i 2),(.s ⟨#[110,97,116]⟩),(.sl false [])])],(.tup [(.sl false [[(.s ⟨#[110,97,116]⟩),(.i 1),(.i 0),(.i 0),(.sl false []),(.i 0)],[(.s ⟨#[122]⟩),(.i 4),(.i 2),(.i 0),(.sl false []),(.i 0)]]),(.i 0)]))
def M8 : FuncId × List PV × PV := (98,[(.sl false [[(.s ⟨#[110,97,116]⟩),(.i 1),(.i 0),(.i 0),(.sl false []),(.i 0)],[(.s ⟨#[122]⟩),(.i 4),(.i 2),(.i 0),(.sl false []),(.i 0)]]),(.s ⟨#[115]⟩),(.agg [(.i 6),(.s ⟨#[]⟩),(.sl false c9)])],(.tup [(.sl false c41),(.i 0)]))
def M9 : FuncId × List PV × PV := (30,[(.sl false c41)],(.i 0))
def M10 : FuncId × List PV × PV := (56,[(.sl false c41),(.agg [(.s ⟨#[112,108,117,115]⟩),(.i 2),(.i 0),(.i 0),(.sl false c36),(.i 0)])],(.b true))
def M11 : FuncId × List PV × PV := (98,[(.sl false c41),(.s ⟨#[112,108,117,115]⟩),(.agg [(.i 6),(.s ⟨#[]⟩),(.sl false c40)])],(.tup [(.sl false c66),(.i 0)]))
def M12 : FuncId × List PV × PV := (30,[(.sl false c66)],(.i 0))
def M13 : FuncId × List PV × PV := (134,[(.sl true []),(.agg [(.i 2),(.i 0),(.i 0),(.sl false c36)])],(.tup [(.agg [(.i 2),(.i 0),(.i 0),(.sl false c36)]),(.i 0)]))
def M14 : FuncId × List PV × PV := (192,[(.sl false c66),(.agg [(.sl false [[(.s ⟨#[78]⟩),(.i 4),(.i 2),(.i 0),(.sl false []),(.b false),(.i 0),(.i 0),(.i 0),(.sl false [])]]),(.sl false [])]),(.sl false []),(.agg [(.i 4),(.i 2),(.i 0),(.sl false [])]),(.agg [(.i 4),(.i 2),(.i 0),(.sl false [])])],(.tup [(.agg [(.sl false [[(.s ⟨#[78]⟩),(.i 4),(.i 2),(.i 0),(.sl false []),(.b false),(.i 0),(.i 0),(.i 0),(.sl false [])]]),(.sl false [])]),(.i 0)]))
def M15 : FuncId × List PV × PV := (217,[(.sl false [[(.s ⟨#[78]⟩),(.i 4),(.i 2),(.i 0),(.sl false []),(.b false),(.i 0),(.i 0),(.i 0),(.sl false [])]]),(.agg [(.i 4),(.i 2),(.i 3),(.sl false [[(.i 4),(.i 2),(.i 1),(.sl false [])],[(.i 4),(.i 3),(.i 0),(.sl false [])],[(.i 4),(.i 3),(.i 0),(.sl false [])]])])],(.tup [(.agg [(.i 2),(.i 0),(.i 0),(.sl false c30)]),(.i 1),(.i 0)]))
def M16 : FuncId × List PV × PV := (56,[(.sl false c66),(.agg [(.s ⟨#[112,122]⟩),(.i 2),(.i 0),(.i 0),(.sl false c30),(.i 1)])],(.b true))
def M17 : FuncId × List PV × PV := (159,[(.sl false c66),(.agg [(.s ⟨#[112,122]⟩),(.i 2),(.i 0),(.i 0),(.sl false c30),(.i 1)])],(.tup [(.sl false c74),(.i 0)]))
def M18 : FuncId × List PV × PV := (98,[(.sl false c66),(.s ⟨#[112,122]⟩),(.agg [(.i 4),(.s ⟨#[]⟩),(.sl false c37)])],(.tup [(.sl false c74),(.i 0)]))
def M19 : FuncId × List PV × PV := (30,[(.sl false c74)],(.i 0))
def M20 : FuncId × List PV × PV := (121,[(.sl true []),(.s ⟨#[77]⟩),(.sl true []),(.agg [(.i 4),(.i 2),(.i 0),(.sl false [])])],(.tup [(.sl false c10),(.agg [(.i 4),(.i 3),(.i 0),(.sl false [])]),(.i 0)]))
def M21 : FuncId × List PV × PV := (192,[(.sl false c74),(.agg [(.sl false c10),(.sl true [])]),(.sl false []),(.agg [(.i 4),(.i 2),(.i 0),(.sl false [])]),(.agg [(.i 4),(.i 2),(.i 0),(.sl false [])])],(.tup [(.agg [(.sl false c10),(.sl false [])]),(.i 0)]))
def M22 : FuncId × List PV × PV := (203,[(.agg [(.i 2),(.i 0),(.i 0),(.sl false c36)]),(.sl true [[(.i 4),(.i 3),(.i 0),(.sl false [])]])],(.tup [(.agg [(.i 2),(.i 0),(.i 0),(.sl false c16)]),(.i 0)]))
def M23 : FuncId × List PV × PV := (121,[(.sl false c10),(.s ⟨#[78]⟩),(.sl true []),(.agg [(.i 4),(.i 2),(.i 0),(.sl false [])])],(.tup [(.sl false c34),(.agg [(.i 4),(.i 3),(.i 1),(.sl false [])]),(.i 0)]))
def M24 : FuncId × List PV × PV := (192,[(.sl false c74),(.agg [(.sl false c34),(.sl false [])]),(.sl false []),(.agg [(.i 4),(.i 2),(.i 0),(.sl false [])]),(.agg [(.i 4),(.i 2),(.i 0),(.sl false [])])],(.tup [(.agg [(.sl false c34),(.sl false [])]),(.i 0)]))
def M25 : FuncId × List PV × PV := (203,[(.agg [(.i 2),(.i 0),(.i 0),(.sl false c16)]),(.sl true [[(.i 4),(.i 3),(.i 1),(.sl false [])]])],(.tup [(.agg [(.i 2),(.i 0),(.i 0),(.sl false c5)]),(.i 0)]))
def M26 : FuncId × List PV × PV := (121,[(.sl false c34),(.s ⟨#[80]⟩),(.sl true []),(.agg [(.i 4),(.i 2),(.i 0),(.sl false [])])],(.tup [(.sl false c45),(.agg [(.i 4),(.i 3),(.i 2),(.sl false [])]),(.i 0)]))
def M27 : FuncId × List PV × PV := (235,[(.agg [(.s ⟨#[77]⟩),(.i 4),(.i 2),(.i 0),(.sl false []),(.b false),(.i 0),(.i 0),(.i 0),(.sl false [])]),(.i 3)],(.b true))
def M28 : FuncId × List PV × PV := (235,[(.agg [(.s ⟨#[78]⟩),(.i 4),(.i 2),(.i 0),(.sl false []),(.b false),(.i 0),(.i 0),(.i 0),(.sl false [])]),(.i 3)],(.b true))
def M29 : FuncId × List PV × PV := (235,[(.agg [(.s ⟨#[80]⟩),(.i 4),(.i 2),(.i 0),(.sl false []),(.b false),(.i 0),(.i 0),(.i 0),(.sl false [])]),(.i 3)],(.b true))
def M30 : FuncId × List PV × PV := (236,[(.sl false c45),(.sl false [[(.i 0)],[(.i 1)],[(.i 2)]])],(.tup [(.agg [(.b true),(.b true),(.b true),(.b false),(.b false),(.b false),(.b false),(.b false),(.b false),(.b false),(.b false),(.b false),(.b false),(.b false),(.b false),(.b false),(.b false),(.b false),(.b false),(.b false),(.b false),(.b false),(.b false),(.b false),(.b false),(.b false),(.b false),(.b false),(.b false),(.b false),(.b false),(.b false),(.b false),(.b false),(.b false),(.b false),(.b false),(.b false),(.b false),(.b false),(.b false),(.b false),(.b false),(.b false),(.b false),(.b false),(.b false),(.b false),(.b false),(.b false),(.b false),(.b false),(.b false),(.b false),(.b false),(.b false),(.b false),(.b false),(.b false),(.b false),(.b false),(.b false),(.b false),(.b false),(.b false),(.b false),(.b false),(.b false),(.b false),(.b false),(.b false),(.b false),(.b false),(.b false),(.b false),(.b false),(.b false),(.b false),(.b false),(.b false)]),(.b false)]))
def M31 : FuncId × List PV × PV := (244,[(.sl false c74),(.sl false c45),(.i 0),(.sl true [])],(.tup [(.agg [(.sl false c45),(.sl false [])]),(.i 0)]))
def M32 : FuncId × List PV × PV := (134,[(.sl false c45),(.agg [(.i 2),(.i 0),(.i 0),(.sl false c36)])],(.tup [(.agg [(.i 2),(.i 0),(.i 0),(.sl false c36)]),(.i 0)]))
def M33 : FuncId × List PV × PV := (203,[(.agg [(.i 2),(.i 0),(.i 0),(.sl false c36)]),(.sl true [[(.i 4),(.i 2),(.i 2),(.sl false [[(.i 4),(.i 3),(.i 0),(.sl false [])]])]])],(.tup [(.agg [(.i 2),(.i 0),(.i 0),(.sl false c16)]),(.i 0)]))
def M34 : FuncId × List PV × PV := (198,[(.agg [(.i 4),(.i 2),(.i 3),(.sl false c22)]),(.i 1),(.i 0)],(.tup [(.agg [(.i 4),(.i 2),(.i 3),(.sl false c22)]),(.i 0)]))
def M35 : FuncId × List PV × PV := (217,[(.sl false c45),(.agg [(.i 2),(.i 0),(.i 0),(.sl false c48)])],(.tup [(.agg [(.i 2),(.i 0),(.i 0),(.sl false c68)]),(.i 3),(.i 0)]))
def M36 : FuncId × List PV × PV := (56,[(.sl false c74),(.agg [(.s ⟨#[112,115]⟩),(.i 2),(.i 0),(.i 0),(.sl false c68),(.i 3)])],(.b true))
def M37 : FuncId × List PV × PV := (95,[(.agg [(.i 2),(.i 0),(.i 0),(.sl false c68)])],(.agg [(.i 2),(.i 0),(.i 0),(.sl false c68)]))
def M38 : FuncId × List PV × PV := (159,[(.sl false c74),(.agg [(.s ⟨#[112,115]⟩),(.i 2),(.i 0),(.i 0),(.sl false c68),(.i 3)])],(.tup [(.sl false c75),(.i 0)]))
def M39 : FuncId × List PV × PV := (98,[(.sl false c74),(.s ⟨#[112,115]⟩),(.agg [(.i 6),(.s ⟨#[]⟩),(.sl false c69)])],(.tup [(.sl false c75),(.i 0)]))
def M40 : FuncId × List PV × PV := (13,[(.s ⟨#[110,97,116,32,58,32,116,121,112,101,46,32,122,32,58,32,110,97,116,46,32,115,32,58,32,110,97,116,32,45,62,32,110,97,116,46,32,112,108,117,115,32,58,32,110,97,116,32,45,62,32,110,97,116,32,45,62,32,110,97,116,32,45,62,32,116,121,112,101,46,32,112,122,32,58,32,112,108,117,115,32,122,32,78,32,78,46,32,112,115,32,58,32,112,108,117,115,32,40,115,32,77,41,32,78,32,40,115,32,80,41,32,60,45,32,112,108,117,115,32,77,32,78,32,80,46]⟩)],(.tup [(.agg [(.sl false c75),(.sl false [])]),(.i 0),(.i 0)]))
def M41 : FuncId × List PV × PV := (30,[(.sl false c75)],(.i 0))
def M42 : FuncId × List PV × PV := (28,[(.sl false c75),(.i 5)],(.tup [(.s ⟨#[112,115,32,58,32,112,108,117,115,32,88,49,32,88,50,32,88,51,32,45,62,32,112,108,117,115,32,40,115,32,88,49,41,32,88,50,32,40,115,32,88,51,41,46]⟩),(.i 0)]))
def M43 : FuncId × List PV × PV := (14,[(.agg [(.sl false c75),(.sl false [])])],(.tup [(.s ⟨#[110,97,116,32,58,32,116,121,112,101,46,10,122,32,58,32,110,97,116,46,10,115,32,58,32,110,97,116,32,45,62,32,110,97,116,46,10,112,108,117,115,32,58,32,110,97,116,32,45,62,32,110,97,116,32,45,62,32,110,97,116,32,45,62,32,116,121,112,101,46,10,112,122,32,58,32,112,108,117,115,32,122,32,88,49,32,88,49,46,10,112,115,32,58,32,112,108,117,115,32,88,49,32,88,50,32,88,51,32,45,62,32,112,108,117,115,32,40,115,32,88,49,41,32,88,50,32,40,115,32,88,51,41,46,10]⟩),(.i 0)]))
def M44 : FuncId × List PV × PV := (13,[(.s ⟨#[97,32,58,32,116,121,112,101,46,32,97,32,58,32,116,121,112,101,46]⟩)],(.tup [(.agg [(.sl false []),(.sl false [])]),(.i 1),(.i 21)]))
def M45 : FuncId × List PV × PV := (40,[(.agg [(.i 4),(.s ⟨#[]⟩),(.sl false c62)])],(.i 0))
def M46 : FuncId × List PV × PV := (31,[(.s ⟨#[112,108,117,115,32,40,115,32,40,115,32,122,41,41,32,122,32,40,115,32,40,115,32,122,41,41]⟩)],(.tup [(.agg [(.i 4),(.s ⟨#[]⟩),(.sl false c62)]),(.i 0),(.i 0)]))
def M47 : FuncId × List PV × PV := (40,[(.agg [(.i 4),(.s ⟨#[]⟩),(.sl false c21)])],(.i 0))
def M48 : FuncId × List PV × PV := (31,[(.s ⟨#[112,115,32,40,112,115,32,112,122,41]⟩)],(.tup [(.agg [(.i 4),(.s ⟨#[]⟩),(.sl false c21)]),(.i 0),(.i 0)]))
def M49 : FuncId × List PV × PV := (203,[(.agg [(.i 2),(.i 0),(.i 0),(.sl false c36)]),(.sl true [[(.i 4),(.i 2),(.i 2),(.sl false c3)]])],(.tup [(.agg [(.i 2),(.i 0),(.i 0),(.sl false c16)]),(.i 0)]))
def M50 : FuncId × List PV × PV := (203,[(.agg [(.i 2),(.i 0),(.i 0),(.sl false c16)]),(.sl true [[(.i 4),(.i 2),(.i 1),(.sl false [])]])],(.tup [(.agg [(.i 2),(.i 0),(.i 0),(.sl false c5)]),(.i 0)]))
def M51 : FuncId × List PV × PV := (134,[(.sl false []),(.agg [(.i 4),(.i 2),(.i 3),(.sl false c42)])],(.tup [(.agg [(.i 4),(.i 2),(.i 3),(.sl false c42)]),(.i 0)]))
def M52 : FuncId × List PV × PV := (63,[(.agg [(.i 4),(.i 2),(.i 3),(.sl false c42)])],(.tup [(.sl false []),(.i 0)]))
def M53 : FuncId × List PV × PV := (32,[(.sl false c75),(.agg [(.i 4),(.s ⟨#[]⟩),(.sl false c62)])],(.tup [(.agg [(.i 4),(.i 2),(.i 3),(.sl false c42)]),(.i 0)]))
def M54 : FuncId × List PV × PV := (65,[(.agg [(.i 4),(.i 2),(.i 3),(.sl false c42)])],(.tup [(.sl false []),(.i 0)]))
def M55 : FuncId × List PV × PV := (66,[(.agg [(.i 4),(.i 2),(.i 3),(.sl false c42)]),(.i 0)],(.b true))
def M56 : FuncId × List PV × PV := (134,[(.sl true []),(.agg [(.i 4),(.i 2),(.i 3),(.sl false c42)])],(.tup [(.agg [(.i 4),(.i 2),(.i 3),(.sl false c42)]),(.i 0)]))
def M57 : FuncId × List PV × PV := (118,[(.agg [(.i 2),(.i 0),(.i 0),(.sl false c68)]),(.fn (.func 119) [])],(.tup [(.sl false []),(.i 0)]))
def M58 : FuncId × List PV × PV := (203,[(.agg [(.i 2),(.i 0),(.i 0),(.sl false c68)]),(.sl true [[(.i 4),(.i 3),(.i 0),(.sl false [])]])],(.tup [(.agg [(.i 2),(.i 0),(.i 0),(.sl false c64)]),(.i 0)]))
def M59 : FuncId × List PV × PV := (191,[(.sl false [[(.s ⟨#[]⟩),(.i 4),(.i 2),(.i 0),(.sl false []),(.b false),(.i 0),(.i 0),(.i 0),(.sl false [])]]),(.s ⟨#[]⟩),(.sl false []),(.agg [(.i 4),(.i 2),(.i 0),(.sl false [])])],(.tup [(.sl false c33),(.agg [(.i 4),(.i 3),(.i 1),(.sl false [])]),(.i 0)]))
def M60 : FuncId × List PV × PV := (203,[(.agg [(.i 2),(.i 0),(.i 0),(.sl false c64)]),(.sl true [[(.i 4),(.i 3),(.i 1),(.sl false [])]])],(.tup [(.agg [(.i 2),(.i 0),(.i 0),(.sl false c58)]),(.i 0)]))
def M61 : FuncId × List PV × PV := (191,[(.sl false c33),(.s ⟨#[]⟩),(.sl false []),(.agg [(.i 4),(.i 2),(.i 0),(.sl false [])])],(.tup [(.sl false c44),(.agg [(.i 4),(.i 3),(.i 2),(.sl false [])]),(.i 0)]))
def M62 : FuncId × List PV × PV := (203,[(.agg [(.i 2),(.i 0),(.i 0),(.sl false c58)]),(.sl true [[(.i 4),(.i 3),(.i 2),(.sl false [])]])],(.tup [(.agg [(.i 2),(.i 0),(.i 0),(.sl false c48)]),(.i 0)]))
def M63 : FuncId × List PV × PV := (134,[(.sl false c44),(.agg [(.i 2),(.i 0),(.i 0),(.sl false c48)])],(.tup [(.agg [(.i 2),(.i 0),(.i 0),(.sl false c48)]),(.i 0)]))
def M64 : FuncId × List PV × PV := (189,[(.sl false c44)],(.i 0))
def M65 : FuncId × List PV × PV := (203,[(.agg [(.i 2),(.i 0),(.i 0),(.sl false c68)]),(.sl true [[(.i 4),(.i 3),(.i 3),(.sl false [])]])],(.tup [(.agg [(.i 2),(.i 0),(.i 0),(.sl false c65)]),(.i 0)]))
def M66 : FuncId × List PV × PV := (191,[(.sl false [[(.s ⟨#[]⟩),(.i 4),(.i 2),(.i 0),(.sl false []),(.b false),(.i 0),(.i 0),(.i 0),(.sl false [])],[(.s ⟨#[]⟩),(.i 4),(.i 2),(.i 0),(.sl false []),(.b false),(.i 0),(.i 0),(.i 0),(.sl false [])],[(.s ⟨#[]⟩),(.i 4),(.i 2),(.i 0),(.sl false []),(.b false),(.i 0),(.i 0),(.i 0),(.sl false [])],[(.s ⟨#[]⟩),(.i 4),(.i 2),(.i 0),(.sl false []),(.b false),(.i 0),(.i 0),(.i 0),(.sl false [])]]),(.s ⟨#[]⟩),(.sl false []),(.agg [(.i 4),(.i 2),(.i 0),(.sl false [])])],(.tup [(.sl false c61),(.agg [(.i 4),(.i 3),(.i 4),(.sl false [])]),(.i 0)]))
def M67 : FuncId × List PV × PV := (203,[(.agg [(.i 2),(.i 0),(.i 0),(.sl false c65)]),(.sl true [[(.i 4),(.i 3),(.i 4),(.sl false [])]])],(.tup [(.agg [(.i 2),(.i 0),(.i 0),(.sl false c60)]),(.i 0)]))
def M68 : FuncId × List PV × PV := (191,[(.sl false c61),(.s ⟨#[]⟩),(.sl false []),(.agg [(.i 4),(.i 2),(.i 0),(.sl false [])])],(.tup [(.sl false c67),(.agg [(.i 4),(.i 3),(.i 5),(.sl false [])]),(.i 0)]))
def M69 : FuncId × List PV × PV := (203,[(.agg [(.i 2),(.i 0),(.i 0),(.sl false c60)]),(.sl true [[(.i 4),(.i 3),(.i 5),(.sl false [])]])],(.tup [(.agg [(.i 2),(.i 0),(.i 0),(.sl false c54)]),(.i 0)]))
def M70 : FuncId × List PV × PV := (134,[(.sl false c67),(.agg [(.i 2),(.i 0),(.i 0),(.sl false c54)])],(.tup [(.agg [(.i 2),(.i 0),(.i 0),(.sl false c54)]),(.i 0)]))
def M71 : FuncId × List PV × PV := (235,[(.agg [(.s ⟨#[]⟩),(.i 4),(.i 2),(.i 0),(.sl false []),(.b false),(.i 0),(.i 0),(.i 0),(.sl false [])]),(.i 6)],(.b true))
def M72 : FuncId × List PV × PV := (189,[(.sl false c67)],(.i 0))
def M73 : FuncId × List PV × PV := (203,[(.agg [(.i 2),(.i 0),(.i 0),(.sl false c30)]),(.sl true [[(.i 4),(.i 3),(.i 6),(.sl false [])]])],(.tup [(.agg [(.i 4),(.i 2),(.i 3),(.sl false [[(.i 4),(.i 2),(.i 1),(.sl false [])],[(.i 4),(.i 3),(.i 6),(.sl false [])],[(.i 4),(.i 3),(.i 6),(.sl false [])]])]),(.i 0)]))
def M74 : FuncId × List PV × PV := (235,[(.agg [(.s ⟨#[]⟩),(.i 4),(.i 2),(.i 0),(.sl false []),(.b false),(.i 0),(.i 0),(.i 0),(.sl false [])]),(.i 7)],(.b true))
def M75 : FuncId × List PV × PV := (376,[(.sl false [[(.s ⟨#[]⟩),(.i 4),(.i 2),(.i 0),(.sl false []),(.b false),(.i 0),(.i 0),(.i 0),(.sl false [])],[(.s ⟨#[]⟩),(.i 4),(.i 2),(.i 0),(.sl false []),(.b false),(.i 0),(.i 0),(.i 0),(.sl false [])],[(.s ⟨#[]⟩),(.i 4),(.i 2),(.i 0),(.sl false []),(.b false),(.i 0),(.i 0),(.i 0),(.sl false [])],[(.s ⟨#[]⟩),(.i 4),(.i 2),(.i 0),(.sl false []),(.b true),(.i 4),(.i 2),(.i 1),(.sl false [])],[(.s ⟨#[]⟩),(.i 4),(.i 2),(.i 0),(.sl false []),(.b false),(.i 0),(.i 0),(.i 0),(.sl false [])],[(.s ⟨#[]⟩),(.i 4),(.i 2),(.i 0),(.sl false []),(.b false),(.i 0),(.i 0),(.i 0),(.sl false [])],[(.s ⟨#[]⟩),(.i 4),(.i 2),(.i 0),(.sl false []),(.b true),(.i 4),(.i 3),(.i 4),(.sl false [])]]),(.i 5),(.agg [(.i 4),(.i 3),(.i 4),(.sl false [])])],(.tup [(.sl false c70),(.i 0)]))
def M76 : FuncId × List PV × PV := (235,[(.agg [(.s ⟨#[]⟩),(.i 4),(.i 2),(.i 0),(.sl false []),(.b true),(.i 4),(.i 2),(.i 1),(.sl false [])]),(.i 7)],(.b true))
def M77 : FuncId × List PV × PV := (230,[(.sl false c70)],(.tup [(.sl false c70),(.i 0)]))
def M78 : FuncId × List PV × PV := (244,[(.sl false c75),(.sl false c71),(.i 0),(.sl false [[(.sl false []),(.i 4),(.i 2),(.i 1),(.sl false []),(.i 4),(.i 3),(.i 3),(.sl false []),(.i 4),(.i 2),(.i 0),(.sl false [])],[(.sl false []),(.i 4),(.i 3),(.i 6),(.sl false []),(.i 4),(.i 3),(.i 4),(.sl false []),(.i 4),(.i 2),(.i 0),(.sl false [])],[(.sl false []),(.i 4),(.i 3),(.i 6),(.sl false []),(.i 4),(.i 3),(.i 5),(.sl false []),(.i 4),(.i 2),(.i 0),(.sl false [])]])],(.tup [(.agg [(.sl false c70),(.sl false [])]),(.i 0)]))
def M79 : FuncId × List PV × PV := (192,[(.sl false c75),(.agg [(.sl false c71),(.sl true [])]),(.sl false []),(.agg [(.i 4),(.i 2),(.i 3),(.sl false [[(.i 4),(.i 2),(.i 1),(.sl false [])],[(.i 4),(.i 3),(.i 6),(.sl false [])],[(.i 4),(.i 3),(.i 6),(.sl false [])]])]),(.agg [(.i 4),(.i 2),(.i 3),(.sl false c14)])],(.tup [(.agg [(.sl false c70),(.sl false [])]),(.i 0)]))
def M80 : FuncId × List PV × PV := (203,[(.agg [(.i 2),(.i 0),(.i 0),(.sl false c54)]),(.sl true [[(.i 4),(.i 2),(.i 4),(.sl false [[(.i 4),(.i 3),(.i 6),(.sl false [])]])]])],(.tup [(.agg [(.i 4),(.i 2),(.i 3),(.sl false c28)]),(.i 0)]))
def M81 : FuncId × List PV × PV := (134,[(.sl false c70),(.agg [(.i 4),(.i 2),(.i 3),(.sl false c28)])],(.tup [(.agg [(.i 4),(.i 2),(.i 3),(.sl false c29)]),(.i 0)]))
def M82 : FuncId × List PV × PV := (376,[(.sl false [[(.s ⟨#[]⟩),(.i 4),(.i 2),(.i 0),(.sl false []),(.b true),(.i 4),(.i 2),(.i 2),(.sl false [[(.i 4),(.i 2),(.i 1),(.sl false [])]])],[(.s ⟨#[]⟩),(.i 4),(.i 2),(.i 0),(.sl false []),(.b false),(.i 0),(.i 0),(.i 0),(.sl false [])],[(.s ⟨#[]⟩),(.i 4),(.i 2),(.i 0),(.sl false []),(.b false),(.i 0),(.i 0),(.i 0),(.sl false [])],[(.s ⟨#[]⟩),(.i 4),(.i 2),(.i 0),(.sl false []),(.b true),(.i 4),(.i 2),(.i 1),(.sl false [])],[(.s ⟨#[]⟩),(.i 4),(.i 2),(.i 0),(.sl false []),(.b false),(.i 0),(.i 0),(.i 0),(.sl false [])],[(.s ⟨#[]⟩),(.i 4),(.i 2),(.i 0),(.sl false []),(.b true),(.i 4),(.i 3),(.i 4),(.sl false [])],[(.s ⟨#[]⟩),(.i 4),(.i 2),(.i 0),(.sl false []),(.b true),(.i 4),(.i 3),(.i 4),(.sl false [])]]),(.i 4),(.agg [(.i 4),(.i 3),(.i 1),(.sl false [])])],(.tup [(.sl false [[(.s ⟨#[]⟩),(.i 4),(.i 2),(.i 0),(.sl false []),(.b true),(.i 4),(.i 2),(.i 2),(.sl false [[(.i 4),(.i 2),(.i 1),(.sl false [])]])],[(.s ⟨#[]⟩),(.i 4),(.i 2),(.i 0),(.sl false []),(.b false),(.i 0),(.i 0),(.i 0),(.sl false [])],[(.s ⟨#[]⟩),(.i 4),(.i 2),(.i 0),(.sl false []),(.b false),(.i 0),(.i 0),(.i 0),(.sl false [])],[(.s ⟨#[]⟩),(.i 4),(.i 2),(.i 0),(.sl false []),(.b true),(.i 4),(.i 2),(.i 1),(.sl false [])],[(.s ⟨#[]⟩),(.i 4),(.i 2),(.i 0),(.sl false []),(.b true),(.i 4),(.i 3),(.i 1),(.sl false [])],[(.s ⟨#[]⟩),(.i 4),(.i 2),(.i 0),(.sl false []),(.b true),(.i 4),(.i 3),(.i 1),(.sl false [])],[(.s ⟨#[]⟩),(.i 4),(.i 2),(.i 0),(.sl false []),(.b true),(.i 4),(.i 3),(.i 1),(.sl false [])]]),(.i 0)]))
def M83 : FuncId × List PV × PV := (235,[(.agg [(.s ⟨#[]⟩),(.i 4),(.i 2),(.i 0),(.sl false []),(.b true),(.i 4),(.i 3),(.i 1),(.sl false [])]),(.i 7)],(.b true))
def M84 : FuncId × List PV × PV := (189,[(.sl false c73)],(.i 0))
def M85 : FuncId × List PV × PV := (244,[(.sl false c75),(.sl false c70),(.i 0),(.sl false [[(.sl false []),(.i 4),(.i 2),(.i 2),(.sl false [[(.i 4),(.i 2),(.i 1),(.sl false [])]]),(.i 4),(.i 3),(.i 0),(.sl false []),(.i 4),(.i 2),(.i 0),(.sl false [])],[(.sl false []),(.i 4),(.i 3),(.i 4),(.sl false []),(.i 4),(.i 3),(.i 1),(.sl false []),(.i 4),(.i 2),(.i 0),(.sl false [])],[(.sl false []),(.i 4),(.i 2),(.i 2),(.sl false [[(.i 4),(.i 3),(.i 4),(.sl false [])]]),(.i 4),(.i 3),(.i 2),(.sl false []),(.i 4),(.i 2),(.i 0),(.sl false [])]])],(.tup [(.agg [(.sl false c73),(.sl false [])]),(.i 0)]))
def M86 : FuncId × List PV × PV := (192,[(.sl false c75),(.agg [(.sl false c70),(.sl false [])]),(.sl false []),(.agg [(.i 4),(.i 2),(.i 3),(.sl false c29)]),(.agg [(.i 4),(.i 2),(.i 3),(.sl false c13)])],(.tup [(.agg [(.sl false c73),(.sl false [])]),(.i 0)]))
def M87 : FuncId × List PV × PV := (203,[(.agg [(.i 2),(.i 0),(.i 0),(.sl false c48)]),(.sl true [[(.i 4),(.i 2),(.i 5),(.sl false c31)]])],(.tup [(.agg [(.i 4),(.i 2),(.i 3),(.sl false c22)]),(.i 0)]))
def M88 : FuncId × List PV × PV := (134,[(.sl false c73),(.agg [(.i 4),(.i 2),(.i 3),(.sl false c22)])],(.tup [(.agg [(.i 4),(.i 2),(.i 3),(.sl false c43)]),(.i 0)]))
def M89 : FuncId × List PV × PV := (134,[(.sl false c73),(.agg [(.i 4),(.i 2),(.i 3),(.sl false c42)])],(.tup [(.agg [(.i 4),(.i 2),(.i 3),(.sl false c42)]),(.i 0)]))
def M90 : FuncId × List PV × PV := (198,[(.agg [(.i 4),(.i 2),(.i 5),(.sl false c31)]),(.i 0),(.i 0)],(.tup [(.agg [(.i 4),(.i 2),(.i 5),(.sl false c31)]),(.i 0)]))
def M91 : FuncId × List PV × PV := (230,[(.sl false c72)],(.tup [(.sl false c72),(.i 0)]))
def M92 : FuncId × List PV × PV := (192,[(.sl false c75),(.agg [(.sl false c73),(.sl false [])]),(.sl false []),(.agg [(.i 4),(.i 2),(.i 3),(.sl false c43)]),(.agg [(.i 4),(.i 2),(.i 3),(.sl false c42)])],(.tup [(.agg [(.sl false c72),(.sl false [])]),(.i 0)]))
def M93 : FuncId × List PV × PV := (134,[(.sl false c72),(.agg [(.i 4),(.i 2),(.i 5),(.sl false [[(.i 4),(.i 3),(.i 0),(.sl false [])],[(.i 4),(.i 3),(.i 1),(.sl false [])],[(.i 4),(.i 3),(.i 2),(.sl false [])],[(.i 4),(.i 2),(.i 5),(.sl false c31)]])])],(.tup [(.agg [(.i 4),(.i 2),(.i 5),(.sl false c55)]),(.i 0)]))
def M94 : FuncId × List PV × PV := (63,[(.agg [(.i 4),(.i 2),(.i 5),(.sl false c55)])],(.tup [(.sl false []),(.i 0)]))
def M95 : FuncId × List PV × PV := (4,[(.sl false c75),(.agg [(.i 4),(.i 2),(.i 5),(.sl false c55)])],(.tup [(.s ⟨#[112,115,32,40,112,115,32,112,122,41]⟩),(.i 0)]))
theorem M0_ok : OKM M0 := runV_k (mem := []) trivial (k := 3000) (by kernel_rfl)
theorem M1_ok : OKM M1 := runV_k (mem := []) trivial (k := 3000) (by kernel_rfl)
theorem M2_ok : OKM M2 := runV_k (mem := []) trivial (k := 3000) (by kernel_rfl)
theorem M3_ok : OKM M3 := runV_k (mem := []) trivial (k := 3000) (by kernel_rfl)
theorem M4_ok : OKM M4 := runV_k (mem := []) trivial (k := 3000) (by kernel_rfl)
theorem M5_ok : OKM M5 := runV_k (mem := [M0,M1,M2,M3,M4]) ⟨M0_ok,M1_ok,M2_ok,M3_ok,M4_ok,trivial⟩ (k := 3000) (by kernel_rfl)
theorem M6_ok : OKM M6 := runV_k (mem := []) trivial (k := 3000) (by kernel_rfl)
theorem M7_ok : OKM M7 := runV_k (mem := []) trivial (k := 3000) (by kernel_rfl)
theorem M8_ok : OKM M8 := runV_k (mem := []) trivial (k := 3000) (by kernel_rfl)
theorem M9_ok : OKM M9 := runV_k (mem := []) trivial (k := 3000) (by kernel_rfl)
theorem M10_ok : OKM M10 := runV_k (mem := []) trivial (k := 3000) (by kernel_rfl)
theorem M11_ok : OKM M11 := runV_k (mem := [M9,M2,M10]) ⟨M9_ok,M2_ok,M10_ok,trivial⟩ (k := 3000) (by kernel_rfl)
theorem M12_ok : OKM M12 := runV_k (mem := [M10]) ⟨M10_ok,trivial⟩ (k := 3000) (by kernel_rfl)
theorem M13_ok : OKM M13 := runV_k (mem := []) trivial (k := 3000) (by kernel_rfl)
theorem M14_ok : OKM M14 := runV_k (mem := []) trivial (k := 3000) (by kernel_rfl)
theorem M15_ok : OKM M15 := runV_k (mem := []) trivial (k := 3000) (by kernel_rfl)
theorem M16_ok : OKM M16 := runV_k (mem := []) trivial (k := 3000) (by kernel_rfl)
theorem M17_ok : OKM M17 := runV_k (mem := [M12,M16]) ⟨M12_ok,M16_ok,trivial⟩ (k := 3000) (by kernel_rfl)
theorem M18_ok : OKM M18 := runV_k (mem := [M12,M13,M14,M15,M17]) ⟨M12_ok,M13_ok,M14_ok,M15_ok,M17_ok,trivial⟩ (k := 3000) (by kernel_rfl)
theorem M19_ok : OKM M19 := runV_k (mem := [M10,M16]) ⟨M10_ok,M16_ok,trivial⟩ (k := 3000) (by kernel_rfl)
theorem M20_ok : OKM M20 := runV_k (mem := []) trivial (k := 3000) (by kernel_rfl)
theorem M21_ok : OKM M21 := runV_k (mem := []) trivial (k := 3000) (by kernel_rfl)
theorem M22_ok : OKM M22 := runV_k (mem := []) trivial (k := 3000) (by kernel_rfl)
theorem M23_ok : OKM M23 := runV_k (mem := []) trivial (k := 3000) (by kernel_rfl)
theorem M24_ok : OKM M24 := runV_k (mem := []) trivial (k := 3000) (by kernel_rfl)
theorem M25_ok : OKM M25 := runV_k (mem := []) trivial (k := 3000) (by kernel_rfl)
theorem M26_ok : OKM M26 := runV_k (mem := []) trivial (k := 3000) (by kernel_rfl)
theorem M27_ok : OKM M27 := runV_k (mem := []) trivial (k := 3000) (by kernel_rfl)
theorem M28_ok : OKM M28 := runV_k (mem := []) trivial (k := 3000) (by kernel_rfl)
theorem M29_ok : OKM M29 := runV_k (mem := []) trivial (k := 3000) (by kernel_rfl)
theorem M30_ok : OKM M30 := runV_k (mem := []) trivial (k := 3000) (by kernel_rfl)
theorem M31_ok : OKM M31 := runV_k (mem := [M27,M28,M29,M30]) ⟨M27_ok,M28_ok,M29_ok,M30_ok,trivial⟩ (k := 3000) (by kernel_rfl)
theorem M32_ok : OKM M32 := runV_k (mem := []) trivial (k := 3000) (by kernel_rfl)
theorem M33_ok : OKM M33 := runV_k (mem := []) trivial (k := 3000) (by kernel_rfl)
theorem M34_ok : OKM M34 := runV_k (mem := []) trivial (k := 3000) (by kernel_rfl)
theorem M35_ok : OKM M35 := runV_k (mem := [M27,M28,M29,M30]) ⟨M27_ok,M28_ok,M29_ok,M30_ok,trivial⟩ (k := 3000) (by kernel_rfl)
theorem M36_ok : OKM M36 := runV_k (mem := []) trivial (k := 3000) (by kernel_rfl)
theorem M37_ok : OKM M37 := runV_k (mem := []) trivial (k := 3000) (by kernel_rfl)
theorem M38_ok : OKM M38 := runV_k (mem := [M19,M36,M37]) ⟨M19_ok,M36_ok,M37_ok,trivial⟩ (k := 3000) (by kernel_rfl)
theorem M39_ok : OKM M39 := runV_k (mem := [M19,M4,M13,M20,M21,M22,M23,M24,M25,M26,M31,M32,M33,M34,M35,M38]) ⟨M19_ok,M4_ok,M13_ok,M20_ok,M21_ok,M22_ok,M23_ok,M24_ok,M25_ok,M26_ok,M31_ok,M32_ok,M33_ok,M34_ok,M35_ok,M38_ok,trivial⟩ (k := 3000) (by kernel_rfl)
theorem M40_ok : OKM M40 := runV_k (mem := [M5,M6,M7,M8,M11,M18,M39]) ⟨M5_ok,M6_ok,M7_ok,M8_ok,M11_ok,M18_ok,M39_ok,trivial⟩ (k := 3000) (by kernel_rfl)
theorem M41_ok : OKM M41 := runV_k (mem := [M10,M16,M36]) ⟨M10_ok,M16_ok,M36_ok,trivial⟩ (k := 3000) (by kernel_rfl)
theorem M42_ok : OKM M42 := runV_k (mem := [M41]) ⟨M41_ok,trivial⟩ (k := 3000) (by kernel_rfl)
theorem M43_ok : OKM M43 := runV_k (mem := [M41,M1,M2,M42]) ⟨M41_ok,M1_ok,M2_ok,M42_ok,trivial⟩ (k := 3000) (by kernel_rfl)
theorem M44_ok : OKM M44 := runV_k (mem := []) trivial (k := 3000) (by kernel_rfl)
theorem M45_ok : OKM M45 := runV_k (mem := []) trivial (k := 3000) (by kernel_rfl)
theorem M46_ok : OKM M46 := runV_k (mem := [M45]) ⟨M45_ok,trivial⟩ (k := 3000) (by kernel_rfl)
theorem M47_ok : OKM M47 := runV_k (mem := []) trivial (k := 3000) (by kernel_rfl)
theorem M48_ok : OKM M48 := runV_k (mem := [M47]) ⟨M47_ok,trivial⟩ (k := 3000) (by kernel_rfl)
theorem M49_ok : OKM M49 := runV_k (mem := []) trivial (k := 3000) (by kernel_rfl)
theorem M50_ok : OKM M50 := runV_k (mem := []) trivial (k := 3000) (by kernel_rfl)
theorem M51_ok : OKM M51 := runV_k (mem := []) trivial (k := 3000) (by kernel_rfl)
theorem M52_ok : OKM M52 := runV_k (mem := []) trivial (k := 3000) (by kernel_rfl)
theorem M53_ok : OKM M53 := runV_k (mem := [M41,M45,M13,M49,M50,M51,M52]) ⟨M41_ok,M45_ok,M13_ok,M49_ok,M50_ok,M51_ok,M52_ok,trivial⟩ (k := 3000) (by kernel_rfl)
theorem M54_ok : OKM M54 := runV_k (mem := []) trivial (k := 3000) (by kernel_rfl)
theorem M55_ok : OKM M55 := runV_k (mem := [M52]) ⟨M52_ok,trivial⟩ (k := 3000) (by kernel_rfl)
theorem M56_ok : OKM M56 := runV_k (mem := []) trivial (k := 3000) (by kernel_rfl)
theorem M57_ok : OKM M57 := runV_k (mem := []) trivial (k := 3000) (by kernel_rfl)
theorem M58_ok : OKM M58 := runV_k (mem := []) trivial (k := 3000) (by kernel_rfl)
theorem M59_ok : OKM M59 := runV_k (mem := []) trivial (k := 3000) (by kernel_rfl)
theorem M60_ok : OKM M60 := runV_k (mem := []) trivial (k := 3000) (by kernel_rfl)
theorem M61_ok : OKM M61 := runV_k (mem := []) trivial (k := 3000) (by kernel_rfl)
theorem M62_ok : OKM M62 := runV_k (mem := []) trivial (k := 3000) (by kernel_rfl)
theorem M63_ok : OKM M63 := runV_k (mem := []) trivial (k := 3000) (by kernel_rfl)
theorem M64_ok : OKM M64 := runV_k (mem := []) trivial (k := 3000) (by kernel_rfl)
theorem M65_ok : OKM M65 := runV_k (mem := []) trivial (k := 3000) (by kernel_rfl)
theorem M66_ok : OKM M66 := runV_k (mem := []) trivial (k := 3000) (by kernel_rfl)
theorem M67_ok : OKM M67 := runV_k (mem := []) trivial (k := 3000) (by kernel_rfl)
theorem M68_ok : OKM M68 := runV_k (mem := []) trivial (k := 3000) (by kernel_rfl)
theorem M69_ok : OKM M69 := runV_k (mem := []) trivial (k := 3000) (by kernel_rfl)
theorem M70_ok : OKM M70 := runV_k (mem := []) trivial (k := 3000) (by kernel_rfl)
theorem M71_ok : OKM M71 := runV_k (mem := []) trivial (k := 3000) (by kernel_rfl)
theorem M72_ok : OKM M72 := runV_k (mem := [M71]) ⟨M71_ok,trivial⟩ (k := 3000) (by kernel_rfl)
theorem M73_ok : OKM M73 := runV_k (mem := []) trivial (k := 3000) (by kernel_rfl)
theorem M74_ok : OKM M74 := runV_k (mem := []) trivial (k := 3000) (by kernel_rfl)
theorem M75_ok : OKM M75 := runV_k (mem := []) trivial (k := 3000) (by kernel_rfl)
theorem M76_ok : OKM M76 := runV_k (mem := []) trivial (k := 3000) (by kernel_rfl)
theorem M77_ok : OKM M77 := runV_k (mem := [M74,M76]) ⟨M74_ok,M76_ok,trivial⟩ (k := 3000) (by kernel_rfl)
theorem M78_ok : OKM M78 := runV_k (mem := [M74,M75,M77]) ⟨M74_ok,M75_ok,M77_ok,trivial⟩ (k := 3000) (by kernel_rfl)
theorem M79_ok : OKM M79 := runV_k (mem := [M78]) ⟨M78_ok,trivial⟩ (k := 3000) (by kernel_rfl)
theorem M80_ok : OKM M80 := runV_k (mem := []) trivial (k := 3000) (by kernel_rfl)
theorem M81_ok : OKM M81 := runV_k (mem := []) trivial (k := 3000) (by kernel_rfl)
theorem M82_ok : OKM M82 := runV_k (mem := []) trivial (k := 3000) (by kernel_rfl)
theorem M83_ok : OKM M83 := runV_k (mem := []) trivial (k := 3000) (by kernel_rfl)
theorem M84_ok : OKM M84 := runV_k (mem := [M74,M76,M83]) ⟨M74_ok,M76_ok,M83_ok,trivial⟩ (k := 3000) (by kernel_rfl)
theorem M85_ok : OKM M85 := runV_k (mem := [M77,M82,M84]) ⟨M77_ok,M82_ok,M84_ok,trivial⟩ (k := 3000) (by kernel_rfl)
theorem M86_ok : OKM M86 := runV_k (mem := [M85]) ⟨M85_ok,trivial⟩ (k := 3000) (by kernel_rfl)
theorem M87_ok : OKM M87 := runV_k (mem := []) trivial (k := 3000) (by kernel_rfl)
theorem M88_ok : OKM M88 := runV_k (mem := []) trivial (k := 3000) (by kernel_rfl)
theorem M89_ok : OKM M89 := runV_k (mem := []) trivial (k := 3000) (by kernel_rfl)
theorem M90_ok : OKM M90 := runV_k (mem := []) trivial (k := 3000) (by kernel_rfl)
theorem M91_ok : OKM M91 := runV_k (mem := [M76]) ⟨M76_ok,trivial⟩ (k := 3000) (by kernel_rfl)
theorem M92_ok : OKM M92 := runV_k (mem := [M49,M25,M84,M91]) ⟨M49_ok,M25_ok,M84_ok,M91_ok,trivial⟩ (k := 3000) (by kernel_rfl)
theorem M93_ok : OKM M93 := runV_k (mem := []) trivial (k := 3000) (by kernel_rfl)
theorem M94_ok : OKM M94 := runV_k (mem := []) trivial (k := 3000) (by kernel_rfl)
theorem M95_ok : OKM M95 := runV_k (mem := [M41,M47]) ⟨M41_ok,M47_ok,trivial⟩ (k := 3000) (by kernel_rfl)
end Go.Ev.A_law11_awake
namespace Go.Ev
open A_law11_awake
set_option maxRecDepth 100000
theorem awake_law11_awake : runV TT HH [] n_law11_awake [] [] = some (.ret (.b true),[]) := runV_k (mem := [M40,M43,M44,M41,M46,M48,M53,M47,M54,M55,M56,M57,M37,M58,M59,M60,M61,M62,M63,M64,M65,M66,M67,M68,M69,M70,M72,M73,M79,M80,M81,M86,M87,M88,M89,M90,M92,M93,M94,M95]) ⟨M40_ok,M43_ok,M44_ok,M41_ok,M46_ok,M48_ok,M53_ok,M47_ok,M54_ok,M55_ok,M56_ok,M57_ok,M37_ok,M58_ok,M59_ok,M60_ok,M61_ok,M62_ok,M63_ok,M64_ok,M65_ok,M66_ok,M67_ok,M68_ok,M69_ok,M70_ok,M72_ok,M73_ok,M79_ok,M80_ok,M81_ok,M86_ok,M87_ok,M88_ok,M89_ok,M90_ok,M92_ok,M93_ok,M94_ok,M95_ok,trivial⟩ (k := 3000) (by kernel_rfl)
end Go.Ev

