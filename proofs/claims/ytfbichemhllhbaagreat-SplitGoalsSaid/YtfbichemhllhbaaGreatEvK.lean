/- The closed part of the law, evaluated by the kernel, in parts: closed calls and what they come to. -/
import Derived.Test.YtfbichemhllhbaaGreatEvG
import Derived.Test.YtfbichemhllhbaaGreatEvD
set_option linter.unnecessarySimpa false
set_option linter.unusedVariables false
set_option linter.unusedSimpArgs false
set_option linter.unusedSectionVars false
namespace Go.Ev.A_law17_awake
set_option maxRecDepth 100000
def c0:List (List PV):=[[(.i 4),(.i 2),(.i 0),(.sl false [])],[(.i 4),(.i 2),(.i 0),(.sl false [])]]
def c1:List (List PV):=[[(.i 4),(.i 2),(.i 0),(.sl false [])],[(.i 1),(.i 0),(.i 0),(.sl false [])]]
def c2:List (List PV):=[[(.s ⟨#[]⟩),(.i 4),(.i 2),(.i 0),(.sl false []),(.b false),(.i 0),(.i 0),(.i 0),(.sl false [])]]
def c3:List (List PV):=[[(.s ⟨#[110,97,116]⟩),(.i 1),(.i 0),(.i 0),(.sl false []),(.i 0)],[(.s ⟨#[122]⟩),(.i 4),(.i 2),(.i 0),(.sl false []),(.i 0)],[(.s ⟨#[115]⟩),(.i 2),(.i 0),(.i 0),(.sl false c0),(.i 0)],[(.s ⟨#[101,118,101,110]⟩),(.i 2),(.i 0),(.i 0),(.sl false c1),(.i 0)]]
abbrev OKM (m:FuncId×List PV×PV):Prop:=az TT HH [] m.1 m.2.1 []=some (.ret m.2.2,[])
def M0:FuncId×List PV×PV:=(112,[(.sl false c3)],(.i 0))
def M1:FuncId×List PV×PV:=(89,[(.agg [(.s ⟨#[]⟩),(.i 4),(.i 2),(.i 0),(.sl false []),(.b false),(.i 0),(.i 0),(.i 0),(.sl false [])]),(.i 1)],(.b true))
def M2:FuncId×List PV×PV:=(131,[(.sl false c3),(.agg [(.sl false c2),(.sl false [[(.i 4),(.i 3),(.i 0),(.sl false [])]])]),(.i 0),(.sl false []),(.agg [(.i 4),(.i 2),(.i 0),(.sl false [])]),(.agg [(.i 4),(.i 2),(.i 1),(.sl false [])]),(.agg [(.i 4),(.i 2),(.i 0),(.sl false [])])],(.tup [(.agg [(.sl false []),(.sl false [[(.i 4),(.i 2),(.i 1),(.sl false [])]])]),(.b true),(.i 0)]))
def M3:FuncId×List PV×PV:=(89,[(.agg [(.s ⟨#[]⟩),(.i 4),(.i 2),(.i 0),(.sl false []),(.b false),(.i 0),(.i 0),(.i 0),(.sl false [])]),(.i 2)],(.b true))
def M4:FuncId×List PV×PV:=(18,[(.agg [(.sl false [[(.s ⟨#[]⟩),(.i 4),(.i 2),(.i 0),(.sl false []),(.b true),(.i 4),(.i 2),(.i 2),(.sl false [[(.i 4),(.i 3),(.i 1),(.sl false [])]])],[(.s ⟨#[]⟩),(.i 4),(.i 2),(.i 0),(.sl false []),(.b false),(.i 0),(.i 0),(.i 0),(.sl false [])]]),(.sl false [[(.i 4),(.i 3),(.i 0),(.sl false [])]])])],(.tup [(.agg [(.sl false c2),(.sl false [[(.i 4),(.i 2),(.i 2),(.sl false [[(.i 4),(.i 3),(.i 0),(.sl false [])]])]])]),(.i 0)]))
def M5:FuncId×List PV×PV:=(25,[(.sl false c3),(.i 3),(.agg [(.sl false c2),(.sl false [[(.i 4),(.i 3),(.i 0),(.sl false [])]])]),(.i 0)],(.tup [(.sl false [[(.sl false []),(.sl false [[(.i 4),(.i 2),(.i 1),(.sl false [])]])],[(.sl false c2),(.sl false [[(.i 4),(.i 2),(.i 2),(.sl false [[(.i 4),(.i 3),(.i 0),(.sl false [])]])]])]]),(.i 0)]))
theorem Qp:OKM M0:=qn (mem:=[]) trivial (k:=3000) (by kernel_rfl)
theorem NR:OKM M1:=qn (mem:=[]) trivial (k:=3000) (by kernel_rfl)
theorem Uo:OKM M2:=qn (mem:=[M1]) ⟨NR,trivial⟩ (k:=3000) (by kernel_rfl)
theorem Qq:OKM M3:=qn (mem:=[]) trivial (k:=3000) (by kernel_rfl)
theorem Up:OKM M4:=qn (mem:=[M3]) ⟨Qq,trivial⟩ (k:=3000) (by kernel_rfl)
theorem Uq:OKM M5:=qn (mem:=[M0,M1,M2,M3,M4]) ⟨Qp,NR,Uo,Qq,Up,trivial⟩ (k:=3000) (by kernel_rfl)
end Go.Ev.A_law17_awake
namespace Go.Ev
open A_law17_awake
set_option maxRecDepth 100000
theorem xA:az TT HH [] gN [] []=some (.ret (.b true),[]):=qn (mem:=[M0,M1,M5]) ⟨Qp,NR,Uq,trivial⟩ (k:=3000) (by kernel_rfl)
end Go.Ev
