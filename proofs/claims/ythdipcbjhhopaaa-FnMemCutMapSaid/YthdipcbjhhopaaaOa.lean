import Derived.Test.YthdipcbjhhopaaaDa
import Derived.Test.YthdipcbjhhopaaaProg
namespace Go.Cq
open Go.Proofs
theorem ok21 : bP Try.prog Try.f21 c21 = true := by decide +kernel
theorem ok34 : uK Try.prog Try.f34 c34 = true := by decide +kernel
theorem ok52 : bP Try.prog Try.f52 c52 = true := by decide +kernel
theorem ok59 : bP Try.prog Try.f59 c59 = true := by decide +kernel
theorem ok65 : bP Try.prog Try.f65 c65 = true := by decide +kernel
theorem ok75 : bP Try.prog Try.f75 c75 = true := by decide +kernel
theorem ok82 : bP Try.prog Try.f82 c82 = true := by decide +kernel
theorem ok86 : bP Try.prog Try.f86 c86 = true := by decide +kernel
theorem ok90 : bP Try.prog Try.f90 c90 = true := by decide +kernel
theorem ok96 : bP Try.prog Try.f96 c96 = true := by decide +kernel
theorem ok101 : bP Try.prog Try.f101 c101 = true := by decide +kernel
theorem ok113 : bP Try.prog Try.f113 c113 = true := by decide +kernel
theorem ok119 : bP Try.prog Try.f119 c119 = true := by decide +kernel
theorem ok129 : bP Try.prog Try.f129 c129 = true := by decide +kernel
theorem ok144 : bP Try.prog Try.f144 c144 = true := by decide +kernel
theorem ok149 : bP Try.prog Try.f149 c149 = true := by decide +kernel
theorem ok157 : bP Try.prog Try.f157 c157 = true := by decide +kernel
theorem ok163 : bP Try.prog Try.f163 c163 = true := by decide +kernel
theorem ok174 : bP Try.prog Try.f174 c174 = true := by decide +kernel
theorem ok178 : bP Try.prog Try.f178 c178 = true := by decide +kernel
theorem ok185 : bP Try.prog Try.f185 c185 = true := by decide +kernel
end Go.Cq
