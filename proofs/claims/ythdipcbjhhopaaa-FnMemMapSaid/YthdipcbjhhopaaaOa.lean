import Derived.Test.YthdipcbjhhopaaaDa
import Derived.Test.YthdipcbjhhopaaaProg
namespace Go.Cq
open Go.Proofs
theorem ok20 : bL Try.prog Try.f20 c20 = true := by decide +kernel
theorem ok40 : bL Try.prog Try.f40 c40 = true := by decide +kernel
theorem ok53 : bL Try.prog Try.f53 c53 = true := by decide +kernel
theorem ok60 : bL Try.prog Try.f60 c60 = true := by decide +kernel
theorem ok74 : bL Try.prog Try.f74 c74 = true := by decide +kernel
theorem ok81 : bL Try.prog Try.f81 c81 = true := by decide +kernel
theorem ok85 : bL Try.prog Try.f85 c85 = true := by decide +kernel
theorem ok89 : bL Try.prog Try.f89 c89 = true := by decide +kernel
theorem ok96 : bL Try.prog Try.f96 c96 = true := by decide +kernel
theorem ok101 : bL Try.prog Try.f101 c101 = true := by decide +kernel
theorem ok113 : bL Try.prog Try.f113 c113 = true := by decide +kernel
theorem ok119 : bL Try.prog Try.f119 c119 = true := by decide +kernel
theorem ok129 : bL Try.prog Try.f129 c129 = true := by decide +kernel
theorem ok144 : bL Try.prog Try.f144 c144 = true := by decide +kernel
theorem ok149 : bL Try.prog Try.f149 c149 = true := by decide +kernel
theorem ok157 : bL Try.prog Try.f157 c157 = true := by decide +kernel
theorem ok163 : bL Try.prog Try.f163 c163 = true := by decide +kernel
theorem ok174 : bL Try.prog Try.f174 c174 = true := by decide +kernel
theorem ok178 : bL Try.prog Try.f178 c178 = true := by decide +kernel
theorem ok185 : bL Try.prog Try.f185 c185 = true := by decide +kernel
end Go.Cq
