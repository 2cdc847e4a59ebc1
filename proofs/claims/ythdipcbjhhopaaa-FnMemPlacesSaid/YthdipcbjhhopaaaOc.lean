import Derived.Test.YthdipcbjhhopaaaDa
import Derived.Test.YthdipcbjhhopaaaProg
namespace Go.Cq
open Go.Proofs
theorem ok30 : bL Try.prog Try.f30 c30 = true := by decide +kernel
theorem ok34 : ui Try.prog Try.f34 c34 = true := by decide +kernel
theorem ok58 : bL Try.prog Try.f58 c58 = true := by decide +kernel
theorem ok64 : bL Try.prog Try.f64 c64 = true := by decide +kernel
theorem ok76 : bL Try.prog Try.f76 c76 = true := by decide +kernel
theorem ok80 : bL Try.prog Try.f80 c80 = true := by decide +kernel
theorem ok84 : bL Try.prog Try.f84 c84 = true := by decide +kernel
theorem ok88 : bL Try.prog Try.f88 c88 = true := by decide +kernel
theorem ok92 : bL Try.prog Try.f92 c92 = true := by decide +kernel
theorem ok98 : bL Try.prog Try.f98 c98 = true := by decide +kernel
theorem ok112 : bL Try.prog Try.f112 c112 = true := by decide +kernel
theorem ok119 : bL Try.prog Try.f119 c119 = true := by decide +kernel
theorem ok129 : bL Try.prog Try.f129 c129 = true := by decide +kernel
theorem ok144 : bL Try.prog Try.f144 c144 = true := by decide +kernel
theorem ok148 : bL Try.prog Try.f148 c148 = true := by decide +kernel
theorem ok152 : bL Try.prog Try.f152 c152 = true := by decide +kernel
theorem ok163 : bL Try.prog Try.f163 c163 = true := by decide +kernel
theorem ok172 : bL Try.prog Try.f172 c172 = true := by decide +kernel
theorem ok176 : bL Try.prog Try.f176 c176 = true := by decide +kernel
theorem ok185 : bL Try.prog Try.f185 c185 = true := by decide +kernel
end Go.Cq
