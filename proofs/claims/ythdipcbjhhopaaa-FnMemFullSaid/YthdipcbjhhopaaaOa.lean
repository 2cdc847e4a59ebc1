import Derived.Test.YthdipcbjhhopaaaDa
import Derived.Test.YthdipcbjhhopaaaProg
namespace Go.Cq
open Go.Proofs
theorem ok6 : bS Try.prog Try.f6 c6 = true := by decide +kernel
theorem ok35 : bS Try.prog Try.f35 c35 = true := by decide +kernel
theorem ok40 : bS Try.prog Try.f40 c40 = true := by decide +kernel
theorem ok60 : bS Try.prog Try.f60 c60 = true := by decide +kernel
theorem ok74 : bS Try.prog Try.f74 c74 = true := by decide +kernel
theorem ok78 : bS Try.prog Try.f78 c78 = true := by decide +kernel
theorem ok82 : bS Try.prog Try.f82 c82 = true := by decide +kernel
theorem ok86 : bS Try.prog Try.f86 c86 = true := by decide +kernel
theorem ok90 : bS Try.prog Try.f90 c90 = true := by decide +kernel
theorem ok94 : bS Try.prog Try.f94 c94 = true := by decide +kernel
theorem ok98 : bS Try.prog Try.f98 c98 = true := by decide +kernel
theorem ok112 : bS Try.prog Try.f112 c112 = true := by decide +kernel
theorem ok119 : bS Try.prog Try.f119 c119 = true := by decide +kernel
theorem ok129 : bS Try.prog Try.f129 c129 = true := by decide +kernel
theorem ok144 : bS Try.prog Try.f144 c144 = true := by decide +kernel
theorem ok148 : bS Try.prog Try.f148 c148 = true := by decide +kernel
theorem ok152 : bS Try.prog Try.f152 c152 = true := by decide +kernel
theorem ok163 : bS Try.prog Try.f163 c163 = true := by decide +kernel
theorem ok172 : bS Try.prog Try.f172 c172 = true := by decide +kernel
theorem ok176 : bS Try.prog Try.f176 c176 = true := by decide +kernel
theorem ok185 : bS Try.prog Try.f185 c185 = true := by decide +kernel
end Go.Cq
