import Derived.Test.YthdipcbjhhopaaaDa
import Derived.Test.YthdipcbjhhopaaaProg
namespace Go.Cq
open Go.Proofs
theorem ok24 : ao Try.prog Try.f24 c24 = true := by decide +kernel
theorem ok30 : ao Try.prog Try.f30 c30 = true := by decide +kernel
theorem ok40 : ao Try.prog Try.f40 c40 = true := by decide +kernel
theorem ok58 : ao Try.prog Try.f58 c58 = true := by decide +kernel
theorem ok63 : ao Try.prog Try.f63 c63 = true := by decide +kernel
theorem ok69 : ao Try.prog Try.f69 c69 = true := by decide +kernel
theorem ok77 : ao Try.prog Try.f77 c77 = true := by decide +kernel
theorem ok82 : ao Try.prog Try.f82 c82 = true := by decide +kernel
theorem ok86 : ao Try.prog Try.f86 c86 = true := by decide +kernel
theorem ok90 : ao Try.prog Try.f90 c90 = true := by decide +kernel
theorem ok98 : ao Try.prog Try.f98 c98 = true := by decide +kernel
theorem ok121 : ao Try.prog Try.f121 c121 = true := by decide +kernel
theorem ok127 : ao Try.prog Try.f127 c127 = true := by decide +kernel
theorem ok131 : ao Try.prog Try.f131 c131 = true := by decide +kernel
theorem ok135 : ao Try.prog Try.f135 c135 = true := by decide +kernel
theorem ok139 : ao Try.prog Try.f139 c139 = true := by decide +kernel
theorem ok146 : ao Try.prog Try.f146 c146 = true := by decide +kernel
theorem ok150 : ao Try.prog Try.f150 c150 = true := by decide +kernel
theorem ok165 : ao Try.prog Try.f165 c165 = true := by decide +kernel
theorem ok169 : ao Try.prog Try.f169 c169 = true := by decide +kernel
theorem ok175 : ao Try.prog Try.f175 c175 = true := by decide +kernel
theorem ok183 : ao Try.prog Try.f183 c183 = true := by decide +kernel
end Go.Cq
