import Derived.Test.YthdipcbjhhopaaaDa
import Derived.Test.YthdipcbjhhopaaaProg
namespace Go.Cq
open Go.Proofs
theorem ok4 : bL Try.prog Try.f4 c4 = true := by decide +kernel
theorem ok32 : bL Try.prog Try.f32 c32 = true := by decide +kernel
theorem ok40 : bL Try.prog Try.f40 c40 = true := by decide +kernel
theorem ok60 : bL Try.prog Try.f60 c60 = true := by decide +kernel
theorem ok74 : bL Try.prog Try.f74 c74 = true := by decide +kernel
theorem ok78 : bL Try.prog Try.f78 c78 = true := by decide +kernel
theorem ok82 : bL Try.prog Try.f82 c82 = true := by decide +kernel
theorem ok86 : bL Try.prog Try.f86 c86 = true := by decide +kernel
theorem ok90 : bL Try.prog Try.f90 c90 = true := by decide +kernel
theorem ok96 : bL Try.prog Try.f96 c96 = true := by decide +kernel
theorem ok102 : bL Try.prog Try.f102 c102 = true := by decide +kernel
theorem ok114 : bL Try.prog Try.f114 c114 = true := by decide +kernel
theorem ok124 : bL Try.prog Try.f124 c124 = true := by decide +kernel
theorem ok142 : bL Try.prog Try.f142 c142 = true := by decide +kernel
theorem ok146 : bL Try.prog Try.f146 c146 = true := by decide +kernel
theorem ok150 : bL Try.prog Try.f150 c150 = true := by decide +kernel
theorem ok157 : bL Try.prog Try.f157 c157 = true := by decide +kernel
theorem ok170 : bL Try.prog Try.f170 c170 = true := by decide +kernel
theorem ok174 : bL Try.prog Try.f174 c174 = true := by decide +kernel
theorem ok178 : bL Try.prog Try.f178 c178 = true := by decide +kernel
end Go.Cq
