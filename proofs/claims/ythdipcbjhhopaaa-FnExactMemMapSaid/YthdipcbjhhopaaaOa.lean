import Derived.Test.YthdipcbjhhopaaaDa
import Derived.Test.YthdipcbjhhopaaaProg
namespace Go.Cq
open Go.Proofs
theorem ok19 : okFn Try.prog Try.f19 c19 = true := by decide +kernel
theorem ok27 : okFn Try.prog Try.f27 c27 = true := by decide +kernel
theorem ok40 : okFn Try.prog Try.f40 c40 = true := by decide +kernel
theorem ok56 : okFn Try.prog Try.f56 c56 = true := by decide +kernel
theorem ok61 : okFn Try.prog Try.f61 c61 = true := by decide +kernel
theorem ok67 : okFn Try.prog Try.f67 c67 = true := by decide +kernel
theorem ok71 : okFn Try.prog Try.f71 c71 = true := by decide +kernel
theorem ok83 : okFn Try.prog Try.f83 c83 = true := by decide +kernel
theorem ok87 : okFn Try.prog Try.f87 c87 = true := by decide +kernel
theorem ok96 : okFn Try.prog Try.f96 c96 = true := by decide +kernel
theorem ok102 : okFn Try.prog Try.f102 c102 = true := by decide +kernel
theorem ok121 : okFn Try.prog Try.f121 c121 = true := by decide +kernel
theorem ok127 : okFn Try.prog Try.f127 c127 = true := by decide +kernel
theorem ok131 : okFn Try.prog Try.f131 c131 = true := by decide +kernel
theorem ok135 : okFn Try.prog Try.f135 c135 = true := by decide +kernel
theorem ok139 : okFn Try.prog Try.f139 c139 = true := by decide +kernel
theorem ok148 : okFn Try.prog Try.f148 c148 = true := by decide +kernel
theorem ok159 : okFn Try.prog Try.f159 c159 = true := by decide +kernel
theorem ok165 : okFn Try.prog Try.f165 c165 = true := by decide +kernel
theorem ok169 : okFn Try.prog Try.f169 c169 = true := by decide +kernel
theorem ok182 : okFn Try.prog Try.f182 c182 = true := by decide +kernel
theorem ok196 : okFn Try.prog Try.f196 c196 = true := by decide +kernel
end Go.Cq
