import Derived.Test.YthdipcbjhhopaaaDa
import Derived.Test.YthdipcbjhhopaaaProg
namespace Go.Cq
open Go.Proofs
theorem ok22 : okFn Try.prog Try.f22 c22 = true := by decide +kernel
theorem ok26 : okFn Try.prog Try.f26 c26 = true := by decide +kernel
theorem ok35 : okFn Try.prog Try.f35 c35 = true := by decide +kernel
theorem ok57 : okFn Try.prog Try.f57 c57 = true := by decide +kernel
theorem ok61 : okFn Try.prog Try.f61 c61 = true := by decide +kernel
theorem ok65 : okFn Try.prog Try.f65 c65 = true := by decide +kernel
theorem ok69 : okFn Try.prog Try.f69 c69 = true := by decide +kernel
theorem ok77 : okFn Try.prog Try.f77 c77 = true := by decide +kernel
theorem ok85 : okFn Try.prog Try.f85 c85 = true := by decide +kernel
theorem ok89 : okFn Try.prog Try.f89 c89 = true := by decide +kernel
theorem ok97 : okFn Try.prog Try.f97 c97 = true := by decide +kernel
theorem ok120 : okFn Try.prog Try.f120 c120 = true := by decide +kernel
theorem ok124 : okFn Try.prog Try.f124 c124 = true := by decide +kernel
theorem ok128 : okFn Try.prog Try.f128 c128 = true := by decide +kernel
theorem ok132 : okFn Try.prog Try.f132 c132 = true := by decide +kernel
theorem ok136 : okFn Try.prog Try.f136 c136 = true := by decide +kernel
theorem ok140 : okFn Try.prog Try.f140 c140 = true := by decide +kernel
theorem ok149 : okFn Try.prog Try.f149 c149 = true := by decide +kernel
theorem ok163 : okFn Try.prog Try.f163 c163 = true := by decide +kernel
theorem ok167 : okFn Try.prog Try.f167 c167 = true := by decide +kernel
theorem ok182 : okFn Try.prog Try.f182 c182 = true := by decide +kernel
end Go.Cq
