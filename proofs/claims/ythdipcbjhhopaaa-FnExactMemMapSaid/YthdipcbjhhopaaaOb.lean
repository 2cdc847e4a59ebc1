import Derived.Test.YthdipcbjhhopaaaDa
import Derived.Test.YthdipcbjhhopaaaProg
namespace Go.Cq
open Go.Proofs
theorem ok22 : okFn Try.prog Try.f22 c22 = true := by decide +kernel
theorem ok28 : okFn Try.prog Try.f28 c28 = true := by decide +kernel
theorem ok50 : okFn Try.prog Try.f50 c50 = true := by decide +kernel
theorem ok57 : okFn Try.prog Try.f57 c57 = true := by decide +kernel
theorem ok62 : okFn Try.prog Try.f62 c62 = true := by decide +kernel
theorem ok68 : okFn Try.prog Try.f68 c68 = true := by decide +kernel
theorem ok72 : okFn Try.prog Try.f72 c72 = true := by decide +kernel
theorem ok84 : okFn Try.prog Try.f84 c84 = true := by decide +kernel
theorem ok88 : okFn Try.prog Try.f88 c88 = true := by decide +kernel
theorem ok97 : okFn Try.prog Try.f97 c97 = true := by decide +kernel
theorem ok117 : okFn Try.prog Try.f117 c117 = true := by decide +kernel
theorem ok122 : okFn Try.prog Try.f122 c122 = true := by decide +kernel
theorem ok128 : okFn Try.prog Try.f128 c128 = true := by decide +kernel
theorem ok132 : okFn Try.prog Try.f132 c132 = true := by decide +kernel
theorem ok136 : okFn Try.prog Try.f136 c136 = true := by decide +kernel
theorem ok140 : okFn Try.prog Try.f140 c140 = true := by decide +kernel
theorem ok149 : okFn Try.prog Try.f149 c149 = true := by decide +kernel
theorem ok160 : okFn Try.prog Try.f160 c160 = true := by decide +kernel
theorem ok166 : okFn Try.prog Try.f166 c166 = true := by decide +kernel
theorem ok178 : okFn Try.prog Try.f178 c178 = true := by decide +kernel
theorem ok183 : okFn Try.prog Try.f183 c183 = true := by decide +kernel
end Go.Cq
