import Derived.Test.YthdipcbjhhopaaaDa
import Derived.Test.YthdipcbjhhopaaaProg
namespace Go.Cq
open Go.Proofs
theorem ok3 : okFn Try.prog Try.f3 c3 = true := by decide +kernel
theorem ok25 : okFn Try.prog Try.f25 c25 = true := by decide +kernel
theorem ok34 : okMFn Try.prog Try.f34 c34 = true := by decide +kernel
theorem ok56 : okFn Try.prog Try.f56 c56 = true := by decide +kernel
theorem ok60 : okFn Try.prog Try.f60 c60 = true := by decide +kernel
theorem ok64 : okFn Try.prog Try.f64 c64 = true := by decide +kernel
theorem ok68 : okFn Try.prog Try.f68 c68 = true := by decide +kernel
theorem ok72 : okFn Try.prog Try.f72 c72 = true := by decide +kernel
theorem ok84 : okFn Try.prog Try.f84 c84 = true := by decide +kernel
theorem ok88 : okFn Try.prog Try.f88 c88 = true := by decide +kernel
theorem ok96 : okFn Try.prog Try.f96 c96 = true := by decide +kernel
theorem ok102 : okFn Try.prog Try.f102 c102 = true := by decide +kernel
theorem ok123 : okFn Try.prog Try.f123 c123 = true := by decide +kernel
theorem ok127 : okFn Try.prog Try.f127 c127 = true := by decide +kernel
theorem ok131 : okFn Try.prog Try.f131 c131 = true := by decide +kernel
theorem ok135 : okFn Try.prog Try.f135 c135 = true := by decide +kernel
theorem ok139 : okFn Try.prog Try.f139 c139 = true := by decide +kernel
theorem ok148 : okFn Try.prog Try.f148 c148 = true := by decide +kernel
theorem ok162 : okFn Try.prog Try.f162 c162 = true := by decide +kernel
theorem ok166 : okFn Try.prog Try.f166 c166 = true := by decide +kernel
theorem ok181 : okFn Try.prog Try.f181 c181 = true := by decide +kernel
end Go.Cq
