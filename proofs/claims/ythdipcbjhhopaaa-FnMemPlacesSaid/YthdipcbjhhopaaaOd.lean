import Derived.Test.YthdipcbjhhopaaaDa
import Derived.Test.YthdipcbjhhopaaaProg
namespace Go.Cq
open Go.Proofs
theorem ok31 : bL Try.prog Try.f31 c31 = true := by decide +kernel
theorem ok35 : bL Try.prog Try.f35 c35 = true := by decide +kernel
theorem ok59 : bL Try.prog Try.f59 c59 = true := by decide +kernel
theorem ok73 : bL Try.prog Try.f73 c73 = true := by decide +kernel
theorem ok77 : bL Try.prog Try.f77 c77 = true := by decide +kernel
theorem ok81 : bL Try.prog Try.f81 c81 = true := by decide +kernel
theorem ok85 : bL Try.prog Try.f85 c85 = true := by decide +kernel
theorem ok89 : bL Try.prog Try.f89 c89 = true := by decide +kernel
theorem ok95 : bL Try.prog Try.f95 c95 = true := by decide +kernel
theorem ok101 : bL Try.prog Try.f101 c101 = true := by decide +kernel
theorem ok113 : bL Try.prog Try.f113 c113 = true := by decide +kernel
theorem ok123 : bL Try.prog Try.f123 c123 = true := by decide +kernel
theorem ok130 : bL Try.prog Try.f130 c130 = true := by decide +kernel
theorem ok145 : bL Try.prog Try.f145 c145 = true := by decide +kernel
theorem ok149 : bL Try.prog Try.f149 c149 = true := by decide +kernel
theorem ok155 : bL Try.prog Try.f155 c155 = true := by decide +kernel
theorem ok164 : bL Try.prog Try.f164 c164 = true := by decide +kernel
theorem ok173 : bL Try.prog Try.f173 c173 = true := by decide +kernel
theorem ok177 : bL Try.prog Try.f177 c177 = true := by decide +kernel
theorem ok186 : bL Try.prog Try.f186 c186 = true := by decide +kernel
end Go.Cq
