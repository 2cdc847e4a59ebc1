import Derived.Test.YthdipcbjhhopaaaDa
import Derived.Test.YthdipcbjhhopaaaProg
namespace Go.Cq
open Go.Proofs
theorem ok35 : bL Try.prog Try.f35 c35 = true := by decide +kernel
theorem ok52 : bL Try.prog Try.f52 c52 = true := by decide +kernel
theorem ok59 : bL Try.prog Try.f59 c59 = true := by decide +kernel
theorem ok73 : bL Try.prog Try.f73 c73 = true := by decide +kernel
theorem ok80 : bL Try.prog Try.f80 c80 = true := by decide +kernel
theorem ok84 : bL Try.prog Try.f84 c84 = true := by decide +kernel
theorem ok88 : bL Try.prog Try.f88 c88 = true := by decide +kernel
theorem ok95 : bL Try.prog Try.f95 c95 = true := by decide +kernel
theorem ok99 : bL Try.prog Try.f99 c99 = true := by decide +kernel
theorem ok112 : bL Try.prog Try.f112 c112 = true := by decide +kernel
theorem ok118 : bL Try.prog Try.f118 c118 = true := by decide +kernel
theorem ok125 : bL Try.prog Try.f125 c125 = true := by decide +kernel
theorem ok143 : bL Try.prog Try.f143 c143 = true := by decide +kernel
theorem ok148 : bL Try.prog Try.f148 c148 = true := by decide +kernel
theorem ok155 : bL Try.prog Try.f155 c155 = true := by decide +kernel
theorem ok162 : bL Try.prog Try.f162 c162 = true := by decide +kernel
theorem ok171 : bL Try.prog Try.f171 c171 = true := by decide +kernel
theorem ok177 : bL Try.prog Try.f177 c177 = true := by decide +kernel
theorem ok181 : bL Try.prog Try.f181 c181 = true := by decide +kernel
theorem ok196 : bL Try.prog Try.f196 c196 = true := by decide +kernel
end Go.Cq
