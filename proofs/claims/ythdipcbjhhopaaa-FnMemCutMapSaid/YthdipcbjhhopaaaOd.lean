import Derived.Test.YthdipcbjhhopaaaDa
import Derived.Test.YthdipcbjhhopaaaProg
namespace Go.Cq
open Go.Proofs
theorem ok32 : bP Try.prog Try.f32 c32 = true := by decide +kernel
theorem ok41 : bP Try.prog Try.f41 c41 = true := by decide +kernel
theorem ok58 : bP Try.prog Try.f58 c58 = true := by decide +kernel
theorem ok64 : bP Try.prog Try.f64 c64 = true := by decide +kernel
theorem ok74 : bP Try.prog Try.f74 c74 = true := by decide +kernel
theorem ok81 : bP Try.prog Try.f81 c81 = true := by decide +kernel
theorem ok85 : bP Try.prog Try.f85 c85 = true := by decide +kernel
theorem ok89 : bP Try.prog Try.f89 c89 = true := by decide +kernel
theorem ok95 : bP Try.prog Try.f95 c95 = true := by decide +kernel
theorem ok99 : bP Try.prog Try.f99 c99 = true := by decide +kernel
theorem ok112 : bP Try.prog Try.f112 c112 = true := by decide +kernel
theorem ok118 : bP Try.prog Try.f118 c118 = true := by decide +kernel
theorem ok125 : bP Try.prog Try.f125 c125 = true := by decide +kernel
theorem ok143 : bP Try.prog Try.f143 c143 = true := by decide +kernel
theorem ok148 : bP Try.prog Try.f148 c148 = true := by decide +kernel
theorem ok155 : bP Try.prog Try.f155 c155 = true := by decide +kernel
theorem ok162 : bP Try.prog Try.f162 c162 = true := by decide +kernel
theorem ok171 : bP Try.prog Try.f171 c171 = true := by decide +kernel
theorem ok177 : bP Try.prog Try.f177 c177 = true := by decide +kernel
theorem ok181 : bP Try.prog Try.f181 c181 = true := by decide +kernel
theorem ok196 : bP Try.prog Try.f196 c196 = true := by decide +kernel
end Go.Cq
