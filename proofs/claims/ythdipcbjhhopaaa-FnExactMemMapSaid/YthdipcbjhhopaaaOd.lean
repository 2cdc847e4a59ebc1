import Derived.Test.YthdipcbjhhopaaaDa
import Derived.Test.YthdipcbjhhopaaaProg
namespace Go.Cq
open Go.Proofs
theorem ok26 : okFn Try.prog Try.f26 c26 = true := by decide +kernel
theorem ok35 : okFn Try.prog Try.f35 c35 = true := by decide +kernel
theorem ok52 : okFn Try.prog Try.f52 c52 = true := by decide +kernel
theorem ok60 : okFn Try.prog Try.f60 c60 = true := by decide +kernel
theorem ok64 : okFn Try.prog Try.f64 c64 = true := by decide +kernel
theorem ok70 : okFn Try.prog Try.f70 c70 = true := by decide +kernel
theorem ok82 : okFn Try.prog Try.f82 c82 = true := by decide +kernel
theorem ok86 : okFn Try.prog Try.f86 c86 = true := by decide +kernel
theorem ok90 : okFn Try.prog Try.f90 c90 = true := by decide +kernel
theorem ok101 : okFn Try.prog Try.f101 c101 = true := by decide +kernel
theorem ok120 : okFn Try.prog Try.f120 c120 = true := by decide +kernel
theorem ok126 : okFn Try.prog Try.f126 c126 = true := by decide +kernel
theorem ok130 : okFn Try.prog Try.f130 c130 = true := by decide +kernel
theorem ok134 : okFn Try.prog Try.f134 c134 = true := by decide +kernel
theorem ok138 : okFn Try.prog Try.f138 c138 = true := by decide +kernel
theorem ok146 : okFn Try.prog Try.f146 c146 = true := by decide +kernel
theorem ok158 : okFn Try.prog Try.f158 c158 = true := by decide +kernel
theorem ok162 : okFn Try.prog Try.f162 c162 = true := by decide +kernel
theorem ok168 : okFn Try.prog Try.f168 c168 = true := by decide +kernel
theorem ok180 : okFn Try.prog Try.f180 c180 = true := by decide +kernel
theorem ok187 : okFn Try.prog Try.f187 c187 = true := by decide +kernel
end Go.Cq
