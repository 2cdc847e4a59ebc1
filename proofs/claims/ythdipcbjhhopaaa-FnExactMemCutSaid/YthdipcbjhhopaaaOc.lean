import Derived.Test.YthdipcbjhhopaaaDa
import Derived.Test.YthdipcbjhhopaaaProg
namespace Go.Cq
open Go.Proofs
theorem ok23 : okFn Try.prog Try.f23 c23 = true := by decide +kernel
theorem ok27 : okFn Try.prog Try.f27 c27 = true := by decide +kernel
theorem ok40 : okFn Try.prog Try.f40 c40 = true := by decide +kernel
theorem ok58 : okFn Try.prog Try.f58 c58 = true := by decide +kernel
theorem ok62 : okFn Try.prog Try.f62 c62 = true := by decide +kernel
theorem ok66 : okFn Try.prog Try.f66 c66 = true := by decide +kernel
theorem ok70 : okFn Try.prog Try.f70 c70 = true := by decide +kernel
theorem ok82 : okFn Try.prog Try.f82 c82 = true := by decide +kernel
theorem ok86 : okFn Try.prog Try.f86 c86 = true := by decide +kernel
theorem ok90 : okFn Try.prog Try.f90 c90 = true := by decide +kernel
theorem ok98 : okFn Try.prog Try.f98 c98 = true := by decide +kernel
theorem ok121 : okFn Try.prog Try.f121 c121 = true := by decide +kernel
theorem ok125 : okFn Try.prog Try.f125 c125 = true := by decide +kernel
theorem ok129 : okFn Try.prog Try.f129 c129 = true := by decide +kernel
theorem ok133 : okFn Try.prog Try.f133 c133 = true := by decide +kernel
theorem ok137 : okFn Try.prog Try.f137 c137 = true := by decide +kernel
theorem ok141 : okFn Try.prog Try.f141 c141 = true := by decide +kernel
theorem ok160 : okFn Try.prog Try.f160 c160 = true := by decide +kernel
theorem ok164 : okFn Try.prog Try.f164 c164 = true := by decide +kernel
theorem ok168 : okFn Try.prog Try.f168 c168 = true := by decide +kernel
theorem ok183 : okFn Try.prog Try.f183 c183 = true := by decide +kernel
end Go.Cq
