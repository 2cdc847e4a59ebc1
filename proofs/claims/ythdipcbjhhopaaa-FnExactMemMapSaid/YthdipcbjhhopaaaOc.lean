import Derived.Test.YthdipcbjhhopaaaDa
import Derived.Test.YthdipcbjhhopaaaProg
namespace Go.Cq
open Go.Proofs
theorem ok24 : okFn Try.prog Try.f24 c24 = true := by decide +kernel
theorem ok34 : okMFn Try.prog Try.f34 c34 = true := by decide +kernel
theorem ok51 : okFn Try.prog Try.f51 c51 = true := by decide +kernel
theorem ok58 : okFn Try.prog Try.f58 c58 = true := by decide +kernel
theorem ok63 : okFn Try.prog Try.f63 c63 = true := by decide +kernel
theorem ok69 : okFn Try.prog Try.f69 c69 = true := by decide +kernel
theorem ok77 : okFn Try.prog Try.f77 c77 = true := by decide +kernel
theorem ok85 : okFn Try.prog Try.f85 c85 = true := by decide +kernel
theorem ok89 : okFn Try.prog Try.f89 c89 = true := by decide +kernel
theorem ok98 : okFn Try.prog Try.f98 c98 = true := by decide +kernel
theorem ok118 : okFn Try.prog Try.f118 c118 = true := by decide +kernel
theorem ok125 : okFn Try.prog Try.f125 c125 = true := by decide +kernel
theorem ok129 : okFn Try.prog Try.f129 c129 = true := by decide +kernel
theorem ok133 : okFn Try.prog Try.f133 c133 = true := by decide +kernel
theorem ok137 : okFn Try.prog Try.f137 c137 = true := by decide +kernel
theorem ok141 : okFn Try.prog Try.f141 c141 = true := by decide +kernel
theorem ok157 : okFn Try.prog Try.f157 c157 = true := by decide +kernel
theorem ok161 : okFn Try.prog Try.f161 c161 = true := by decide +kernel
theorem ok167 : okFn Try.prog Try.f167 c167 = true := by decide +kernel
theorem ok179 : okFn Try.prog Try.f179 c179 = true := by decide +kernel
theorem ok184 : okFn Try.prog Try.f184 c184 = true := by decide +kernel
end Go.Cq
