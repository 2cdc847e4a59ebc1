import Derived.Test.YthdipcbjhhopaaaDa
import Derived.Test.YthdipcbjhhopaaaProg
namespace Go.Cq
open Go.Proofs
theorem ok11 : ao Try.prog Try.f11 c11 = true := by decide +kernel
theorem ok27 : ao Try.prog Try.f27 c27 = true := by decide +kernel
theorem ok34 : tV Try.prog Try.f34 c34 = true := by decide +kernel
theorem ok56 : ao Try.prog Try.f56 c56 = true := by decide +kernel
theorem ok61 : ao Try.prog Try.f61 c61 = true := by decide +kernel
theorem ok67 : ao Try.prog Try.f67 c67 = true := by decide +kernel
theorem ok71 : ao Try.prog Try.f71 c71 = true := by decide +kernel
theorem ok79 : ao Try.prog Try.f79 c79 = true := by decide +kernel
theorem ok84 : ao Try.prog Try.f84 c84 = true := by decide +kernel
theorem ok88 : ao Try.prog Try.f88 c88 = true := by decide +kernel
theorem ok96 : ao Try.prog Try.f96 c96 = true := by decide +kernel
theorem ok102 : ao Try.prog Try.f102 c102 = true := by decide +kernel
theorem ok125 : ao Try.prog Try.f125 c125 = true := by decide +kernel
theorem ok129 : ao Try.prog Try.f129 c129 = true := by decide +kernel
theorem ok133 : ao Try.prog Try.f133 c133 = true := by decide +kernel
theorem ok137 : ao Try.prog Try.f137 c137 = true := by decide +kernel
theorem ok141 : ao Try.prog Try.f141 c141 = true := by decide +kernel
theorem ok148 : ao Try.prog Try.f148 c148 = true := by decide +kernel
theorem ok161 : ao Try.prog Try.f161 c161 = true := by decide +kernel
theorem ok167 : ao Try.prog Try.f167 c167 = true := by decide +kernel
theorem ok173 : ao Try.prog Try.f173 c173 = true := by decide +kernel
theorem ok177 : ao Try.prog Try.f177 c177 = true := by decide +kernel
theorem ok185 : ao Try.prog Try.f185 c185 = true := by decide +kernel
end Go.Cq
