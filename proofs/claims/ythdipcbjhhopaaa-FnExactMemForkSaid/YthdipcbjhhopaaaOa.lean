import Derived.Test.YthdipcbjhhopaaaDa
import Derived.Test.YthdipcbjhhopaaaProg
namespace Go.Cq
open Go.Proofs
theorem ok16 : ay Try.prog Try.f16 c16 = true := by decide +kernel
theorem ok27 : ay Try.prog Try.f27 c27 = true := by decide +kernel
theorem ok40 : ay Try.prog Try.f40 c40 = true := by decide +kernel
theorem ok56 : ay Try.prog Try.f56 c56 = true := by decide +kernel
theorem ok61 : ay Try.prog Try.f61 c61 = true := by decide +kernel
theorem ok67 : ay Try.prog Try.f67 c67 = true := by decide +kernel
theorem ok71 : ay Try.prog Try.f71 c71 = true := by decide +kernel
theorem ok82 : ay Try.prog Try.f82 c82 = true := by decide +kernel
theorem ok86 : ay Try.prog Try.f86 c86 = true := by decide +kernel
theorem ok90 : ay Try.prog Try.f90 c90 = true := by decide +kernel
theorem ok98 : ay Try.prog Try.f98 c98 = true := by decide +kernel
theorem ok103 : ay Try.prog Try.f103 c103 = true := by decide +kernel
theorem ok125 : ay Try.prog Try.f125 c125 = true := by decide +kernel
theorem ok129 : ay Try.prog Try.f129 c129 = true := by decide +kernel
theorem ok133 : ay Try.prog Try.f133 c133 = true := by decide +kernel
theorem ok137 : ay Try.prog Try.f137 c137 = true := by decide +kernel
theorem ok141 : ay Try.prog Try.f141 c141 = true := by decide +kernel
theorem ok148 : ay Try.prog Try.f148 c148 = true := by decide +kernel
theorem ok154 : ay Try.prog Try.f154 c154 = true := by decide +kernel
theorem ok162 : ay Try.prog Try.f162 c162 = true := by decide +kernel
theorem ok168 : ay Try.prog Try.f168 c168 = true := by decide +kernel
theorem ok174 : ay Try.prog Try.f174 c174 = true := by decide +kernel
theorem ok182 : ay Try.prog Try.f182 c182 = true := by decide +kernel
theorem ok186 : ay Try.prog Try.f186 c186 = true := by decide +kernel
end Go.Cq
