import Derived.Test.YthdipcbjhhopaaaDa
import Derived.Test.YthdipcbjhhopaaaProg
namespace Go.Cq
open Go.Proofs
theorem ok24 : au Try.prog Try.f24 c24 = true := by decide +kernel
theorem ok34 : tb Try.prog Try.f34 c34 = true := by decide +kernel
theorem ok40 : au Try.prog Try.f40 c40 = true := by decide +kernel
theorem ok58 : au Try.prog Try.f58 c58 = true := by decide +kernel
theorem ok63 : au Try.prog Try.f63 c63 = true := by decide +kernel
theorem ok69 : au Try.prog Try.f69 c69 = true := by decide +kernel
theorem ok77 : au Try.prog Try.f77 c77 = true := by decide +kernel
theorem ok83 : au Try.prog Try.f83 c83 = true := by decide +kernel
theorem ok87 : au Try.prog Try.f87 c87 = true := by decide +kernel
theorem ok92 : au Try.prog Try.f92 c92 = true := by decide +kernel
theorem ok96 : au Try.prog Try.f96 c96 = true := by decide +kernel
theorem ok102 : au Try.prog Try.f102 c102 = true := by decide +kernel
theorem ok125 : au Try.prog Try.f125 c125 = true := by decide +kernel
theorem ok129 : au Try.prog Try.f129 c129 = true := by decide +kernel
theorem ok133 : au Try.prog Try.f133 c133 = true := by decide +kernel
theorem ok137 : au Try.prog Try.f137 c137 = true := by decide +kernel
theorem ok141 : au Try.prog Try.f141 c141 = true := by decide +kernel
theorem ok148 : au Try.prog Try.f148 c148 = true := by decide +kernel
theorem ok152 : au Try.prog Try.f152 c152 = true := by decide +kernel
theorem ok164 : au Try.prog Try.f164 c164 = true := by decide +kernel
theorem ok168 : au Try.prog Try.f168 c168 = true := by decide +kernel
theorem ok174 : au Try.prog Try.f174 c174 = true := by decide +kernel
theorem ok182 : au Try.prog Try.f182 c182 = true := by decide +kernel
theorem ok186 : au Try.prog Try.f186 c186 = true := by decide +kernel
end Go.Cq
