import Derived.Test.YthdipcbjhhopaaaDa
import Derived.Test.YthdipcbjhhopaaaProg
namespace Go.Cq
open Go.Proofs
theorem ok22 : au Try.prog Try.f22 c22 = true := by decide +kernel
theorem ok28 : au Try.prog Try.f28 c28 = true := by decide +kernel
theorem ok39 : au Try.prog Try.f39 c39 = true := by decide +kernel
theorem ok57 : au Try.prog Try.f57 c57 = true := by decide +kernel
theorem ok62 : au Try.prog Try.f62 c62 = true := by decide +kernel
theorem ok68 : au Try.prog Try.f68 c68 = true := by decide +kernel
theorem ok72 : au Try.prog Try.f72 c72 = true := by decide +kernel
theorem ok82 : au Try.prog Try.f82 c82 = true := by decide +kernel
theorem ok86 : au Try.prog Try.f86 c86 = true := by decide +kernel
theorem ok90 : au Try.prog Try.f90 c90 = true := by decide +kernel
theorem ok95 : au Try.prog Try.f95 c95 = true := by decide +kernel
theorem ok101 : au Try.prog Try.f101 c101 = true := by decide +kernel
theorem ok122 : au Try.prog Try.f122 c122 = true := by decide +kernel
theorem ok128 : au Try.prog Try.f128 c128 = true := by decide +kernel
theorem ok132 : au Try.prog Try.f132 c132 = true := by decide +kernel
theorem ok136 : au Try.prog Try.f136 c136 = true := by decide +kernel
theorem ok140 : au Try.prog Try.f140 c140 = true := by decide +kernel
theorem ok147 : au Try.prog Try.f147 c147 = true := by decide +kernel
theorem ok151 : au Try.prog Try.f151 c151 = true := by decide +kernel
theorem ok162 : au Try.prog Try.f162 c162 = true := by decide +kernel
theorem ok167 : au Try.prog Try.f167 c167 = true := by decide +kernel
theorem ok173 : au Try.prog Try.f173 c173 = true := by decide +kernel
theorem ok177 : au Try.prog Try.f177 c177 = true := by decide +kernel
theorem ok185 : au Try.prog Try.f185 c185 = true := by decide +kernel
end Go.Cq
