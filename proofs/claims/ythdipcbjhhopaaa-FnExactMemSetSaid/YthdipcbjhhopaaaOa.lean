import Derived.Test.YthdipcbjhhopaaaDa
import Derived.Test.YthdipcbjhhopaaaProg
namespace Go.Cq
open Go.Proofs
theorem ok18 : au Try.prog Try.f18 c18 = true := by decide +kernel
theorem ok27 : au Try.prog Try.f27 c27 = true := by decide +kernel
theorem ok38 : au Try.prog Try.f38 c38 = true := by decide +kernel
theorem ok56 : au Try.prog Try.f56 c56 = true := by decide +kernel
theorem ok61 : au Try.prog Try.f61 c61 = true := by decide +kernel
theorem ok67 : au Try.prog Try.f67 c67 = true := by decide +kernel
theorem ok71 : au Try.prog Try.f71 c71 = true := by decide +kernel
theorem ok79 : au Try.prog Try.f79 c79 = true := by decide +kernel
theorem ok85 : au Try.prog Try.f85 c85 = true := by decide +kernel
theorem ok89 : au Try.prog Try.f89 c89 = true := by decide +kernel
theorem ok94 : au Try.prog Try.f94 c94 = true := by decide +kernel
theorem ok98 : au Try.prog Try.f98 c98 = true := by decide +kernel
theorem ok121 : au Try.prog Try.f121 c121 = true := by decide +kernel
theorem ok127 : au Try.prog Try.f127 c127 = true := by decide +kernel
theorem ok131 : au Try.prog Try.f131 c131 = true := by decide +kernel
theorem ok135 : au Try.prog Try.f135 c135 = true := by decide +kernel
theorem ok139 : au Try.prog Try.f139 c139 = true := by decide +kernel
theorem ok146 : au Try.prog Try.f146 c146 = true := by decide +kernel
theorem ok150 : au Try.prog Try.f150 c150 = true := by decide +kernel
theorem ok161 : au Try.prog Try.f161 c161 = true := by decide +kernel
theorem ok166 : au Try.prog Try.f166 c166 = true := by decide +kernel
theorem ok172 : au Try.prog Try.f172 c172 = true := by decide +kernel
theorem ok176 : au Try.prog Try.f176 c176 = true := by decide +kernel
theorem ok184 : au Try.prog Try.f184 c184 = true := by decide +kernel
end Go.Cq
