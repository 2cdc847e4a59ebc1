import Derived.Test.YthdipcbjhhopaaaDa
import Derived.Test.YthdipcbjhhopaaaProg
namespace Go.Cq
open Go.Proofs
theorem ok24 : ay Try.prog Try.f24 c24 = true := by decide +kernel
theorem ok34 : tO Try.prog Try.f34 c34 = true := by decide +kernel
theorem ok44 : ay Try.prog Try.f44 c44 = true := by decide +kernel
theorem ok58 : ay Try.prog Try.f58 c58 = true := by decide +kernel
theorem ok63 : ay Try.prog Try.f63 c63 = true := by decide +kernel
theorem ok69 : ay Try.prog Try.f69 c69 = true := by decide +kernel
theorem ok77 : ay Try.prog Try.f77 c77 = true := by decide +kernel
theorem ok84 : ay Try.prog Try.f84 c84 = true := by decide +kernel
theorem ok88 : ay Try.prog Try.f88 c88 = true := by decide +kernel
theorem ok96 : ay Try.prog Try.f96 c96 = true := by decide +kernel
theorem ok101 : ay Try.prog Try.f101 c101 = true := by decide +kernel
theorem ok121 : ay Try.prog Try.f121 c121 = true := by decide +kernel
theorem ok127 : ay Try.prog Try.f127 c127 = true := by decide +kernel
theorem ok131 : ay Try.prog Try.f131 c131 = true := by decide +kernel
theorem ok135 : ay Try.prog Try.f135 c135 = true := by decide +kernel
theorem ok139 : ay Try.prog Try.f139 c139 = true := by decide +kernel
theorem ok146 : ay Try.prog Try.f146 c146 = true := by decide +kernel
theorem ok150 : ay Try.prog Try.f150 c150 = true := by decide +kernel
theorem ok160 : ay Try.prog Try.f160 c160 = true := by decide +kernel
theorem ok166 : ay Try.prog Try.f166 c166 = true := by decide +kernel
theorem ok172 : ay Try.prog Try.f172 c172 = true := by decide +kernel
theorem ok176 : ay Try.prog Try.f176 c176 = true := by decide +kernel
theorem ok184 : ay Try.prog Try.f184 c184 = true := by decide +kernel
end Go.Cq
