import Derived.Test.YthdipcbjhhopaaaDa
import Derived.Test.YthdipcbjhhopaaaProg
namespace Go.Cq
open Go.Proofs
theorem ok22 : ao Try.prog Try.f22 c22 = true := by decide +kernel
theorem ok28 : ao Try.prog Try.f28 c28 = true := by decide +kernel
theorem ok35 : ao Try.prog Try.f35 c35 = true := by decide +kernel
theorem ok57 : ao Try.prog Try.f57 c57 = true := by decide +kernel
theorem ok62 : ao Try.prog Try.f62 c62 = true := by decide +kernel
theorem ok68 : ao Try.prog Try.f68 c68 = true := by decide +kernel
theorem ok72 : ao Try.prog Try.f72 c72 = true := by decide +kernel
theorem ok80 : ao Try.prog Try.f80 c80 = true := by decide +kernel
theorem ok85 : ao Try.prog Try.f85 c85 = true := by decide +kernel
theorem ok89 : ao Try.prog Try.f89 c89 = true := by decide +kernel
theorem ok97 : ao Try.prog Try.f97 c97 = true := by decide +kernel
theorem ok120 : ao Try.prog Try.f120 c120 = true := by decide +kernel
theorem ok126 : ao Try.prog Try.f126 c126 = true := by decide +kernel
theorem ok130 : ao Try.prog Try.f130 c130 = true := by decide +kernel
theorem ok134 : ao Try.prog Try.f134 c134 = true := by decide +kernel
theorem ok138 : ao Try.prog Try.f138 c138 = true := by decide +kernel
theorem ok145 : ao Try.prog Try.f145 c145 = true := by decide +kernel
theorem ok149 : ao Try.prog Try.f149 c149 = true := by decide +kernel
theorem ok162 : ao Try.prog Try.f162 c162 = true := by decide +kernel
theorem ok168 : ao Try.prog Try.f168 c168 = true := by decide +kernel
theorem ok174 : ao Try.prog Try.f174 c174 = true := by decide +kernel
theorem ok182 : ao Try.prog Try.f182 c182 = true := by decide +kernel
theorem ok186 : ao Try.prog Try.f186 c186 = true := by decide +kernel
end Go.Cq
