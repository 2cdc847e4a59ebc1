import Derived.Test.YthdipcbjhhopaaaDa
import Derived.Test.YthdipcbjhhopaaaProg
namespace Go.Cq
open Go.Proofs
theorem ok33 : bS Try.prog Try.f33 c33 = true := by decide +kernel
theorem ok38 : bS Try.prog Try.f38 c38 = true := by decide +kernel
theorem ok58 : bS Try.prog Try.f58 c58 = true := by decide +kernel
theorem ok64 : bS Try.prog Try.f64 c64 = true := by decide +kernel
theorem ok76 : bS Try.prog Try.f76 c76 = true := by decide +kernel
theorem ok80 : bS Try.prog Try.f80 c80 = true := by decide +kernel
theorem ok84 : bS Try.prog Try.f84 c84 = true := by decide +kernel
theorem ok88 : bS Try.prog Try.f88 c88 = true := by decide +kernel
theorem ok92 : bS Try.prog Try.f92 c92 = true := by decide +kernel
theorem ok96 : bS Try.prog Try.f96 c96 = true := by decide +kernel
theorem ok102 : bS Try.prog Try.f102 c102 = true := by decide +kernel
theorem ok114 : bS Try.prog Try.f114 c114 = true := by decide +kernel
theorem ok124 : bS Try.prog Try.f124 c124 = true := by decide +kernel
theorem ok142 : bS Try.prog Try.f142 c142 = true := by decide +kernel
theorem ok146 : bS Try.prog Try.f146 c146 = true := by decide +kernel
theorem ok150 : bS Try.prog Try.f150 c150 = true := by decide +kernel
theorem ok157 : bS Try.prog Try.f157 c157 = true := by decide +kernel
theorem ok170 : bS Try.prog Try.f170 c170 = true := by decide +kernel
theorem ok174 : bS Try.prog Try.f174 c174 = true := by decide +kernel
theorem ok178 : bS Try.prog Try.f178 c178 = true := by decide +kernel
end Go.Cq
