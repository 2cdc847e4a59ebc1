import Derived.Test.YthdipcbjhhopaaaDa
import Derived.Test.YthdipcbjhhopaaaProg
namespace Go.Cq
open Go.Proofs
theorem ok32 : bS Try.prog Try.f32 c32 = true := by decide +kernel
theorem ok37 : bS Try.prog Try.f37 c37 = true := by decide +kernel
theorem ok54 : bS Try.prog Try.f54 c54 = true := by decide +kernel
theorem ok63 : bS Try.prog Try.f63 c63 = true := by decide +kernel
theorem ok75 : bS Try.prog Try.f75 c75 = true := by decide +kernel
theorem ok79 : bS Try.prog Try.f79 c79 = true := by decide +kernel
theorem ok83 : bS Try.prog Try.f83 c83 = true := by decide +kernel
theorem ok87 : bS Try.prog Try.f87 c87 = true := by decide +kernel
theorem ok91 : bS Try.prog Try.f91 c91 = true := by decide +kernel
theorem ok95 : bS Try.prog Try.f95 c95 = true := by decide +kernel
theorem ok101 : bS Try.prog Try.f101 c101 = true := by decide +kernel
theorem ok113 : bS Try.prog Try.f113 c113 = true := by decide +kernel
theorem ok123 : bS Try.prog Try.f123 c123 = true := by decide +kernel
theorem ok130 : bS Try.prog Try.f130 c130 = true := by decide +kernel
theorem ok145 : bS Try.prog Try.f145 c145 = true := by decide +kernel
theorem ok149 : bS Try.prog Try.f149 c149 = true := by decide +kernel
theorem ok155 : bS Try.prog Try.f155 c155 = true := by decide +kernel
theorem ok164 : bS Try.prog Try.f164 c164 = true := by decide +kernel
theorem ok173 : bS Try.prog Try.f173 c173 = true := by decide +kernel
theorem ok177 : bS Try.prog Try.f177 c177 = true := by decide +kernel
theorem ok186 : bS Try.prog Try.f186 c186 = true := by decide +kernel
end Go.Cq
