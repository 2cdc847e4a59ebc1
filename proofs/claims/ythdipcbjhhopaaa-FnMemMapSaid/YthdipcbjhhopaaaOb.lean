import Derived.Test.YthdipcbjhhopaaaDa
import Derived.Test.YthdipcbjhhopaaaProg
namespace Go.Cq
open Go.Proofs
theorem ok32 : bL Try.prog Try.f32 c32 = true := by decide +kernel
theorem ok41 : bL Try.prog Try.f41 c41 = true := by decide +kernel
theorem ok54 : bL Try.prog Try.f54 c54 = true := by decide +kernel
theorem ok63 : bL Try.prog Try.f63 c63 = true := by decide +kernel
theorem ok75 : bL Try.prog Try.f75 c75 = true := by decide +kernel
theorem ok82 : bL Try.prog Try.f82 c82 = true := by decide +kernel
theorem ok86 : bL Try.prog Try.f86 c86 = true := by decide +kernel
theorem ok90 : bL Try.prog Try.f90 c90 = true := by decide +kernel
theorem ok97 : bL Try.prog Try.f97 c97 = true := by decide +kernel
theorem ok102 : bL Try.prog Try.f102 c102 = true := by decide +kernel
theorem ok114 : bL Try.prog Try.f114 c114 = true := by decide +kernel
theorem ok123 : bL Try.prog Try.f123 c123 = true := by decide +kernel
theorem ok130 : bL Try.prog Try.f130 c130 = true := by decide +kernel
theorem ok146 : bL Try.prog Try.f146 c146 = true := by decide +kernel
theorem ok151 : bL Try.prog Try.f151 c151 = true := by decide +kernel
theorem ok158 : bL Try.prog Try.f158 c158 = true := by decide +kernel
theorem ok164 : bL Try.prog Try.f164 c164 = true := by decide +kernel
theorem ok175 : bL Try.prog Try.f175 c175 = true := by decide +kernel
theorem ok179 : bL Try.prog Try.f179 c179 = true := by decide +kernel
theorem ok186 : bL Try.prog Try.f186 c186 = true := by decide +kernel
end Go.Cq
