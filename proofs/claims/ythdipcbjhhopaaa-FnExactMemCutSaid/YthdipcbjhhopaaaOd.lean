import Derived.Test.YthdipcbjhhopaaaDa
import Derived.Test.YthdipcbjhhopaaaProg
namespace Go.Cq
open Go.Proofs
theorem ok24 : okFn Try.prog Try.f24 c24 = true := by decide +kernel
theorem ok28 : okFn Try.prog Try.f28 c28 = true := by decide +kernel
theorem ok51 : okFn Try.prog Try.f51 c51 = true := by decide +kernel
theorem ok59 : okFn Try.prog Try.f59 c59 = true := by decide +kernel
theorem ok63 : okFn Try.prog Try.f63 c63 = true := by decide +kernel
theorem ok67 : okFn Try.prog Try.f67 c67 = true := by decide +kernel
theorem ok71 : okFn Try.prog Try.f71 c71 = true := by decide +kernel
theorem ok83 : okFn Try.prog Try.f83 c83 = true := by decide +kernel
theorem ok87 : okFn Try.prog Try.f87 c87 = true := by decide +kernel
theorem ok93 : okFn Try.prog Try.f93 c93 = true := by decide +kernel
theorem ok101 : okFn Try.prog Try.f101 c101 = true := by decide +kernel
theorem ok122 : okFn Try.prog Try.f122 c122 = true := by decide +kernel
theorem ok126 : okFn Try.prog Try.f126 c126 = true := by decide +kernel
theorem ok130 : okFn Try.prog Try.f130 c130 = true := by decide +kernel
theorem ok134 : okFn Try.prog Try.f134 c134 = true := by decide +kernel
theorem ok138 : okFn Try.prog Try.f138 c138 = true := by decide +kernel
theorem ok146 : okFn Try.prog Try.f146 c146 = true := by decide +kernel
theorem ok161 : okFn Try.prog Try.f161 c161 = true := by decide +kernel
theorem ok165 : okFn Try.prog Try.f165 c165 = true := by decide +kernel
theorem ok169 : okFn Try.prog Try.f169 c169 = true := by decide +kernel
theorem ok184 : okFn Try.prog Try.f184 c184 = true := by decide +kernel
end Go.Cq
