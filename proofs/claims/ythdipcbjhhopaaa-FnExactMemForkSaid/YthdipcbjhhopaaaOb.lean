import Derived.Test.YthdipcbjhhopaaaDa
import Derived.Test.YthdipcbjhhopaaaProg
namespace Go.Cq
open Go.Proofs
theorem ok22 : ay Try.prog Try.f22 c22 = true := by decide +kernel
theorem ok28 : ay Try.prog Try.f28 c28 = true := by decide +kernel
theorem ok43 : ay Try.prog Try.f43 c43 = true := by decide +kernel
theorem ok57 : ay Try.prog Try.f57 c57 = true := by decide +kernel
theorem ok62 : ay Try.prog Try.f62 c62 = true := by decide +kernel
theorem ok68 : ay Try.prog Try.f68 c68 = true := by decide +kernel
theorem ok72 : ay Try.prog Try.f72 c72 = true := by decide +kernel
theorem ok83 : ay Try.prog Try.f83 c83 = true := by decide +kernel
theorem ok87 : ay Try.prog Try.f87 c87 = true := by decide +kernel
theorem ok92 : ay Try.prog Try.f92 c92 = true := by decide +kernel
theorem ok100 : ay Try.prog Try.f100 c100 = true := by decide +kernel
theorem ok120 : ay Try.prog Try.f120 c120 = true := by decide +kernel
theorem ok126 : ay Try.prog Try.f126 c126 = true := by decide +kernel
theorem ok130 : ay Try.prog Try.f130 c130 = true := by decide +kernel
theorem ok134 : ay Try.prog Try.f134 c134 = true := by decide +kernel
theorem ok138 : ay Try.prog Try.f138 c138 = true := by decide +kernel
theorem ok145 : ay Try.prog Try.f145 c145 = true := by decide +kernel
theorem ok149 : ay Try.prog Try.f149 c149 = true := by decide +kernel
theorem ok155 : ay Try.prog Try.f155 c155 = true := by decide +kernel
theorem ok165 : ay Try.prog Try.f165 c165 = true := by decide +kernel
theorem ok169 : ay Try.prog Try.f169 c169 = true := by decide +kernel
theorem ok175 : ay Try.prog Try.f175 c175 = true := by decide +kernel
theorem ok183 : ay Try.prog Try.f183 c183 = true := by decide +kernel
end Go.Cq
