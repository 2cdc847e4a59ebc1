import Derived.Test.YthdipcbjhhopaaaDa
import Derived.Test.YthdipcbjhhopaaaProg
namespace Go.Cq
open Go.Proofs
theorem ok34 : td Try.prog Try.f34 c34 = true := by decide +kernel
theorem ok50 : bL Try.prog Try.f50 c50 = true := by decide +kernel
theorem ok58 : bL Try.prog Try.f58 c58 = true := by decide +kernel
theorem ok64 : bL Try.prog Try.f64 c64 = true := by decide +kernel
theorem ok77 : bL Try.prog Try.f77 c77 = true := by decide +kernel
theorem ok83 : bL Try.prog Try.f83 c83 = true := by decide +kernel
theorem ok87 : bL Try.prog Try.f87 c87 = true := by decide +kernel
theorem ok91 : bL Try.prog Try.f91 c91 = true := by decide +kernel
theorem ok98 : bL Try.prog Try.f98 c98 = true := by decide +kernel
theorem ok103 : bL Try.prog Try.f103 c103 = true := by decide +kernel
theorem ok117 : bL Try.prog Try.f117 c117 = true := by decide +kernel
theorem ok124 : bL Try.prog Try.f124 c124 = true := by decide +kernel
theorem ok142 : bL Try.prog Try.f142 c142 = true := by decide +kernel
theorem ok147 : bL Try.prog Try.f147 c147 = true := by decide +kernel
theorem ok152 : bL Try.prog Try.f152 c152 = true := by decide +kernel
theorem ok159 : bL Try.prog Try.f159 c159 = true := by decide +kernel
theorem ok170 : bL Try.prog Try.f170 c170 = true := by decide +kernel
theorem ok176 : bL Try.prog Try.f176 c176 = true := by decide +kernel
theorem ok180 : bL Try.prog Try.f180 c180 = true := by decide +kernel
theorem ok187 : bL Try.prog Try.f187 c187 = true := by decide +kernel
end Go.Cq
