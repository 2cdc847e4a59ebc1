import Derived.Test.YthdipcbjhhopaaaDa
import Derived.Test.YthdipcbjhhopaaaProg
namespace Go.Cq
open Go.Proofs
theorem ok25 : bP Try.prog Try.f25 c25 = true := by decide +kernel
theorem ok40 : bP Try.prog Try.f40 c40 = true := by decide +kernel
theorem ok55 : bP Try.prog Try.f55 c55 = true := by decide +kernel
theorem ok63 : bP Try.prog Try.f63 c63 = true := by decide +kernel
theorem ok73 : bP Try.prog Try.f73 c73 = true := by decide +kernel
theorem ok80 : bP Try.prog Try.f80 c80 = true := by decide +kernel
theorem ok84 : bP Try.prog Try.f84 c84 = true := by decide +kernel
theorem ok88 : bP Try.prog Try.f88 c88 = true := by decide +kernel
theorem ok93 : bP Try.prog Try.f93 c93 = true := by decide +kernel
theorem ok98 : bP Try.prog Try.f98 c98 = true := by decide +kernel
theorem ok103 : bP Try.prog Try.f103 c103 = true := by decide +kernel
theorem ok117 : bP Try.prog Try.f117 c117 = true := by decide +kernel
theorem ok124 : bP Try.prog Try.f124 c124 = true := by decide +kernel
theorem ok142 : bP Try.prog Try.f142 c142 = true := by decide +kernel
theorem ok147 : bP Try.prog Try.f147 c147 = true := by decide +kernel
theorem ok152 : bP Try.prog Try.f152 c152 = true := by decide +kernel
theorem ok159 : bP Try.prog Try.f159 c159 = true := by decide +kernel
theorem ok170 : bP Try.prog Try.f170 c170 = true := by decide +kernel
theorem ok176 : bP Try.prog Try.f176 c176 = true := by decide +kernel
theorem ok180 : bP Try.prog Try.f180 c180 = true := by decide +kernel
theorem ok187 : bP Try.prog Try.f187 c187 = true := by decide +kernel
end Go.Cq
