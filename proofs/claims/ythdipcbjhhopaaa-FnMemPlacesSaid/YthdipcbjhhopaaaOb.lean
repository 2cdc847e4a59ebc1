import Derived.Test.YthdipcbjhhopaaaDa
import Derived.Test.YthdipcbjhhopaaaProg
namespace Go.Cq
open Go.Proofs
theorem ok29 : bL Try.prog Try.f29 c29 = true := by decide +kernel
theorem ok33 : bL Try.prog Try.f33 c33 = true := by decide +kernel
theorem ok54 : bL Try.prog Try.f54 c54 = true := by decide +kernel
theorem ok63 : bL Try.prog Try.f63 c63 = true := by decide +kernel
theorem ok75 : bL Try.prog Try.f75 c75 = true := by decide +kernel
theorem ok79 : bL Try.prog Try.f79 c79 = true := by decide +kernel
theorem ok83 : bL Try.prog Try.f83 c83 = true := by decide +kernel
theorem ok87 : bL Try.prog Try.f87 c87 = true := by decide +kernel
theorem ok91 : bL Try.prog Try.f91 c91 = true := by decide +kernel
theorem ok97 : bL Try.prog Try.f97 c97 = true := by decide +kernel
theorem ok103 : bL Try.prog Try.f103 c103 = true := by decide +kernel
theorem ok117 : bL Try.prog Try.f117 c117 = true := by decide +kernel
theorem ok125 : bL Try.prog Try.f125 c125 = true := by decide +kernel
theorem ok143 : bL Try.prog Try.f143 c143 = true := by decide +kernel
theorem ok147 : bL Try.prog Try.f147 c147 = true := by decide +kernel
theorem ok151 : bL Try.prog Try.f151 c151 = true := by decide +kernel
theorem ok162 : bL Try.prog Try.f162 c162 = true := by decide +kernel
theorem ok171 : bL Try.prog Try.f171 c171 = true := by decide +kernel
theorem ok175 : bL Try.prog Try.f175 c175 = true := by decide +kernel
theorem ok181 : bL Try.prog Try.f181 c181 = true := by decide +kernel
end Go.Cq
