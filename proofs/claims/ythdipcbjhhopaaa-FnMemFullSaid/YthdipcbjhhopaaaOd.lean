import Derived.Test.YthdipcbjhhopaaaDa
import Derived.Test.YthdipcbjhhopaaaProg
namespace Go.Cq
open Go.Proofs
theorem ok34 : vF Try.prog Try.f34 c34 = true := by decide +kernel
theorem ok39 : bS Try.prog Try.f39 c39 = true := by decide +kernel
theorem ok59 : bS Try.prog Try.f59 c59 = true := by decide +kernel
theorem ok73 : bS Try.prog Try.f73 c73 = true := by decide +kernel
theorem ok77 : bS Try.prog Try.f77 c77 = true := by decide +kernel
theorem ok81 : bS Try.prog Try.f81 c81 = true := by decide +kernel
theorem ok85 : bS Try.prog Try.f85 c85 = true := by decide +kernel
theorem ok89 : bS Try.prog Try.f89 c89 = true := by decide +kernel
theorem ok93 : bS Try.prog Try.f93 c93 = true := by decide +kernel
theorem ok97 : bS Try.prog Try.f97 c97 = true := by decide +kernel
theorem ok103 : bS Try.prog Try.f103 c103 = true := by decide +kernel
theorem ok117 : bS Try.prog Try.f117 c117 = true := by decide +kernel
theorem ok125 : bS Try.prog Try.f125 c125 = true := by decide +kernel
theorem ok143 : bS Try.prog Try.f143 c143 = true := by decide +kernel
theorem ok147 : bS Try.prog Try.f147 c147 = true := by decide +kernel
theorem ok151 : bS Try.prog Try.f151 c151 = true := by decide +kernel
theorem ok162 : bS Try.prog Try.f162 c162 = true := by decide +kernel
theorem ok171 : bS Try.prog Try.f171 c171 = true := by decide +kernel
theorem ok175 : bS Try.prog Try.f175 c175 = true := by decide +kernel
theorem ok181 : bS Try.prog Try.f181 c181 = true := by decide +kernel
end Go.Cq
