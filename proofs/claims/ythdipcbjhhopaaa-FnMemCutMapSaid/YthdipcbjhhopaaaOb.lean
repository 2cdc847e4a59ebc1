import Derived.Test.YthdipcbjhhopaaaDa
import Derived.Test.YthdipcbjhhopaaaProg
namespace Go.Cq
open Go.Proofs
theorem ok23 : bP Try.prog Try.f23 c23 = true := by decide +kernel
theorem ok35 : bP Try.prog Try.f35 c35 = true := by decide +kernel
theorem ok54 : bP Try.prog Try.f54 c54 = true := by decide +kernel
theorem ok60 : bP Try.prog Try.f60 c60 = true := by decide +kernel
theorem ok66 : bP Try.prog Try.f66 c66 = true := by decide +kernel
theorem ok77 : bP Try.prog Try.f77 c77 = true := by decide +kernel
theorem ok83 : bP Try.prog Try.f83 c83 = true := by decide +kernel
theorem ok87 : bP Try.prog Try.f87 c87 = true := by decide +kernel
theorem ok91 : bP Try.prog Try.f91 c91 = true := by decide +kernel
theorem ok97 : bP Try.prog Try.f97 c97 = true := by decide +kernel
theorem ok102 : bP Try.prog Try.f102 c102 = true := by decide +kernel
theorem ok114 : bP Try.prog Try.f114 c114 = true := by decide +kernel
theorem ok123 : bP Try.prog Try.f123 c123 = true := by decide +kernel
theorem ok130 : bP Try.prog Try.f130 c130 = true := by decide +kernel
theorem ok146 : bP Try.prog Try.f146 c146 = true := by decide +kernel
theorem ok151 : bP Try.prog Try.f151 c151 = true := by decide +kernel
theorem ok158 : bP Try.prog Try.f158 c158 = true := by decide +kernel
theorem ok164 : bP Try.prog Try.f164 c164 = true := by decide +kernel
theorem ok175 : bP Try.prog Try.f175 c175 = true := by decide +kernel
theorem ok179 : bP Try.prog Try.f179 c179 = true := by decide +kernel
theorem ok186 : bP Try.prog Try.f186 c186 = true := by decide +kernel
end Go.Cq
