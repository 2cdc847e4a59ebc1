import Derived.Test.YthdipcbjhhopaaaDa
import Derived.Test.YthdipcbjhhopaaaProg
namespace Go.Cq
open Go.Proofs
theorem ok26 : au Try.prog Try.f26 c26 = true := by decide +kernel
theorem ok35 : au Try.prog Try.f35 c35 = true := by decide +kernel
theorem ok51 : au Try.prog Try.f51 c51 = true := by decide +kernel
theorem ok60 : au Try.prog Try.f60 c60 = true := by decide +kernel
theorem ok64 : au Try.prog Try.f64 c64 = true := by decide +kernel
theorem ok70 : au Try.prog Try.f70 c70 = true := by decide +kernel
theorem ok78 : au Try.prog Try.f78 c78 = true := by decide +kernel
theorem ok84 : au Try.prog Try.f84 c84 = true := by decide +kernel
theorem ok88 : au Try.prog Try.f88 c88 = true := by decide +kernel
theorem ok93 : au Try.prog Try.f93 c93 = true := by decide +kernel
theorem ok97 : au Try.prog Try.f97 c97 = true := by decide +kernel
theorem ok120 : au Try.prog Try.f120 c120 = true := by decide +kernel
theorem ok126 : au Try.prog Try.f126 c126 = true := by decide +kernel
theorem ok130 : au Try.prog Try.f130 c130 = true := by decide +kernel
theorem ok134 : au Try.prog Try.f134 c134 = true := by decide +kernel
theorem ok138 : au Try.prog Try.f138 c138 = true := by decide +kernel
theorem ok145 : au Try.prog Try.f145 c145 = true := by decide +kernel
theorem ok149 : au Try.prog Try.f149 c149 = true := by decide +kernel
theorem ok160 : au Try.prog Try.f160 c160 = true := by decide +kernel
theorem ok165 : au Try.prog Try.f165 c165 = true := by decide +kernel
theorem ok169 : au Try.prog Try.f169 c169 = true := by decide +kernel
theorem ok175 : au Try.prog Try.f175 c175 = true := by decide +kernel
theorem ok183 : au Try.prog Try.f183 c183 = true := by decide +kernel
end Go.Cq
