import Derived.Test.YthdipcbjhhopaaaDa
import Derived.Test.YthdipcbjhhopaaaProg
namespace Go.Cq
open Go.Proofs
theorem ok26 : ao Try.prog Try.f26 c26 = true := by decide +kernel
theorem ok31 : ao Try.prog Try.f31 c31 = true := by decide +kernel
theorem ok51 : ao Try.prog Try.f51 c51 = true := by decide +kernel
theorem ok60 : ao Try.prog Try.f60 c60 = true := by decide +kernel
theorem ok64 : ao Try.prog Try.f64 c64 = true := by decide +kernel
theorem ok70 : ao Try.prog Try.f70 c70 = true := by decide +kernel
theorem ok78 : ao Try.prog Try.f78 c78 = true := by decide +kernel
theorem ok83 : ao Try.prog Try.f83 c83 = true := by decide +kernel
theorem ok87 : ao Try.prog Try.f87 c87 = true := by decide +kernel
theorem ok92 : ao Try.prog Try.f92 c92 = true := by decide +kernel
theorem ok101 : ao Try.prog Try.f101 c101 = true := by decide +kernel
theorem ok122 : ao Try.prog Try.f122 c122 = true := by decide +kernel
theorem ok128 : ao Try.prog Try.f128 c128 = true := by decide +kernel
theorem ok132 : ao Try.prog Try.f132 c132 = true := by decide +kernel
theorem ok136 : ao Try.prog Try.f136 c136 = true := by decide +kernel
theorem ok140 : ao Try.prog Try.f140 c140 = true := by decide +kernel
theorem ok147 : ao Try.prog Try.f147 c147 = true := by decide +kernel
theorem ok160 : ao Try.prog Try.f160 c160 = true := by decide +kernel
theorem ok166 : ao Try.prog Try.f166 c166 = true := by decide +kernel
theorem ok172 : ao Try.prog Try.f172 c172 = true := by decide +kernel
theorem ok176 : ao Try.prog Try.f176 c176 = true := by decide +kernel
theorem ok184 : ao Try.prog Try.f184 c184 = true := by decide +kernel
end Go.Cq
