import Derived.Test.YthdipcbjhhopaaaDa
import Derived.Test.YthdipcbjhhopaaaProg
namespace Go.Cq
open Go.Proofs
theorem ok26 : ay Try.prog Try.f26 c26 = true := by decide +kernel
theorem ok35 : ay Try.prog Try.f35 c35 = true := by decide +kernel
theorem ok51 : ay Try.prog Try.f51 c51 = true := by decide +kernel
theorem ok60 : ay Try.prog Try.f60 c60 = true := by decide +kernel
theorem ok64 : ay Try.prog Try.f64 c64 = true := by decide +kernel
theorem ok70 : ay Try.prog Try.f70 c70 = true := by decide +kernel
theorem ok78 : ay Try.prog Try.f78 c78 = true := by decide +kernel
theorem ok85 : ay Try.prog Try.f85 c85 = true := by decide +kernel
theorem ok89 : ay Try.prog Try.f89 c89 = true := by decide +kernel
theorem ok97 : ay Try.prog Try.f97 c97 = true := by decide +kernel
theorem ok102 : ay Try.prog Try.f102 c102 = true := by decide +kernel
theorem ok122 : ay Try.prog Try.f122 c122 = true := by decide +kernel
theorem ok128 : ay Try.prog Try.f128 c128 = true := by decide +kernel
theorem ok132 : ay Try.prog Try.f132 c132 = true := by decide +kernel
theorem ok136 : ay Try.prog Try.f136 c136 = true := by decide +kernel
theorem ok140 : ay Try.prog Try.f140 c140 = true := by decide +kernel
theorem ok147 : ay Try.prog Try.f147 c147 = true := by decide +kernel
theorem ok153 : ay Try.prog Try.f153 c153 = true := by decide +kernel
theorem ok161 : ay Try.prog Try.f161 c161 = true := by decide +kernel
theorem ok167 : ay Try.prog Try.f167 c167 = true := by decide +kernel
theorem ok173 : ay Try.prog Try.f173 c173 = true := by decide +kernel
theorem ok177 : ay Try.prog Try.f177 c177 = true := by decide +kernel
theorem ok185 : ay Try.prog Try.f185 c185 = true := by decide +kernel
end Go.Cq
