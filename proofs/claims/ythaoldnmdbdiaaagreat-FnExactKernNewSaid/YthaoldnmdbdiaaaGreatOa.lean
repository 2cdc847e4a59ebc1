/- Each function reads as it is written. -/
import Derived.Test.YthaoldnmdbdiaaaGreatDb
import Derived.Test.YthaoldnmdbdiaaaGreatProg
namespace Go.Cq
open Go.Proofs
theorem ok4 : okG Tryz.prog Tryz.f4 (.c c4) = true := by decide +kernel
theorem ok13 : okG Tryz.prog Tryz.f13 (.c c13) = true := by decide +kernel
theorem ok17 : okG Tryz.prog Tryz.f17 (.c c17) = true := by decide +kernel
theorem ok21 : okG Tryz.prog Tryz.f21 (.c c21) = true := by decide +kernel
theorem ok31 : okG Tryz.prog Tryz.f31 (.c c31) = true := by decide +kernel
theorem ok37 : okG Tryz.prog Tryz.f37 (.c c37) = true := by decide +kernel
theorem ok50 : okG Tryz.prog Tryz.f50 (.c c50) = true := by decide +kernel
theorem ok54 : okG Tryz.prog Tryz.f54 (.c c54) = true := by decide +kernel
theorem ok58 : okG Tryz.prog Tryz.f58 (.c c58) = true := by decide +kernel
theorem ok62 : okG Tryz.prog Tryz.f62 (.c c62) = true := by decide +kernel
theorem ok66 : okG Tryz.prog Tryz.f66 (.c c66) = true := by decide +kernel
theorem ok70 : okG Tryz.prog Tryz.f70 (.c c70) = true := by decide +kernel
theorem ok74 : okG Tryz.prog Tryz.f74 (.c c74) = true := by decide +kernel
theorem ok84 : okG Tryz.prog Tryz.f84 (.c c84) = true := by decide +kernel
theorem ok88 : okG Tryz.prog Tryz.f88 (.c c88) = true := by decide +kernel
theorem ok94 : okG Tryz.prog Tryz.f94 (.c c94) = true := by decide +kernel
theorem ok100 : okG Tryz.prog Tryz.f100 (.c c100) = true := by decide +kernel
theorem ok104 : okG Tryz.prog Tryz.f104 (.c c104) = true := by decide +kernel
theorem ok108 : okG Tryz.prog Tryz.f108 (.c c108) = true := by decide +kernel
theorem ok112 : okG Tryz.prog Tryz.f112 (.c c112) = true := by decide +kernel
theorem ok116 : okG Tryz.prog Tryz.f116 (.c c116) = true := by decide +kernel
theorem ok120 : okG Tryz.prog Tryz.f120 (.c c120) = true := by decide +kernel
theorem ok124 : okG Tryz.prog Tryz.f124 (.c c124) = true := by decide +kernel
theorem ok132 : okG Tryz.prog Tryz.f132 (.c c132) = true := by decide +kernel
theorem ok136 : okG Tryz.prog Tryz.f136 (.c c136) = true := by decide +kernel
theorem ok144 : okG Tryz.prog Tryz.f144 (.c c144) = true := by decide +kernel
theorem ok148 : okG Tryz.prog Tryz.f148 (.c c148) = true := by decide +kernel
theorem ok152 : okG Tryz.prog Tryz.f152 (.c c152) = true := by decide +kernel
theorem ok156 : okG Tryz.prog Tryz.f156 (.c c156) = true := by decide +kernel
theorem ok160 : okG Tryz.prog Tryz.f160 (.c c160) = true := by decide +kernel
theorem ok164 : okG Tryz.prog Tryz.f164 (.c c164) = true := by decide +kernel
theorem ok168 : okG Tryz.prog Tryz.f168 (.c c168) = true := by decide +kernel
theorem ok172 : okG Tryz.prog Tryz.f172 (.c c172) = true := by decide +kernel
theorem ok179 : okG Tryz.prog Tryz.f179 (.c c179) = true := by decide +kernel
theorem ok183 : okG Tryz.prog Tryz.f183 (.c c183) = true := by decide +kernel
theorem ok187 : okG Tryz.prog Tryz.f187 (.c c187) = true := by decide +kernel
theorem ok192 : okG Tryz.prog Tryz.f192 (.c c192) = true := by decide +kernel
end Go.Cq
