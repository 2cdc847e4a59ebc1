/- Each function reads as it is written. -/
import Derived.Test.YthaoldnmdbdiaaaGreatDb
import Derived.Test.YthaoldnmdbdiaaaGreatProg
namespace Go.Cq
open Go.Proofs
theorem ok7 : okG Tryz.prog Tryz.f7 (.c c7) = true := by decide +kernel
theorem ok11 : okG Tryz.prog Tryz.f11 (.c c11) = true := by decide +kernel
theorem ok18 : okG Tryz.prog Tryz.f18 (.c c18) = true := by decide +kernel
theorem ok22 : okG Tryz.prog Tryz.f22 (.c c22) = true := by decide +kernel
theorem ok26 : okG Tryz.prog Tryz.f26 (.c c26) = true := by decide +kernel
theorem ok30 : okG Tryz.prog Tryz.f30 (.c c30) = true := by decide +kernel
theorem ok34 : okG Tryz.prog Tryz.f34 (.c c34) = true := by decide +kernel
theorem ok38 : okG Tryz.prog Tryz.f38 (.c c38) = true := by decide +kernel
theorem ok42 : okG Tryz.prog Tryz.f42 (.c c42) = true := by decide +kernel
theorem ok46 : okG Tryz.prog Tryz.f46 (.c c46) = true := by decide +kernel
theorem ok68 : okG Tryz.prog Tryz.f68 (.c c68) = true := by decide +kernel
theorem ok72 : okG Tryz.prog Tryz.f72 (.c c72) = true := by decide +kernel
theorem ok76 : okG Tryz.prog Tryz.f76 (.c c76) = true := by decide +kernel
theorem ok80 : okG Tryz.prog Tryz.f80 (.c c80) = true := by decide +kernel
theorem ok84 : okG Tryz.prog Tryz.f84 (.c c84) = true := by decide +kernel
theorem ok88 : okG Tryz.prog Tryz.f88 (.c c88) = true := by decide +kernel
theorem ok92 : okG Tryz.prog Tryz.f92 (.c c92) = true := by decide +kernel
theorem ok96 : okG Tryz.prog Tryz.f96 (.c c96) = true := by decide +kernel
theorem ok120 : okG Tryz.prog Tryz.f120 (.c c120) = true := by decide +kernel
theorem ok124 : okG Tryz.prog Tryz.f124 (.c c124) = true := by decide +kernel
theorem ok128 : okG Tryz.prog Tryz.f128 (.c c128) = true := by decide +kernel
theorem ok132 : okG Tryz.prog Tryz.f132 (.c c132) = true := by decide +kernel
theorem ok136 : okG Tryz.prog Tryz.f136 (.c c136) = true := by decide +kernel
theorem ok140 : okG Tryz.prog Tryz.f140 (.c c140) = true := by decide +kernel
theorem ok160 : okG Tryz.prog Tryz.f160 (.c c160) = true := by decide +kernel
theorem ok164 : okG Tryz.prog Tryz.f164 (.c c164) = true := by decide +kernel
theorem ok168 : okG Tryz.prog Tryz.f168 (.c c168) = true := by decide +kernel
theorem ok172 : okG Tryz.prog Tryz.f172 (.c c172) = true := by decide +kernel
theorem ok182 : okG Tryz.prog Tryz.f182 (.c c182) = true := by decide +kernel
theorem ok186 : okG Tryz.prog Tryz.f186 (.c c186) = true := by decide +kernel
end Go.Cq
