/- Each function reads as it is written. -/
import Derived.Test.YthaoldnmdbdiaaaGreatDb
import Derived.Test.YthaoldnmdbdiaaaGreatProg
namespace Go.Cq
open Go.Proofs
theorem ok3 : okG Tryz.prog Tryz.f3 (.c c3) = true := by decide +kernel
theorem ok8 : okG Tryz.prog Tryz.f8 (.c c8) = true := by decide +kernel
theorem ok15 : okG Tryz.prog Tryz.f15 (.c c15) = true := by decide +kernel
theorem ok19 : okG Tryz.prog Tryz.f19 (.c c19) = true := by decide +kernel
theorem ok23 : okG Tryz.prog Tryz.f23 (.c c23) = true := by decide +kernel
theorem ok27 : okG Tryz.prog Tryz.f27 (.c c27) = true := by decide +kernel
theorem ok31 : okG Tryz.prog Tryz.f31 (.c c31) = true := by decide +kernel
theorem ok35 : okG Tryz.prog Tryz.f35 (.c c35) = true := by decide +kernel
theorem ok39 : okG Tryz.prog Tryz.f39 (.c c39) = true := by decide +kernel
theorem ok43 : okG Tryz.prog Tryz.f43 (.c c43) = true := by decide +kernel
theorem ok47 : okG Tryz.prog Tryz.f47 (.c c47) = true := by decide +kernel
theorem ok69 : okG Tryz.prog Tryz.f69 (.c c69) = true := by decide +kernel
theorem ok73 : okG Tryz.prog Tryz.f73 (.c c73) = true := by decide +kernel
theorem ok77 : okG Tryz.prog Tryz.f77 (.c c77) = true := by decide +kernel
theorem ok81 : okG Tryz.prog Tryz.f81 (.c c81) = true := by decide +kernel
theorem ok85 : okG Tryz.prog Tryz.f85 (.c c85) = true := by decide +kernel
theorem ok89 : okG Tryz.prog Tryz.f89 (.c c89) = true := by decide +kernel
theorem ok93 : okG Tryz.prog Tryz.f93 (.c c93) = true := by decide +kernel
theorem ok117 : okG Tryz.prog Tryz.f117 (.c c117) = true := by decide +kernel
theorem ok121 : okG Tryz.prog Tryz.f121 (.c c121) = true := by decide +kernel
theorem ok125 : okG Tryz.prog Tryz.f125 (.c c125) = true := by decide +kernel
theorem ok129 : okG Tryz.prog Tryz.f129 (.c c129) = true := by decide +kernel
theorem ok133 : okG Tryz.prog Tryz.f133 (.c c133) = true := by decide +kernel
theorem ok137 : okG Tryz.prog Tryz.f137 (.c c137) = true := by decide +kernel
theorem ok141 : okG Tryz.prog Tryz.f141 (.c c141) = true := by decide +kernel
theorem ok161 : okG Tryz.prog Tryz.f161 (.c c161) = true := by decide +kernel
theorem ok165 : okG Tryz.prog Tryz.f165 (.c c165) = true := by decide +kernel
theorem ok169 : okG Tryz.prog Tryz.f169 (.c c169) = true := by decide +kernel
theorem ok173 : okG Tryz.prog Tryz.f173 (.c c173) = true := by decide +kernel
theorem ok183 : okG Tryz.prog Tryz.f183 (.c c183) = true := by decide +kernel
theorem ok187 : okG Tryz.prog Tryz.f187 (.c c187) = true := by decide +kernel
end Go.Cq
