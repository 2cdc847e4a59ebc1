/- Each function reads as it is written. -/
import Derived.Test.YthaoldnmdbdiaaaGreatDb
import Derived.Test.YthaoldnmdbdiaaaGreatProg
namespace Go.Cq
open Go.Proofs
theorem ok5 : okG Tryz.prog Tryz.f5 (.c c5) = true := by decide +kernel
theorem ok14 : okG Tryz.prog Tryz.f14 (.c c14) = true := by decide +kernel
theorem ok18 : okG Tryz.prog Tryz.f18 (.c c18) = true := by decide +kernel
theorem ok28 : okG Tryz.prog Tryz.f28 (.c c28) = true := by decide +kernel
theorem ok32 : okG Tryz.prog Tryz.f32 (.c c32) = true := by decide +kernel
theorem ok39 : okG Tryz.prog Tryz.f39 (.c c39) = true := by decide +kernel
theorem ok51 : okG Tryz.prog Tryz.f51 (.c c51) = true := by decide +kernel
theorem ok55 : okG Tryz.prog Tryz.f55 (.c c55) = true := by decide +kernel
theorem ok59 : okG Tryz.prog Tryz.f59 (.c c59) = true := by decide +kernel
theorem ok63 : okG Tryz.prog Tryz.f63 (.c c63) = true := by decide +kernel
theorem ok67 : okG Tryz.prog Tryz.f67 (.c c67) = true := by decide +kernel
theorem ok71 : okG Tryz.prog Tryz.f71 (.c c71) = true := by decide +kernel
theorem ok81 : okG Tryz.prog Tryz.f81 (.c c81) = true := by decide +kernel
theorem ok85 : okG Tryz.prog Tryz.f85 (.c c85) = true := by decide +kernel
theorem ok89 : okG Tryz.prog Tryz.f89 (.c c89) = true := by decide +kernel
theorem ok97 : okG Tryz.prog Tryz.f97 (.c c97) = true := by decide +kernel
theorem ok101 : okG Tryz.prog Tryz.f101 (.c c101) = true := by decide +kernel
theorem ok105 : okG Tryz.prog Tryz.f105 (.c c105) = true := by decide +kernel
theorem ok109 : okG Tryz.prog Tryz.f109 (.c c109) = true := by decide +kernel
theorem ok113 : okG Tryz.prog Tryz.f113 (.c c113) = true := by decide +kernel
theorem ok117 : okG Tryz.prog Tryz.f117 (.c c117) = true := by decide +kernel
theorem ok121 : okG Tryz.prog Tryz.f121 (.c c121) = true := by decide +kernel
theorem ok125 : okG Tryz.prog Tryz.f125 (.c c125) = true := by decide +kernel
theorem ok133 : okG Tryz.prog Tryz.f133 (.c c133) = true := by decide +kernel
theorem ok137 : okG Tryz.prog Tryz.f137 (.c c137) = true := by decide +kernel
theorem ok145 : okG Tryz.prog Tryz.f145 (.c c145) = true := by decide +kernel
theorem ok149 : okG Tryz.prog Tryz.f149 (.c c149) = true := by decide +kernel
theorem ok153 : okG Tryz.prog Tryz.f153 (.c c153) = true := by decide +kernel
theorem ok157 : okG Tryz.prog Tryz.f157 (.c c157) = true := by decide +kernel
theorem ok161 : okG Tryz.prog Tryz.f161 (.c c161) = true := by decide +kernel
theorem ok165 : okG Tryz.prog Tryz.f165 (.c c165) = true := by decide +kernel
theorem ok169 : okG Tryz.prog Tryz.f169 (.c c169) = true := by decide +kernel
theorem ok176 : okG Tryz.prog Tryz.f176 (.c c176) = true := by decide +kernel
theorem ok180 : okG Tryz.prog Tryz.f180 (.c c180) = true := by decide +kernel
theorem ok184 : okG Tryz.prog Tryz.f184 (.c c184) = true := by decide +kernel
theorem ok189 : okG Tryz.prog Tryz.f189 (.c c189) = true := by decide +kernel
theorem ok193 : okG Tryz.prog Tryz.f193 (.c c193) = true := by decide +kernel
end Go.Cq
