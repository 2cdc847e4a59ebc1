/- Each function reads as it is written. -/
import Derived.Test.YthaoldnmdbdiaaaGreatDb
import Derived.Test.YthaoldnmdbdiaaaGreatProg
namespace Go.Cq
open Go.Proofs
theorem ok5 : okG Tryz.prog Tryz.f5 (.c c5) = true := by decide +kernel
theorem ok9 : okG Tryz.prog Tryz.f9 (.c c9) = true := by decide +kernel
theorem ok16 : okG Tryz.prog Tryz.f16 (.c c16) = true := by decide +kernel
theorem ok20 : okG Tryz.prog Tryz.f20 (.c c20) = true := by decide +kernel
theorem ok24 : okG Tryz.prog Tryz.f24 (.c c24) = true := by decide +kernel
theorem ok28 : okG Tryz.prog Tryz.f28 (.c c28) = true := by decide +kernel
theorem ok32 : okG Tryz.prog Tryz.f32 (.c c32) = true := by decide +kernel
theorem ok36 : okG Tryz.prog Tryz.f36 (.c c36) = true := by decide +kernel
theorem ok40 : okG Tryz.prog Tryz.f40 (.c c40) = true := by decide +kernel
theorem ok44 : okG Tryz.prog Tryz.f44 (.c c44) = true := by decide +kernel
theorem ok66 : okG Tryz.prog Tryz.f66 (.c c66) = true := by decide +kernel
theorem ok70 : okG Tryz.prog Tryz.f70 (.c c70) = true := by decide +kernel
theorem ok74 : okG Tryz.prog Tryz.f74 (.c c74) = true := by decide +kernel
theorem ok78 : okG Tryz.prog Tryz.f78 (.c c78) = true := by decide +kernel
theorem ok82 : okG Tryz.prog Tryz.f82 (.c c82) = true := by decide +kernel
theorem ok86 : okG Tryz.prog Tryz.f86 (.c c86) = true := by decide +kernel
theorem ok90 : okG Tryz.prog Tryz.f90 (.c c90) = true := by decide +kernel
theorem ok94 : okG Tryz.prog Tryz.f94 (.c c94) = true := by decide +kernel
theorem ok118 : okG Tryz.prog Tryz.f118 (.c c118) = true := by decide +kernel
theorem ok122 : okG Tryz.prog Tryz.f122 (.c c122) = true := by decide +kernel
theorem ok126 : okG Tryz.prog Tryz.f126 (.c c126) = true := by decide +kernel
theorem ok130 : okG Tryz.prog Tryz.f130 (.c c130) = true := by decide +kernel
theorem ok134 : okG Tryz.prog Tryz.f134 (.c c134) = true := by decide +kernel
theorem ok138 : okG Tryz.prog Tryz.f138 (.c c138) = true := by decide +kernel
theorem ok142 : okG Tryz.prog Tryz.f142 (.c c142) = true := by decide +kernel
theorem ok162 : okG Tryz.prog Tryz.f162 (.c c162) = true := by decide +kernel
theorem ok166 : okG Tryz.prog Tryz.f166 (.c c166) = true := by decide +kernel
theorem ok170 : okG Tryz.prog Tryz.f170 (.c c170) = true := by decide +kernel
theorem ok174 : okG Tryz.prog Tryz.f174 (.c c174) = true := by decide +kernel
theorem ok184 : okG Tryz.prog Tryz.f184 (.c c184) = true := by decide +kernel
theorem ok188 : okG Tryz.prog Tryz.f188 (.c c188) = true := by decide +kernel
end Go.Cq
