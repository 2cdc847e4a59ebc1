/- Each function reads as it is written. -/
import Derived.Test.YthaoldnmdbdiaaaGreatDb
import Derived.Test.YthaoldnmdbdiaaaGreatProg
namespace Go.Cq
open Go.Proofs
theorem ok8 : okG Tryz.prog Tryz.f8 (.c c8) = true := by decide +kernel
theorem ok15 : okG Tryz.prog Tryz.f15 (.c c15) = true := by decide +kernel
theorem ok19 : okG Tryz.prog Tryz.f19 (.c c19) = true := by decide +kernel
theorem ok29 : okG Tryz.prog Tryz.f29 (.c c29) = true := by decide +kernel
theorem ok33 : okG Tryz.prog Tryz.f33 (.m c33) = true := by decide +kernel
theorem ok48 : okG Tryz.prog Tryz.f48 (.c c48) = true := by decide +kernel
theorem ok52 : okG Tryz.prog Tryz.f52 (.c c52) = true := by decide +kernel
theorem ok56 : okG Tryz.prog Tryz.f56 (.c c56) = true := by decide +kernel
theorem ok60 : okG Tryz.prog Tryz.f60 (.c c60) = true := by decide +kernel
theorem ok64 : okG Tryz.prog Tryz.f64 (.c c64) = true := by decide +kernel
theorem ok68 : okG Tryz.prog Tryz.f68 (.c c68) = true := by decide +kernel
theorem ok72 : okG Tryz.prog Tryz.f72 (.c c72) = true := by decide +kernel
theorem ok82 : okG Tryz.prog Tryz.f82 (.c c82) = true := by decide +kernel
theorem ok86 : okG Tryz.prog Tryz.f86 (.c c86) = true := by decide +kernel
theorem ok90 : okG Tryz.prog Tryz.f90 (.c c90) = true := by decide +kernel
theorem ok98 : okG Tryz.prog Tryz.f98 (.c c98) = true := by decide +kernel
theorem ok102 : okG Tryz.prog Tryz.f102 (.c c102) = true := by decide +kernel
theorem ok106 : okG Tryz.prog Tryz.f106 (.c c106) = true := by decide +kernel
theorem ok110 : okG Tryz.prog Tryz.f110 (.c c110) = true := by decide +kernel
theorem ok114 : okG Tryz.prog Tryz.f114 (.c c114) = true := by decide +kernel
theorem ok118 : okG Tryz.prog Tryz.f118 (.c c118) = true := by decide +kernel
theorem ok122 : okG Tryz.prog Tryz.f122 (.c c122) = true := by decide +kernel
theorem ok126 : okG Tryz.prog Tryz.f126 (.c c126) = true := by decide +kernel
theorem ok134 : okG Tryz.prog Tryz.f134 (.c c134) = true := by decide +kernel
theorem ok138 : okG Tryz.prog Tryz.f138 (.c c138) = true := by decide +kernel
theorem ok146 : okG Tryz.prog Tryz.f146 (.c c146) = true := by decide +kernel
theorem ok150 : okG Tryz.prog Tryz.f150 (.c c150) = true := by decide +kernel
theorem ok154 : okG Tryz.prog Tryz.f154 (.c c154) = true := by decide +kernel
theorem ok158 : okG Tryz.prog Tryz.f158 (.c c158) = true := by decide +kernel
theorem ok162 : okG Tryz.prog Tryz.f162 (.c c162) = true := by decide +kernel
theorem ok166 : okG Tryz.prog Tryz.f166 (.c c166) = true := by decide +kernel
theorem ok170 : okG Tryz.prog Tryz.f170 (.c c170) = true := by decide +kernel
theorem ok177 : okG Tryz.prog Tryz.f177 (.c c177) = true := by decide +kernel
theorem ok181 : okG Tryz.prog Tryz.f181 (.c c181) = true := by decide +kernel
theorem ok185 : okG Tryz.prog Tryz.f185 (.c c185) = true := by decide +kernel
theorem ok190 : okG Tryz.prog Tryz.f190 (.c c190) = true := by decide +kernel
theorem ok194 : okG Tryz.prog Tryz.f194 (.c c194) = true := by decide +kernel
end Go.Cq
