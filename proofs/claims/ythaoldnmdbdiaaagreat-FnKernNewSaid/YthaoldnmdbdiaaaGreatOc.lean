/- Each function reads as it is written. -/
import Derived.Test.YthaoldnmdbdiaaaGreatDb
import Derived.Test.YthaoldnmdbdiaaaGreatProg
namespace Go.Cq
open Go.Proofs
theorem ok6 : okG Tryz.prog Tryz.f6 (.c c6) = true := by decide +kernel
theorem ok10 : okG Tryz.prog Tryz.f10 (.c c10) = true := by decide +kernel
theorem ok17 : okG Tryz.prog Tryz.f17 (.c c17) = true := by decide +kernel
theorem ok21 : okG Tryz.prog Tryz.f21 (.c c21) = true := by decide +kernel
theorem ok25 : okG Tryz.prog Tryz.f25 (.c c25) = true := by decide +kernel
theorem ok29 : okG Tryz.prog Tryz.f29 (.c c29) = true := by decide +kernel
theorem ok33 : okG Tryz.prog Tryz.f33 (.m c33) = true := by decide +kernel
theorem ok37 : okG Tryz.prog Tryz.f37 (.c c37) = true := by decide +kernel
theorem ok41 : okG Tryz.prog Tryz.f41 (.c c41) = true := by decide +kernel
theorem ok45 : okG Tryz.prog Tryz.f45 (.c c45) = true := by decide +kernel
theorem ok67 : okG Tryz.prog Tryz.f67 (.c c67) = true := by decide +kernel
theorem ok71 : okG Tryz.prog Tryz.f71 (.c c71) = true := by decide +kernel
theorem ok75 : okG Tryz.prog Tryz.f75 (.c c75) = true := by decide +kernel
theorem ok79 : okG Tryz.prog Tryz.f79 (.c c79) = true := by decide +kernel
theorem ok83 : okG Tryz.prog Tryz.f83 (.c c83) = true := by decide +kernel
theorem ok87 : okG Tryz.prog Tryz.f87 (.c c87) = true := by decide +kernel
theorem ok91 : okG Tryz.prog Tryz.f91 (.c c91) = true := by decide +kernel
theorem ok95 : okG Tryz.prog Tryz.f95 (.c c95) = true := by decide +kernel
theorem ok119 : okG Tryz.prog Tryz.f119 (.c c119) = true := by decide +kernel
theorem ok123 : okG Tryz.prog Tryz.f123 (.c c123) = true := by decide +kernel
theorem ok127 : okG Tryz.prog Tryz.f127 (.c c127) = true := by decide +kernel
theorem ok131 : okG Tryz.prog Tryz.f131 (.c c131) = true := by decide +kernel
theorem ok135 : okG Tryz.prog Tryz.f135 (.c c135) = true := by decide +kernel
theorem ok139 : okG Tryz.prog Tryz.f139 (.c c139) = true := by decide +kernel
theorem ok143 : okG Tryz.prog Tryz.f143 (.c c143) = true := by decide +kernel
theorem ok163 : okG Tryz.prog Tryz.f163 (.c c163) = true := by decide +kernel
theorem ok167 : okG Tryz.prog Tryz.f167 (.c c167) = true := by decide +kernel
theorem ok171 : okG Tryz.prog Tryz.f171 (.c c171) = true := by decide +kernel
theorem ok175 : okG Tryz.prog Tryz.f175 (.c c175) = true := by decide +kernel
theorem ok185 : okG Tryz.prog Tryz.f185 (.c c185) = true := by decide +kernel
theorem ok192 : okG Tryz.prog Tryz.f192 (.c c192) = true := by decide +kernel
end Go.Cq
