/- Each function reads as it is written. -/
import Derived.Test.YthaoldnmdbdiaaaGreatDb
import Derived.Test.YthaoldnmdbdiaaaGreatProg
namespace Go.Cq
open Go.Proofs
theorem ok12 : okG Tryz.prog Tryz.f12 (.c c12) = true := by decide +kernel
theorem ok16 : okG Tryz.prog Tryz.f16 (.c c16) = true := by decide +kernel
theorem ok20 : okG Tryz.prog Tryz.f20 (.c c20) = true := by decide +kernel
theorem ok30 : okG Tryz.prog Tryz.f30 (.c c30) = true := by decide +kernel
theorem ok35 : okG Tryz.prog Tryz.f35 (.c c35) = true := by decide +kernel
theorem ok49 : okG Tryz.prog Tryz.f49 (.c c49) = true := by decide +kernel
theorem ok53 : okG Tryz.prog Tryz.f53 (.c c53) = true := by decide +kernel
theorem ok57 : okG Tryz.prog Tryz.f57 (.c c57) = true := by decide +kernel
theorem ok61 : okG Tryz.prog Tryz.f61 (.c c61) = true := by decide +kernel
theorem ok65 : okG Tryz.prog Tryz.f65 (.c c65) = true := by decide +kernel
theorem ok69 : okG Tryz.prog Tryz.f69 (.c c69) = true := by decide +kernel
theorem ok73 : okG Tryz.prog Tryz.f73 (.c c73) = true := by decide +kernel
theorem ok83 : okG Tryz.prog Tryz.f83 (.c c83) = true := by decide +kernel
theorem ok87 : okG Tryz.prog Tryz.f87 (.c c87) = true := by decide +kernel
theorem ok93 : okG Tryz.prog Tryz.f93 (.c c93) = true := by decide +kernel
theorem ok99 : okG Tryz.prog Tryz.f99 (.c c99) = true := by decide +kernel
theorem ok103 : okG Tryz.prog Tryz.f103 (.c c103) = true := by decide +kernel
theorem ok107 : okG Tryz.prog Tryz.f107 (.c c107) = true := by decide +kernel
theorem ok111 : okG Tryz.prog Tryz.f111 (.c c111) = true := by decide +kernel
theorem ok115 : okG Tryz.prog Tryz.f115 (.c c115) = true := by decide +kernel
theorem ok119 : okG Tryz.prog Tryz.f119 (.c c119) = true := by decide +kernel
theorem ok123 : okG Tryz.prog Tryz.f123 (.c c123) = true := by decide +kernel
theorem ok131 : okG Tryz.prog Tryz.f131 (.c c131) = true := by decide +kernel
theorem ok135 : okG Tryz.prog Tryz.f135 (.c c135) = true := by decide +kernel
theorem ok139 : okG Tryz.prog Tryz.f139 (.c c139) = true := by decide +kernel
theorem ok147 : okG Tryz.prog Tryz.f147 (.c c147) = true := by decide +kernel
theorem ok151 : okG Tryz.prog Tryz.f151 (.c c151) = true := by decide +kernel
theorem ok155 : okG Tryz.prog Tryz.f155 (.c c155) = true := by decide +kernel
theorem ok159 : okG Tryz.prog Tryz.f159 (.c c159) = true := by decide +kernel
theorem ok163 : okG Tryz.prog Tryz.f163 (.c c163) = true := by decide +kernel
theorem ok167 : okG Tryz.prog Tryz.f167 (.c c167) = true := by decide +kernel
theorem ok171 : okG Tryz.prog Tryz.f171 (.c c171) = true := by decide +kernel
theorem ok178 : okG Tryz.prog Tryz.f178 (.c c178) = true := by decide +kernel
theorem ok182 : okG Tryz.prog Tryz.f182 (.c c182) = true := by decide +kernel
theorem ok186 : okG Tryz.prog Tryz.f186 (.c c186) = true := by decide +kernel
theorem ok191 : okG Tryz.prog Tryz.f191 (.c c191) = true := by decide +kernel
end Go.Cq
