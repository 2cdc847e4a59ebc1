/- The law, run by the kernel: it answers true. -/
import Derived.Test.YthaoldnmdbdiaaaGreatOa
import Derived.Test.YthaoldnmdbdiaaaGreatOb
import Derived.Test.YthaoldnmdbdiaaaGreatOc
import Derived.Test.YthaoldnmdbdiaaaGreatOd
import Derived.KernelRfl
namespace Go.Cq
open Go.Proofs
noncomputable def ents0 : List (Nat × GFn) := [(3, .c c3), (5, .c c5), (6, .c c6), (7, .c c7), (8, .c c8), (9, .c c9), (10, .c c10), (11, .c c11), (15, .c c15), (16, .c c16), (17, .c c17), (18, .c c18), (19, .c c19), (20, .c c20), (21, .c c21), (22, .c c22), (23, .c c23), (24, .c c24), (25, .c c25), (26, .c c26), (27, .c c27), (28, .c c28), (29, .c c29), (30, .c c30), (31, .c c31), (32, .c c32), (33, .m c33), (34, .c c34), (35, .c c35), (36, .c c36)]
theorem all0 : AllOk Tryz.prog ents0 := ⟨⟨_, Tryz.func3, ok3⟩, ⟨_, Tryz.func5, ok5⟩, ⟨_, Tryz.func6, ok6⟩, ⟨_, Tryz.func7, ok7⟩, ⟨_, Tryz.func8, ok8⟩, ⟨_, Tryz.func9, ok9⟩, ⟨_, Tryz.func10, ok10⟩, ⟨_, Tryz.func11, ok11⟩, ⟨_, Tryz.func15, ok15⟩, ⟨_, Tryz.func16, ok16⟩, ⟨_, Tryz.func17, ok17⟩, ⟨_, Tryz.func18, ok18⟩, ⟨_, Tryz.func19, ok19⟩, ⟨_, Tryz.func20, ok20⟩, ⟨_, Tryz.func21, ok21⟩, ⟨_, Tryz.func22, ok22⟩, ⟨_, Tryz.func23, ok23⟩, ⟨_, Tryz.func24, ok24⟩, ⟨_, Tryz.func25, ok25⟩, ⟨_, Tryz.func26, ok26⟩, ⟨_, Tryz.func27, ok27⟩, ⟨_, Tryz.func28, ok28⟩, ⟨_, Tryz.func29, ok29⟩, ⟨_, Tryz.func30, ok30⟩, ⟨_, Tryz.func31, ok31⟩, ⟨_, Tryz.func32, ok32⟩, ⟨_, Tryz.func33, ok33⟩, ⟨_, Tryz.func34, ok34⟩, ⟨_, Tryz.func35, ok35⟩, ⟨_, Tryz.func36, ok36⟩, trivial⟩
noncomputable def ents1 : List (Nat × GFn) := [(37, .c c37), (38, .c c38), (39, .c c39), (40, .c c40), (41, .c c41), (42, .c c42), (43, .c c43), (44, .c c44), (45, .c c45), (46, .c c46), (47, .c c47), (66, .c c66), (67, .c c67), (68, .c c68), (69, .c c69), (70, .c c70), (71, .c c71), (72, .c c72), (73, .c c73), (74, .c c74), (75, .c c75), (76, .c c76), (77, .c c77), (78, .c c78), (79, .c c79), (80, .c c80), (81, .c c81), (82, .c c82), (83, .c c83), (84, .c c84)]
theorem all1 : AllOk Tryz.prog ents1 := ⟨⟨_, Tryz.func37, ok37⟩, ⟨_, Tryz.func38, ok38⟩, ⟨_, Tryz.func39, ok39⟩, ⟨_, Tryz.func40, ok40⟩, ⟨_, Tryz.func41, ok41⟩, ⟨_, Tryz.func42, ok42⟩, ⟨_, Tryz.func43, ok43⟩, ⟨_, Tryz.func44, ok44⟩, ⟨_, Tryz.func45, ok45⟩, ⟨_, Tryz.func46, ok46⟩, ⟨_, Tryz.func47, ok47⟩, ⟨_, Tryz.func66, ok66⟩, ⟨_, Tryz.func67, ok67⟩, ⟨_, Tryz.func68, ok68⟩, ⟨_, Tryz.func69, ok69⟩, ⟨_, Tryz.func70, ok70⟩, ⟨_, Tryz.func71, ok71⟩, ⟨_, Tryz.func72, ok72⟩, ⟨_, Tryz.func73, ok73⟩, ⟨_, Tryz.func74, ok74⟩, ⟨_, Tryz.func75, ok75⟩, ⟨_, Tryz.func76, ok76⟩, ⟨_, Tryz.func77, ok77⟩, ⟨_, Tryz.func78, ok78⟩, ⟨_, Tryz.func79, ok79⟩, ⟨_, Tryz.func80, ok80⟩, ⟨_, Tryz.func81, ok81⟩, ⟨_, Tryz.func82, ok82⟩, ⟨_, Tryz.func83, ok83⟩, ⟨_, Tryz.func84, ok84⟩, trivial⟩
noncomputable def ents2 : List (Nat × GFn) := [(85, .c c85), (86, .c c86), (87, .c c87), (88, .c c88), (89, .c c89), (90, .c c90), (91, .c c91), (92, .c c92), (93, .c c93), (94, .c c94), (95, .c c95), (96, .c c96), (117, .c c117), (118, .c c118), (119, .c c119), (120, .c c120), (121, .c c121), (122, .c c122), (123, .c c123), (124, .c c124), (125, .c c125), (126, .c c126), (127, .c c127), (128, .c c128), (129, .c c129), (130, .c c130), (131, .c c131), (132, .c c132), (133, .c c133), (134, .c c134)]
theorem all2 : AllOk Tryz.prog ents2 := ⟨⟨_, Tryz.func85, ok85⟩, ⟨_, Tryz.func86, ok86⟩, ⟨_, Tryz.func87, ok87⟩, ⟨_, Tryz.func88, ok88⟩, ⟨_, Tryz.func89, ok89⟩, ⟨_, Tryz.func90, ok90⟩, ⟨_, Tryz.func91, ok91⟩, ⟨_, Tryz.func92, ok92⟩, ⟨_, Tryz.func93, ok93⟩, ⟨_, Tryz.func94, ok94⟩, ⟨_, Tryz.func95, ok95⟩, ⟨_, Tryz.func96, ok96⟩, ⟨_, Tryz.func117, ok117⟩, ⟨_, Tryz.func118, ok118⟩, ⟨_, Tryz.func119, ok119⟩, ⟨_, Tryz.func120, ok120⟩, ⟨_, Tryz.func121, ok121⟩, ⟨_, Tryz.func122, ok122⟩, ⟨_, Tryz.func123, ok123⟩, ⟨_, Tryz.func124, ok124⟩, ⟨_, Tryz.func125, ok125⟩, ⟨_, Tryz.func126, ok126⟩, ⟨_, Tryz.func127, ok127⟩, ⟨_, Tryz.func128, ok128⟩, ⟨_, Tryz.func129, ok129⟩, ⟨_, Tryz.func130, ok130⟩, ⟨_, Tryz.func131, ok131⟩, ⟨_, Tryz.func132, ok132⟩, ⟨_, Tryz.func133, ok133⟩, ⟨_, Tryz.func134, ok134⟩, trivial⟩
noncomputable def ents3 : List (Nat × GFn) := [(135, .c c135), (136, .c c136), (137, .c c137), (138, .c c138), (139, .c c139), (140, .c c140), (141, .c c141), (142, .c c142), (143, .c c143), (160, .c c160), (161, .c c161), (162, .c c162), (163, .c c163), (164, .c c164), (165, .c c165), (166, .c c166), (167, .c c167), (168, .c c168), (169, .c c169), (170, .c c170), (171, .c c171), (172, .c c172), (173, .c c173), (174, .c c174), (175, .c c175), (182, .c c182), (183, .c c183), (184, .c c184), (185, .c c185), (186, .c c186)]
theorem all3 : AllOk Tryz.prog ents3 := ⟨⟨_, Tryz.func135, ok135⟩, ⟨_, Tryz.func136, ok136⟩, ⟨_, Tryz.func137, ok137⟩, ⟨_, Tryz.func138, ok138⟩, ⟨_, Tryz.func139, ok139⟩, ⟨_, Tryz.func140, ok140⟩, ⟨_, Tryz.func141, ok141⟩, ⟨_, Tryz.func142, ok142⟩, ⟨_, Tryz.func143, ok143⟩, ⟨_, Tryz.func160, ok160⟩, ⟨_, Tryz.func161, ok161⟩, ⟨_, Tryz.func162, ok162⟩, ⟨_, Tryz.func163, ok163⟩, ⟨_, Tryz.func164, ok164⟩, ⟨_, Tryz.func165, ok165⟩, ⟨_, Tryz.func166, ok166⟩, ⟨_, Tryz.func167, ok167⟩, ⟨_, Tryz.func168, ok168⟩, ⟨_, Tryz.func169, ok169⟩, ⟨_, Tryz.func170, ok170⟩, ⟨_, Tryz.func171, ok171⟩, ⟨_, Tryz.func172, ok172⟩, ⟨_, Tryz.func173, ok173⟩, ⟨_, Tryz.func174, ok174⟩, ⟨_, Tryz.func175, ok175⟩, ⟨_, Tryz.func182, ok182⟩, ⟨_, Tryz.func183, ok183⟩, ⟨_, Tryz.func184, ok184⟩, ⟨_, Tryz.func185, ok185⟩, ⟨_, Tryz.func186, ok186⟩, trivial⟩
noncomputable def ents4 : List (Nat × GFn) := [(187, .c c187), (188, .c c188), (192, .c c192)]
theorem all4 : AllOk Tryz.prog ents4 := ⟨⟨_, Tryz.func187, ok187⟩, ⟨_, Tryz.func188, ok188⟩, ⟨_, Tryz.func192, ok192⟩, trivial⟩
noncomputable def ents : List (Nat × GFn) := ents0 ++ (ents1 ++ (ents2 ++ (ents3 ++ (ents4))))
theorem allE : AllOk Tryz.prog ents := (all0.append (all1.append (all2.append (all3.append all4))))
theorem tabE : tabOf .lf ents = FTt := by kernel_rfl
theorem hgt : GTOk Tryz.prog (Z.get FTt) := gtOk_of tabE allE
theorem hmix : Tryz.prog.follows .mixedOrders = true := by decide +kernel
theorem hd3 : Z.get FTt 3 = some (.c c3) := by kernel_rfl
theorem hnil : yes (Z.runG (Z.get FTt) 300 3 [.one (.nils 1)] noHeap 1) = true := by decide +kernel
theorem tl (n : Nat) (b : Bool) : yesX c3.res 1 (Z.tailX (Z.runG (Z.get FTt) 299) 296 c3.code.rgt.lft.rgt c3.code.rgt.rgt ⟨[(0, .v (.one (.sl 0 0 n none))), (10, .v (.one (.bool b)))], noHeap, 5⟩) = true := by
  cases b <;> kernel_rfl
theorem h0 (n : Nat) : Z.ex (Z.runG (Z.get FTt) 299) 298 c3.code.lft [(0, .v (.one (.sl 0 0 n none)))] noHeap 1 = some (.nrm, ⟨[(0, .v (.one (.sl 0 0 n none)))], noHeap, 2⟩) := by kernel_rfl
theorem h1 (n : Nat) : Z.ex (Z.runG (Z.get FTt) 299) 296 c3.code.rgt.lft.lft [(0, .v (.one (.sl 0 0 n none)))] noHeap 2 = some (.nrm, ⟨[(0, .v (.one (.sl 0 0 n none))), (10, .v (.one (.bool (Nat.blt 1048576 n))))], noHeap, 5⟩) := by kernel_rfl
theorem hlen (n : Nat) : yes (runG (Z.get FTt) 300 3 [.one (.sl 0 0 n none)] noHeap 1) = true := by
  refine yes_of_head (f := 299) hd3 (Nat.le_of_ble_eq_true (by kernel_rfl)) ?_
  have g0 := h0 n
  have g1 := h1 n
  rw [Z.ex_eq] at g0 g1
  rw [Z.runG_eq] at g0 g1
  have ht := tl n (Nat.blt 1048576 n)
  rw [Z.tailX_eq, Z.runG_eq] at ht
  rw [← head2 g0 g1] at ht
  exact ht
theorem hrun {v : Value} (_ : v = .slice none 0 0 ∨ ∃ b off len cap, v = .slice (some ⟨b, off, none⟩) len cap ∧ len ≤ cap) : yes (runG (Z.get FTt) 300 3 [.one (lenV 0 v)] noHeap 1) = true := by
  unfold lenV
  split
  · exact hlen _
  · rw [← Z.runG_eq]; exact hnil
end Go.Cq
