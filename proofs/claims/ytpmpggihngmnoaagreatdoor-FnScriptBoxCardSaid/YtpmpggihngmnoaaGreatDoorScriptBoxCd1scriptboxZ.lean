/- The law: scripts add boxes. -/
import Derived.Test.YtpmpggihngmnoaaGreatDoorScriptBoxCd0scriptZ
namespace Go.Proofs.YtpmpggihngmnoaaGreatDoor.Q
open Go Go.AM
set_option linter.unusedSimpArgs false
set_option linter.unusedVariables false
set_option linter.unusedSectionVars false
theorem DrawAddBox_path (xs : Bs) : ∃ o r p, pc id_spec_DrawAddBox [.sl false (vB xs)] = some (.tup [.sl o r, .str p]) /\ p ∈ ([[110, 101, 119, 64, 120, 46, 111, 114, 103], [98, 111, 98, 64, 121, 46, 111, 114, 103], [97, 64, 98], [97, 64, 66], [120], [122, 101, 100, 64, 122]] : List Bs) := by
 suffices hg : Gets2 (cv id_spec_DrawAddBox [.sl false (vB xs)] []) (fun v H => ∃ l p w, v = .tup [w, .str p] /\ VX w 0 H l /\ p ∈ ([[110, 101, 119, 64, 120, 46, 111, 114, 103], [98, 111, 98, 64, 121, 46, 111, 114, 103], [97, 64, 98], [97, 64, 66], [120], [122, 101, 100, 64, 122]] : List Bs)) by
  obtain ⟨v, H, e, l, p, w, rfl, hw, hp⟩ := hg
  obtain ⟨o, r, e2, hr⟩ := pc_tupY e (by simp only [evv]) rfl rfl hw
  exact ⟨o, r, p, e2, hp⟩
 refine Gets2.of ?_
 rw [spec_DrawAddBox_eq]
 refine (Open_g (xs := xs)).bind ?_
 rintro _ H0 ⟨rfl, R0⟩
 simp only [evv]
 refine (l11Draw_g R0 (by omega)).bind ?_
 rintro _ H1 ⟨a, rfl, ha, R1⟩
 simp only [evv, vOX_strip]
 refine (l11Wrong_g R1 (by omega) (VX.row a _ _) ha (by omega)).bind ?_
 rintro w H2 ⟨l, hw, hl, R2⟩
 simp only [evv]
 refine (of_f (Rf.refl R2) (by omega) (by decide)).bind ?_
 rintro _ H3 ⟨p, rfl, hp, -, R3⟩
 simp only [evv]
 exact Gets.here ⟨l, p, w, rfl, hw.fr R3, by simpa [unT] using hp⟩
def bxT : Bs := [98, 111, 120, 32]
def tkT : Bs := [116, 97, 107, 101, 32]
def heldT : Bs := [104, 101, 108, 100]
def okL : Bs := [111, 107, 10]
def whatL : Bs := [119, 104, 97, 116, 10]
def held0L : Bs := [104, 101, 108, 100, 32, 48, 10]
structure BoxOk (p : Bs) : Prop where
 a1 : pc id_impl_AddBox [.sl false [], .str p] = some (.tup [.sl false [[.str p, .sl false []]], .bool true])
 a2 : pc id_spec_AddBox [.sl false [], .str p] = some (.tup [.sl true [[.str p, .sl true []]], .bool true])
 a3 : qc id_impl_BoxesSame [.sl false [[.str p, .sl false []]], .sl false [[.str p, .sl false []]]] = some (.bool true)
 b1 : cv id_impl_gate_line [.ptr 0 0, .str (bxT ++ p)] [cG (.sl true []) sess0 dt0] = some (.str okL, [cG (.sl false [[.str p, .sl false []]]) sess0 dt0])
 b2 : cv id_impl_gate_line [.ptr 0 0, .str (bxT ++ p)] [cG (.sl false [[.str p, .sl false []]]) sess0 dt0] = some (.str whatL, [cG (.sl false [[.str p, .sl false []]]) sess0 dt0])
 b3 : cv id_impl_gate_line [.ptr 0 0, .str (tkT ++ p)] [cG (.sl false [[.str p, .sl false []]]) sess0 dt0] = some (.str whatL, [cG (.sl false [[.str p, .sl false []]]) sess0 dt0])
 b4 : cv id_impl_gate_line [.ptr 0 0, .str heldT] [cG (.sl false [[.str p, .sl false []]]) sess0 dt0] = some (.str held0L, [cG (.sl false [[.str p, .sl false []]]) sess0 dt0])
 sp : splitB 10 (bxT ++ p ++ [10, 98, 111, 120, 32] ++ p ++ [10, 116, 97, 107, 101, 32] ++ p ++ [10, 104, 101, 108, 100, 10]) = [bxT ++ p, bxT ++ p, tkT ++ p, heldT, []]
set_option maxRecDepth 100000 in
theorem box_ok1 : BoxOk [110, 101, 119, 64, 120, 46, 111, 114, 103] := ⟨pcE_of 100 (by kernel_rfl), pcE_of 100 (by kernel_rfl), qcE_of 100 (by kernel_rfl), callE_of 100 (by kernel_rfl), callE_of 100 (by kernel_rfl), callE_of 100 (by kernel_rfl), callE_of 100 (by kernel_rfl), by decide⟩
set_option maxRecDepth 100000 in
theorem box_ok2 : BoxOk [98, 111, 98, 64, 121, 46, 111, 114, 103] := ⟨pcE_of 100 (by kernel_rfl), pcE_of 100 (by kernel_rfl), qcE_of 100 (by kernel_rfl), callE_of 100 (by kernel_rfl), callE_of 100 (by kernel_rfl), callE_of 100 (by kernel_rfl), callE_of 100 (by kernel_rfl), by decide⟩
set_option maxRecDepth 100000 in
theorem box_ok3 : BoxOk [97, 64, 98] := ⟨pcE_of 100 (by kernel_rfl), pcE_of 100 (by kernel_rfl), qcE_of 100 (by kernel_rfl), callE_of 100 (by kernel_rfl), callE_of 100 (by kernel_rfl), callE_of 100 (by kernel_rfl), callE_of 100 (by kernel_rfl), by decide⟩
set_option maxRecDepth 100000 in
theorem box_ok4 : BoxOk [122, 101, 100, 64, 122] := ⟨pcE_of 100 (by kernel_rfl), pcE_of 100 (by kernel_rfl), qcE_of 100 (by kernel_rfl), callE_of 100 (by kernel_rfl), callE_of 100 (by kernel_rfl), callE_of 100 (by kernel_rfl), callE_of 100 (by kernel_rfl), by decide⟩
structure BoxNo (p : Bs) : Prop where
 a1 : pc id_impl_AddBox [.sl false [], .str p] = some (.tup [.sl true [], .bool false])
 a2 : pc id_spec_AddBox [.sl false [], .str p] = some (.tup [.sl true [], .bool false])
 a3 : qc id_impl_BoxesSame [.sl false [], .sl false []] = some (.bool true)
 b1 : cv id_impl_gate_line [.ptr 0 0, .str (bxT ++ p)] [cG (.sl true []) sess0 dt0] = some (.str whatL, [cG (.sl true []) sess0 dt0])
 b4 : cv id_impl_gate_line [.ptr 0 0, .str heldT] [cG (.sl true []) sess0 dt0] = some (.str held0L, [cG (.sl true []) sess0 dt0])
 sp : splitB 10 (bxT ++ p ++ [10, 104, 101, 108, 100, 10]) = [bxT ++ p, heldT, []]
set_option maxRecDepth 100000 in
theorem box_no1 : BoxNo [97, 64, 66] := ⟨pcE_of 100 (by kernel_rfl), pcE_of 100 (by kernel_rfl), qcE_of 100 (by kernel_rfl), callE_of 100 (by kernel_rfl), callE_of 100 (by kernel_rfl), by decide⟩
set_option maxRecDepth 100000 in
theorem box_no2 : BoxNo [120] := ⟨pcE_of 100 (by kernel_rfl), pcE_of 100 (by kernel_rfl), qcE_of 100 (by kernel_rfl), callE_of 100 (by kernel_rfl), callE_of 100 (by kernel_rfl), by decide⟩
end Go.Proofs.YtpmpggihngmnoaaGreatDoor.Q
