/- What a script says that lets a mail go round. -/
import Derived.Test.YtpmpggihngmnoaaGreatDoorScriptReturnCd5drawtwiceZ
namespace Go.Proofs.YtpmpggihngmnoaaGreatDoor.Q
open Go Go.AM
set_option linter.unusedSimpArgs false
set_option linter.unusedVariables false
set_option linter.unusedSectionVars false
def abT : Bs := [97, 64, 98]
def rcT : Bs := [114, 101, 99, 101, 105, 118, 101, 100, 58, 32, 120]
def B0 : V := .sl false [[.str abT, .sl false []]]
def sA : List V := [.int .i64 1, .str [120], .str [], .sl true [], .sl true [], .sl true []]
def sB : List V := [.int .i64 2, .str [120], .str [], .sl true [], .sl true [], .sl true []]
def sC : List V := [.int .i64 3, .str [120], .str [], .sl true [[.str abT]], .sl true [], .sl true []]
def sD (k : Nat) : List V := [.int .i64 4, .str [120], .str [], .sl true [[.str abT]], .sl true (List.replicate k [.str rcT]), .sl true []]
def rowK (k : Nat) : List V := [.str [], .sl true [[.str abT]], .sl true (List.replicate k [.str rcT])]
def ok250 : Bs := [50, 53, 48, 32, 111, 107, 10]
def go354 : Bs := [51, 53, 52, 32, 103, 111, 32, 111, 110, 10]
def lnBox : Bs := [98, 111, 120, 32, 97, 64, 98]
def lnHelo : Bs := [115, 97, 121, 32, 72, 69, 76, 79, 32, 120]
def lnMail : Bs := [115, 97, 121, 32, 77, 65, 73, 76, 32, 70, 82, 79, 77, 58, 60, 62]
def lnRcpt : Bs := [115, 97, 121, 32, 82, 67, 80, 84, 32, 84, 79, 58, 60, 97, 64, 98, 62]
def lnData : Bs := [115, 97, 121, 32, 68, 65, 84, 65]
def lnRecv : Bs := [115, 97, 121, 32, 114, 101, 99, 101, 105, 118, 101, 100, 58, 32, 120]
def lnDot : Bs := [115, 97, 121, 32, 46]
def lnPass : Bs := [112, 97, 115, 115]
set_option maxRecDepth 100000 in
theorem sl1 : cv id_impl_gate_line [.ptr 0 0, .str lnBox] [cG (.sl true []) sess0 dt0] = some (.str okL, [cG B0 sess0 dt0]) := callE_of 100 (by kernel_rfl)
set_option maxRecDepth 100000 in
theorem sl2 : cv id_impl_gate_line [.ptr 0 0, .str lnHelo] [cG B0 sess0 dt0] = some (.str ok250, [cG B0 sA dt0]) := callE_of 100 (by kernel_rfl)
set_option maxRecDepth 100000 in
theorem sl3 : cv id_impl_gate_line [.ptr 0 0, .str lnMail] [cG B0 sA dt0] = some (.str ok250, [cG B0 sB dt0]) := callE_of 100 (by kernel_rfl)
set_option maxRecDepth 100000 in
theorem sl4 : cv id_impl_gate_line [.ptr 0 0, .str lnRcpt] [cG B0 sB dt0] = some (.str ok250, [cG B0 sC dt0]) := callE_of 100 (by kernel_rfl)
set_option maxRecDepth 100000 in
theorem sl5 : cv id_impl_gate_line [.ptr 0 0, .str lnData] [cG B0 sC dt0] = some (.str go354, [cG B0 (sD 0) dt0]) := callE_of 100 (by kernel_rfl)
set_option maxRecDepth 100000 in
theorem sl6 : ∀ k, k < 7 -> cv id_impl_gate_line [.ptr 0 0, .str lnRecv] [cG B0 (sD k) dt0] = some (.str [45, 10], [cG B0 (sD (k + 1)) dt0]) := fun k hk => by
 obtain rfl | rfl | rfl | rfl | rfl | rfl | rfl : k = 0 ∨ k = 1 ∨ k = 2 ∨ k = 3 ∨ k = 4 ∨ k = 5 ∨ k = 6 := by omega
 all_goals exact callE_of 100 (by kernel_rfl)
set_option maxRecDepth 100000 in
theorem sl7 : ∀ k, k < 8 -> cv id_impl_gate_line [.ptr 0 0, .str lnDot] [cG B0 (sD k) dt0] = some (.str ok250, [cG B0 [.int .i64 1, .str [120], .str [], .sl true [], .sl true [], .sl true [rowK k]] dt0]) := fun k hk => by
 obtain rfl | rfl | rfl | rfl | rfl | rfl | rfl | rfl : k = 0 ∨ k = 1 ∨ k = 2 ∨ k = 3 ∨ k = 4 ∨ k = 5 ∨ k = 6 ∨ k = 7 := by omega
 all_goals exact callE_of 100 (by kernel_rfl)
end Go.Proofs.YtpmpggihngmnoaaGreatDoor.Q
