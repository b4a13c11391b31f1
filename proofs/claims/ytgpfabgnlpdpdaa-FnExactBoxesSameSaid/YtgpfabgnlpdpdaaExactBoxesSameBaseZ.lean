/- The program's functions, types and marks, as the machines take them. -/
import Derived.Test.YtgpfabgnlpdpdaaProg
import Derived.Test.YtgpfabgnlpdpdaaK4
import Derived.KernelRfl
namespace Go.Proofs.Ytgpfabgnlpdpdaa.Q
open Go Go.AM Go.Proofs
set_option linter.unusedVariables false
def id_laws_FnExactBoxesSame : Nat := 6
def id_laws_szBoxS : Nat := 20
def id_laws_szBox : Nat := 36
def id_laws_szMailS : Nat := 32
def id_laws_szMail : Nat := 10
def id_laws_szStringS : Nat := 27
def id_laws_toBoxS : Nat := 22
def id_laws_toBox : Nat := 37
def id_laws_toMailS : Nat := 33
def id_laws_toMail : Nat := 12
def id_laws_toStringS : Nat := 29
def id_spec_BoxesSame : Nat := 21
def id_spec_MailSame : Nat := 11
def id_spec_l10Texts : Nat := 28
def id_impl_BoxesSame : Nat := 23
def id_slices_EqualFunc___impl_Box___impl_Box_impl_Box_impl_Box_ : Nat := 38
def id_impl_BoxesSame_1 : Nat := 39
def id_slices_EqualFunc___impl_Mail___impl_Mail_impl_Mail_impl_Mail_ : Nat := 34
def id_impl_MailSame : Nat := 13
def id_slices_Equal___string_string_ : Nat := 30
def id_laws_eqBoxS : Nat := 24
def id_laws_eqBox : Nat := 40
def id_laws_eqMailS : Nat := 35
def id_laws_eqMail : Nat := 14
def id_laws_eqStringS : Nat := 31
noncomputable def tabB : List (Nat × TI) := [
  (44, ⟨.slice 63 2 40 [(.string (bs [])), (.slice none 0 0)], false, 1, [(.slice none 0 0)]⟩),
  (3, ⟨.int .i64, false, 1, [(.int .i64 0)]⟩),
  (47, ⟨.slice 65 2 40 [(.string (bs [])), (.slice none 0 0)], false, 1, [(.slice none 0 0)]⟩),
  (4, ⟨.bool, false, 1, [(.bool false)]⟩),
  (63, ⟨.struct [(0, 1, false), (1, 1, false)], true, 2, [(.string (bs [])), (.slice none 0 0)]⟩),
  (9, ⟨.str, false, 1, [(.string (bs []))]⟩),
  (34, ⟨.slice 28 3 64 [(.string (bs [])), (.slice none 0 0), (.slice none 0 0)], false, 1, [(.slice none 0 0)]⟩),
  (28, ⟨.struct [(0, 1, false), (1, 1, false), (2, 1, false)], true, 3, [(.string (bs [])), (.slice none 0 0), (.slice none 0 0)]⟩),
  (26, ⟨.slice 9 1 16 [(.string (bs []))], false, 1, [(.slice none 0 0)]⟩),
  (65, ⟨.struct [(0, 1, false), (1, 1, false)], true, 2, [(.string (bs [])), (.slice none 0 0)]⟩),
  (39, ⟨.slice 31 3 64 [(.string (bs [])), (.slice none 0 0), (.slice none 0 0)], false, 1, [(.slice none 0 0)]⟩),
  (31, ⟨.struct [(0, 1, false), (1, 1, false), (2, 1, false)], true, 3, [(.string (bs [])), (.slice none 0 0), (.slice none 0 0)]⟩),
  (68, ⟨.other, false, 1, [.nilFunc]⟩),
  (30, ⟨.other, false, 1, [.nilFunc]⟩)]
noncomputable def annB : List (Nat × Ann) := [
  (6, { loc := [], loops := [], joins := [], full := [], dynQ := false }),
  (20, { loc := [], loops := [(5, ⟨⟨[0, 1, 5], [], []⟩, [(.exit 0, ⟨[1], [], []⟩), (.ret, ⟨[4], [], []⟩)]⟩)], joins := [], full := [], dynQ := false }),
  (36, { loc := [2], loops := [], joins := [], full := [], dynQ := false }),
  (32, { loc := [], loops := [(5, ⟨⟨[0, 1, 5], [], []⟩, [(.exit 0, ⟨[1], [], []⟩), (.ret, ⟨[4], [], []⟩)]⟩)], joins := [], full := [], dynQ := false }),
  (10, { loc := [2], loops := [], joins := [], full := [], dynQ := false }),
  (27, { loc := [], loops := [(5, ⟨⟨[0, 1, 5], [], []⟩, [(.exit 0, ⟨[1], [], []⟩), (.ret, ⟨[4], [], []⟩)]⟩)], joins := [], full := [], dynQ := false }),
  (22, { loc := [], loops := [(3, ⟨⟨[0, 3, 4], [], []⟩, [(.exit 0, ⟨[3], [], []⟩)]⟩)], joins := [], full := [], dynQ := false }),
  (37, { loc := [1, 2, 3], loops := [], joins := [], full := [], dynQ := false }),
  (33, { loc := [], loops := [(3, ⟨⟨[0, 3, 4], [], []⟩, [(.exit 0, ⟨[3], [], []⟩)]⟩)], joins := [], full := [], dynQ := false }),
  (12, { loc := [1, 2, 3], loops := [], joins := [], full := [], dynQ := false }),
  (29, { loc := [], loops := [(3, ⟨⟨[0, 3, 4], [], []⟩, [(.exit 0, ⟨[3], [], []⟩)]⟩)], joins := [], full := [], dynQ := false }),
  (21, { loc := [], loops := [(4, ⟨⟨[0, 1, 5], [], []⟩, [(.exit 0, ⟨[], [], []⟩), (.ret, ⟨[4], [], []⟩)]⟩), (9, ⟨⟨[0, 1, 5, 6], [], []⟩, [(.exit 2, ⟨[0, 1, 5], [], []⟩), (.ret, ⟨[4], [], []⟩)]⟩)], joins := [(6, 5, [(.ret, ⟨[4], [], []⟩), (.normal, ⟨[0, 1, 5], [], []⟩)]), (6, 8, [(.ret, ⟨[4], [], []⟩), (.normal, ⟨[0, 1, 5], [], []⟩)])], full := [], dynQ := false }),
  (11, { loc := [2, 3], loops := [], joins := [], full := [], dynQ := false }),
  (28, { loc := [], loops := [(4, ⟨⟨[0, 1, 5], [], []⟩, [(.exit 0, ⟨[], [], []⟩), (.ret, ⟨[4], [], []⟩)]⟩)], joins := [], full := [], dynQ := false }),
  (23, { loc := [], loops := [], joins := [], full := [], dynQ := false }),
  (38, { loc := [8, 9], loops := [(4, ⟨⟨[1, 2, 15, 16, 17], [], []⟩, [(.exit 0, ⟨[], [], []⟩), (.ret, ⟨[6], [], []⟩)]⟩)], joins := [], full := [], dynQ := true }),
  (39, { loc := [2, 3], loops := [], joins := [], full := [], dynQ := false }),
  (34, { loc := [8, 9], loops := [(4, ⟨⟨[1, 2, 15, 16, 17], [], []⟩, [(.exit 0, ⟨[], [], []⟩), (.ret, ⟨[6], [], []⟩)]⟩)], joins := [], full := [], dynQ := true }),
  (13, { loc := [2, 3], loops := [], joins := [], full := [], dynQ := false }),
  (30, { loc := [], loops := [(4, ⟨⟨[0, 1, 12, 13], [], []⟩, [(.exit 0, ⟨[], [], []⟩), (.ret, ⟨[4], [], []⟩)]⟩)], joins := [], full := [], dynQ := false }),
  (24, { loc := [], loops := [(4, ⟨⟨[0, 1, 5], [], []⟩, [(.exit 0, ⟨[], [], []⟩), (.ret, ⟨[4], [], []⟩)]⟩)], joins := [], full := [], dynQ := false }),
  (40, { loc := [2, 3], loops := [], joins := [], full := [], dynQ := false }),
  (35, { loc := [], loops := [(4, ⟨⟨[0, 1, 5], [], []⟩, [(.exit 0, ⟨[], [], []⟩), (.ret, ⟨[4], [], []⟩)]⟩)], joins := [], full := [], dynQ := false }),
  (14, { loc := [2, 3], loops := [], joins := [], full := [], dynQ := false }),
  (31, { loc := [], loops := [(4, ⟨⟨[0, 1, 5], [], []⟩, [(.exit 0, ⟨[], [], []⟩), (.ret, ⟨[4], [], []⟩)]⟩)], joins := [], full := [], dynQ := false })]
noncomputable def fnB : List (Nat × Func) := [
  (6, Try.f6), (20, Try.f20), (36, Try.f36), (32, Try.f32), (10, Try.f10), (27, Try.f27), (22, Try.f22), (37, Try.f37), (33, Try.f33), (12, Try.f12), (29, Try.f29), (21, Try.f21), (11, Try.f11), (28, Try.f28), (23, Try.f23), (38, Try.f38), (39, Try.f39), (34, Try.f34), (13, Try.f13), (30, Try.f30), (24, Try.f24), (40, Try.f40), (35, Try.f35), (14, Try.f14), (31, Try.f31)]
def quietB : List Nat := [6, 20, 36, 32, 10, 27, 21, 11, 28, 23, 38, 39, 34, 13, 30, 24, 40, 35, 14, 31]
def addsB : List Nat := [22, 37, 33, 12, 29]
def takesB : List (Nat × List Nat) := [(37, [11]), (12, [15])]
def mvB : List (Nat × List Nat) := []
-- extern: []

noncomputable def base : Base where
  ng := 0
  tab := tabB
  fn := Go.AM.look fnB
  ann := annOf annB
  kind := kindOf quietB addsB
  ext := fun _ _ => none
  prim := fun _ => none
def globB : Nat → Option (List V) := fun _ => none
noncomputable def vb : BaseV where
  b := base
  glob := globB
  takes := listOf takesB
  mv := listOf mvB
  prim := fun _ => none
noncomputable def cv : CallV := callV vb
noncomputable def pc : FuncId → List V → Option V := pcall cv
noncomputable def qc : FuncId → List V → Option V := qpcall cv
def extO : Nat → List V → Option V := fun _ _ => none
set_option maxRecDepth 100000 in
theorem fns : FnsOk Try.prog fnB := by
  unfold fnB
  refine ⟨⟨rfl, by kernel_rfl⟩, ⟨rfl, by kernel_rfl⟩, ⟨rfl, by kernel_rfl⟩, ⟨rfl, by kernel_rfl⟩, ⟨rfl, by kernel_rfl⟩, ⟨rfl, by kernel_rfl⟩, ⟨rfl, by kernel_rfl⟩, ⟨rfl, by kernel_rfl⟩, ⟨rfl, by kernel_rfl⟩, ⟨rfl, by kernel_rfl⟩, ⟨rfl, by kernel_rfl⟩, ⟨rfl, by kernel_rfl⟩, ⟨rfl, by kernel_rfl⟩, ⟨rfl, by kernel_rfl⟩, ⟨rfl, by kernel_rfl⟩, ⟨rfl, by kernel_rfl⟩, ⟨rfl, by kernel_rfl⟩, ⟨rfl, by kernel_rfl⟩, ⟨rfl, by kernel_rfl⟩, ⟨rfl, by kernel_rfl⟩, ⟨rfl, by kernel_rfl⟩, ⟨rfl, by kernel_rfl⟩, ⟨rfl, by kernel_rfl⟩, ⟨rfl, by kernel_rfl⟩, ⟨rfl, by kernel_rfl⟩, trivial⟩
theorem tabs : tabB? Try.prog tabB = true := by kernel_rfl
theorem base_ok : BaseOk Try.prog base where
  tab := tab_ok tabs
  fn := fns_ok fns
  ext := fun f n vs v _ h => by cases h
  prim := fun f g args hp r hp' h => by cases h
  mixed := by kernel_rfl
theorem vb_ok : BaseVOk vb where
  zero := tab_zero (tab_ok tabs)
  sl := tab_sl (tab_ok tabs)
  gd := fun g cs h => by cases h
  noprim := fun _ _ => rfl
  prim := fun f g args r H h => by cases h
end Go.Proofs.Ytgpfabgnlpdpdaa.Q
