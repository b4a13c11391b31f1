/- The program's functions, types and marks, as the machines take them. -/
import Derived.Test.YtgpfabgnlpdpdaaProg
import Derived.Test.YtgpfabgnlpdpdaaK4
import Derived.KernelRfl
namespace Go.Proofs.Ytgpfabgnlpdpdaa.Q
open Go Go.AM Go.Proofs
set_option linter.unusedVariables false
def id_laws_FnExactSessionSame : Nat := 5
def id_laws_szSession : Nat := 15
def id_laws_szMail : Nat := 10
def id_laws_szStringS : Nat := 27
def id_laws_szMailS : Nat := 32
def id_laws_toSession : Nat := 17
def id_laws_toMail : Nat := 12
def id_laws_toStringS : Nat := 29
def id_laws_toMailS : Nat := 33
def id_spec_SessionSame : Nat := 16
def id_spec_MailSame : Nat := 11
def id_spec_l10Texts : Nat := 28
def id_impl_SessionSame : Nat := 18
def id_impl_MailSame : Nat := 13
def id_slices_Equal___string_string_ : Nat := 30
def id_slices_EqualFunc___impl_Mail___impl_Mail_impl_Mail_impl_Mail_ : Nat := 34
def id_laws_eqSession : Nat := 19
def id_laws_eqMail : Nat := 14
def id_laws_eqStringS : Nat := 31
def id_laws_eqMailS : Nat := 35
noncomputable def tabB : List (Nat × TI) := [
  (36, ⟨.struct [(0, 1, false), (1, 1, false), (2, 3, true), (5, 1, false)], true, 6, [(.int .i64 0), (.string (bs [])), (.string (bs [])), (.slice none 0 0), (.slice none 0 0), (.slice none 0 0)]⟩),
  (3, ⟨.int .i64, false, 1, [(.int .i64 0)]⟩),
  (41, ⟨.struct [(0, 1, false), (1, 1, false), (2, 3, true), (5, 1, false)], true, 6, [(.int .i64 0), (.string (bs [])), (.string (bs [])), (.slice none 0 0), (.slice none 0 0), (.slice none 0 0)]⟩),
  (4, ⟨.bool, false, 1, [(.bool false)]⟩),
  (9, ⟨.str, false, 1, [(.string (bs []))]⟩),
  (28, ⟨.struct [(0, 1, false), (1, 1, false), (2, 1, false)], true, 3, [(.string (bs [])), (.slice none 0 0), (.slice none 0 0)]⟩),
  (34, ⟨.slice 28 3 64 [(.string (bs [])), (.slice none 0 0), (.slice none 0 0)], false, 1, [(.slice none 0 0)]⟩),
  (26, ⟨.slice 9 1 16 [(.string (bs []))], false, 1, [(.slice none 0 0)]⟩),
  (31, ⟨.struct [(0, 1, false), (1, 1, false), (2, 1, false)], true, 3, [(.string (bs [])), (.slice none 0 0), (.slice none 0 0)]⟩),
  (39, ⟨.slice 31 3 64 [(.string (bs [])), (.slice none 0 0), (.slice none 0 0)], false, 1, [(.slice none 0 0)]⟩),
  (30, ⟨.other, false, 1, [.nilFunc]⟩)]
noncomputable def annB : List (Nat × Ann) := [
  (5, { loc := [2, 3, 7, 8], loops := [], joins := [], full := [], dynQ := false }),
  (15, { loc := [2], loops := [], joins := [], full := [], dynQ := false }),
  (10, { loc := [2], loops := [], joins := [], full := [], dynQ := false }),
  (27, { loc := [], loops := [(5, ⟨⟨[0, 1, 5], [], []⟩, [(.exit 0, ⟨[1], [], []⟩), (.ret, ⟨[4], [], []⟩)]⟩)], joins := [], full := [], dynQ := false }),
  (32, { loc := [], loops := [(5, ⟨⟨[0, 1, 5], [], []⟩, [(.exit 0, ⟨[1], [], []⟩), (.ret, ⟨[4], [], []⟩)]⟩)], joins := [], full := [], dynQ := false }),
  (17, { loc := [1, 2, 3], loops := [], joins := [], full := [], dynQ := false }),
  (12, { loc := [1, 2, 3], loops := [], joins := [], full := [], dynQ := false }),
  (29, { loc := [], loops := [(3, ⟨⟨[0, 3, 4], [], []⟩, [(.exit 0, ⟨[3], [], []⟩)]⟩)], joins := [], full := [], dynQ := false }),
  (33, { loc := [], loops := [(3, ⟨⟨[0, 3, 4], [], []⟩, [(.exit 0, ⟨[3], [], []⟩)]⟩)], joins := [], full := [], dynQ := false }),
  (16, { loc := [2, 3], loops := [(4, ⟨⟨[5], [(2, (2, 0)), (3, (3, 0))], [(2, 6), (3, 6)]⟩, [(.exit 0, ⟨[], [], []⟩), (.ret, ⟨[4], [], []⟩)]⟩)], joins := [(1, 3, [(.ret, ⟨[4], [], []⟩), (.normal, ⟨[], [(2, (2, 0)), (3, (3, 0))], [(2, 6), (3, 6)]⟩)])], full := [], dynQ := false }),
  (11, { loc := [2, 3], loops := [], joins := [], full := [], dynQ := false }),
  (28, { loc := [], loops := [(4, ⟨⟨[0, 1, 5], [], []⟩, [(.exit 0, ⟨[], [], []⟩), (.ret, ⟨[4], [], []⟩)]⟩)], joins := [], full := [], dynQ := false }),
  (18, { loc := [2, 3], loops := [], joins := [], full := [], dynQ := false }),
  (13, { loc := [2, 3], loops := [], joins := [], full := [], dynQ := false }),
  (30, { loc := [], loops := [(4, ⟨⟨[0, 1, 12, 13], [], []⟩, [(.exit 0, ⟨[], [], []⟩), (.ret, ⟨[4], [], []⟩)]⟩)], joins := [], full := [], dynQ := false }),
  (34, { loc := [8, 9], loops := [(4, ⟨⟨[1, 2, 15, 16, 17], [], []⟩, [(.exit 0, ⟨[], [], []⟩), (.ret, ⟨[6], [], []⟩)]⟩)], joins := [], full := [], dynQ := true }),
  (19, { loc := [2, 3], loops := [], joins := [], full := [], dynQ := false }),
  (14, { loc := [2, 3], loops := [], joins := [], full := [], dynQ := false }),
  (31, { loc := [], loops := [(4, ⟨⟨[0, 1, 5], [], []⟩, [(.exit 0, ⟨[], [], []⟩), (.ret, ⟨[4], [], []⟩)]⟩)], joins := [], full := [], dynQ := false }),
  (35, { loc := [], loops := [(4, ⟨⟨[0, 1, 5], [], []⟩, [(.exit 0, ⟨[], [], []⟩), (.ret, ⟨[4], [], []⟩)]⟩)], joins := [], full := [], dynQ := false })]
noncomputable def fnB : List (Nat × Func) := [
  (5, Try.f5), (15, Try.f15), (10, Try.f10), (27, Try.f27), (32, Try.f32), (17, Try.f17), (12, Try.f12), (29, Try.f29), (33, Try.f33), (16, Try.f16), (11, Try.f11), (28, Try.f28), (18, Try.f18), (13, Try.f13), (30, Try.f30), (34, Try.f34), (19, Try.f19), (14, Try.f14), (31, Try.f31), (35, Try.f35)]
def quietB : List Nat := [5, 15, 10, 27, 32, 16, 11, 28, 18, 13, 30, 34, 19, 14, 31, 35]
def addsB : List Nat := [17, 12, 29, 33]
def takesB : List (Nat × List Nat) := [(17, [18]), (12, [15])]
def mvB : List (Nat × List Nat) := []
-- extern: []

noncomputable def base : Base where
  ng := 0
  tab := tabB
  fn := Go.AM.look fnB
  ann := annOf annB
  kind := kindOf quietB addsB
  ext := fun _ _ => none
  prim := fun _ => none
def globB : Nat → Option (List V) := fun _ => none
noncomputable def vb : BaseV where
  b := base
  glob := globB
  takes := listOf takesB
  mv := listOf mvB
  prim := fun _ => none
noncomputable def cv : CallV := callV vb
noncomputable def pc : FuncId → List V → Option V := pcall cv
noncomputable def qc : FuncId → List V → Option V := qpcall cv
def extO : Nat → List V → Option V := fun _ _ => none
set_option maxRecDepth 100000 in
theorem fns : FnsOk Try.prog fnB := by
  unfold fnB
  refine ⟨⟨rfl, by kernel_rfl⟩, ⟨rfl, by kernel_rfl⟩, ⟨rfl, by kernel_rfl⟩, ⟨rfl, by kernel_rfl⟩, ⟨rfl, by kernel_rfl⟩, ⟨rfl, by kernel_rfl⟩, ⟨rfl, by kernel_rfl⟩, ⟨rfl, by kernel_rfl⟩, ⟨rfl, by kernel_rfl⟩, ⟨rfl, by kernel_rfl⟩, ⟨rfl, by kernel_rfl⟩, ⟨rfl, by kernel_rfl⟩, ⟨rfl, by kernel_rfl⟩, ⟨rfl, by kernel_rfl⟩, ⟨rfl, by kernel_rfl⟩, ⟨rfl, by kernel_rfl⟩, ⟨rfl, by kernel_rfl⟩, ⟨rfl, by kernel_rfl⟩, ⟨rfl, by kernel_rfl⟩, ⟨rfl, by kernel_rfl⟩, trivial⟩
theorem tabs : tabB? Try.prog tabB = true := by kernel_rfl
theorem base_ok : BaseOk Try.prog base where
  tab := tab_ok tabs
  fn := fns_ok fns
  ext := fun f n vs v _ h => by cases h
  prim := fun f g args hp r hp' h => by cases h
  mixed := by kernel_rfl
theorem vb_ok : BaseVOk vb where
  zero := tab_zero (tab_ok tabs)
  sl := tab_sl (tab_ok tabs)
  gd := fun g cs h => by cases h
  noprim := fun _ _ => rfl
  prim := fun f g args r H h => by cases h
end Go.Proofs.Ytgpfabgnlpdpdaa.Q
