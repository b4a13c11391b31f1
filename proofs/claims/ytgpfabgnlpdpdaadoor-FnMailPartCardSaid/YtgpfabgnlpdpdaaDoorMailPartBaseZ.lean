/- The program's functions, types and marks, as the machines take them. -/
import Derived.Test.YtgpfabgnlpdpdaaDoorProg
import Derived.Test.YtgpfabgnlpdpdaaDoorK4
import Derived.KernelRfl
namespace Go.Proofs.YtgpfabgnlpdpdaaDoor.Q
open Go Go.AM Go.Proofs
set_option linter.unusedVariables false
def id_laws_FnMailPart : Nat := 4
def id_spec_DrawMailValid : Nat := 9
def id_spec_l13Open : Nat := 11
def id_spec_l10DrawMail : Nat := 12
def id_spec_l13Rd_of : Nat := 19
def id_spec_l13Rd_pick : Nat := 13
def id_spec_l13Rd_num : Nat := 20
def id_spec_l10WrongMail : Nat := 14
def id_spec_l10Mail : Nat := 21
def id_impl_MailValid : Nat := 8
def id_impl_draftValid : Nat := 17
def id_impl_isFrom : Nat := 22
def id_impl_isPath : Nat := 25
def id_strings_Cut : Nat := 30
def id_internal_stringslite_Cut : Nat := 36
def id_internal_stringslite_Index : Nat := 45
def id_internal_stringslite_IndexByte : Nat := 55
def id_internal_bytealg_IndexByteString : Nat := 66
def id_internal_bytealg_IndexString : Nat := 56
def id_internal_bytealg_Cutover : Nat := 57
def id_internal_bytealg_IndexRabinKarp_string_ : Nat := 58
def id_internal_bytealg_hashStr_string_ : Nat := 67
def id_impl_isLocal : Nat := 31
def id_strings_Split : Nat := 37
def id_strings_genSplit : Nat := 46
def id_strings_explode : Nat := 59
def id_unicode_utf8_RuneCountInString : Nat := 68
def id_unicode_utf8_DecodeRuneInString : Nat := 69
def id_unicode_utf8_decodeRuneInStringSlow : Nat := 72
def id_strings_Count : Nat := 60
def id_internal_bytealg_CountString : Nat := 70
def id_strings_Index : Nat := 61
def id_slices_ContainsFunc___string_string_ : Nat := 23
def id_slices_IndexFunc___string_string_ : Nat := 29
def id_impl_isLocal_1 : Nat := 38
def id_impl_AtomValid : Nat := 39
def id_impl_allBytes : Nat := 47
def id_impl_isAtomByte : Nat := 48
def id_impl_isLetter : Nat := 62
def id_impl_isDigit : Nat := 50
def id_impl_isDomain : Nat := 32
def id_impl_isDomain_1 : Nat := 40
def id_impl_isLabel : Nat := 41
def id_impl_isLabel_1 : Nat := 49
def id_impl_draftValid_1 : Nat := 24
def id_impl_areTexts : Nat := 26
def id_impl_areTexts_1 : Nat := 33
def id_impl_TextValid : Nat := 34
def id_spec_MailValid : Nat := 10
def id_spec_l10Draft : Nat := 18
def id_spec_l10Box : Nat := 27
def id_spec_l2Box : Nat := 35
def id_spec_l2Cut : Nat := 42
def id_spec_l1Read : Nat := 51
def id_spec_LowerText : Nat := 43
def id_spec_AddressValid : Nat := 44
def id_spec_l2Name : Nat := 52
def id_spec_TextValid : Nat := 28
def id_spec_l2Local : Nat := 53
def id_spec_l2Parts : Nat := 63
def id_spec_AtomValid : Nat := 64
def id_spec_l1Atom : Nat := 71
def id_spec_l1Letter : Nat := 65
def id_spec_l2Domain : Nat := 54
noncomputable def tabB : List (Nat × TI) := [
  (22, ⟨.slice 5 1 1 [(.int .u8 0)], false, 1, [(.slice none 0 0)]⟩),
  (3, ⟨.int .i64, false, 1, [(.int .i64 0)]⟩),
  (25, ⟨.struct [(0, 1, false), (1, 1, false), (2, 1, false)], true, 3, [(.string (bs [])), (.slice none 0 0), (.slice none 0 0)]⟩),
  (4, ⟨.bool, false, 1, [(.bool false)]⟩),
  (23, ⟨.slice 9 1 16 [(.string (bs []))], false, 1, [(.slice none 0 0)]⟩),
  (32, ⟨.other, false, 1, [(.pointer none)]⟩),
  (40, ⟨.struct [(0, 1, false), (1, 1, false)], true, 2, [(.slice none 0 0), (.int .i64 0)]⟩),
  (43, ⟨.slice 3 1 8 [(.int .i64 0)], false, 1, [(.slice none 0 0)]⟩),
  (9, ⟨.str, false, 1, [(.string (bs []))]⟩),
  (5, ⟨.int .u8, false, 1, [(.int .u8 0)]⟩),
  (45, ⟨.other, false, 1, [.nilFunc]⟩),
  (69, ⟨.int .u32, false, 1, [(.int .u32 0)]⟩),
  (21, ⟨.int .i32, false, 1, [(.int .i32 0)]⟩),
  (75, ⟨.arr 256 1, true, 256, [(.int .u8 0), (.int .u8 0), (.int .u8 0), (.int .u8 0), (.int .u8 0), (.int .u8 0), (.int .u8 0), (.int .u8 0), (.int .u8 0), (.int .u8 0), (.int .u8 0), (.int .u8 0), (.int .u8 0), (.int .u8 0), (.int .u8 0), (.int .u8 0), (.int .u8 0), (.int .u8 0), (.int .u8 0), (.int .u8 0), (.int .u8 0), (.int .u8 0), (.int .u8 0), (.int .u8 0), (.int .u8 0), (.int .u8 0), (.int .u8 0), (.int .u8 0), (.int .u8 0), (.int .u8 0), (.int .u8 0), (.int .u8 0), (.int .u8 0), (.int .u8 0), (.int .u8 0), (.int .u8 0), (.int .u8 0), (.int .u8 0), (.int .u8 0), (.int .u8 0), (.int .u8 0), (.int .u8 0), (.int .u8 0), (.int .u8 0), (.int .u8 0), (.int .u8 0), (.int .u8 0), (.int .u8 0), (.int .u8 0), (.int .u8 0), (.int .u8 0), (.int .u8 0), (.int .u8 0), (.int .u8 0), (.int .u8 0), (.int .u8 0), (.int .u8 0), (.int .u8 0), (.int .u8 0), (.int .u8 0), (.int .u8 0), (.int .u8 0), (.int .u8 0), (.int .u8 0), (.int .u8 0), (.int .u8 0), (.int .u8 0), (.int .u8 0), (.int .u8 0), (.int .u8 0), (.int .u8 0), (.int .u8 0), (.int .u8 0), (.int .u8 0), (.int .u8 0), (.int .u8 0), (.int .u8 0), (.int .u8 0), (.int .u8 0), (.int .u8 0), (.int .u8 0), (.int .u8 0), (.int .u8 0), (.int .u8 0), (.int .u8 0), (.int .u8 0), (.int .u8 0), (.int .u8 0), (.int .u8 0), (.int .u8 0), (.int .u8 0), (.int .u8 0), (.int .u8 0), (.int .u8 0), (.int .u8 0), (.int .u8 0), (.int .u8 0), (.int .u8 0), (.int .u8 0), (.int .u8 0), (.int .u8 0), (.int .u8 0), (.int .u8 0), (.int .u8 0), (.int .u8 0), (.int .u8 0), (.int .u8 0), (.int .u8 0), (.int .u8 0), (.int .u8 0), (.int .u8 0), (.int .u8 0), (.int .u8 0), (.int .u8 0), (.int .u8 0), (.int .u8 0), (.int .u8 0), (.int .u8 0), (.int .u8 0), (.int .u8 0), (.int .u8 0), (.int .u8 0), (.int .u8 0), (.int .u8 0), (.int .u8 0), (.int .u8 0), (.int .u8 0), (.int .u8 0), (.int .u8 0), (.int .u8 0), (.int .u8 0), (.int .u8 0), (.int .u8 0), (.int .u8 0), (.int .u8 0), (.int .u8 0), (.int .u8 0), (.int .u8 0), (.int .u8 0), (.int .u8 0), (.int .u8 0), (.int .u8 0), (.int .u8 0), (.int .u8 0), (.int .u8 0), (.int .u8 0), (.int .u8 0), (.int .u8 0), (.int .u8 0), (.int .u8 0), (.int .u8 0), (.int .u8 0), (.int .u8 0), (.int .u8 0), (.int .u8 0), (.int .u8 0), (.int .u8 0), (.int .u8 0), (.int .u8 0), (.int .u8 0), (.int .u8 0), (.int .u8 0), (.int .u8 0), (.int .u8 0), (.int .u8 0), (.int .u8 0), (.int .u8 0), (.int .u8 0), (.int .u8 0), (.int .u8 0), (.int .u8 0), (.int .u8 0), (.int .u8 0), (.int .u8 0), (.int .u8 0), (.int .u8 0), (.int .u8 0), (.int .u8 0), (.int .u8 0), (.int .u8 0), (.int .u8 0), (.int .u8 0), (.int .u8 0), (.int .u8 0), (.int .u8 0), (.int .u8 0), (.int .u8 0), (.int .u8 0), (.int .u8 0), (.int .u8 0), (.int .u8 0), (.int .u8 0), (.int .u8 0), (.int .u8 0), (.int .u8 0), (.int .u8 0), (.int .u8 0), (.int .u8 0), (.int .u8 0), (.int .u8 0), (.int .u8 0), (.int .u8 0), (.int .u8 0), (.int .u8 0), (.int .u8 0), (.int .u8 0), (.int .u8 0), (.int .u8 0), (.int .u8 0), (.int .u8 0), (.int .u8 0), (.int .u8 0), (.int .u8 0), (.int .u8 0), (.int .u8 0), (.int .u8 0), (.int .u8 0), (.int .u8 0), (.int .u8 0), (.int .u8 0), (.int .u8 0), (.int .u8 0), (.int .u8 0), (.int .u8 0), (.int .u8 0), (.int .u8 0), (.int .u8 0), (.int .u8 0), (.int .u8 0), (.int .u8 0), (.int .u8 0), (.int .u8 0), (.int .u8 0), (.int .u8 0), (.int .u8 0), (.int .u8 0), (.int .u8 0), (.int .u8 0), (.int .u8 0), (.int .u8 0), (.int .u8 0), (.int .u8 0), (.int .u8 0), (.int .u8 0), (.int .u8 0), (.int .u8 0), (.int .u8 0), (.int .u8 0), (.int .u8 0), (.int .u8 0), (.int .u8 0), (.int .u8 0), (.int .u8 0), (.int .u8 0), (.int .u8 0), (.int .u8 0)]⟩),
  (78, ⟨.arr 16 2, true, 32, [(.int .u8 0), (.int .u8 0), (.int .u8 0), (.int .u8 0), (.int .u8 0), (.int .u8 0), (.int .u8 0), (.int .u8 0), (.int .u8 0), (.int .u8 0), (.int .u8 0), (.int .u8 0), (.int .u8 0), (.int .u8 0), (.int .u8 0), (.int .u8 0), (.int .u8 0), (.int .u8 0), (.int .u8 0), (.int .u8 0), (.int .u8 0), (.int .u8 0), (.int .u8 0), (.int .u8 0), (.int .u8 0), (.int .u8 0), (.int .u8 0), (.int .u8 0), (.int .u8 0), (.int .u8 0), (.int .u8 0), (.int .u8 0)]⟩),
  (77, ⟨.struct [(0, 1, false), (1, 1, false)], true, 2, [(.int .u8 0), (.int .u8 0)]⟩),
  (62, ⟨.other, false, 1, [.nilFunc]⟩),
  (52, ⟨.struct [(0, 1, false), (1, 1, false), (2, 1, false)], true, 3, [(.string (bs [])), (.string (bs [])), (.string (bs []))]⟩)]
noncomputable def annB : List (Nat × Ann) := [
  (4, { loc := [3, 5, 6], loops := [], joins := [(5, 7, [(.ret, ⟨[2], [], []⟩), (.normal, ⟨[], [(3, (3, 0))], [(3, 3)]⟩)])], full := [], dynQ := false }),
  (9, { loc := [2], loops := [], joins := [], full := [], dynQ := false }),
  (11, { loc := [], loops := [], joins := [(1, 3, [(.normal, ⟨[0], [], []⟩)])], full := [], dynQ := false }),
  (12, { loc := [2, 3], loops := [(7, ⟨⟨[0, 5], [(2, (2, 0)), (3, (3, 0))], [(2, 3), (3, 3)]⟩, [(.exit 2, ⟨[], [(2, (2, 0)), (3, (3, 0))], [(2, 3), (3, 3)]⟩)]⟩), (3, ⟨⟨[0, 4], [(2, (2, 0)), (3, (3, 0))], [(2, 3), (3, 3)]⟩, [(.exit 0, ⟨[0], [(2, (2, 0)), (3, (3, 0))], [(2, 3), (3, 3)]⟩)]⟩)], joins := [], full := [], dynQ := false }),
  (19, { loc := [], loops := [], joins := [], full := [], dynQ := false }),
  (13, { loc := [], loops := [], joins := [(2, 4, [(.ret, ⟨[4], [], []⟩), (.normal, ⟨[0, 1], [], []⟩)])], full := [], dynQ := false }),
  (20, { loc := [], loops := [], joins := [], full := [], dynQ := false }),
  (14, { loc := [3, 4, 5], loops := [], joins := [], full := [], dynQ := false }),
  (21, { loc := [1, 2], loops := [], joins := [], full := [8, 12], dynQ := false }),
  (8, { loc := [1], loops := [], joins := [], full := [], dynQ := false }),
  (17, { loc := [3], loops := [], joins := [], full := [], dynQ := false }),
  (22, { loc := [], loops := [], joins := [], full := [], dynQ := false }),
  (25, { loc := [], loops := [], joins := [], full := [], dynQ := false }),
  (30, { loc := [], loops := [], joins := [], full := [], dynQ := false }),
  (36, { loc := [], loops := [], joins := [], full := [], dynQ := false }),
  (45, { loc := [], loops := [(15, ⟨⟨[0, 1, 5, 6, 7, 8, 9, 10], [], []⟩, [(.exit 1, ⟨[], [], []⟩), (.ret, ⟨[4], [], []⟩)]⟩)], joins := [(21, 23, [(.ret, ⟨[4], [], []⟩), (.normal, ⟨[0, 1, 5, 6, 7, 8, 9, 10], [], []⟩)]), (16, 21, [(.ret, ⟨[4], [], []⟩), (.normal, ⟨[0, 1, 5, 6, 7, 8, 9, 10], [], []⟩)]), (2, 10, [(.ret, ⟨[4], [], []⟩), (.normal, ⟨[0, 1, 5], [], []⟩)])], full := [], dynQ := false }),
  (55, { loc := [], loops := [], joins := [], full := [], dynQ := false }),
  (57, { loc := [], loops := [], joins := [], full := [], dynQ := false }),
  (58, { loc := [], loops := [(11, ⟨⟨[0, 1, 5, 6, 7, 8, 10], [], []⟩, [(.exit 2, ⟨[], [], []⟩), (.ret, ⟨[4], [], []⟩)]⟩), (5, ⟨⟨[0, 1, 5, 6, 7, 8, 9], [], []⟩, [(.exit 0, ⟨[0, 1, 5, 6, 7, 8], [], []⟩)]⟩)], joins := [(8, 10, [(.ret, ⟨[4], [], []⟩), (.normal, ⟨[0, 1, 5, 6, 7, 8], [], []⟩)])], full := [], dynQ := false }),
  (67, { loc := [], loops := [(8, ⟨⟨[4, 6, 7, 8], [], []⟩, [(.exit 2, ⟨[4, 6], [], []⟩)]⟩), (3, ⟨⟨[0, 4, 5], [], []⟩, [(.exit 0, ⟨[0, 4], [], []⟩)]⟩)], joins := [(10, 9, [(.normal, ⟨[4, 6, 7, 8], [], []⟩)]), (10, 12, [(.normal, ⟨[4, 6, 7, 8], [], []⟩)])], full := [], dynQ := false }),
  (31, { loc := [], loops := [], joins := [], full := [], dynQ := false }),
  (37, { loc := [], loops := [], joins := [], full := [], dynQ := false }),
  (46, { loc := [], loops := [(11, ⟨⟨[0, 1, 2, 3, 9, 10], [], []⟩, [(.exit 0, ⟨[0, 9, 10], [], []⟩)]⟩)], joins := [(5, 7, [(.normal, ⟨[0, 1, 2, 3], [], []⟩)])], full := [], dynQ := false }),
  (59, { loc := [], loops := [(6, ⟨⟨[0, 1, 6, 7], [], []⟩, [(.exit 0, ⟨[0, 1, 6], [], []⟩)]⟩)], joins := [(2, 4, [(.normal, ⟨[0, 1], [], []⟩)])], full := [], dynQ := false }),
  (68, { loc := [], loops := [], joins := [], full := [], dynQ := false }),
  (69, { loc := [], loops := [], joins := [], full := [], dynQ := false }),
  (72, { loc := [9], loops := [], joins := [], full := [], dynQ := false }),
  (60, { loc := [], loops := [(6, ⟨⟨[0, 1, 5], [], []⟩, [(.ret, ⟨[4], [], []⟩)]⟩)], joins := [], full := [], dynQ := false }),
  (61, { loc := [], loops := [], joins := [], full := [], dynQ := false }),
  (23, { loc := [], loops := [], joins := [], full := [], dynQ := false }),
  (29, { loc := [], loops := [(2, ⟨⟨[0, 1, 7, 8], [], []⟩, [(.exit 0, ⟨[], [], []⟩), (.ret, ⟨[4], [], []⟩)]⟩)], joins := [], full := [], dynQ := true }),
  (38, { loc := [], loops := [], joins := [], full := [], dynQ := false }),
  (39, { loc := [], loops := [], joins := [], full := [], dynQ := false }),
  (47, { loc := [], loops := [(2, ⟨⟨[0, 1, 7, 8], [], []⟩, [(.exit 0, ⟨[], [], []⟩), (.ret, ⟨[4], [], []⟩)]⟩)], joins := [], full := [], dynQ := true }),
  (48, { loc := [], loops := [], joins := [], full := [], dynQ := false }),
  (62, { loc := [], loops := [], joins := [], full := [], dynQ := false }),
  (50, { loc := [], loops := [], joins := [], full := [], dynQ := false }),
  (32, { loc := [], loops := [], joins := [], full := [], dynQ := false }),
  (40, { loc := [], loops := [], joins := [], full := [], dynQ := false }),
  (41, { loc := [], loops := [], joins := [], full := [], dynQ := false }),
  (49, { loc := [], loops := [], joins := [], full := [], dynQ := false }),
  (24, { loc := [], loops := [], joins := [], full := [], dynQ := false }),
  (26, { loc := [], loops := [], joins := [], full := [], dynQ := false }),
  (33, { loc := [], loops := [], joins := [], full := [], dynQ := false }),
  (34, { loc := [], loops := [(2, ⟨⟨[0, 5, 6], [], []⟩, [(.exit 0, ⟨[0], [], []⟩), (.ret, ⟨[2], [], []⟩)]⟩)], joins := [], full := [], dynQ := false }),
  (10, { loc := [1], loops := [], joins := [], full := [], dynQ := false }),
  (18, { loc := [1], loops := [(9, ⟨⟨[4], [(1, (1, 0))], [(1, 3)]⟩, [(.exit 2, ⟨[], [], []⟩), (.ret, ⟨[2], [], []⟩)]⟩), (4, ⟨⟨[3], [(1, (1, 0))], [(1, 3)]⟩, [(.exit 0, ⟨[], [(1, (1, 0))], [(1, 3)]⟩), (.ret, ⟨[2], [], []⟩)]⟩)], joins := [(1, 3, [(.ret, ⟨[2], [], []⟩), (.normal, ⟨[], [(1, (1, 0))], [(1, 3)]⟩)])], full := [], dynQ := false }),
  (27, { loc := [3], loops := [], joins := [], full := [], dynQ := false }),
  (35, { loc := [2, 7], loops := [], joins := [], full := [], dynQ := false }),
  (42, { loc := [], loops := [(2, ⟨⟨[0, 1, 7], [], []⟩, [(.exit 0, ⟨[0], [], []⟩), (.ret, ⟨[4, 5, 6], [], []⟩)]⟩)], joins := [], full := [], dynQ := false }),
  (51, { loc := [], loops := [(3, ⟨⟨[0, 6, 7], [], []⟩, [(.exit 0, ⟨[], [], []⟩), (.ret, ⟨[4, 5], [], []⟩)]⟩)], joins := [(5, 4, [(.ret, ⟨[4, 5], [], []⟩), (.normal, ⟨[0, 6, 7], [], []⟩)]), (7, 11, [(.ret, ⟨[4, 5], [], []⟩), (.normal, ⟨[0, 6, 7], [], []⟩)])], full := [], dynQ := false }),
  (43, { loc := [], loops := [(3, ⟨⟨[3, 4], [], []⟩, [(.exit 0, ⟨[3], [], []⟩)]⟩)], joins := [(5, 4, [(.normal, ⟨[3, 4], [], []⟩)])], full := [], dynQ := false }),
  (44, { loc := [1], loops := [], joins := [], full := [], dynQ := false }),
  (52, { loc := [], loops := [], joins := [], full := [], dynQ := false }),
  (28, { loc := [], loops := [(2, ⟨⟨[0, 3], [], []⟩, [(.exit 0, ⟨[0], [], []⟩), (.ret, ⟨[2], [], []⟩)]⟩)], joins := [(4, 3, [(.ret, ⟨[2], [], []⟩), (.normal, ⟨[0, 3], [], []⟩)]), (2, 4, [(.normal, ⟨[0, 3], [], []⟩), (.exit 0, ⟨[0], [], []⟩)])], full := [], dynQ := false }),
  (53, { loc := [], loops := [(3, ⟨⟨[0, 3, 4], [], []⟩, [(.exit 0, ⟨[0], [], []⟩), (.ret, ⟨[2], [], []⟩)]⟩)], joins := [], full := [], dynQ := false }),
  (63, { loc := [], loops := [(4, ⟨⟨[0, 1, 5, 6, 7], [], []⟩, [(.exit 0, ⟨[0, 5, 6], [], []⟩)]⟩)], joins := [(6, 5, [(.normal, ⟨[0, 1, 5, 6, 7], [], []⟩)])], full := [], dynQ := false }),
  (64, { loc := [], loops := [(2, ⟨⟨[0, 3], [], []⟩, [(.exit 0, ⟨[0], [], []⟩), (.ret, ⟨[2], [], []⟩)]⟩)], joins := [(2, 4, [(.normal, ⟨[0, 3], [], []⟩), (.exit 0, ⟨[0], [], []⟩)])], full := [], dynQ := false }),
  (71, { loc := [], loops := [(2, ⟨⟨[0, 3], [], []⟩, [(.exit 0, ⟨[0], [], []⟩), (.ret, ⟨[2], [], []⟩)]⟩)], joins := [], full := [], dynQ := false }),
  (65, { loc := [], loops := [], joins := [], full := [], dynQ := false }),
  (54, { loc := [], loops := [(3, ⟨⟨[0, 3, 4], [], []⟩, [(.exit 0, ⟨[0], [], []⟩), (.ret, ⟨[2], [], []⟩)]⟩), (9, ⟨⟨[0, 3, 4, 5, 6], [], []⟩, [(.exit 2, ⟨[0, 3, 4], [], []⟩), (.ret, ⟨[2], [], []⟩)]⟩)], joins := [(5, 4, [(.ret, ⟨[2], [], []⟩), (.normal, ⟨[0, 3, 4], [], []⟩)]), (11, 10, [(.ret, ⟨[2], [], []⟩), (.normal, ⟨[0, 3, 4, 5, 6], [], []⟩)]), (6, 8, [(.ret, ⟨[2], [], []⟩), (.normal, ⟨[0, 3, 4, 5], [], []⟩)])], full := [], dynQ := false })]
noncomputable def fnB : List (Nat × Func) := [
  (4, Tryd.f4), (9, Tryd.f9), (11, Tryd.f11), (12, Tryd.f12), (19, Tryd.f19), (13, Tryd.f13), (20, Tryd.f20), (14, Tryd.f14), (21, Tryd.f21), (8, Tryd.f8), (17, Tryd.f17), (22, Tryd.f22), (25, Tryd.f25), (30, Tryd.f30), (36, Tryd.f36), (45, Tryd.f45), (55, Tryd.f55), (57, Tryd.f57), (58, Tryd.f58), (67, Tryd.f67), (31, Tryd.f31), (37, Tryd.f37), (46, Tryd.f46), (59, Tryd.f59), (68, Tryd.f68), (69, Tryd.f69), (72, Tryd.f72), (60, Tryd.f60), (61, Tryd.f61), (23, Tryd.f23), (29, Tryd.f29), (38, Tryd.f38), (39, Tryd.f39), (47, Tryd.f47), (48, Tryd.f48), (62, Tryd.f62), (50, Tryd.f50), (32, Tryd.f32), (40, Tryd.f40), (41, Tryd.f41), (49, Tryd.f49), (24, Tryd.f24), (26, Tryd.f26), (33, Tryd.f33), (34, Tryd.f34), (10, Tryd.f10), (18, Tryd.f18), (27, Tryd.f27), (35, Tryd.f35), (42, Tryd.f42), (51, Tryd.f51), (43, Tryd.f43), (44, Tryd.f44), (52, Tryd.f52), (28, Tryd.f28), (53, Tryd.f53), (63, Tryd.f63), (64, Tryd.f64), (71, Tryd.f71), (65, Tryd.f65), (54, Tryd.f54)]
def quietB : List Nat := [4, 8, 17, 22, 25, 30, 36, 45, 55, 57, 58, 67, 31, 68, 69, 72, 60, 61, 23, 29, 38, 39, 47, 48, 62, 50, 32, 40, 41, 49, 24, 26, 33, 34, 10, 18, 27, 42, 51, 43, 44, 52, 28, 53, 64, 71, 65, 54]
def addsB : List Nat := [21, 37, 46, 59, 35, 63]
def takesB : List (Nat × List Nat) := [(12, [22, 37, 44]), (14, [23, 27]), (21, [7, 11])]
def mvB : List (Nat × List Nat) := [(4, [0]), (9, [0]), (11, [0])]
def extsB : List (Nat × Nat) := [(66, 0), (56, 2), (70, 1)]
-- extern: [(66, internal_bytealg_IndexByteString), (56, internal_bytealg_IndexString), (70, internal_bytealg_CountString)]

noncomputable def base : Base where
  ng := 0
  tab := tabB
  fn := Go.AM.look fnB
  ann := annOf annB
  kind := kindX quietB addsB extsB
  ext := extA
  prim := fun _ => none
def globB : Nat → Option (List V) := fun _ => none
noncomputable def vb : BaseV where
  b := base
  glob := globB
  takes := listOf takesB
  mv := listOf mvB
  prim := fun _ => none
noncomputable def cv : CallV := callV vb
noncomputable def pc : FuncId → List V → Option V := pcall cv
noncomputable def qc : FuncId → List V → Option V := qpcall cv
set_option maxRecDepth 100000 in
theorem fns : FnsOk Tryd.prog fnB := by
  unfold fnB
  refine ⟨⟨rfl, by kernel_rfl⟩, ⟨rfl, by kernel_rfl⟩, ⟨rfl, by kernel_rfl⟩, ⟨rfl, by kernel_rfl⟩, ⟨rfl, by kernel_rfl⟩, ⟨rfl, by kernel_rfl⟩, ⟨rfl, by kernel_rfl⟩, ⟨rfl, by kernel_rfl⟩, ⟨rfl, by kernel_rfl⟩, ⟨rfl, by kernel_rfl⟩, ⟨rfl, by kernel_rfl⟩, ⟨rfl, by kernel_rfl⟩, ⟨rfl, by kernel_rfl⟩, ⟨rfl, by kernel_rfl⟩, ⟨rfl, by kernel_rfl⟩, ⟨rfl, by kernel_rfl⟩, ⟨rfl, by kernel_rfl⟩, ⟨rfl, by kernel_rfl⟩, ⟨rfl, by kernel_rfl⟩, ⟨rfl, by kernel_rfl⟩, ⟨rfl, by kernel_rfl⟩, ⟨rfl, by kernel_rfl⟩, ⟨rfl, by kernel_rfl⟩, ⟨rfl, by kernel_rfl⟩, ⟨rfl, by kernel_rfl⟩, ⟨rfl, by kernel_rfl⟩, ⟨rfl, by kernel_rfl⟩, ⟨rfl, by kernel_rfl⟩, ⟨rfl, by kernel_rfl⟩, ⟨rfl, by kernel_rfl⟩, ⟨rfl, by kernel_rfl⟩, ⟨rfl, by kernel_rfl⟩, ⟨rfl, by kernel_rfl⟩, ⟨rfl, by kernel_rfl⟩, ⟨rfl, by kernel_rfl⟩, ⟨rfl, by kernel_rfl⟩, ⟨rfl, by kernel_rfl⟩, ⟨rfl, by kernel_rfl⟩, ⟨rfl, by kernel_rfl⟩, ⟨rfl, by kernel_rfl⟩, ⟨rfl, by kernel_rfl⟩, ⟨rfl, by kernel_rfl⟩, ⟨rfl, by kernel_rfl⟩, ⟨rfl, by kernel_rfl⟩, ⟨rfl, by kernel_rfl⟩, ⟨rfl, by kernel_rfl⟩, ⟨rfl, by kernel_rfl⟩, ⟨rfl, by kernel_rfl⟩, ⟨rfl, by kernel_rfl⟩, ⟨rfl, by kernel_rfl⟩, ⟨rfl, by kernel_rfl⟩, ⟨rfl, by kernel_rfl⟩, ⟨rfl, by kernel_rfl⟩, ⟨rfl, by kernel_rfl⟩, ⟨rfl, by kernel_rfl⟩, ⟨rfl, by kernel_rfl⟩, ⟨rfl, by kernel_rfl⟩, ⟨rfl, by kernel_rfl⟩, ⟨rfl, by kernel_rfl⟩, ⟨rfl, by kernel_rfl⟩, ⟨rfl, by kernel_rfl⟩, trivial⟩
theorem tabs : tabB? Tryd.prog tabB = true := by kernel_rfl
theorem exts : ExtFns Tryd.prog extsB := by
  unfold extsB
  exact ⟨fun args w => Go.run_callFunc_extern (fn := Tryd.f66) (e := Extern.BytealgIndexByte.indexByte) (by kernel_rfl) (by kernel_rfl) (by kernel_rfl) (by kernel_rfl) (by kernel_rfl) args w, trivial, fun args w => Go.run_callFunc_extern (fn := Tryd.f70) (e := Extern.BytealgCount.count) (by kernel_rfl) (by kernel_rfl) (by kernel_rfl) (by kernel_rfl) (by kernel_rfl) args w, trivial⟩
theorem base_ok : BaseOk Tryd.prog base where
  tab := tab_ok tabs
  fn := fns_ok fns
  ext := ext_ok exts
  prim := fun f g args hp r hp' h => by cases h
  mixed := by kernel_rfl
theorem vb_ok : BaseVOk vb where
  zero := tab_zero (tab_ok tabs)
  sl := tab_sl (tab_ok tabs)
  gd := fun g cs h => by cases h
  noprim := fun _ _ => rfl
  prim := fun f g args r H h => by cases h
end Go.Proofs.YtgpfabgnlpdpdaaDoor.Q
