/- The program's functions, types and marks, as the machines take them. -/
import Derived.Test.YtemfiddemagflaaDoorProg
import Derived.Test.YtemfiddemagflaaDoorK4
import Derived.KernelRfl
namespace Go.Proofs.YtemfiddemagflaaDoor.Q
open Go Go.AM Go.Proofs
set_option linter.unusedVariables false
def id_laws_FnMailValid : Nat := 3
def id_spec_DrawMailValid : Nat := 8
def id_spec_l13Open : Nat := 25
def id_spec_l10DrawMail : Nat := 27
def id_spec_l13Rd_of : Nat := 45
def id_spec_l13Rd_pick : Nat := 44
def id_spec_l13Rd_num : Nat := 46
def id_spec_l10WrongMail : Nat := 26
def id_spec_l10Mail : Nat := 43
def id_impl_MailValid : Nat := 9
def id_impl_draftValid : Nat := 28
def id_impl_isFrom : Nat := 47
def id_impl_isPath : Nat := 49
def id_strings_Cut : Nat := 58
def id_internal_stringslite_Cut : Nat := 66
def id_internal_stringslite_Index : Nat := 75
def id_internal_stringslite_IndexByte : Nat := 85
def id_internal_bytealg_IndexByteString : Nat := 96
def id_internal_bytealg_IndexString : Nat := 86
def id_internal_bytealg_Cutover : Nat := 87
def id_internal_bytealg_IndexRabinKarp_string_ : Nat := 88
def id_internal_bytealg_hashStr_string_ : Nat := 97
def id_impl_isLocal : Nat := 59
def id_strings_Split : Nat := 67
def id_strings_genSplit : Nat := 76
def id_strings_explode : Nat := 89
def id_unicode_utf8_RuneCountInString : Nat := 98
def id_unicode_utf8_DecodeRuneInString : Nat := 99
def id_unicode_utf8_decodeRuneInStringSlow : Nat := 102
def id_strings_Count : Nat := 90
def id_internal_bytealg_CountString : Nat := 100
def id_strings_Index : Nat := 91
def id_slices_ContainsFunc___string_string_ : Nat := 30
def id_slices_IndexFunc___string_string_ : Nat := 52
def id_impl_isLocal_1 : Nat := 68
def id_impl_AtomValid : Nat := 69
def id_impl_allBytes : Nat := 77
def id_impl_isAtomByte : Nat := 78
def id_impl_isLetter : Nat := 92
def id_impl_isDigit : Nat := 80
def id_impl_isDomain : Nat := 60
def id_impl_isDomain_1 : Nat := 70
def id_impl_isLabel : Nat := 71
def id_impl_isLabel_1 : Nat := 79
def id_impl_draftValid_1 : Nat := 48
def id_impl_areTexts : Nat := 50
def id_impl_areTexts_1 : Nat := 61
def id_impl_TextValid : Nat := 32
def id_impl_SpeakMail : Nat := 10
def id_impl_stuffed : Nat := 29
def id_strings_HasPrefix : Nat := 51
def id_internal_stringslite_HasPrefix : Nat := 62
def id_impl_SpeakMail_1 : Nat := 31
def id_spec_MailValid : Nat := 11
def id_spec_l10Draft : Nat := 33
def id_spec_l10Box : Nat := 53
def id_spec_l2Box : Nat := 63
def id_spec_l2Cut : Nat := 72
def id_spec_l1Read : Nat := 81
def id_spec_LowerText : Nat := 73
def id_spec_AddressValid : Nat := 74
def id_spec_l2Name : Nat := 82
def id_spec_TextValid : Nat := 36
def id_spec_l2Local : Nat := 83
def id_spec_l2Parts : Nat := 93
def id_spec_AtomValid : Nat := 94
def id_spec_l1Atom : Nat := 101
def id_spec_l1Letter : Nat := 95
def id_spec_l2Domain : Nat := 84
noncomputable def tabB : List (Nat × TI) := [
  (22, ⟨.slice 5 1 1 [(.int .u8 0)], false, 1, [(.slice none 0 0)]⟩),
  (3, ⟨.int .i64, false, 1, [(.int .i64 0)]⟩),
  (25, ⟨.struct [(0, 1, false), (1, 1, false), (2, 1, false)], true, 3, [(.string (bs [])), (.slice none 0 0), (.slice none 0 0)]⟩),
  (4, ⟨.bool, false, 1, [(.bool false)]⟩),
  (23, ⟨.slice 9 1 16 [(.string (bs []))], false, 1, [(.slice none 0 0)]⟩),
  (9, ⟨.str, false, 1, [(.string (bs []))]⟩),
  (5, ⟨.int .u8, false, 1, [(.int .u8 0)]⟩),
  (41, ⟨.other, false, 1, [(.pointer none)]⟩),
  (56, ⟨.struct [(0, 1, false), (1, 1, false)], true, 2, [(.slice none 0 0), (.int .i64 0)]⟩),
  (60, ⟨.slice 3 1 8 [(.int .i64 0)], false, 1, [(.slice none 0 0)]⟩),
  (48, ⟨.other, false, 1, [.nilFunc]⟩),
  (84, ⟨.int .u32, false, 1, [(.int .u32 0)]⟩),
  (21, ⟨.int .i32, false, 1, [(.int .i32 0)]⟩),
  (90, ⟨.arr 256 1, true, 256, [(.int .u8 0), (.int .u8 0), (.int .u8 0), (.int .u8 0), (.int .u8 0), (.int .u8 0), (.int .u8 0), (.int .u8 0), (.int .u8 0), (.int .u8 0), (.int .u8 0), (.int .u8 0), (.int .u8 0), (.int .u8 0), (.int .u8 0), (.int .u8 0), (.int .u8 0), (.int .u8 0), (.int .u8 0), (.int .u8 0), (.int .u8 0), (.int .u8 0), (.int .u8 0), (.int .u8 0), (.int .u8 0), (.int .u8 0), (.int .u8 0), (.int .u8 0), (.int .u8 0), (.int .u8 0), (.int .u8 0), (.int .u8 0), (.int .u8 0), (.int .u8 0), (.int .u8 0), (.int .u8 0), (.int .u8 0), (.int .u8 0), (.int .u8 0), (.int .u8 0), (.int .u8 0), (.int .u8 0), (.int .u8 0), (.int .u8 0), (.int .u8 0), (.int .u8 0), (.int .u8 0), (.int .u8 0), (.int .u8 0), (.int .u8 0), (.int .u8 0), (.int .u8 0), (.int .u8 0), (.int .u8 0), (.int .u8 0), (.int .u8 0), (.int .u8 0), (.int .u8 0), (.int .u8 0), (.int .u8 0), (.int .u8 0), (.int .u8 0), (.int .u8 0), (.int .u8 0), (.int .u8 0), (.int .u8 0), (.int .u8 0), (.int .u8 0), (.int .u8 0), (.int .u8 0), (.int .u8 0), (.int .u8 0), (.int .u8 0), (.int .u8 0), (.int .u8 0), (.int .u8 0), (.int .u8 0), (.int .u8 0), (.int .u8 0), (.int .u8 0), (.int .u8 0), (.int .u8 0), (.int .u8 0), (.int .u8 0), (.int .u8 0), (.int .u8 0), (.int .u8 0), (.int .u8 0), (.int .u8 0), (.int .u8 0), (.int .u8 0), (.int .u8 0), (.int .u8 0), (.int .u8 0), (.int .u8 0), (.int .u8 0), (.int .u8 0), (.int .u8 0), (.int .u8 0), (.int .u8 0), (.int .u8 0), (.int .u8 0), (.int .u8 0), (.int .u8 0), (.int .u8 0), (.int .u8 0), (.int .u8 0), (.int .u8 0), (.int .u8 0), (.int .u8 0), (.int .u8 0), (.int .u8 0), (.int .u8 0), (.int .u8 0), (.int .u8 0), (.int .u8 0), (.int .u8 0), (.int .u8 0), (.int .u8 0), (.int .u8 0), (.int .u8 0), (.int .u8 0), (.int .u8 0), (.int .u8 0), (.int .u8 0), (.int .u8 0), (.int .u8 0), (.int .u8 0), (.int .u8 0), (.int .u8 0), (.int .u8 0), (.int .u8 0), (.int .u8 0), (.int .u8 0), (.int .u8 0), (.int .u8 0), (.int .u8 0), (.int .u8 0), (.int .u8 0), (.int .u8 0), (.int .u8 0), (.int .u8 0), (.int .u8 0), (.int .u8 0), (.int .u8 0), (.int .u8 0), (.int .u8 0), (.int .u8 0), (.int .u8 0), (.int .u8 0), (.int .u8 0), (.int .u8 0), (.int .u8 0), (.int .u8 0), (.int .u8 0), (.int .u8 0), (.int .u8 0), (.int .u8 0), (.int .u8 0), (.int .u8 0), (.int .u8 0), (.int .u8 0), (.int .u8 0), (.int .u8 0), (.int .u8 0), (.int .u8 0), (.int .u8 0), (.int .u8 0), (.int .u8 0), (.int .u8 0), (.int .u8 0), (.int .u8 0), (.int .u8 0), (.int .u8 0), (.int .u8 0), (.int .u8 0), (.int .u8 0), (.int .u8 0), (.int .u8 0), (.int .u8 0), (.int .u8 0), (.int .u8 0), (.int .u8 0), (.int .u8 0), (.int .u8 0), (.int .u8 0), (.int .u8 0), (.int .u8 0), (.int .u8 0), (.int .u8 0), (.int .u8 0), (.int .u8 0), (.int .u8 0), (.int .u8 0), (.int .u8 0), (.int .u8 0), (.int .u8 0), (.int .u8 0), (.int .u8 0), (.int .u8 0), (.int .u8 0), (.int .u8 0), (.int .u8 0), (.int .u8 0), (.int .u8 0), (.int .u8 0), (.int .u8 0), (.int .u8 0), (.int .u8 0), (.int .u8 0), (.int .u8 0), (.int .u8 0), (.int .u8 0), (.int .u8 0), (.int .u8 0), (.int .u8 0), (.int .u8 0), (.int .u8 0), (.int .u8 0), (.int .u8 0), (.int .u8 0), (.int .u8 0), (.int .u8 0), (.int .u8 0), (.int .u8 0), (.int .u8 0), (.int .u8 0), (.int .u8 0), (.int .u8 0), (.int .u8 0), (.int .u8 0), (.int .u8 0), (.int .u8 0), (.int .u8 0), (.int .u8 0), (.int .u8 0), (.int .u8 0), (.int .u8 0), (.int .u8 0), (.int .u8 0), (.int .u8 0), (.int .u8 0), (.int .u8 0), (.int .u8 0), (.int .u8 0), (.int .u8 0), (.int .u8 0), (.int .u8 0), (.int .u8 0), (.int .u8 0), (.int .u8 0), (.int .u8 0), (.int .u8 0), (.int .u8 0), (.int .u8 0), (.int .u8 0)]⟩),
  (93, ⟨.arr 16 2, true, 32, [(.int .u8 0), (.int .u8 0), (.int .u8 0), (.int .u8 0), (.int .u8 0), (.int .u8 0), (.int .u8 0), (.int .u8 0), (.int .u8 0), (.int .u8 0), (.int .u8 0), (.int .u8 0), (.int .u8 0), (.int .u8 0), (.int .u8 0), (.int .u8 0), (.int .u8 0), (.int .u8 0), (.int .u8 0), (.int .u8 0), (.int .u8 0), (.int .u8 0), (.int .u8 0), (.int .u8 0), (.int .u8 0), (.int .u8 0), (.int .u8 0), (.int .u8 0), (.int .u8 0), (.int .u8 0), (.int .u8 0), (.int .u8 0)]⟩),
  (92, ⟨.struct [(0, 1, false), (1, 1, false)], true, 2, [(.int .u8 0), (.int .u8 0)]⟩),
  (77, ⟨.other, false, 1, [.nilFunc]⟩),
  (67, ⟨.struct [(0, 1, false), (1, 1, false), (2, 1, false)], true, 3, [(.string (bs [])), (.string (bs [])), (.string (bs []))]⟩)]
noncomputable def annB : List (Nat × Ann) := [
  (3, { loc := [3], loops := [(10, ⟨⟨[4, 6, 7, 8], [(3, (3, 0))], [(3, 3)]⟩, [(.exit 0, ⟨[4, 6, 7], [], []⟩)]⟩)], joins := [(12, 11, [(.normal, ⟨[4, 6, 7, 8], [(3, (3, 0))], [(3, 3)]⟩)]), (6, 8, [(.ret, ⟨[2], [], []⟩), (.normal, ⟨[4, 6], [(3, (3, 0))], [(3, 3)]⟩)])], full := [], dynQ := false }),
  (8, { loc := [2], loops := [], joins := [], full := [], dynQ := false }),
  (25, { loc := [], loops := [], joins := [(1, 3, [(.normal, ⟨[0], [], []⟩)])], full := [], dynQ := false }),
  (27, { loc := [2, 3], loops := [(7, ⟨⟨[0, 5], [(2, (2, 0)), (3, (3, 0))], [(2, 3), (3, 3)]⟩, [(.exit 2, ⟨[], [(2, (2, 0)), (3, (3, 0))], [(2, 3), (3, 3)]⟩)]⟩), (3, ⟨⟨[0, 4], [(2, (2, 0)), (3, (3, 0))], [(2, 3), (3, 3)]⟩, [(.exit 0, ⟨[0], [(2, (2, 0)), (3, (3, 0))], [(2, 3), (3, 3)]⟩)]⟩)], joins := [], full := [], dynQ := false }),
  (45, { loc := [], loops := [], joins := [], full := [], dynQ := false }),
  (44, { loc := [], loops := [], joins := [(2, 4, [(.ret, ⟨[4], [], []⟩), (.normal, ⟨[0, 1], [], []⟩)])], full := [], dynQ := false }),
  (46, { loc := [], loops := [], joins := [], full := [], dynQ := false }),
  (26, { loc := [3, 4, 5], loops := [], joins := [], full := [], dynQ := false }),
  (43, { loc := [1, 2], loops := [], joins := [], full := [8, 12], dynQ := false }),
  (9, { loc := [1], loops := [], joins := [], full := [], dynQ := false }),
  (28, { loc := [3], loops := [], joins := [], full := [], dynQ := false }),
  (47, { loc := [], loops := [], joins := [], full := [], dynQ := false }),
  (49, { loc := [], loops := [], joins := [], full := [], dynQ := false }),
  (58, { loc := [], loops := [], joins := [], full := [], dynQ := false }),
  (66, { loc := [], loops := [], joins := [], full := [], dynQ := false }),
  (75, { loc := [], loops := [(15, ⟨⟨[0, 1, 5, 6, 7, 8, 9, 10], [], []⟩, [(.exit 1, ⟨[], [], []⟩), (.ret, ⟨[4], [], []⟩)]⟩)], joins := [(21, 23, [(.ret, ⟨[4], [], []⟩), (.normal, ⟨[0, 1, 5, 6, 7, 8, 9, 10], [], []⟩)]), (16, 21, [(.ret, ⟨[4], [], []⟩), (.normal, ⟨[0, 1, 5, 6, 7, 8, 9, 10], [], []⟩)]), (2, 10, [(.ret, ⟨[4], [], []⟩), (.normal, ⟨[0, 1, 5], [], []⟩)])], full := [], dynQ := false }),
  (85, { loc := [], loops := [], joins := [], full := [], dynQ := false }),
  (87, { loc := [], loops := [], joins := [], full := [], dynQ := false }),
  (88, { loc := [], loops := [(11, ⟨⟨[0, 1, 5, 6, 7, 8, 10], [], []⟩, [(.exit 2, ⟨[], [], []⟩), (.ret, ⟨[4], [], []⟩)]⟩), (5, ⟨⟨[0, 1, 5, 6, 7, 8, 9], [], []⟩, [(.exit 0, ⟨[0, 1, 5, 6, 7, 8], [], []⟩)]⟩)], joins := [(8, 10, [(.ret, ⟨[4], [], []⟩), (.normal, ⟨[0, 1, 5, 6, 7, 8], [], []⟩)])], full := [], dynQ := false }),
  (97, { loc := [], loops := [(8, ⟨⟨[4, 6, 7, 8], [], []⟩, [(.exit 2, ⟨[4, 6], [], []⟩)]⟩), (3, ⟨⟨[0, 4, 5], [], []⟩, [(.exit 0, ⟨[0, 4], [], []⟩)]⟩)], joins := [(10, 9, [(.normal, ⟨[4, 6, 7, 8], [], []⟩)]), (10, 12, [(.normal, ⟨[4, 6, 7, 8], [], []⟩)])], full := [], dynQ := false }),
  (59, { loc := [], loops := [], joins := [], full := [], dynQ := false }),
  (67, { loc := [], loops := [], joins := [], full := [], dynQ := false }),
  (76, { loc := [], loops := [(11, ⟨⟨[0, 1, 2, 3, 9, 10], [], []⟩, [(.exit 0, ⟨[0, 9, 10], [], []⟩)]⟩)], joins := [(5, 7, [(.normal, ⟨[0, 1, 2, 3], [], []⟩)])], full := [], dynQ := false }),
  (89, { loc := [], loops := [(6, ⟨⟨[0, 1, 6, 7], [], []⟩, [(.exit 0, ⟨[0, 1, 6], [], []⟩)]⟩)], joins := [(2, 4, [(.normal, ⟨[0, 1], [], []⟩)])], full := [], dynQ := false }),
  (98, { loc := [], loops := [], joins := [], full := [], dynQ := false }),
  (99, { loc := [], loops := [], joins := [], full := [], dynQ := false }),
  (102, { loc := [9], loops := [], joins := [], full := [], dynQ := false }),
  (90, { loc := [], loops := [(6, ⟨⟨[0, 1, 5], [], []⟩, [(.ret, ⟨[4], [], []⟩)]⟩)], joins := [], full := [], dynQ := false }),
  (91, { loc := [], loops := [], joins := [], full := [], dynQ := false }),
  (30, { loc := [], loops := [], joins := [], full := [], dynQ := false }),
  (52, { loc := [], loops := [(2, ⟨⟨[0, 1, 7, 8], [], []⟩, [(.exit 0, ⟨[], [], []⟩), (.ret, ⟨[4], [], []⟩)]⟩)], joins := [], full := [], dynQ := true }),
  (68, { loc := [], loops := [], joins := [], full := [], dynQ := false }),
  (69, { loc := [], loops := [], joins := [], full := [], dynQ := false }),
  (77, { loc := [], loops := [(2, ⟨⟨[0, 1, 7, 8], [], []⟩, [(.exit 0, ⟨[], [], []⟩), (.ret, ⟨[4], [], []⟩)]⟩)], joins := [], full := [], dynQ := true }),
  (78, { loc := [], loops := [], joins := [], full := [], dynQ := false }),
  (92, { loc := [], loops := [], joins := [], full := [], dynQ := false }),
  (80, { loc := [], loops := [], joins := [], full := [], dynQ := false }),
  (60, { loc := [], loops := [], joins := [], full := [], dynQ := false }),
  (70, { loc := [], loops := [], joins := [], full := [], dynQ := false }),
  (71, { loc := [], loops := [], joins := [], full := [], dynQ := false }),
  (79, { loc := [], loops := [], joins := [], full := [], dynQ := false }),
  (48, { loc := [], loops := [], joins := [], full := [], dynQ := false }),
  (50, { loc := [], loops := [], joins := [], full := [], dynQ := false }),
  (61, { loc := [], loops := [], joins := [], full := [], dynQ := false }),
  (32, { loc := [], loops := [(2, ⟨⟨[0, 5, 6], [], []⟩, [(.exit 0, ⟨[0], [], []⟩), (.ret, ⟨[2], [], []⟩)]⟩)], joins := [], full := [], dynQ := false }),
  (10, { loc := [1], loops := [(11, ⟨⟨[4, 35, 36, 37], [], []⟩, [(.exit 2, ⟨[4], [], []⟩)]⟩), (5, ⟨⟨[4, 18, 19, 20], [(1, (1, 0))], [(1, 3)]⟩, [(.exit 0, ⟨[4], [(1, (1, 0))], [(1, 3)]⟩)]⟩)], joins := [], full := [], dynQ := false }),
  (29, { loc := [], loops := [], joins := [], full := [], dynQ := false }),
  (51, { loc := [], loops := [], joins := [], full := [], dynQ := false }),
  (62, { loc := [], loops := [], joins := [], full := [], dynQ := false }),
  (31, { loc := [], loops := [], joins := [], full := [], dynQ := false }),
  (11, { loc := [1], loops := [], joins := [], full := [], dynQ := false }),
  (33, { loc := [1], loops := [(9, ⟨⟨[4], [(1, (1, 0))], [(1, 3)]⟩, [(.exit 2, ⟨[], [], []⟩), (.ret, ⟨[2], [], []⟩)]⟩), (4, ⟨⟨[3], [(1, (1, 0))], [(1, 3)]⟩, [(.exit 0, ⟨[], [(1, (1, 0))], [(1, 3)]⟩), (.ret, ⟨[2], [], []⟩)]⟩)], joins := [(1, 3, [(.ret, ⟨[2], [], []⟩), (.normal, ⟨[], [(1, (1, 0))], [(1, 3)]⟩)])], full := [], dynQ := false }),
  (53, { loc := [3], loops := [], joins := [], full := [], dynQ := false }),
  (63, { loc := [2, 7], loops := [], joins := [], full := [], dynQ := false }),
  (72, { loc := [], loops := [(2, ⟨⟨[0, 1, 7], [], []⟩, [(.exit 0, ⟨[0], [], []⟩), (.ret, ⟨[4, 5, 6], [], []⟩)]⟩)], joins := [], full := [], dynQ := false }),
  (81, { loc := [], loops := [(3, ⟨⟨[0, 6, 7], [], []⟩, [(.exit 0, ⟨[], [], []⟩), (.ret, ⟨[4, 5], [], []⟩)]⟩)], joins := [(5, 4, [(.ret, ⟨[4, 5], [], []⟩), (.normal, ⟨[0, 6, 7], [], []⟩)]), (7, 11, [(.ret, ⟨[4, 5], [], []⟩), (.normal, ⟨[0, 6, 7], [], []⟩)])], full := [], dynQ := false }),
  (73, { loc := [], loops := [(3, ⟨⟨[3, 4], [], []⟩, [(.exit 0, ⟨[3], [], []⟩)]⟩)], joins := [(5, 4, [(.normal, ⟨[3, 4], [], []⟩)])], full := [], dynQ := false }),
  (74, { loc := [1], loops := [], joins := [], full := [], dynQ := false }),
  (82, { loc := [], loops := [], joins := [], full := [], dynQ := false }),
  (36, { loc := [], loops := [(2, ⟨⟨[0, 3], [], []⟩, [(.exit 0, ⟨[0], [], []⟩), (.ret, ⟨[2], [], []⟩)]⟩)], joins := [(4, 3, [(.ret, ⟨[2], [], []⟩), (.normal, ⟨[0, 3], [], []⟩)]), (2, 4, [(.normal, ⟨[0, 3], [], []⟩), (.exit 0, ⟨[0], [], []⟩)])], full := [], dynQ := false }),
  (83, { loc := [], loops := [(3, ⟨⟨[0, 3, 4], [], []⟩, [(.exit 0, ⟨[0], [], []⟩), (.ret, ⟨[2], [], []⟩)]⟩)], joins := [], full := [], dynQ := false }),
  (93, { loc := [], loops := [(4, ⟨⟨[0, 1, 5, 6, 7], [], []⟩, [(.exit 0, ⟨[0, 5, 6], [], []⟩)]⟩)], joins := [(6, 5, [(.normal, ⟨[0, 1, 5, 6, 7], [], []⟩)])], full := [], dynQ := false }),
  (94, { loc := [], loops := [(2, ⟨⟨[0, 3], [], []⟩, [(.exit 0, ⟨[0], [], []⟩), (.ret, ⟨[2], [], []⟩)]⟩)], joins := [(2, 4, [(.normal, ⟨[0, 3], [], []⟩), (.exit 0, ⟨[0], [], []⟩)])], full := [], dynQ := false }),
  (101, { loc := [], loops := [(2, ⟨⟨[0, 3], [], []⟩, [(.exit 0, ⟨[0], [], []⟩), (.ret, ⟨[2], [], []⟩)]⟩)], joins := [], full := [], dynQ := false }),
  (95, { loc := [], loops := [], joins := [], full := [], dynQ := false }),
  (84, { loc := [], loops := [(3, ⟨⟨[0, 3, 4], [], []⟩, [(.exit 0, ⟨[0], [], []⟩), (.ret, ⟨[2], [], []⟩)]⟩), (9, ⟨⟨[0, 3, 4, 5, 6], [], []⟩, [(.exit 2, ⟨[0, 3, 4], [], []⟩), (.ret, ⟨[2], [], []⟩)]⟩)], joins := [(5, 4, [(.ret, ⟨[2], [], []⟩), (.normal, ⟨[0, 3, 4], [], []⟩)]), (11, 10, [(.ret, ⟨[2], [], []⟩), (.normal, ⟨[0, 3, 4, 5, 6], [], []⟩)]), (6, 8, [(.ret, ⟨[2], [], []⟩), (.normal, ⟨[0, 3, 4, 5], [], []⟩)])], full := [], dynQ := false })]
noncomputable def fnB : List (Nat × Func) := [
  (3, Tryd.f3), (8, Tryd.f8), (25, Tryd.f25), (27, Tryd.f27), (45, Tryd.f45), (44, Tryd.f44), (46, Tryd.f46), (26, Tryd.f26), (43, Tryd.f43), (9, Tryd.f9), (28, Tryd.f28), (47, Tryd.f47), (49, Tryd.f49), (58, Tryd.f58), (66, Tryd.f66), (75, Tryd.f75), (85, Tryd.f85), (87, Tryd.f87), (88, Tryd.f88), (97, Tryd.f97), (59, Tryd.f59), (67, Tryd.f67), (76, Tryd.f76), (89, Tryd.f89), (98, Tryd.f98), (99, Tryd.f99), (102, Tryd.f102), (90, Tryd.f90), (91, Tryd.f91), (30, Tryd.f30), (52, Tryd.f52), (68, Tryd.f68), (69, Tryd.f69), (77, Tryd.f77), (78, Tryd.f78), (92, Tryd.f92), (80, Tryd.f80), (60, Tryd.f60), (70, Tryd.f70), (71, Tryd.f71), (79, Tryd.f79), (48, Tryd.f48), (50, Tryd.f50), (61, Tryd.f61), (32, Tryd.f32), (10, Tryd.f10), (29, Tryd.f29), (51, Tryd.f51), (62, Tryd.f62), (31, Tryd.f31), (11, Tryd.f11), (33, Tryd.f33), (53, Tryd.f53), (63, Tryd.f63), (72, Tryd.f72), (81, Tryd.f81), (73, Tryd.f73), (74, Tryd.f74), (82, Tryd.f82), (36, Tryd.f36), (83, Tryd.f83), (93, Tryd.f93), (94, Tryd.f94), (101, Tryd.f101), (95, Tryd.f95), (84, Tryd.f84)]
def quietB : List Nat := [3, 9, 28, 47, 49, 58, 66, 75, 85, 87, 88, 97, 59, 98, 99, 102, 90, 91, 30, 52, 68, 69, 77, 78, 92, 80, 60, 70, 71, 79, 48, 50, 61, 32, 29, 51, 62, 31, 11, 33, 53, 72, 81, 73, 74, 82, 36, 83, 94, 101, 95, 84]
def addsB : List Nat := [43, 67, 76, 89, 10, 63, 93]
def takesB : List (Nat × List Nat) := [(3, [2, 2, 12, 4, 16, 6, 21, 25, 26, 27, 28, 2, 7, 8, 32, 39, 40, 43, 48, 51, 7, 37, 8, 58, 59, 60, 61, 2]), (8, [4, 3, 6, 7, 8]), (25, [2, 0, 8, 2]), (27, [6, 9, 15, 4, 17, 22, 23, 19, 4, 29, 5, 32, 37, 38, 34, 5, 44]), (45, [4, 6, 4]), (44, [4, 7, 8, 15, 17, 18, 4, 25, 5, 30, 31, 37, 41, 45, 4, 47, 51, 52, 62, 66, 69, 80, 83, 84, 6, 92, 93, 6, 96, 97, 4]), (46, [4, 6, 4]), (26, [8, 10, 12, 16, 20, 23, 27]), (43, [7, 11]), (9, [2, 2]), (28, [6, 10, 14, 17, 23, 29, 32, 6]), (47, [2, 3, 5, 6, 2]), (49, [2, 7, 6, 3, 4, 5, 12, 13, 14, 17, 18, 2]), (58, [4, 5, 6, 7, 8, 4, 5, 6]), (66, [4, 5, 6, 8, 9, 7, 11, 13, 14, 16, 17, 18, 4, 5, 6, 22, 4, 5, 6]), (75, [4, 14, 5, 17, 19, 20, 21, 16, 4, 25, 24, 27, 28, 4, 32, 33, 31, 4, 37, 40, 41, 36, 45, 46, 4, 48, 6, 50, 7, 8, 52, 54, 9, 10, 57, 58, 60, 61, 63, 65, 66, 68, 70, 11, 72, 4, 74, 75, 8, 78, 79, 82, 84, 85, 86, 87, 88, 91, 94, 4, 95, 8, 97, 10, 99, 102, 103, 104, 108, 109, 111, 12, 113, 115, 116, 4, 4, 118, 121, 122, 123, 128, 129, 130, 133, 134, 136, 13, 138, 4, 140, 141, 4, 4]), (85, [4, 5, 6, 4]), (87, [2, 3, 2]), (88, [4, 12, 11, 5, 6, 16, 7, 8, 9, 18, 19, 23, 25, 26, 8, 21, 9, 30, 31, 33, 34, 35, 37, 4, 40, 10, 41, 42, 45, 8, 47, 48, 49, 8, 53, 54, 55, 56, 57, 8, 63, 10, 65, 66, 68, 69, 70, 71, 73, 75, 78, 79, 4, 4]), (97, [2, 3, 4, 5, 9, 10, 15, 17, 18, 4, 13, 5, 6, 7, 22, 8, 24, 28, 31, 32, 6, 34, 35, 7, 26, 8, 37, 38, 2, 3]), (59, [2, 3, 6, 7, 2]), (67, [4, 5, 6, 4]), (76, [8, 12, 8, 14, 16, 17, 8, 19, 21, 22, 3, 25, 26, 3, 30, 32, 3, 10, 34, 35, 37, 38, 11, 40, 43, 44, 45, 46, 50, 51, 52, 0, 56, 10, 59, 60, 63, 8]), (89, [4, 10, 5, 12, 14, 15, 16, 19, 1, 20, 6, 7, 22, 23, 29, 28, 8, 9, 34, 35, 36, 39, 40, 0, 26, 7, 42, 45, 47, 49, 4]), (98, [2, 3, 7, 2, 9, 2]), (99, [2, 3, 4, 6, 7, 11, 2, 3, 15, 14, 2, 3]), (102, [2, 3, 13, 4, 15, 2, 3, 17, 5, 19, 6, 22, 24, 7, 28, 31, 33, 2, 3, 36, 8, 39, 43, 44, 2, 3, 46, 10, 48, 52, 55, 2, 3, 58, 60, 64, 2, 3, 68, 11, 70, 72, 73, 2, 3, 76, 78, 82, 87, 2, 3, 91, 12, 93, 95, 96, 2, 3, 99, 103, 108, 113, 2, 3]), (90, [4, 7, 10, 4, 13, 16, 17, 4, 5, 20, 21, 6, 23, 25, 4, 26, 5, 28, 29, 30, 0]), (91, [4, 5, 6, 4]), (30, [4, 6, 4]), (52, [4, 8, 10, 5, 11, 13, 17, 4, 8, 4]), (68, [2, 3, 2]), (69, [2, 3, 6, 7, 11, 12, 2]), (77, [4, 6, 8, 10, 5, 11, 12, 13, 4, 8, 4]), (78, [2, 3, 5, 6, 9, 10, 13, 14, 16, 17, 21, 22, 25, 26, 29, 30, 33, 34, 37, 38, 41, 42, 45, 46, 48, 49, 53, 54, 56, 57, 2]), (92, [2, 3, 5, 6, 9, 10, 12, 13, 2]), (80, [2, 3, 5, 6, 2]), (60, [2, 3, 6, 7, 2]), (70, [2, 3, 2]), (71, [2, 3, 5, 6, 10, 11, 12, 18, 19, 2]), (79, [2, 3, 5, 6, 9, 10, 13, 14, 2]), (48, [2, 3, 2]), (50, [4, 7, 9, 4]), (61, [2, 3, 2]), (32, [2, 4, 6, 8, 3, 9, 10, 13, 14, 15, 2, 6, 20, 2]), (10, [2, 3, 2, 3, 4, 20, 6, 24, 25, 4, 20, 31, 4, 37, 8, 41, 42, 4, 37, 2, 3, 49, 2, 3]), (29, [2, 3, 5, 2, 7, 2]), (51, [4, 5, 6, 4]), (62, [4, 5, 7, 10, 11, 12, 15, 4]), (31, [2, 3, 2]), (11, [2, 5, 11, 2]), (33, [2, 8, 14, 20, 2, 3, 26, 35, 2, 31, 3, 4, 40, 49, 2, 45, 4, 2]), (53, [2, 6, 5, 4, 10, 11, 18, 2]), (63, [3, 9, 8, 4, 5, 6, 14, 15, 19, 20, 3]), (72, [4, 5, 6, 7, 10, 11, 14, 15, 19, 20, 18, 8, 9, 24, 26, 4, 5, 6, 27, 7, 28, 29, 31, 33, 34, 36, 37, 4, 5, 6, 40, 7, 42, 4, 5, 6]), (81, [4, 5, 6, 8, 7, 10, 11, 16, 17, 20, 21, 4, 5, 23, 24, 27, 7, 29, 30, 4, 5, 33, 34, 35, 36, 6, 14, 7, 4, 5]), (73, [2, 5, 4, 7, 14, 18, 20, 26, 28, 11, 4, 2]), (74, [2, 6, 12, 17, 23, 2]), (82, [2, 3, 5, 6, 2]), (36, [2, 3, 4, 5, 8, 9, 14, 15, 18, 19, 20, 2, 12, 3, 24, 2]), (83, [2, 5, 4, 7, 14, 2, 11, 4, 19, 2]), (93, [4, 5, 6, 7, 9, 10, 15, 16, 18, 20, 21, 22, 23, 5, 27, 6, 13, 7, 29, 30, 31, 4]), (94, [2, 3, 4, 5, 8, 9, 14, 15, 2, 12, 3, 19, 22, 23, 2]), (101, [2, 3, 4, 8, 9, 2, 6, 3, 12, 2]), (95, [2, 3, 5, 6, 9, 10, 12, 13, 17, 18, 20, 21, 2]), (84, [2, 7, 4, 9, 16, 5, 19, 21, 22, 26, 27, 28, 2, 6, 34, 35, 40, 41, 45, 46, 47, 51, 52, 53, 56, 57, 58, 2, 38, 6, 13, 4, 63, 2])]
def mvB : List (Nat × List Nat) := [(3, [0]), (8, [0]), (25, [0])]
def extsB : List (Nat × Nat) := [(96, 0), (86, 2), (100, 1)]
-- extern: [(96, internal_bytealg_IndexByteString), (86, internal_bytealg_IndexString), (100, internal_bytealg_CountString)]

noncomputable def base : Base where
  ng := 0
  tab := tabB
  fn := Go.AM.look fnB
  ann := annOf annB
  kind := kindX quietB addsB extsB
  ext := extA
  prim := fun _ => none
def globB : Nat → Option (List V) := fun _ => none
noncomputable def vb : BaseV where
  b := base
  glob := globB
  takes := listOf takesB
  mv := listOf mvB
  prim := fun _ => none
noncomputable def cv : CallV := callV vb
noncomputable def pc : FuncId → List V → Option V := pcall cv
noncomputable def qc : FuncId → List V → Option V := qpcall cv
set_option maxRecDepth 100000 in
theorem fns : FnsOk Tryd.prog fnB := by
  unfold fnB
  refine ⟨⟨rfl, by kernel_rfl⟩, ⟨rfl, by kernel_rfl⟩, ⟨rfl, by kernel_rfl⟩, ⟨rfl, by kernel_rfl⟩, ⟨rfl, by kernel_rfl⟩, ⟨rfl, by kernel_rfl⟩, ⟨rfl, by kernel_rfl⟩, ⟨rfl, by kernel_rfl⟩, ⟨rfl, by kernel_rfl⟩, ⟨rfl, by kernel_rfl⟩, ⟨rfl, by kernel_rfl⟩, ⟨rfl, by kernel_rfl⟩, ⟨rfl, by kernel_rfl⟩, ⟨rfl, by kernel_rfl⟩, ⟨rfl, by kernel_rfl⟩, ⟨rfl, by kernel_rfl⟩, ⟨rfl, by kernel_rfl⟩, ⟨rfl, by kernel_rfl⟩, ⟨rfl, by kernel_rfl⟩, ⟨rfl, by kernel_rfl⟩, ⟨rfl, by kernel_rfl⟩, ⟨rfl, by kernel_rfl⟩, ⟨rfl, by kernel_rfl⟩, ⟨rfl, by kernel_rfl⟩, ⟨rfl, by kernel_rfl⟩, ⟨rfl, by kernel_rfl⟩, ⟨rfl, by kernel_rfl⟩, ⟨rfl, by kernel_rfl⟩, ⟨rfl, by kernel_rfl⟩, ⟨rfl, by kernel_rfl⟩, ⟨rfl, by kernel_rfl⟩, ⟨rfl, by kernel_rfl⟩, ⟨rfl, by kernel_rfl⟩, ⟨rfl, by kernel_rfl⟩, ⟨rfl, by kernel_rfl⟩, ⟨rfl, by kernel_rfl⟩, ⟨rfl, by kernel_rfl⟩, ⟨rfl, by kernel_rfl⟩, ⟨rfl, by kernel_rfl⟩, ⟨rfl, by kernel_rfl⟩, ⟨rfl, by kernel_rfl⟩, ⟨rfl, by kernel_rfl⟩, ⟨rfl, by kernel_rfl⟩, ⟨rfl, by kernel_rfl⟩, ⟨rfl, by kernel_rfl⟩, ⟨rfl, by kernel_rfl⟩, ⟨rfl, by kernel_rfl⟩, ⟨rfl, by kernel_rfl⟩, ⟨rfl, by kernel_rfl⟩, ⟨rfl, by kernel_rfl⟩, ⟨rfl, by kernel_rfl⟩, ⟨rfl, by kernel_rfl⟩, ⟨rfl, by kernel_rfl⟩, ⟨rfl, by kernel_rfl⟩, ⟨rfl, by kernel_rfl⟩, ⟨rfl, by kernel_rfl⟩, ⟨rfl, by kernel_rfl⟩, ⟨rfl, by kernel_rfl⟩, ⟨rfl, by kernel_rfl⟩, ⟨rfl, by kernel_rfl⟩, ⟨rfl, by kernel_rfl⟩, ⟨rfl, by kernel_rfl⟩, ⟨rfl, by kernel_rfl⟩, ⟨rfl, by kernel_rfl⟩, ⟨rfl, by kernel_rfl⟩, ⟨rfl, by kernel_rfl⟩, trivial⟩
theorem tabs : tabB? Tryd.prog tabB = true := by kernel_rfl
theorem exts : ExtFns Tryd.prog extsB := by
  unfold extsB
  exact ⟨fun args w => Go.run_callFunc_extern (fn := Tryd.f96) (e := Extern.BytealgIndexByte.indexByte) (by kernel_rfl) (by kernel_rfl) (by kernel_rfl) (by kernel_rfl) (by kernel_rfl) args w, trivial, fun args w => Go.run_callFunc_extern (fn := Tryd.f100) (e := Extern.BytealgCount.count) (by kernel_rfl) (by kernel_rfl) (by kernel_rfl) (by kernel_rfl) (by kernel_rfl) args w, trivial⟩
theorem base_ok : BaseOk Tryd.prog base where
  tab := tab_ok tabs
  fn := fns_ok fns
  ext := ext_ok exts
  prim := fun f g args hp r hp' h => by cases h
  mixed := by kernel_rfl
theorem vb_ok : BaseVOk vb where
  zero := tab_zero (tab_ok tabs)
  sl := tab_sl (tab_ok tabs)
  gd := fun g cs h => by cases h
  noprim := fun _ _ => rfl
  prim := fun f g args r H h => by cases h
end Go.Proofs.YtemfiddemagflaaDoor.Q
