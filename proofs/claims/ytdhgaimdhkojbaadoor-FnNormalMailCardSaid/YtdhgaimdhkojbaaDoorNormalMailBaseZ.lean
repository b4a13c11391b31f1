/- The program's functions, types and marks, as the machines take them. -/
import Derived.Test.YtdhgaimdhkojbaaDoorProg
import Derived.Test.YtdhgaimdhkojbaaDoorK4
import Derived.KernelRfl
namespace Go.Proofs.YtdhgaimdhkojbaaDoor.Q
open Go Go.AM Go.Proofs
set_option linter.unusedVariables false
def id_laws_FnNormalMail : Nat := 5
def id_spec_DrawNormalMail : Nat := 19
def id_spec_DrawSpeakMail : Nat := 14
def id_spec_l13Open : Nat := 45
def id_spec_l10DrawMail : Nat := 47
def id_spec_l13Rd_of : Nat := 80
def id_spec_l13Rd_pick : Nat := 79
def id_spec_l13Rd_num : Nat := 81
def id_spec_l10WrongMail : Nat := 46
def id_spec_l10Mail : Nat := 78
def id_impl_NormalMail : Nat := 20
def id_impl_MailValid : Nat := 18
def id_impl_draftValid : Nat := 40
def id_impl_isFrom : Nat := 69
def id_impl_isPath : Nat := 59
def id_strings_Cut : Nat := 87
def id_internal_stringslite_Cut : Nat := 104
def id_internal_stringslite_Index : Nat := 115
def id_internal_stringslite_IndexByte : Nat := 125
def id_internal_bytealg_IndexByteString : Nat := 135
def id_internal_bytealg_IndexString : Nat := 126
def id_internal_bytealg_Cutover : Nat := 127
def id_internal_bytealg_IndexRabinKarp_string_ : Nat := 128
def id_internal_bytealg_hashStr_string_ : Nat := 136
def id_impl_isLocal : Nat := 88
def id_strings_Split : Nat := 74
def id_strings_genSplit : Nat := 95
def id_strings_explode : Nat := 109
def id_unicode_utf8_RuneCountInString : Nat := 121
def id_unicode_utf8_DecodeRuneInString : Nat := 122
def id_unicode_utf8_decodeRuneInStringSlow : Nat := 133
def id_strings_Count : Nat := 110
def id_internal_bytealg_CountString : Nat := 123
def id_strings_Index : Nat := 111
def id_slices_ContainsFunc___string_string_ : Nat := 49
def id_slices_IndexFunc___string_string_ : Nat := 83
def id_impl_isLocal_1 : Nat := 105
def id_impl_AtomValid : Nat := 106
def id_impl_allBytes : Nat := 96
def id_impl_isAtomByte : Nat := 116
def id_impl_isLetter : Nat := 129
def id_impl_isDigit : Nat := 98
def id_impl_isDomain : Nat := 42
def id_impl_isDomain_1 : Nat := 75
def id_impl_isLabel : Nat := 76
def id_impl_isLabel_1 : Nat := 97
def id_impl_draftValid_1 : Nat := 70
def id_impl_areTexts : Nat := 71
def id_impl_areTexts_1 : Nat := 93
def id_impl_TextValid : Nat := 51
def id_impl_normalMail : Nat := 53
def id_slices_Clone___string_string_ : Nat := 84
def id_slices_Contains___string_string_ : Nat := 85
def id_slices_Index___string_string_ : Nat := 100
def id_spec_NormalMail : Nat := 21
def id_spec_MailValid : Nat := 37
def id_spec_l10Draft : Nat := 35
def id_spec_l10Box : Nat := 57
def id_spec_l2Box : Nat := 86
def id_spec_l2Cut : Nat := 101
def id_spec_l1Read : Nat := 112
def id_spec_LowerText : Nat := 102
def id_spec_AddressValid : Nat := 103
def id_spec_l2Name : Nat := 113
def id_spec_TextValid : Nat := 52
def id_spec_l2Local : Nat := 114
def id_spec_l2Parts : Nat := 66
def id_spec_AtomValid : Nat := 124
def id_spec_l1Atom : Nat := 134
def id_spec_l1Letter : Nat := 67
def id_spec_l2Domain : Nat := 36
def id_spec_l11Has : Nat := 54
def id_impl_MailSame : Nat := 22
def id_slices_Equal___string_string_ : Nat := 55
def id_laws_mwTexts : Nat := 17
noncomputable def tabB : List (Nat × TI) := [
  (37, ⟨.slice 5 1 1 [(.int .u8 0)], false, 1, [(.slice none 0 0)]⟩),
  (3, ⟨.int .i64, false, 1, [(.int .i64 0)]⟩),
  (30, ⟨.struct [(0, 1, false), (1, 1, false), (2, 1, false)], true, 3, [(.string (bs [])), (.slice none 0 0), (.slice none 0 0)]⟩),
  (4, ⟨.bool, false, 1, [(.bool false)]⟩),
  (22, ⟨.slice 9 1 16 [(.string (bs []))], false, 1, [(.slice none 0 0)]⟩),
  (9, ⟨.str, false, 1, [(.string (bs []))]⟩),
  (65, ⟨.other, false, 1, [(.pointer none)]⟩),
  (91, ⟨.struct [(0, 1, false), (1, 1, false)], true, 2, [(.slice none 0 0), (.int .i64 0)]⟩),
  (95, ⟨.slice 3 1 8 [(.int .i64 0)], false, 1, [(.slice none 0 0)]⟩),
  (5, ⟨.int .u8, false, 1, [(.int .u8 0)]⟩),
  (59, ⟨.other, false, 1, [.nilFunc]⟩),
  (126, ⟨.int .u32, false, 1, [(.int .u32 0)]⟩),
  (21, ⟨.int .i32, false, 1, [(.int .i32 0)]⟩),
  (131, ⟨.arr 256 1, true, 256, [(.int .u8 0), (.int .u8 0), (.int .u8 0), (.int .u8 0), (.int .u8 0), (.int .u8 0), (.int .u8 0), (.int .u8 0), (.int .u8 0), (.int .u8 0), (.int .u8 0), (.int .u8 0), (.int .u8 0), (.int .u8 0), (.int .u8 0), (.int .u8 0), (.int .u8 0), (.int .u8 0), (.int .u8 0), (.int .u8 0), (.int .u8 0), (.int .u8 0), (.int .u8 0), (.int .u8 0), (.int .u8 0), (.int .u8 0), (.int .u8 0), (.int .u8 0), (.int .u8 0), (.int .u8 0), (.int .u8 0), (.int .u8 0), (.int .u8 0), (.int .u8 0), (.int .u8 0), (.int .u8 0), (.int .u8 0), (.int .u8 0), (.int .u8 0), (.int .u8 0), (.int .u8 0), (.int .u8 0), (.int .u8 0), (.int .u8 0), (.int .u8 0), (.int .u8 0), (.int .u8 0), (.int .u8 0), (.int .u8 0), (.int .u8 0), (.int .u8 0), (.int .u8 0), (.int .u8 0), (.int .u8 0), (.int .u8 0), (.int .u8 0), (.int .u8 0), (.int .u8 0), (.int .u8 0), (.int .u8 0), (.int .u8 0), (.int .u8 0), (.int .u8 0), (.int .u8 0), (.int .u8 0), (.int .u8 0), (.int .u8 0), (.int .u8 0), (.int .u8 0), (.int .u8 0), (.int .u8 0), (.int .u8 0), (.int .u8 0), (.int .u8 0), (.int .u8 0), (.int .u8 0), (.int .u8 0), (.int .u8 0), (.int .u8 0), (.int .u8 0), (.int .u8 0), (.int .u8 0), (.int .u8 0), (.int .u8 0), (.int .u8 0), (.int .u8 0), (.int .u8 0), (.int .u8 0), (.int .u8 0), (.int .u8 0), (.int .u8 0), (.int .u8 0), (.int .u8 0), (.int .u8 0), (.int .u8 0), (.int .u8 0), (.int .u8 0), (.int .u8 0), (.int .u8 0), (.int .u8 0), (.int .u8 0), (.int .u8 0), (.int .u8 0), (.int .u8 0), (.int .u8 0), (.int .u8 0), (.int .u8 0), (.int .u8 0), (.int .u8 0), (.int .u8 0), (.int .u8 0), (.int .u8 0), (.int .u8 0), (.int .u8 0), (.int .u8 0), (.int .u8 0), (.int .u8 0), (.int .u8 0), (.int .u8 0), (.int .u8 0), (.int .u8 0), (.int .u8 0), (.int .u8 0), (.int .u8 0), (.int .u8 0), (.int .u8 0), (.int .u8 0), (.int .u8 0), (.int .u8 0), (.int .u8 0), (.int .u8 0), (.int .u8 0), (.int .u8 0), (.int .u8 0), (.int .u8 0), (.int .u8 0), (.int .u8 0), (.int .u8 0), (.int .u8 0), (.int .u8 0), (.int .u8 0), (.int .u8 0), (.int .u8 0), (.int .u8 0), (.int .u8 0), (.int .u8 0), (.int .u8 0), (.int .u8 0), (.int .u8 0), (.int .u8 0), (.int .u8 0), (.int .u8 0), (.int .u8 0), (.int .u8 0), (.int .u8 0), (.int .u8 0), (.int .u8 0), (.int .u8 0), (.int .u8 0), (.int .u8 0), (.int .u8 0), (.int .u8 0), (.int .u8 0), (.int .u8 0), (.int .u8 0), (.int .u8 0), (.int .u8 0), (.int .u8 0), (.int .u8 0), (.int .u8 0), (.int .u8 0), (.int .u8 0), (.int .u8 0), (.int .u8 0), (.int .u8 0), (.int .u8 0), (.int .u8 0), (.int .u8 0), (.int .u8 0), (.int .u8 0), (.int .u8 0), (.int .u8 0), (.int .u8 0), (.int .u8 0), (.int .u8 0), (.int .u8 0), (.int .u8 0), (.int .u8 0), (.int .u8 0), (.int .u8 0), (.int .u8 0), (.int .u8 0), (.int .u8 0), (.int .u8 0), (.int .u8 0), (.int .u8 0), (.int .u8 0), (.int .u8 0), (.int .u8 0), (.int .u8 0), (.int .u8 0), (.int .u8 0), (.int .u8 0), (.int .u8 0), (.int .u8 0), (.int .u8 0), (.int .u8 0), (.int .u8 0), (.int .u8 0), (.int .u8 0), (.int .u8 0), (.int .u8 0), (.int .u8 0), (.int .u8 0), (.int .u8 0), (.int .u8 0), (.int .u8 0), (.int .u8 0), (.int .u8 0), (.int .u8 0), (.int .u8 0), (.int .u8 0), (.int .u8 0), (.int .u8 0), (.int .u8 0), (.int .u8 0), (.int .u8 0), (.int .u8 0), (.int .u8 0), (.int .u8 0), (.int .u8 0), (.int .u8 0), (.int .u8 0), (.int .u8 0), (.int .u8 0), (.int .u8 0), (.int .u8 0), (.int .u8 0), (.int .u8 0), (.int .u8 0), (.int .u8 0), (.int .u8 0), (.int .u8 0), (.int .u8 0), (.int .u8 0), (.int .u8 0), (.int .u8 0), (.int .u8 0), (.int .u8 0), (.int .u8 0), (.int .u8 0), (.int .u8 0), (.int .u8 0), (.int .u8 0), (.int .u8 0), (.int .u8 0)]⟩),
  (134, ⟨.arr 16 2, true, 32, [(.int .u8 0), (.int .u8 0), (.int .u8 0), (.int .u8 0), (.int .u8 0), (.int .u8 0), (.int .u8 0), (.int .u8 0), (.int .u8 0), (.int .u8 0), (.int .u8 0), (.int .u8 0), (.int .u8 0), (.int .u8 0), (.int .u8 0), (.int .u8 0), (.int .u8 0), (.int .u8 0), (.int .u8 0), (.int .u8 0), (.int .u8 0), (.int .u8 0), (.int .u8 0), (.int .u8 0), (.int .u8 0), (.int .u8 0), (.int .u8 0), (.int .u8 0), (.int .u8 0), (.int .u8 0), (.int .u8 0), (.int .u8 0)]⟩),
  (133, ⟨.struct [(0, 1, false), (1, 1, false)], true, 2, [(.int .u8 0), (.int .u8 0)]⟩),
  (85, ⟨.other, false, 1, [.nilFunc]⟩),
  (99, ⟨.struct [(0, 1, false), (1, 1, false), (2, 1, false)], true, 3, [(.string (bs [])), (.string (bs [])), (.string (bs []))]⟩)]
noncomputable def annB : List (Nat × Ann) := [
  (5, { loc := [3, 4, 6, 11], loops := [(9, ⟨⟨[8], [(3, (3, 0)), (4, (4, 0))], [(3, 3), (4, 3)]⟩, [(.exit 0, ⟨[], [(3, (3, 0)), (4, (4, 0))], [(3, 3), (4, 3)]⟩), (.ret, ⟨[2], [], []⟩)]⟩), (13, ⟨⟨[8, 9, 10], [(3, (3, 0)), (4, (4, 0))], [(3, 3), (4, 3)]⟩, [(.exit 2, ⟨[8, 9], [(3, (3, 0)), (4, (4, 0))], [(3, 3), (4, 3)]⟩)]⟩)], joins := [(15, 14, [(.normal, ⟨[8, 9, 10], [(3, (3, 0)), (4, (4, 0))], [(3, 3), (4, 3)]⟩)]), (6, 8, [(.ret, ⟨[2], [], []⟩), (.normal, ⟨[], [(3, (3, 0)), (4, (4, 0))], [(3, 3), (4, 3)]⟩)])], full := [], dynQ := false }),
  (19, { loc := [2], loops := [], joins := [], full := [], dynQ := false }),
  (14, { loc := [2], loops := [], joins := [], full := [], dynQ := false }),
  (45, { loc := [], loops := [], joins := [(1, 3, [(.normal, ⟨[0], [], []⟩)])], full := [], dynQ := false }),
  (47, { loc := [2, 3], loops := [(7, ⟨⟨[0, 5], [(2, (2, 0)), (3, (3, 0))], [(2, 3), (3, 3)]⟩, [(.exit 2, ⟨[], [(2, (2, 0)), (3, (3, 0))], [(2, 3), (3, 3)]⟩)]⟩), (3, ⟨⟨[0, 4], [(2, (2, 0)), (3, (3, 0))], [(2, 3), (3, 3)]⟩, [(.exit 0, ⟨[0], [(2, (2, 0)), (3, (3, 0))], [(2, 3), (3, 3)]⟩)]⟩)], joins := [], full := [], dynQ := false }),
  (80, { loc := [], loops := [], joins := [], full := [], dynQ := false }),
  (79, { loc := [], loops := [], joins := [(2, 4, [(.ret, ⟨[4], [], []⟩), (.normal, ⟨[0, 1], [], []⟩)])], full := [], dynQ := false }),
  (81, { loc := [], loops := [], joins := [], full := [], dynQ := false }),
  (46, { loc := [3, 4, 5], loops := [], joins := [], full := [], dynQ := false }),
  (78, { loc := [1, 2], loops := [], joins := [], full := [8, 12], dynQ := false }),
  (20, { loc := [1, 2], loops := [], joins := [], full := [], dynQ := false }),
  (18, { loc := [1], loops := [], joins := [], full := [], dynQ := false }),
  (40, { loc := [3], loops := [], joins := [], full := [], dynQ := false }),
  (69, { loc := [], loops := [], joins := [], full := [], dynQ := false }),
  (59, { loc := [], loops := [], joins := [], full := [], dynQ := false }),
  (87, { loc := [], loops := [], joins := [], full := [], dynQ := false }),
  (104, { loc := [], loops := [], joins := [], full := [], dynQ := false }),
  (115, { loc := [], loops := [(15, ⟨⟨[0, 1, 5, 6, 7, 8, 9, 10], [], []⟩, [(.exit 1, ⟨[], [], []⟩), (.ret, ⟨[4], [], []⟩)]⟩)], joins := [(21, 23, [(.ret, ⟨[4], [], []⟩), (.normal, ⟨[0, 1, 5, 6, 7, 8, 9, 10], [], []⟩)]), (16, 21, [(.ret, ⟨[4], [], []⟩), (.normal, ⟨[0, 1, 5, 6, 7, 8, 9, 10], [], []⟩)]), (2, 10, [(.ret, ⟨[4], [], []⟩), (.normal, ⟨[0, 1, 5], [], []⟩)])], full := [], dynQ := false }),
  (125, { loc := [], loops := [], joins := [], full := [], dynQ := false }),
  (127, { loc := [], loops := [], joins := [], full := [], dynQ := false }),
  (128, { loc := [], loops := [(11, ⟨⟨[0, 1, 5, 6, 7, 8, 10], [], []⟩, [(.exit 2, ⟨[], [], []⟩), (.ret, ⟨[4], [], []⟩)]⟩), (5, ⟨⟨[0, 1, 5, 6, 7, 8, 9], [], []⟩, [(.exit 0, ⟨[0, 1, 5, 6, 7, 8], [], []⟩)]⟩)], joins := [(8, 10, [(.ret, ⟨[4], [], []⟩), (.normal, ⟨[0, 1, 5, 6, 7, 8], [], []⟩)])], full := [], dynQ := false }),
  (136, { loc := [], loops := [(8, ⟨⟨[4, 6, 7, 8], [], []⟩, [(.exit 2, ⟨[4, 6], [], []⟩)]⟩), (3, ⟨⟨[0, 4, 5], [], []⟩, [(.exit 0, ⟨[0, 4], [], []⟩)]⟩)], joins := [(10, 9, [(.normal, ⟨[4, 6, 7, 8], [], []⟩)]), (10, 12, [(.normal, ⟨[4, 6, 7, 8], [], []⟩)])], full := [], dynQ := false }),
  (88, { loc := [], loops := [], joins := [], full := [], dynQ := false }),
  (74, { loc := [], loops := [], joins := [], full := [], dynQ := false }),
  (95, { loc := [], loops := [(11, ⟨⟨[0, 1, 2, 3, 9, 10], [], []⟩, [(.exit 0, ⟨[0, 9, 10], [], []⟩)]⟩)], joins := [(5, 7, [(.normal, ⟨[0, 1, 2, 3], [], []⟩)])], full := [], dynQ := false }),
  (109, { loc := [], loops := [(6, ⟨⟨[0, 1, 6, 7], [], []⟩, [(.exit 0, ⟨[0, 1, 6], [], []⟩)]⟩)], joins := [(2, 4, [(.normal, ⟨[0, 1], [], []⟩)])], full := [], dynQ := false }),
  (121, { loc := [], loops := [], joins := [], full := [], dynQ := false }),
  (122, { loc := [], loops := [], joins := [], full := [], dynQ := false }),
  (133, { loc := [9], loops := [], joins := [], full := [], dynQ := false }),
  (110, { loc := [], loops := [(6, ⟨⟨[0, 1, 5], [], []⟩, [(.ret, ⟨[4], [], []⟩)]⟩)], joins := [], full := [], dynQ := false }),
  (111, { loc := [], loops := [], joins := [], full := [], dynQ := false }),
  (49, { loc := [], loops := [], joins := [], full := [], dynQ := false }),
  (83, { loc := [], loops := [(2, ⟨⟨[0, 1, 7, 8], [], []⟩, [(.exit 0, ⟨[], [], []⟩), (.ret, ⟨[4], [], []⟩)]⟩)], joins := [], full := [], dynQ := true }),
  (105, { loc := [], loops := [], joins := [], full := [], dynQ := false }),
  (106, { loc := [], loops := [], joins := [], full := [], dynQ := false }),
  (96, { loc := [], loops := [(2, ⟨⟨[0, 1, 7, 8], [], []⟩, [(.exit 0, ⟨[], [], []⟩), (.ret, ⟨[4], [], []⟩)]⟩)], joins := [], full := [], dynQ := true }),
  (116, { loc := [], loops := [], joins := [], full := [], dynQ := false }),
  (129, { loc := [], loops := [], joins := [], full := [], dynQ := false }),
  (98, { loc := [], loops := [], joins := [], full := [], dynQ := false }),
  (42, { loc := [], loops := [], joins := [], full := [], dynQ := false }),
  (75, { loc := [], loops := [], joins := [], full := [], dynQ := false }),
  (76, { loc := [], loops := [], joins := [], full := [], dynQ := false }),
  (97, { loc := [], loops := [], joins := [], full := [], dynQ := false }),
  (70, { loc := [], loops := [], joins := [], full := [], dynQ := false }),
  (71, { loc := [], loops := [], joins := [], full := [], dynQ := false }),
  (93, { loc := [], loops := [], joins := [], full := [], dynQ := false }),
  (51, { loc := [], loops := [(2, ⟨⟨[0, 5, 6], [], []⟩, [(.exit 0, ⟨[0], [], []⟩), (.ret, ⟨[2], [], []⟩)]⟩)], joins := [], full := [], dynQ := false }),
  (53, { loc := [1, 2], loops := [(3, ⟨⟨[3, 13, 14, 15], [(2, (2, 0))], [(2, 3)]⟩, [(.exit 0, ⟨[3], [(2, (2, 0))], [(2, 3)]⟩)]⟩)], joins := [], full := [], dynQ := false }),
  (84, { loc := [], loops := [], joins := [], full := [7], dynQ := false }),
  (85, { loc := [], loops := [], joins := [], full := [], dynQ := false }),
  (100, { loc := [], loops := [(2, ⟨⟨[0, 1, 7, 8], [], []⟩, [(.exit 0, ⟨[], [], []⟩), (.ret, ⟨[4], [], []⟩)]⟩)], joins := [], full := [], dynQ := false }),
  (21, { loc := [1, 2], loops := [(5, ⟨⟨[4, 5], [(1, (1, 0)), (2, (2, 0))], [(1, 3), (2, 3)]⟩, [(.exit 0, ⟨[4], [(2, (2, 0))], [(2, 3)]⟩)]⟩)], joins := [(7, 6, [(.normal, ⟨[4, 5], [(1, (1, 0)), (2, (2, 0))], [(1, 3), (2, 3)]⟩)])], full := [15], dynQ := false }),
  (37, { loc := [1], loops := [], joins := [], full := [], dynQ := false }),
  (35, { loc := [1], loops := [(9, ⟨⟨[4], [(1, (1, 0))], [(1, 3)]⟩, [(.exit 2, ⟨[], [], []⟩), (.ret, ⟨[2], [], []⟩)]⟩), (4, ⟨⟨[3], [(1, (1, 0))], [(1, 3)]⟩, [(.exit 0, ⟨[], [(1, (1, 0))], [(1, 3)]⟩), (.ret, ⟨[2], [], []⟩)]⟩)], joins := [(1, 3, [(.ret, ⟨[2], [], []⟩), (.normal, ⟨[], [(1, (1, 0))], [(1, 3)]⟩)])], full := [], dynQ := false }),
  (57, { loc := [3], loops := [], joins := [], full := [], dynQ := false }),
  (86, { loc := [2, 7], loops := [], joins := [], full := [], dynQ := false }),
  (101, { loc := [], loops := [(2, ⟨⟨[0, 1, 7], [], []⟩, [(.exit 0, ⟨[0], [], []⟩), (.ret, ⟨[4, 5, 6], [], []⟩)]⟩)], joins := [], full := [], dynQ := false }),
  (112, { loc := [], loops := [(3, ⟨⟨[0, 6, 7], [], []⟩, [(.exit 0, ⟨[], [], []⟩), (.ret, ⟨[4, 5], [], []⟩)]⟩)], joins := [(5, 4, [(.ret, ⟨[4, 5], [], []⟩), (.normal, ⟨[0, 6, 7], [], []⟩)]), (7, 11, [(.ret, ⟨[4, 5], [], []⟩), (.normal, ⟨[0, 6, 7], [], []⟩)])], full := [], dynQ := false }),
  (102, { loc := [], loops := [(3, ⟨⟨[3, 4], [], []⟩, [(.exit 0, ⟨[3], [], []⟩)]⟩)], joins := [(5, 4, [(.normal, ⟨[3, 4], [], []⟩)])], full := [], dynQ := false }),
  (103, { loc := [1], loops := [], joins := [], full := [], dynQ := false }),
  (113, { loc := [], loops := [], joins := [], full := [], dynQ := false }),
  (52, { loc := [], loops := [(2, ⟨⟨[0, 3], [], []⟩, [(.exit 0, ⟨[0], [], []⟩), (.ret, ⟨[2], [], []⟩)]⟩)], joins := [(4, 3, [(.ret, ⟨[2], [], []⟩), (.normal, ⟨[0, 3], [], []⟩)]), (2, 4, [(.normal, ⟨[0, 3], [], []⟩), (.exit 0, ⟨[0], [], []⟩)])], full := [], dynQ := false }),
  (114, { loc := [], loops := [(3, ⟨⟨[0, 3, 4], [], []⟩, [(.exit 0, ⟨[0], [], []⟩), (.ret, ⟨[2], [], []⟩)]⟩)], joins := [], full := [], dynQ := false }),
  (66, { loc := [], loops := [(4, ⟨⟨[0, 1, 5, 6, 7], [], []⟩, [(.exit 0, ⟨[0, 5, 6], [], []⟩)]⟩)], joins := [(6, 5, [(.normal, ⟨[0, 1, 5, 6, 7], [], []⟩)])], full := [], dynQ := false }),
  (124, { loc := [], loops := [(2, ⟨⟨[0, 3], [], []⟩, [(.exit 0, ⟨[0], [], []⟩), (.ret, ⟨[2], [], []⟩)]⟩)], joins := [(2, 4, [(.normal, ⟨[0, 3], [], []⟩), (.exit 0, ⟨[0], [], []⟩)])], full := [], dynQ := false }),
  (134, { loc := [], loops := [(2, ⟨⟨[0, 3], [], []⟩, [(.exit 0, ⟨[0], [], []⟩), (.ret, ⟨[2], [], []⟩)]⟩)], joins := [], full := [], dynQ := false }),
  (67, { loc := [], loops := [], joins := [], full := [], dynQ := false }),
  (36, { loc := [], loops := [(3, ⟨⟨[0, 3, 4], [], []⟩, [(.exit 0, ⟨[0], [], []⟩), (.ret, ⟨[2], [], []⟩)]⟩), (9, ⟨⟨[0, 3, 4, 5, 6], [], []⟩, [(.exit 2, ⟨[0, 3, 4], [], []⟩), (.ret, ⟨[2], [], []⟩)]⟩)], joins := [(5, 4, [(.ret, ⟨[2], [], []⟩), (.normal, ⟨[0, 3, 4], [], []⟩)]), (11, 10, [(.ret, ⟨[2], [], []⟩), (.normal, ⟨[0, 3, 4, 5, 6], [], []⟩)]), (6, 8, [(.ret, ⟨[2], [], []⟩), (.normal, ⟨[0, 3, 4, 5], [], []⟩)])], full := [], dynQ := false }),
  (54, { loc := [], loops := [(2, ⟨⟨[0, 1, 5], [], []⟩, [(.exit 0, ⟨[], [], []⟩), (.ret, ⟨[4], [], []⟩)]⟩)], joins := [], full := [], dynQ := false }),
  (22, { loc := [2, 3], loops := [], joins := [], full := [], dynQ := false }),
  (55, { loc := [], loops := [(4, ⟨⟨[0, 1, 12, 13], [], []⟩, [(.exit 0, ⟨[], [], []⟩), (.ret, ⟨[4], [], []⟩)]⟩)], joins := [], full := [], dynQ := false }),
  (17, { loc := [], loops := [(4, ⟨⟨[0, 1, 5], [], []⟩, [(.exit 0, ⟨[], [], []⟩), (.ret, ⟨[4], [], []⟩)]⟩)], joins := [], full := [], dynQ := false })]
noncomputable def fnB : List (Nat × Func) := [
  (5, Tryd.f5), (19, Tryd.f19), (14, Tryd.f14), (45, Tryd.f45), (47, Tryd.f47), (80, Tryd.f80), (79, Tryd.f79), (81, Tryd.f81), (46, Tryd.f46), (78, Tryd.f78), (20, Tryd.f20), (18, Tryd.f18), (40, Tryd.f40), (69, Tryd.f69), (59, Tryd.f59), (87, Tryd.f87), (104, Tryd.f104), (115, Tryd.f115), (125, Tryd.f125), (127, Tryd.f127), (128, Tryd.f128), (136, Tryd.f136), (88, Tryd.f88), (74, Tryd.f74), (95, Tryd.f95), (109, Tryd.f109), (121, Tryd.f121), (122, Tryd.f122), (133, Tryd.f133), (110, Tryd.f110), (111, Tryd.f111), (49, Tryd.f49), (83, Tryd.f83), (105, Tryd.f105), (106, Tryd.f106), (96, Tryd.f96), (116, Tryd.f116), (129, Tryd.f129), (98, Tryd.f98), (42, Tryd.f42), (75, Tryd.f75), (76, Tryd.f76), (97, Tryd.f97), (70, Tryd.f70), (71, Tryd.f71), (93, Tryd.f93), (51, Tryd.f51), (53, Tryd.f53), (84, Tryd.f84), (85, Tryd.f85), (100, Tryd.f100), (21, Tryd.f21), (37, Tryd.f37), (35, Tryd.f35), (57, Tryd.f57), (86, Tryd.f86), (101, Tryd.f101), (112, Tryd.f112), (102, Tryd.f102), (103, Tryd.f103), (113, Tryd.f113), (52, Tryd.f52), (114, Tryd.f114), (66, Tryd.f66), (124, Tryd.f124), (134, Tryd.f134), (67, Tryd.f67), (36, Tryd.f36), (54, Tryd.f54), (22, Tryd.f22), (55, Tryd.f55), (17, Tryd.f17)]
def quietB : List Nat := [5, 18, 40, 69, 59, 87, 104, 115, 125, 127, 128, 136, 88, 121, 122, 133, 110, 111, 49, 83, 105, 106, 96, 116, 129, 98, 42, 75, 76, 97, 70, 71, 93, 51, 85, 100, 37, 35, 57, 101, 112, 102, 103, 113, 52, 114, 124, 134, 67, 36, 54, 22, 55, 17]
def addsB : List Nat := [78, 74, 95, 109, 84, 86, 66]
def takesB : List (Nat × List Nat) := [(5, [2, 2, 16, 19, 18, 21, 5, 24, 23, 7, 32, 33, 34, 37, 38, 44, 45, 46, 2, 8, 49, 9, 10, 56, 65, 70, 74, 9, 61, 10, 76, 2, 54, 8, 79, 78, 12, 85, 86, 88, 93, 100, 2]), (19, [3]), (14, [4, 3, 6, 7]), (45, [2, 0, 8, 2]), (47, [6, 9, 15, 4, 17, 22, 23, 19, 4, 29, 5, 32, 37, 38, 34, 5, 44]), (80, [4, 6, 4]), (79, [4, 7, 8, 15, 17, 18, 4, 25, 5, 30, 31, 37, 41, 45, 4, 47, 51, 52, 62, 66, 69, 80, 83, 84, 6, 92, 93, 6, 96, 97, 4]), (81, [4, 6, 4]), (46, [8, 10, 12, 16, 20, 23, 27]), (78, [7, 11]), (20, [3, 3, 8, 3]), (18, [2, 2]), (40, [6, 10, 14, 17, 23, 29, 32, 6]), (69, [2, 3, 5, 6, 2]), (59, [2, 7, 6, 3, 4, 5, 12, 13, 14, 17, 18, 2]), (87, [4, 5, 6, 7, 8, 4, 5, 6]), (104, [4, 5, 6, 8, 9, 7, 11, 13, 14, 16, 17, 18, 4, 5, 6, 22, 4, 5, 6]), (115, [4, 14, 5, 17, 19, 20, 21, 16, 4, 25, 24, 27, 28, 4, 32, 33, 31, 4, 37, 40, 41, 36, 45, 46, 4, 48, 6, 50, 7, 8, 52, 54, 9, 10, 57, 58, 60, 61, 63, 65, 66, 68, 70, 11, 72, 4, 74, 75, 8, 78, 79, 82, 84, 85, 86, 87, 88, 91, 94, 4, 95, 8, 97, 10, 99, 102, 103, 104, 108, 109, 111, 12, 113, 115, 116, 4, 4, 118, 121, 122, 123, 128, 129, 130, 133, 134, 136, 13, 138, 4, 140, 141, 4, 4]), (125, [4, 5, 6, 4]), (127, [2, 3, 2]), (128, [4, 12, 11, 5, 6, 16, 7, 8, 9, 18, 19, 23, 25, 26, 8, 21, 9, 30, 31, 33, 34, 35, 37, 4, 40, 10, 41, 42, 45, 8, 47, 48, 49, 8, 53, 54, 55, 56, 57, 8, 63, 10, 65, 66, 68, 69, 70, 71, 73, 75, 78, 79, 4, 4]), (136, [2, 3, 4, 5, 9, 10, 15, 17, 18, 4, 13, 5, 6, 7, 22, 8, 24, 28, 31, 32, 6, 34, 35, 7, 26, 8, 37, 38, 2, 3]), (88, [2, 3, 6, 7, 2]), (74, [4, 5, 6, 4]), (95, [8, 12, 8, 14, 16, 17, 8, 19, 21, 22, 3, 25, 26, 3, 30, 32, 3, 10, 34, 35, 37, 38, 11, 40, 43, 44, 45, 46, 50, 51, 52, 0, 56, 10, 59, 60, 63, 8]), (109, [4, 10, 5, 12, 14, 15, 16, 19, 1, 20, 6, 7, 22, 23, 29, 28, 8, 9, 34, 35, 36, 39, 40, 0, 26, 7, 42, 45, 47, 49, 4]), (121, [2, 3, 7, 2, 9, 2]), (122, [2, 3, 4, 6, 7, 11, 2, 3, 15, 14, 2, 3]), (133, [2, 3, 13, 4, 15, 2, 3, 17, 5, 19, 6, 22, 24, 7, 28, 31, 33, 2, 3, 36, 8, 39, 43, 44, 2, 3, 46, 10, 48, 52, 55, 2, 3, 58, 60, 64, 2, 3, 68, 11, 70, 72, 73, 2, 3, 76, 78, 82, 87, 2, 3, 91, 12, 93, 95, 96, 2, 3, 99, 103, 108, 113, 2, 3]), (110, [4, 7, 10, 4, 13, 16, 17, 4, 5, 20, 21, 6, 23, 25, 4, 26, 5, 28, 29, 30, 0]), (111, [4, 5, 6, 4]), (49, [4, 6, 4]), (83, [4, 8, 10, 5, 11, 13, 17, 4, 8, 4]), (105, [2, 3, 2]), (106, [2, 3, 6, 7, 11, 12, 2]), (96, [4, 6, 8, 10, 5, 11, 12, 13, 4, 8, 4]), (116, [2, 3, 5, 6, 9, 10, 13, 14, 16, 17, 21, 22, 25, 26, 29, 30, 33, 34, 37, 38, 41, 42, 45, 46, 48, 49, 53, 54, 56, 57, 2]), (129, [2, 3, 5, 6, 9, 10, 12, 13, 2]), (98, [2, 3, 5, 6, 2]), (42, [2, 3, 6, 7, 2]), (75, [2, 3, 2]), (76, [2, 3, 5, 6, 10, 11, 12, 18, 19, 2]), (97, [2, 3, 5, 6, 9, 10, 13, 14, 2]), (70, [2, 3, 2]), (71, [4, 7, 9, 4]), (93, [2, 3, 2]), (51, [2, 4, 6, 8, 3, 9, 10, 13, 14, 15, 2, 6, 20, 2]), (53, [15, 5, 21, 25, 26, 15, 31]), (84, [2, 2, 6, 2]), (85, [4, 6, 4]), (100, [4, 8, 10, 5, 11, 13, 17, 4, 8, 4]), (21, [3, 3, 14, 5, 17, 28, 34, 37, 22, 5, 43, 3]), (37, [2, 5, 11, 2]), (35, [2, 8, 14, 20, 2, 3, 26, 35, 2, 31, 3, 4, 40, 49, 2, 45, 4, 2]), (57, [2, 6, 5, 4, 10, 11, 18, 2]), (86, [3, 9, 8, 4, 5, 6, 14, 15, 19, 20, 3]), (101, [4, 5, 6, 7, 10, 11, 14, 15, 19, 20, 18, 8, 9, 24, 26, 4, 5, 6, 27, 7, 28, 29, 31, 33, 34, 36, 37, 4, 5, 6, 40, 7, 42, 4, 5, 6]), (112, [4, 5, 6, 8, 7, 10, 11, 16, 17, 20, 21, 4, 5, 23, 24, 27, 7, 29, 30, 4, 5, 33, 34, 35, 36, 6, 14, 7, 4, 5]), (102, [2, 5, 4, 7, 14, 18, 20, 26, 28, 11, 4, 2]), (103, [2, 6, 12, 17, 23, 2]), (113, [2, 3, 5, 6, 2]), (52, [2, 3, 4, 5, 8, 9, 14, 15, 18, 19, 20, 2, 12, 3, 24, 2]), (114, [2, 5, 4, 7, 14, 2, 11, 4, 19, 2]), (66, [4, 5, 6, 7, 9, 10, 15, 16, 18, 20, 21, 22, 23, 5, 27, 6, 13, 7, 29, 30, 31, 4]), (124, [2, 3, 4, 5, 8, 9, 14, 15, 2, 12, 3, 19, 22, 23, 2]), (134, [2, 3, 4, 8, 9, 2, 6, 3, 12, 2]), (67, [2, 3, 5, 6, 9, 10, 12, 13, 17, 18, 20, 21, 2]), (36, [2, 7, 4, 9, 16, 5, 19, 21, 22, 26, 27, 28, 2, 6, 34, 35, 40, 41, 45, 46, 47, 51, 52, 53, 56, 57, 58, 2, 38, 6, 13, 4, 63, 2]), (54, [4, 5, 6, 13, 16, 4, 10, 5, 4]), (22, [4, 10, 17, 4]), (55, [4, 4, 13, 15, 5, 17, 21, 4, 13, 4]), (17, [4, 4, 5, 11, 18, 22, 4, 15, 5, 4])]
def mvB : List (Nat × List Nat) := [(5, [0]), (19, [0]), (14, [0]), (45, [0]), (20, [0]), (53, [0]), (21, [0])]
def extsB : List (Nat × Nat) := [(135, 0), (126, 2), (123, 1)]
-- extern: [(135, internal_bytealg_IndexByteString), (126, internal_bytealg_IndexString), (123, internal_bytealg_CountString)]

noncomputable def base : Base where
  ng := 0
  tab := tabB
  fn := Go.AM.look fnB
  ann := annOf annB
  kind := kindX quietB addsB extsB
  ext := extA
  prim := fun _ => none
def globB : Nat → Option (List V) := fun _ => none
noncomputable def vb : BaseV where
  b := base
  glob := globB
  takes := listOf takesB
  mv := listOf mvB
  prim := fun _ => none
noncomputable def cv : CallV := callV vb
noncomputable def pc : FuncId → List V → Option V := pcall cv
noncomputable def qc : FuncId → List V → Option V := qpcall cv
set_option maxRecDepth 100000 in
theorem fns : FnsOk Tryd.prog fnB := by
  unfold fnB
  refine ⟨⟨rfl, by kernel_rfl⟩, ⟨rfl, by kernel_rfl⟩, ⟨rfl, by kernel_rfl⟩, ⟨rfl, by kernel_rfl⟩, ⟨rfl, by kernel_rfl⟩, ⟨rfl, by kernel_rfl⟩, ⟨rfl, by kernel_rfl⟩, ⟨rfl, by kernel_rfl⟩, ⟨rfl, by kernel_rfl⟩, ⟨rfl, by kernel_rfl⟩, ⟨rfl, by kernel_rfl⟩, ⟨rfl, by kernel_rfl⟩, ⟨rfl, by kernel_rfl⟩, ⟨rfl, by kernel_rfl⟩, ⟨rfl, by kernel_rfl⟩, ⟨rfl, by kernel_rfl⟩, ⟨rfl, by kernel_rfl⟩, ⟨rfl, by kernel_rfl⟩, ⟨rfl, by kernel_rfl⟩, ⟨rfl, by kernel_rfl⟩, ⟨rfl, by kernel_rfl⟩, ⟨rfl, by kernel_rfl⟩, ⟨rfl, by kernel_rfl⟩, ⟨rfl, by kernel_rfl⟩, ⟨rfl, by kernel_rfl⟩, ⟨rfl, by kernel_rfl⟩, ⟨rfl, by kernel_rfl⟩, ⟨rfl, by kernel_rfl⟩, ⟨rfl, by kernel_rfl⟩, ⟨rfl, by kernel_rfl⟩, ⟨rfl, by kernel_rfl⟩, ⟨rfl, by kernel_rfl⟩, ⟨rfl, by kernel_rfl⟩, ⟨rfl, by kernel_rfl⟩, ⟨rfl, by kernel_rfl⟩, ⟨rfl, by kernel_rfl⟩, ⟨rfl, by kernel_rfl⟩, ⟨rfl, by kernel_rfl⟩, ⟨rfl, by kernel_rfl⟩, ⟨rfl, by kernel_rfl⟩, ⟨rfl, by kernel_rfl⟩, ⟨rfl, by kernel_rfl⟩, ⟨rfl, by kernel_rfl⟩, ⟨rfl, by kernel_rfl⟩, ⟨rfl, by kernel_rfl⟩, ⟨rfl, by kernel_rfl⟩, ⟨rfl, by kernel_rfl⟩, ⟨rfl, by kernel_rfl⟩, ⟨rfl, by kernel_rfl⟩, ⟨rfl, by kernel_rfl⟩, ⟨rfl, by kernel_rfl⟩, ⟨rfl, by kernel_rfl⟩, ⟨rfl, by kernel_rfl⟩, ⟨rfl, by kernel_rfl⟩, ⟨rfl, by kernel_rfl⟩, ⟨rfl, by kernel_rfl⟩, ⟨rfl, by kernel_rfl⟩, ⟨rfl, by kernel_rfl⟩, ⟨rfl, by kernel_rfl⟩, ⟨rfl, by kernel_rfl⟩, ⟨rfl, by kernel_rfl⟩, ⟨rfl, by kernel_rfl⟩, ⟨rfl, by kernel_rfl⟩, ⟨rfl, by kernel_rfl⟩, ⟨rfl, by kernel_rfl⟩, ⟨rfl, by kernel_rfl⟩, ⟨rfl, by kernel_rfl⟩, ⟨rfl, by kernel_rfl⟩, ⟨rfl, by kernel_rfl⟩, ⟨rfl, by kernel_rfl⟩, ⟨rfl, by kernel_rfl⟩, ⟨rfl, by kernel_rfl⟩, trivial⟩
theorem tabs : tabB? Tryd.prog tabB = true := by kernel_rfl
theorem exts : ExtFns Tryd.prog extsB := by
  unfold extsB
  exact ⟨fun args w => Go.run_callFunc_extern (fn := Tryd.f135) (e := Extern.BytealgIndexByte.indexByte) (by kernel_rfl) (by kernel_rfl) (by kernel_rfl) (by kernel_rfl) (by kernel_rfl) args w, trivial, fun args w => Go.run_callFunc_extern (fn := Tryd.f123) (e := Extern.BytealgCount.count) (by kernel_rfl) (by kernel_rfl) (by kernel_rfl) (by kernel_rfl) (by kernel_rfl) args w, trivial⟩
theorem base_ok : BaseOk Tryd.prog base where
  tab := tab_ok tabs
  fn := fns_ok fns
  ext := ext_ok exts
  prim := fun f g args hp r hp' h => by cases h
  mixed := by kernel_rfl
theorem vb_ok : BaseVOk vb where
  zero := tab_zero (tab_ok tabs)
  sl := tab_sl (tab_ok tabs)
  gd := fun g cs h => by cases h
  noprim := fun _ _ => rfl
  prim := fun f g args r H h => by cases h
end Go.Proofs.YtdhgaimdhkojbaaDoor.Q
