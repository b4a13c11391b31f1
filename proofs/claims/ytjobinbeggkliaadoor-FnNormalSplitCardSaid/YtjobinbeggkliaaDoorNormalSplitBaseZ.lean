/- The program's functions, types and marks, as the machines take them. -/
import Derived.Test.YtjobinbeggkliaaDoorProg
import Derived.Test.YtjobinbeggkliaaDoorFnNormalSplitK4
import Derived.KernelRfl
namespace Go.Proofs.YtjobinbeggkliaaDoor.Q
open Go Go.AM Go.Proofs Go.Shelf
set_option linter.unusedVariables false
def id_laws_FnNormalSplit : Nat := 6
def id_spec_DrawSplitMail : Nat := 19
def id_spec_DrawSpeakMail : Nat := 45
def id_spec_l13Open : Nat := 26
def id_spec_l10DrawMail : Nat := 39
def id_spec_l13Rd_of : Nat := 55
def id_spec_l13Rd_pick : Nat := 33
def id_spec_l13Rd_num : Nat := 56
def id_spec_l10WrongMail : Nat := 38
def id_spec_l10Mail : Nat := 66
def id_impl_SplitMail : Nat := 20
def id_impl_MailValid : Nat := 24
def id_impl_draftValid : Nat := 53
def id_impl_isFrom : Nat := 78
def id_impl_isPath : Nat := 29
def id_strings_Cut : Nat := 58
def id_internal_stringslite_Cut : Nat := 83
def id_internal_stringslite_Index : Nat := 99
def id_internal_stringslite_IndexByte : Nat := 109
def id_internal_bytealg_IndexByteString : Nat := 120
def id_internal_bytealg_IndexString : Nat := 110
def id_internal_bytealg_Cutover : Nat := 111
def id_internal_bytealg_IndexRabinKarp_string_ : Nat := 112
def id_internal_bytealg_hashStr_string_ : Nat := 121
def id_impl_isLocal : Nat := 59
def id_strings_Split : Nat := 84
def id_strings_genSplit : Nat := 100
def id_strings_explode : Nat := 113
def id_unicode_utf8_RuneCountInString : Nat := 122
def id_unicode_utf8_DecodeRuneInString : Nat := 123
def id_unicode_utf8_decodeRuneInStringSlow : Nat := 126
def id_strings_Count : Nat := 114
def id_internal_bytealg_CountString : Nat := 124
def id_strings_Index : Nat := 115
def id_slices_ContainsFunc___string_string_ : Nat := 79
def id_slices_IndexFunc___string_string_ : Nat := 96
def id_impl_isLocal_1 : Nat := 85
def id_impl_AtomValid : Nat := 86
def id_impl_allBytes : Nat := 101
def id_impl_isAtomByte : Nat := 102
def id_impl_isLetter : Nat := 116
def id_impl_isDigit : Nat := 104
def id_impl_isDomain : Nat := 60
def id_impl_isDomain_1 : Nat := 87
def id_impl_isLabel : Nat := 88
def id_impl_isLabel_1 : Nat := 103
def id_impl_draftValid_1 : Nat := 80
def id_impl_areTexts : Nat := 81
def id_impl_areTexts_1 : Nat := 97
def id_impl_TextValid : Nat := 98
def id_impl_normalMail : Nat := 46
def id_slices_Clone___string_string_ : Nat := 42
def id_slices_Contains___string_string_ : Nat := 73
def id_slices_Index___string_string_ : Nat := 95
def id_impl_SplitMail_1 : Nat := 48
def id_impl_domainOf : Nat := 49
def id_slices_IndexFunc___impl_Mail_impl_Mail_ : Nat := 47
def id_spec_SplitMail : Nat := 21
def id_spec_l11RawSplitMail : Nat := 50
def id_spec_NormalMail : Nat := 74
def id_spec_MailValid : Nat := 32
def id_spec_l10Draft : Nat := 64
def id_spec_l10Box : Nat := 31
def id_spec_l2Box : Nat := 63
def id_spec_l2Cut : Nat := 89
def id_spec_l1Read : Nat := 105
def id_spec_LowerText : Nat := 90
def id_spec_AddressValid : Nat := 91
def id_spec_l2Name : Nat := 106
def id_spec_TextValid : Nat := 92
def id_spec_l2Local : Nat := 107
def id_spec_l2Parts : Nat := 117
def id_spec_AtomValid : Nat := 118
def id_spec_l1Atom : Nat := 125
def id_spec_l1Letter : Nat := 119
def id_spec_l2Domain : Nat := 108
def id_spec_l11Has : Nat := 76
def id_spec_l11Domain : Nat := 75
def id_spec_l13OwnListMail : Nat := 51
def id_spec_l13OwnMail : Nat := 77
def id_impl_NormalMail : Nat := 22
def id_impl_MailSame : Nat := 23
def id_slices_Equal___string_string_ : Nat := 52
noncomputable def tabB : List (Nat × TI) := [
  (22, ⟨.slice 5 1 1 [(.int .u8 0)], false, 1, [(.slice none 0 0)]⟩),
  (3, ⟨.int .i64, false, 1, [(.int .i64 0)]⟩),
  (36, ⟨.struct [(0, 1, false), (1, 1, false), (2, 1, false)], true, 3, [(.string (bs [])), (.slice none 0 0), (.slice none 0 0)]⟩),
  (27, ⟨.slice 36 3 64 [(.string (bs [])), (.slice none 0 0), (.slice none 0 0)], false, 1, [(.slice none 0 0)]⟩),
  (4, ⟨.bool, false, 1, [(.bool false)]⟩),
  (51, ⟨.other, false, 1, [(.pointer none)]⟩),
  (73, ⟨.struct [(0, 1, false), (1, 1, false)], true, 2, [(.slice none 0 0), (.int .i64 0)]⟩),
  (34, ⟨.slice 9 1 16 [(.string (bs []))], false, 1, [(.slice none 0 0)]⟩),
  (39, ⟨.slice 3 1 8 [(.int .i64 0)], false, 1, [(.slice none 0 0)]⟩),
  (9, ⟨.str, false, 1, [(.string (bs []))]⟩),
  (5, ⟨.int .u8, false, 1, [(.int .u8 0)]⟩),
  (49, ⟨.other, false, 1, [.nilFunc]⟩),
  (55, ⟨.other, false, 1, [.nilFunc]⟩),
  (107, ⟨.int .u32, false, 1, [(.int .u32 0)]⟩),
  (21, ⟨.int .i32, false, 1, [(.int .i32 0)]⟩),
  (113, ⟨.arr 256 1, true, 256, [(.int .u8 0), (.int .u8 0), (.int .u8 0), (.int .u8 0), (.int .u8 0), (.int .u8 0), (.int .u8 0), (.int .u8 0), (.int .u8 0), (.int .u8 0), (.int .u8 0), (.int .u8 0), (.int .u8 0), (.int .u8 0), (.int .u8 0), (.int .u8 0), (.int .u8 0), (.int .u8 0), (.int .u8 0), (.int .u8 0), (.int .u8 0), (.int .u8 0), (.int .u8 0), (.int .u8 0), (.int .u8 0), (.int .u8 0), (.int .u8 0), (.int .u8 0), (.int .u8 0), (.int .u8 0), (.int .u8 0), (.int .u8 0), (.int .u8 0), (.int .u8 0), (.int .u8 0), (.int .u8 0), (.int .u8 0), (.int .u8 0), (.int .u8 0), (.int .u8 0), (.int .u8 0), (.int .u8 0), (.int .u8 0), (.int .u8 0), (.int .u8 0), (.int .u8 0), (.int .u8 0), (.int .u8 0), (.int .u8 0), (.int .u8 0), (.int .u8 0), (.int .u8 0), (.int .u8 0), (.int .u8 0), (.int .u8 0), (.int .u8 0), (.int .u8 0), (.int .u8 0), (.int .u8 0), (.int .u8 0), (.int .u8 0), (.int .u8 0), (.int .u8 0), (.int .u8 0), (.int .u8 0), (.int .u8 0), (.int .u8 0), (.int .u8 0), (.int .u8 0), (.int .u8 0), (.int .u8 0), (.int .u8 0), (.int .u8 0), (.int .u8 0), (.int .u8 0), (.int .u8 0), (.int .u8 0), (.int .u8 0), (.int .u8 0), (.int .u8 0), (.int .u8 0), (.int .u8 0), (.int .u8 0), (.int .u8 0), (.int .u8 0), (.int .u8 0), (.int .u8 0), (.int .u8 0), (.int .u8 0), (.int .u8 0), (.int .u8 0), (.int .u8 0), (.int .u8 0), (.int .u8 0), (.int .u8 0), (.int .u8 0), (.int .u8 0), (.int .u8 0), (.int .u8 0), (.int .u8 0), (.int .u8 0), (.int .u8 0), (.int .u8 0), (.int .u8 0), (.int .u8 0), (.int .u8 0), (.int .u8 0), (.int .u8 0), (.int .u8 0), (.int .u8 0), (.int .u8 0), (.int .u8 0), (.int .u8 0), (.int .u8 0), (.int .u8 0), (.int .u8 0), (.int .u8 0), (.int .u8 0), (.int .u8 0), (.int .u8 0), (.int .u8 0), (.int .u8 0), (.int .u8 0), (.int .u8 0), (.int .u8 0), (.int .u8 0), (.int .u8 0), (.int .u8 0), (.int .u8 0), (.int .u8 0), (.int .u8 0), (.int .u8 0), (.int .u8 0), (.int .u8 0), (.int .u8 0), (.int .u8 0), (.int .u8 0), (.int .u8 0), (.int .u8 0), (.int .u8 0), (.int .u8 0), (.int .u8 0), (.int .u8 0), (.int .u8 0), (.int .u8 0), (.int .u8 0), (.int .u8 0), (.int .u8 0), (.int .u8 0), (.int .u8 0), (.int .u8 0), (.int .u8 0), (.int .u8 0), (.int .u8 0), (.int .u8 0), (.int .u8 0), (.int .u8 0), (.int .u8 0), (.int .u8 0), (.int .u8 0), (.int .u8 0), (.int .u8 0), (.int .u8 0), (.int .u8 0), (.int .u8 0), (.int .u8 0), (.int .u8 0), (.int .u8 0), (.int .u8 0), (.int .u8 0), (.int .u8 0), (.int .u8 0), (.int .u8 0), (.int .u8 0), (.int .u8 0), (.int .u8 0), (.int .u8 0), (.int .u8 0), (.int .u8 0), (.int .u8 0), (.int .u8 0), (.int .u8 0), (.int .u8 0), (.int .u8 0), (.int .u8 0), (.int .u8 0), (.int .u8 0), (.int .u8 0), (.int .u8 0), (.int .u8 0), (.int .u8 0), (.int .u8 0), (.int .u8 0), (.int .u8 0), (.int .u8 0), (.int .u8 0), (.int .u8 0), (.int .u8 0), (.int .u8 0), (.int .u8 0), (.int .u8 0), (.int .u8 0), (.int .u8 0), (.int .u8 0), (.int .u8 0), (.int .u8 0), (.int .u8 0), (.int .u8 0), (.int .u8 0), (.int .u8 0), (.int .u8 0), (.int .u8 0), (.int .u8 0), (.int .u8 0), (.int .u8 0), (.int .u8 0), (.int .u8 0), (.int .u8 0), (.int .u8 0), (.int .u8 0), (.int .u8 0), (.int .u8 0), (.int .u8 0), (.int .u8 0), (.int .u8 0), (.int .u8 0), (.int .u8 0), (.int .u8 0), (.int .u8 0), (.int .u8 0), (.int .u8 0), (.int .u8 0), (.int .u8 0), (.int .u8 0), (.int .u8 0), (.int .u8 0), (.int .u8 0), (.int .u8 0), (.int .u8 0), (.int .u8 0), (.int .u8 0), (.int .u8 0), (.int .u8 0), (.int .u8 0), (.int .u8 0), (.int .u8 0), (.int .u8 0), (.int .u8 0), (.int .u8 0), (.int .u8 0), (.int .u8 0), (.int .u8 0), (.int .u8 0), (.int .u8 0), (.int .u8 0), (.int .u8 0)]⟩),
  (116, ⟨.arr 16 2, true, 32, [(.int .u8 0), (.int .u8 0), (.int .u8 0), (.int .u8 0), (.int .u8 0), (.int .u8 0), (.int .u8 0), (.int .u8 0), (.int .u8 0), (.int .u8 0), (.int .u8 0), (.int .u8 0), (.int .u8 0), (.int .u8 0), (.int .u8 0), (.int .u8 0), (.int .u8 0), (.int .u8 0), (.int .u8 0), (.int .u8 0), (.int .u8 0), (.int .u8 0), (.int .u8 0), (.int .u8 0), (.int .u8 0), (.int .u8 0), (.int .u8 0), (.int .u8 0), (.int .u8 0), (.int .u8 0), (.int .u8 0), (.int .u8 0)]⟩),
  (115, ⟨.struct [(0, 1, false), (1, 1, false)], true, 2, [(.int .u8 0), (.int .u8 0)]⟩),
  (101, ⟨.other, false, 1, [.nilFunc]⟩),
  (82, ⟨.struct [(0, 1, false), (1, 1, false), (2, 1, false)], true, 3, [(.string (bs [])), (.string (bs [])), (.string (bs []))]⟩)]
noncomputable def annB : List (Nat × Ann) := [
  (6, { loc := [3, 8], loops := [(13, ⟨⟨[4, 10, 12], [], []⟩, [(.exit 0, ⟨[], [], []⟩), (.ret, ⟨[2], [], []⟩)]⟩)], joins := [(10, 12, [(.ret, ⟨[2], [], []⟩), (.normal, ⟨[4, 10], [], []⟩)]), (6, 8, [(.ret, ⟨[2], [], []⟩), (.normal, ⟨[4], [(3, (3, 0))], [(3, 3)]⟩)])], full := [], dynQ := false }),
  (19, { loc := [2], loops := [], joins := [], full := [], dynQ := false }),
  (45, { loc := [2], loops := [], joins := [], full := [], dynQ := false }),
  (26, { loc := [], loops := [], joins := [(1, 3, [(.normal, ⟨[0], [], []⟩)])], full := [], dynQ := false }),
  (39, { loc := [2, 3], loops := [(7, ⟨⟨[0, 5], [(2, (2, 0)), (3, (3, 0))], [(2, 3), (3, 3)]⟩, [(.exit 2, ⟨[], [(2, (2, 0)), (3, (3, 0))], [(2, 3), (3, 3)]⟩)]⟩), (3, ⟨⟨[0, 4], [(2, (2, 0)), (3, (3, 0))], [(2, 3), (3, 3)]⟩, [(.exit 0, ⟨[0], [(2, (2, 0)), (3, (3, 0))], [(2, 3), (3, 3)]⟩)]⟩)], joins := [], full := [], dynQ := false }),
  (55, { loc := [], loops := [], joins := [], full := [], dynQ := false }),
  (33, { loc := [], loops := [], joins := [(2, 4, [(.ret, ⟨[4], [], []⟩), (.normal, ⟨[0, 1], [], []⟩)])], full := [], dynQ := false }),
  (56, { loc := [], loops := [], joins := [], full := [], dynQ := false }),
  (38, { loc := [3, 4, 5], loops := [], joins := [], full := [], dynQ := false }),
  (66, { loc := [1, 2], loops := [], joins := [], full := [8, 12], dynQ := false }),
  (20, { loc := [1], loops := [(5, ⟨⟨[4, 14, 15, 16], [(1, (1, 0))], [(1, 3)]⟩, [(.exit 0, ⟨[4], [], []⟩)]⟩)], joins := [], full := [], dynQ := false }),
  (24, { loc := [1], loops := [], joins := [], full := [], dynQ := false }),
  (53, { loc := [3], loops := [], joins := [], full := [], dynQ := false }),
  (78, { loc := [], loops := [], joins := [], full := [], dynQ := false }),
  (29, { loc := [], loops := [], joins := [], full := [], dynQ := false }),
  (58, { loc := [], loops := [], joins := [], full := [], dynQ := false }),
  (83, { loc := [], loops := [], joins := [], full := [], dynQ := false }),
  (99, { loc := [], loops := [(15, ⟨⟨[0, 1, 5, 6, 7, 8, 9, 10], [], []⟩, [(.exit 1, ⟨[], [], []⟩), (.ret, ⟨[4], [], []⟩)]⟩)], joins := [(21, 23, [(.ret, ⟨[4], [], []⟩), (.normal, ⟨[0, 1, 5, 6, 7, 8, 9, 10], [], []⟩)]), (16, 21, [(.ret, ⟨[4], [], []⟩), (.normal, ⟨[0, 1, 5, 6, 7, 8, 9, 10], [], []⟩)]), (2, 10, [(.ret, ⟨[4], [], []⟩), (.normal, ⟨[0, 1, 5], [], []⟩)])], full := [], dynQ := false }),
  (109, { loc := [], loops := [], joins := [], full := [], dynQ := false }),
  (111, { loc := [], loops := [], joins := [], full := [], dynQ := false }),
  (112, { loc := [], loops := [(11, ⟨⟨[0, 1, 5, 6, 7, 8, 10], [], []⟩, [(.exit 2, ⟨[], [], []⟩), (.ret, ⟨[4], [], []⟩)]⟩), (5, ⟨⟨[0, 1, 5, 6, 7, 8, 9], [], []⟩, [(.exit 0, ⟨[0, 1, 5, 6, 7, 8], [], []⟩)]⟩)], joins := [(8, 10, [(.ret, ⟨[4], [], []⟩), (.normal, ⟨[0, 1, 5, 6, 7, 8], [], []⟩)])], full := [], dynQ := false }),
  (121, { loc := [], loops := [(8, ⟨⟨[4, 6, 7, 8], [], []⟩, [(.exit 2, ⟨[4, 6], [], []⟩)]⟩), (3, ⟨⟨[0, 4, 5], [], []⟩, [(.exit 0, ⟨[0, 4], [], []⟩)]⟩)], joins := [(10, 9, [(.normal, ⟨[4, 6, 7, 8], [], []⟩)]), (10, 12, [(.normal, ⟨[4, 6, 7, 8], [], []⟩)])], full := [], dynQ := false }),
  (59, { loc := [], loops := [], joins := [], full := [], dynQ := false }),
  (84, { loc := [], loops := [], joins := [], full := [], dynQ := false }),
  (100, { loc := [], loops := [(11, ⟨⟨[0, 1, 2, 3, 9, 10], [], []⟩, [(.exit 0, ⟨[0, 9, 10], [], []⟩)]⟩)], joins := [(5, 7, [(.normal, ⟨[0, 1, 2, 3], [], []⟩)])], full := [], dynQ := false }),
  (113, { loc := [], loops := [(6, ⟨⟨[0, 1, 6, 7], [], []⟩, [(.exit 0, ⟨[0, 1, 6], [], []⟩)]⟩)], joins := [(2, 4, [(.normal, ⟨[0, 1], [], []⟩)])], full := [], dynQ := false }),
  (122, { loc := [], loops := [], joins := [], full := [], dynQ := false }),
  (123, { loc := [], loops := [], joins := [], full := [], dynQ := false }),
  (126, { loc := [9], loops := [], joins := [], full := [], dynQ := false }),
  (114, { loc := [], loops := [(6, ⟨⟨[0, 1, 5], [], []⟩, [(.ret, ⟨[4], [], []⟩)]⟩)], joins := [], full := [], dynQ := false }),
  (115, { loc := [], loops := [], joins := [], full := [], dynQ := false }),
  (79, { loc := [], loops := [], joins := [], full := [], dynQ := false }),
  (96, { loc := [], loops := [(2, ⟨⟨[0, 1, 7, 8], [], []⟩, [(.exit 0, ⟨[], [], []⟩), (.ret, ⟨[4], [], []⟩)]⟩)], joins := [], full := [], dynQ := true }),
  (85, { loc := [], loops := [], joins := [], full := [], dynQ := false }),
  (86, { loc := [], loops := [], joins := [], full := [], dynQ := false }),
  (101, { loc := [], loops := [(2, ⟨⟨[0, 1, 7, 8], [], []⟩, [(.exit 0, ⟨[], [], []⟩), (.ret, ⟨[4], [], []⟩)]⟩)], joins := [], full := [], dynQ := true }),
  (102, { loc := [], loops := [], joins := [], full := [], dynQ := false }),
  (116, { loc := [], loops := [], joins := [], full := [], dynQ := false }),
  (104, { loc := [], loops := [], joins := [], full := [], dynQ := false }),
  (60, { loc := [], loops := [], joins := [], full := [], dynQ := false }),
  (87, { loc := [], loops := [], joins := [], full := [], dynQ := false }),
  (88, { loc := [], loops := [], joins := [], full := [], dynQ := false }),
  (103, { loc := [], loops := [], joins := [], full := [], dynQ := false }),
  (80, { loc := [], loops := [], joins := [], full := [], dynQ := false }),
  (81, { loc := [], loops := [], joins := [], full := [], dynQ := false }),
  (97, { loc := [], loops := [], joins := [], full := [], dynQ := false }),
  (98, { loc := [], loops := [(2, ⟨⟨[0, 5, 6], [], []⟩, [(.exit 0, ⟨[0], [], []⟩), (.ret, ⟨[2], [], []⟩)]⟩)], joins := [], full := [], dynQ := false }),
  (46, { loc := [1, 2], loops := [(3, ⟨⟨[3, 13, 14, 15], [(2, (2, 0))], [(2, 3)]⟩, [(.exit 0, ⟨[3], [(2, (2, 0))], [(2, 3)]⟩)]⟩)], joins := [], full := [], dynQ := false }),
  (42, { loc := [], loops := [], joins := [], full := [7], dynQ := false }),
  (73, { loc := [], loops := [], joins := [], full := [], dynQ := false }),
  (95, { loc := [], loops := [(2, ⟨⟨[0, 1, 7, 8], [], []⟩, [(.exit 0, ⟨[], [], []⟩), (.ret, ⟨[4], [], []⟩)]⟩)], joins := [], full := [], dynQ := false }),
  (48, { loc := [2], loops := [], joins := [], full := [], dynQ := false }),
  (49, { loc := [], loops := [], joins := [], full := [], dynQ := false }),
  (47, { loc := [], loops := [(2, ⟨⟨[0, 1, 7, 8], [], []⟩, [(.exit 0, ⟨[], [], []⟩), (.ret, ⟨[4], [], []⟩)]⟩)], joins := [], full := [], dynQ := true }),
  (21, { loc := [1], loops := [], joins := [], full := [], dynQ := false }),
  (50, { loc := [1, 4], loops := [(7, ⟨⟨[6, 7, 8], [(4, (4, 0))], [(4, 3)]⟩, [(.exit 0, ⟨[6], [], []⟩)]⟩), (14, ⟨⟨[6, 7, 8, 9, 10, 11], [(4, (4, 0))], [(4, 3)]⟩, [(.exit 2, ⟨[6, 7, 8, 10], [(4, (4, 0))], [(4, 3)]⟩)]⟩)], joins := [(9, 8, [(.normal, ⟨[6, 7, 8], [(4, (4, 0))], [(4, 3)]⟩)]), (16, 15, [(.normal, ⟨[6, 7, 8, 9, 10, 11], [(4, (4, 0))], [(4, 3)]⟩)])], full := [47], dynQ := false }),
  (74, { loc := [1, 2], loops := [(5, ⟨⟨[4, 5], [(1, (1, 0)), (2, (2, 0))], [(1, 3), (2, 3)]⟩, [(.exit 0, ⟨[4], [(2, (2, 0))], [(2, 3)]⟩)]⟩)], joins := [(7, 6, [(.normal, ⟨[4, 5], [(1, (1, 0)), (2, (2, 0))], [(1, 3), (2, 3)]⟩)])], full := [15], dynQ := false }),
  (32, { loc := [1], loops := [], joins := [], full := [], dynQ := false }),
  (64, { loc := [1], loops := [(9, ⟨⟨[4], [(1, (1, 0))], [(1, 3)]⟩, [(.exit 2, ⟨[], [], []⟩), (.ret, ⟨[2], [], []⟩)]⟩), (4, ⟨⟨[3], [(1, (1, 0))], [(1, 3)]⟩, [(.exit 0, ⟨[], [(1, (1, 0))], [(1, 3)]⟩), (.ret, ⟨[2], [], []⟩)]⟩)], joins := [(1, 3, [(.ret, ⟨[2], [], []⟩), (.normal, ⟨[], [(1, (1, 0))], [(1, 3)]⟩)])], full := [], dynQ := false }),
  (31, { loc := [3], loops := [], joins := [], full := [], dynQ := false }),
  (63, { loc := [2, 7], loops := [], joins := [], full := [], dynQ := false }),
  (89, { loc := [], loops := [(2, ⟨⟨[0, 1, 7], [], []⟩, [(.exit 0, ⟨[0], [], []⟩), (.ret, ⟨[4, 5, 6], [], []⟩)]⟩)], joins := [], full := [], dynQ := false }),
  (105, { loc := [], loops := [(3, ⟨⟨[0, 6, 7], [], []⟩, [(.exit 0, ⟨[], [], []⟩), (.ret, ⟨[4, 5], [], []⟩)]⟩)], joins := [(5, 4, [(.ret, ⟨[4, 5], [], []⟩), (.normal, ⟨[0, 6, 7], [], []⟩)]), (7, 11, [(.ret, ⟨[4, 5], [], []⟩), (.normal, ⟨[0, 6, 7], [], []⟩)])], full := [], dynQ := false }),
  (90, { loc := [], loops := [(3, ⟨⟨[3, 4], [], []⟩, [(.exit 0, ⟨[3], [], []⟩)]⟩)], joins := [(5, 4, [(.normal, ⟨[3, 4], [], []⟩)])], full := [], dynQ := false }),
  (91, { loc := [1], loops := [], joins := [], full := [], dynQ := false }),
  (106, { loc := [], loops := [], joins := [], full := [], dynQ := false }),
  (92, { loc := [], loops := [(2, ⟨⟨[0, 3], [], []⟩, [(.exit 0, ⟨[0], [], []⟩), (.ret, ⟨[2], [], []⟩)]⟩)], joins := [(4, 3, [(.ret, ⟨[2], [], []⟩), (.normal, ⟨[0, 3], [], []⟩)]), (2, 4, [(.normal, ⟨[0, 3], [], []⟩), (.exit 0, ⟨[0], [], []⟩)])], full := [], dynQ := false }),
  (107, { loc := [], loops := [(3, ⟨⟨[0, 3, 4], [], []⟩, [(.exit 0, ⟨[0], [], []⟩), (.ret, ⟨[2], [], []⟩)]⟩)], joins := [], full := [], dynQ := false }),
  (117, { loc := [], loops := [(4, ⟨⟨[0, 1, 5, 6, 7], [], []⟩, [(.exit 0, ⟨[0, 5, 6], [], []⟩)]⟩)], joins := [(6, 5, [(.normal, ⟨[0, 1, 5, 6, 7], [], []⟩)])], full := [], dynQ := false }),
  (118, { loc := [], loops := [(2, ⟨⟨[0, 3], [], []⟩, [(.exit 0, ⟨[0], [], []⟩), (.ret, ⟨[2], [], []⟩)]⟩)], joins := [(2, 4, [(.normal, ⟨[0, 3], [], []⟩), (.exit 0, ⟨[0], [], []⟩)])], full := [], dynQ := false }),
  (125, { loc := [], loops := [(2, ⟨⟨[0, 3], [], []⟩, [(.exit 0, ⟨[0], [], []⟩), (.ret, ⟨[2], [], []⟩)]⟩)], joins := [], full := [], dynQ := false }),
  (119, { loc := [], loops := [], joins := [], full := [], dynQ := false }),
  (108, { loc := [], loops := [(3, ⟨⟨[0, 3, 4], [], []⟩, [(.exit 0, ⟨[0], [], []⟩), (.ret, ⟨[2], [], []⟩)]⟩), (9, ⟨⟨[0, 3, 4, 5, 6], [], []⟩, [(.exit 2, ⟨[0, 3, 4], [], []⟩), (.ret, ⟨[2], [], []⟩)]⟩)], joins := [(5, 4, [(.ret, ⟨[2], [], []⟩), (.normal, ⟨[0, 3, 4], [], []⟩)]), (11, 10, [(.ret, ⟨[2], [], []⟩), (.normal, ⟨[0, 3, 4, 5, 6], [], []⟩)]), (6, 8, [(.ret, ⟨[2], [], []⟩), (.normal, ⟨[0, 3, 4, 5], [], []⟩)])], full := [], dynQ := false }),
  (76, { loc := [], loops := [(2, ⟨⟨[0, 1, 5], [], []⟩, [(.exit 0, ⟨[], [], []⟩), (.ret, ⟨[4], [], []⟩)]⟩)], joins := [], full := [], dynQ := false }),
  (75, { loc := [], loops := [], joins := [], full := [], dynQ := false }),
  (51, { loc := [5], loops := [(3, ⟨⟨[3, 7, 8, 9], [], []⟩, [(.exit 0, ⟨[3], [], []⟩)]⟩)], joins := [], full := [], dynQ := false }),
  (77, { loc := [1, 2], loops := [], joins := [], full := [6, 11], dynQ := false }),
  (22, { loc := [1, 2], loops := [], joins := [], full := [], dynQ := false }),
  (23, { loc := [2, 3], loops := [], joins := [], full := [], dynQ := false }),
  (52, { loc := [], loops := [(4, ⟨⟨[0, 1, 12, 13], [], []⟩, [(.exit 0, ⟨[], [], []⟩), (.ret, ⟨[4], [], []⟩)]⟩)], joins := [], full := [], dynQ := false })]
noncomputable def fnB : List (Nat × Func) := [
  (6, Tryd.f6), (19, Tryd.f19), (45, Tryd.f45), (26, Tryd.f26), (39, Tryd.f39), (55, Tryd.f55), (33, Tryd.f33), (56, Tryd.f56), (38, Tryd.f38), (66, Tryd.f66), (20, Tryd.f20), (24, Tryd.f24), (53, Tryd.f53), (78, Tryd.f78), (29, Tryd.f29), (58, Tryd.f58), (83, Tryd.f83), (99, Tryd.f99), (109, Tryd.f109), (111, Tryd.f111), (112, Tryd.f112), (121, Tryd.f121), (59, Tryd.f59), (84, Tryd.f84), (100, Tryd.f100), (113, Tryd.f113), (122, Tryd.f122), (123, Tryd.f123), (126, Tryd.f126), (114, Tryd.f114), (115, Tryd.f115), (79, Tryd.f79), (96, Tryd.f96), (85, Tryd.f85), (86, Tryd.f86), (101, Tryd.f101), (102, Tryd.f102), (116, Tryd.f116), (104, Tryd.f104), (60, Tryd.f60), (87, Tryd.f87), (88, Tryd.f88), (103, Tryd.f103), (80, Tryd.f80), (81, Tryd.f81), (97, Tryd.f97), (98, Tryd.f98), (46, Tryd.f46), (42, Tryd.f42), (73, Tryd.f73), (95, Tryd.f95), (48, Tryd.f48), (49, Tryd.f49), (47, Tryd.f47), (21, Tryd.f21), (50, Tryd.f50), (74, Tryd.f74), (32, Tryd.f32), (64, Tryd.f64), (31, Tryd.f31), (63, Tryd.f63), (89, Tryd.f89), (105, Tryd.f105), (90, Tryd.f90), (91, Tryd.f91), (106, Tryd.f106), (92, Tryd.f92), (107, Tryd.f107), (117, Tryd.f117), (118, Tryd.f118), (125, Tryd.f125), (119, Tryd.f119), (108, Tryd.f108), (76, Tryd.f76), (75, Tryd.f75), (51, Tryd.f51), (77, Tryd.f77), (22, Tryd.f22), (23, Tryd.f23), (52, Tryd.f52)]
def quietB : List Nat := [6, 24, 53, 78, 29, 58, 83, 99, 109, 111, 112, 121, 59, 122, 123, 126, 114, 115, 79, 96, 85, 86, 101, 102, 116, 104, 60, 87, 88, 103, 80, 81, 97, 98, 73, 95, 49, 47, 32, 64, 31, 89, 105, 90, 91, 106, 92, 107, 118, 125, 119, 108, 76, 75, 23, 52]
def addsB : List Nat := [66, 20, 84, 100, 113, 42, 21, 63, 117, 51, 77]
def takesB : List (Nat × List Nat) := [(6, [2, 2, 16, 19, 18, 5, 24, 23, 7, 33, 34, 35, 38, 39, 47, 48, 49, 2, 53, 52, 55, 9, 58, 57, 11, 62, 64, 2, 12, 71, 78, 82, 2, 75, 12, 2]), (19, [3]), (45, [4, 3, 6, 7]), (26, [2, 0, 8, 2]), (39, [6, 9, 15, 4, 17, 22, 23, 19, 4, 29, 5, 32, 37, 38, 34, 5, 44]), (55, [4, 6, 4]), (33, [4, 7, 8, 15, 17, 18, 4, 25, 5, 30, 31, 37, 41, 45, 4, 47, 51, 52, 62, 66, 69, 80, 83, 84, 6, 92, 93, 6, 96, 97, 4]), (56, [4, 6, 4]), (38, [8, 10, 12, 16, 20, 23, 27]), (66, [7, 11]), (20, [2, 3, 2, 3, 4, 12, 16, 7, 23, 25, 4, 37, 39, 42, 16, 49, 2, 3, 2000009, 2000013, 2000022, 2000032, 2000035, 1000035, 2000045, 1000045]), (24, [2, 2]), (53, [6, 10, 14, 17, 23, 29, 32, 6]), (78, [2, 3, 5, 6, 2]), (29, [2, 7, 6, 3, 4, 5, 12, 13, 14, 17, 18, 2]), (58, [4, 5, 6, 7, 8, 4, 5, 6]), (83, [4, 5, 6, 8, 9, 7, 11, 13, 14, 16, 17, 18, 4, 5, 6, 22, 4, 5, 6]), (99, [4, 14, 5, 17, 19, 20, 21, 16, 4, 25, 24, 27, 28, 4, 32, 33, 31, 4, 37, 40, 41, 36, 45, 46, 4, 48, 6, 50, 7, 8, 52, 54, 9, 10, 57, 58, 60, 61, 63, 65, 66, 68, 70, 11, 72, 4, 74, 75, 8, 78, 79, 82, 84, 85, 86, 87, 88, 91, 94, 4, 95, 8, 97, 10, 99, 102, 103, 104, 108, 109, 111, 12, 113, 115, 116, 4, 4, 118, 121, 122, 123, 128, 129, 130, 133, 134, 136, 13, 138, 4, 140, 141, 4, 4]), (109, [4, 5, 6, 4]), (111, [2, 3, 2]), (112, [4, 12, 11, 5, 6, 16, 7, 8, 9, 18, 19, 23, 25, 26, 8, 21, 9, 30, 31, 33, 34, 35, 37, 4, 40, 10, 41, 42, 45, 8, 47, 48, 49, 8, 53, 54, 55, 56, 57, 8, 63, 10, 65, 66, 68, 69, 70, 71, 73, 75, 78, 79, 4, 4]), (121, [2, 3, 4, 5, 9, 10, 15, 17, 18, 4, 13, 5, 6, 7, 22, 8, 24, 28, 31, 32, 6, 34, 35, 7, 26, 8, 37, 38, 2, 3]), (59, [2, 3, 6, 7, 2]), (84, [4, 5, 6, 4]), (100, [8, 12, 8, 14, 16, 17, 8, 19, 21, 22, 3, 25, 26, 3, 30, 32, 3, 10, 34, 35, 37, 38, 11, 40, 43, 44, 45, 46, 50, 51, 52, 0, 56, 10, 59, 60, 63, 8]), (113, [4, 10, 5, 12, 14, 15, 16, 19, 1, 20, 6, 7, 22, 23, 29, 28, 8, 9, 34, 35, 36, 39, 40, 0, 26, 7, 42, 45, 47, 49, 4]), (122, [2, 3, 7, 2, 9, 2]), (123, [2, 3, 4, 6, 7, 11, 2, 3, 15, 14, 2, 3]), (126, [2, 3, 13, 4, 15, 2, 3, 17, 5, 19, 6, 22, 24, 7, 28, 31, 33, 2, 3, 36, 8, 39, 43, 44, 2, 3, 46, 10, 48, 52, 55, 2, 3, 58, 60, 64, 2, 3, 68, 11, 70, 72, 73, 2, 3, 76, 78, 82, 87, 2, 3, 91, 12, 93, 95, 96, 2, 3, 99, 103, 108, 113, 2, 3]), (114, [4, 7, 10, 4, 13, 16, 17, 4, 5, 20, 21, 6, 23, 25, 4, 26, 5, 28, 29, 30, 0]), (115, [4, 5, 6, 4]), (79, [4, 6, 4]), (96, [4, 8, 10, 5, 11, 13, 17, 4, 8, 4]), (85, [2, 3, 2]), (86, [2, 3, 6, 7, 11, 12, 2]), (101, [4, 6, 8, 10, 5, 11, 12, 13, 4, 8, 4]), (102, [2, 3, 5, 6, 9, 10, 13, 14, 16, 17, 21, 22, 25, 26, 29, 30, 33, 34, 37, 38, 41, 42, 45, 46, 48, 49, 53, 54, 56, 57, 2]), (116, [2, 3, 5, 6, 9, 10, 12, 13, 2]), (104, [2, 3, 5, 6, 2]), (60, [2, 3, 6, 7, 2]), (87, [2, 3, 2]), (88, [2, 3, 5, 6, 10, 11, 12, 18, 19, 2]), (103, [2, 3, 5, 6, 9, 10, 13, 14, 2]), (80, [2, 3, 2]), (81, [4, 7, 9, 4]), (97, [2, 3, 2]), (98, [2, 4, 6, 8, 3, 9, 10, 13, 14, 15, 2, 6, 20, 2]), (46, [15, 5, 21, 25, 26, 15, 31]), (42, [2, 2, 6, 2]), (73, [4, 6, 4]), (95, [4, 8, 10, 5, 11, 13, 17, 4, 8, 4]), (48, [3, 3]), (49, [2, 7, 6, 3, 4, 5, 12, 2]), (47, [4, 8, 10, 5, 11, 13, 17, 4, 8, 4]), (21, [2, 3, 7, 6, 5, 13, 2, 3]), (50, [2, 3, 13, 12, 15, 5, 6, 18, 20, 2, 3, 7, 8, 22, 31, 9, 36, 38, 39, 7, 46, 11, 49, 58, 62, 65, 68, 54, 11, 74, 75, 6, 27, 8, 78, 2, 3]), (74, [3, 3, 14, 5, 17, 28, 34, 37, 22, 5, 43, 3]), (32, [2, 5, 11, 2]), (64, [2, 8, 14, 20, 2, 3, 26, 35, 2, 31, 3, 4, 40, 49, 2, 45, 4, 2]), (31, [2, 6, 5, 4, 10, 11, 18, 2]), (63, [3, 9, 8, 4, 5, 6, 14, 15, 19, 20, 3]), (89, [4, 5, 6, 7, 10, 11, 14, 15, 19, 20, 18, 8, 9, 24, 26, 4, 5, 6, 27, 7, 28, 29, 31, 33, 34, 36, 37, 4, 5, 6, 40, 7, 42, 4, 5, 6]), (105, [4, 5, 6, 8, 7, 10, 11, 16, 17, 20, 21, 4, 5, 23, 24, 27, 7, 29, 30, 4, 5, 33, 34, 35, 36, 6, 14, 7, 4, 5]), (90, [2, 5, 4, 7, 14, 18, 20, 26, 28, 11, 4, 2]), (91, [2, 6, 12, 17, 23, 2]), (106, [2, 3, 5, 6, 2]), (92, [2, 3, 4, 5, 8, 9, 14, 15, 18, 19, 20, 2, 12, 3, 24, 2]), (107, [2, 5, 4, 7, 14, 2, 11, 4, 19, 2]), (117, [4, 5, 6, 7, 9, 10, 15, 16, 18, 20, 21, 22, 23, 5, 27, 6, 13, 7, 29, 30, 31, 4]), (118, [2, 3, 4, 5, 8, 9, 14, 15, 2, 12, 3, 19, 22, 23, 2]), (125, [2, 3, 4, 8, 9, 2, 6, 3, 12, 2]), (119, [2, 3, 5, 6, 9, 10, 12, 13, 17, 18, 20, 21, 2]), (108, [2, 7, 4, 9, 16, 5, 19, 21, 22, 26, 27, 28, 2, 6, 34, 35, 40, 41, 45, 46, 47, 51, 52, 53, 56, 57, 58, 2, 38, 6, 13, 4, 63, 2]), (76, [4, 5, 6, 13, 16, 4, 10, 5, 4]), (75, [2, 7, 6, 3, 4, 5, 12, 2]), (51, [2, 3, 9, 13, 3, 9, 19, 2]), (77, [5, 10, 13]), (22, [3, 3, 8, 3]), (23, [4, 10, 17, 4]), (52, [4, 4, 13, 15, 5, 17, 21, 4, 13, 4])]
def mvB : List (Nat × List Nat) := [(6, [0]), (19, [0]), (45, [0]), (26, [0]), (20, [0]), (46, [0]), (21, [0]), (50, [0]), (74, [0]), (22, [0])]
def extsB : List (Nat × Nat) := [(120, 0), (110, 2), (124, 1)]
noncomputable def primA : List (Nat × (List Value → Heap → Option (Value × Heap))) := []
noncomputable def primV : List (Nat × (List V → VH → Option (V × VH))) := []
noncomputable def base : Base where
  ng := 0
  tab := tabB
  fn := Go.AM.look fnB
  ann := annOf annB
  kind := kindX quietB addsB extsB
  ext := extA
  prim := fun f => Go.AM.look primA f
def globB : Nat → Option (List V) := fun _ => none
noncomputable def vb : BaseV where
  b := base
  glob := globB
  takes := listOf takesB
  mv := listOf mvB
  prim := fun f => Go.AM.look primV f
noncomputable def cv : CallV := callV vb
noncomputable def pc : FuncId → List V → Option V := pcall cv
noncomputable def qc : FuncId → List V → Option V := qpcall cv
noncomputable def pco : FuncId → VH → List V → Option V := pcallO cv
noncomputable def qco : FuncId → VH → List V → Option V := qpcallO cv
set_option maxRecDepth 100000 in
theorem fns : FnsOk Tryd.prog fnB := by
  unfold fnB
  refine ⟨⟨rfl, by kernel_rfl⟩, ⟨rfl, by kernel_rfl⟩, ⟨rfl, by kernel_rfl⟩, ⟨rfl, by kernel_rfl⟩, ⟨rfl, by kernel_rfl⟩, ⟨rfl, by kernel_rfl⟩, ⟨rfl, by kernel_rfl⟩, ⟨rfl, by kernel_rfl⟩, ⟨rfl, by kernel_rfl⟩, ⟨rfl, by kernel_rfl⟩, ⟨rfl, by kernel_rfl⟩, ⟨rfl, by kernel_rfl⟩, ⟨rfl, by kernel_rfl⟩, ⟨rfl, by kernel_rfl⟩, ⟨rfl, by kernel_rfl⟩, ⟨rfl, by kernel_rfl⟩, ⟨rfl, by kernel_rfl⟩, ⟨rfl, by kernel_rfl⟩, ⟨rfl, by kernel_rfl⟩, ⟨rfl, by kernel_rfl⟩, ⟨rfl, by kernel_rfl⟩, ⟨rfl, by kernel_rfl⟩, ⟨rfl, by kernel_rfl⟩, ⟨rfl, by kernel_rfl⟩, ⟨rfl, by kernel_rfl⟩, ⟨rfl, by kernel_rfl⟩, ⟨rfl, by kernel_rfl⟩, ⟨rfl, by kernel_rfl⟩, ⟨rfl, by kernel_rfl⟩, ⟨rfl, by kernel_rfl⟩, ⟨rfl, by kernel_rfl⟩, ⟨rfl, by kernel_rfl⟩, ⟨rfl, by kernel_rfl⟩, ⟨rfl, by kernel_rfl⟩, ⟨rfl, by kernel_rfl⟩, ⟨rfl, by kernel_rfl⟩, ⟨rfl, by kernel_rfl⟩, ⟨rfl, by kernel_rfl⟩, ⟨rfl, by kernel_rfl⟩, ⟨rfl, by kernel_rfl⟩, ⟨rfl, by kernel_rfl⟩, ⟨rfl, by kernel_rfl⟩, ⟨rfl, by kernel_rfl⟩, ⟨rfl, by kernel_rfl⟩, ⟨rfl, by kernel_rfl⟩, ⟨rfl, by kernel_rfl⟩, ⟨rfl, by kernel_rfl⟩, ⟨rfl, by kernel_rfl⟩, ⟨rfl, by kernel_rfl⟩, ⟨rfl, by kernel_rfl⟩, ⟨rfl, by kernel_rfl⟩, ⟨rfl, by kernel_rfl⟩, ⟨rfl, by kernel_rfl⟩, ⟨rfl, by kernel_rfl⟩, ⟨rfl, by kernel_rfl⟩, ⟨rfl, by kernel_rfl⟩, ⟨rfl, by kernel_rfl⟩, ⟨rfl, by kernel_rfl⟩, ⟨rfl, by kernel_rfl⟩, ⟨rfl, by kernel_rfl⟩, ⟨rfl, by kernel_rfl⟩, ⟨rfl, by kernel_rfl⟩, ⟨rfl, by kernel_rfl⟩, ⟨rfl, by kernel_rfl⟩, ⟨rfl, by kernel_rfl⟩, ⟨rfl, by kernel_rfl⟩, ⟨rfl, by kernel_rfl⟩, ⟨rfl, by kernel_rfl⟩, ⟨rfl, by kernel_rfl⟩, ⟨rfl, by kernel_rfl⟩, ⟨rfl, by kernel_rfl⟩, ⟨rfl, by kernel_rfl⟩, ⟨rfl, by kernel_rfl⟩, ⟨rfl, by kernel_rfl⟩, ⟨rfl, by kernel_rfl⟩, ⟨rfl, by kernel_rfl⟩, ⟨rfl, by kernel_rfl⟩, ⟨rfl, by kernel_rfl⟩, ⟨rfl, by kernel_rfl⟩, ⟨rfl, by kernel_rfl⟩, trivial⟩
theorem tabs : tabB? Tryd.prog tabB = true := by kernel_rfl
theorem exts : ExtFns Tryd.prog extsB := by
  unfold extsB
  exact ⟨fun args w => Go.run_callFunc_extern (fn := Tryd.f120) (e := Extern.BytealgIndexByte.indexByte) (by kernel_rfl) (by kernel_rfl) (by kernel_rfl) (by kernel_rfl) (by kernel_rfl) args w, trivial, fun args w => Go.run_callFunc_extern (fn := Tryd.f124) (e := Extern.BytealgCount.count) (by kernel_rfl) (by kernel_rfl) (by kernel_rfl) (by kernel_rfl) (by kernel_rfl) args w, trivial⟩
theorem primsA_ok : PrimsOk Tryd.prog 0 primA := trivial
theorem base_ok : BaseOk Tryd.prog base where
  tab := tab_ok tabs
  fn := fns_ok fns
  ext := ext_ok exts
  prim := prims_ok (P := Tryd.prog) (ng := 0) primsA_ok
  mixed := by kernel_rfl
theorem primsV_ok : PrimsSim vb primV := trivial
theorem vb_ok : BaseVOk vb where
  zero := tab_zero (tab_ok tabs)
  sl := tab_sl (tab_ok tabs)
  gd := fun g cs h => by cases h
  pos := tab_pos (by kernel_rfl)
  noprim := fun f h => look_keys (f := f) (l := primV) (l' := primA) rfl h
  prim := prims_sim primsV_ok
end Go.Proofs.YtjobinbeggkliaaDoor.Q
