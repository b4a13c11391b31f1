/- The program's functions, types and marks, as the machines take them. -/
import Derived.Test.YtikpckcdpmjpgaaGreatDoorProg
import Derived.Test.YtikpckcdpmjpgaaGreatDoorFnAddBoxK4
import Derived.KernelRfl
namespace Go.Proofs.YtikpckcdpmjpgaaGreatDoor.Q
open Go Go.AM Go.Proofs Go.Shelf
set_option linter.unusedVariables false
def id_laws_FnAddBox : Nat := 5
def id_spec_DrawAddBox : Nat := 19
def id_spec_l13Open : Nat := 27
def id_spec_l11Draw : Nat := 29
def id_spec_l13Rd_num : Nat := 52
def id_spec_l13Rd_pick : Nat := 67
def id_spec_l13Rd_of : Nat := 30
def id_spec_AddBox : Nat := 21
def id_spec_l11RawAddBox : Nat := 49
def id_spec_BoxesValid : Nat := 73
def id_spec_l10Box : Nat := 82
def id_spec_l2Box : Nat := 117
def id_spec_l2Cut : Nat := 135
def id_spec_l1Read : Nat := 147
def id_spec_LowerText : Nat := 136
def id_spec_AddressValid : Nat := 137
def id_spec_l2Name : Nat := 148
def id_spec_TextValid : Nat := 127
def id_spec_l2Local : Nat := 149
def id_spec_l2Parts : Nat := 97
def id_spec_AtomValid : Nat := 155
def id_spec_l1Atom : Nat := 157
def id_spec_l1Letter : Nat := 98
def id_spec_l2Domain : Nat := 59
def id_spec_MailValid : Nat := 58
def id_spec_l10Draft : Nat := 96
def id_spec_l11Find : Nat := 72
def id_spec_l11Copy : Nat := 66
def id_spec_l10Mail : Nat := 62
def id_spec_l13OwnListBox : Nat := 35
def id_spec_l13OwnBox : Nat := 74
def id_spec_l13OwnListMail : Nat := 108
def id_spec_l13OwnMail : Nat := 36
def id_spec_l10DrawMail : Nat := 44
def id_spec_DeliverMail : Nat := 17
def id_spec_l11RawDeliverMail : Nat := 47
def id_spec_l11Wrong : Nat := 28
def id_impl_AddBox : Nat := 20
def id_impl_boxPlace : Nat := 31
def id_slices_BinarySearchFunc___impl_Box_impl_Box_string_ : Nat := 68
def id_impl_boxPlace_1 : Nat := 69
def id_cmp_Compare_string_ : Nat := 70
def id_cmp_isNaN_string_ : Nat := 107
def id_impl_BoxesValid : Nat := 13
def id_impl_isPath : Nat := 41
def id_strings_Cut : Nat := 75
def id_internal_stringslite_Cut : Nat := 109
def id_internal_stringslite_Index : Nat := 130
def id_internal_stringslite_IndexByte : Nat := 142
def id_internal_bytealg_IndexByteString : Nat := 153
def id_internal_bytealg_IndexString : Nat := 143
def id_internal_bytealg_Cutover : Nat := 144
def id_internal_bytealg_IndexRabinKarp_string_ : Nat := 145
def id_internal_bytealg_hashStr_string_ : Nat := 154
def id_impl_isLocal : Nat := 76
def id_strings_Split : Nat := 89
def id_strings_genSplit : Nat := 121
def id_strings_explode : Nat := 138
def id_unicode_utf8_RuneCountInString : Nat := 150
def id_unicode_utf8_DecodeRuneInString : Nat := 151
def id_unicode_utf8_decodeRuneInStringSlow : Nat := 156
def id_strings_Count : Nat := 139
def id_internal_bytealg_CountString : Nat := 152
def id_strings_Index : Nat := 140
def id_slices_ContainsFunc___string_string_ : Nat := 88
def id_slices_IndexFunc___string_string_ : Nat := 120
def id_impl_isLocal_1 : Nat := 110
def id_impl_AtomValid : Nat := 111
def id_impl_allBytes : Nat := 122
def id_impl_isAtomByte : Nat := 131
def id_impl_isLetter : Nat := 146
def id_impl_isDigit : Nat := 124
def id_impl_isDomain : Nat := 54
def id_impl_isDomain_1 : Nat := 90
def id_impl_isLabel : Nat := 91
def id_impl_isLabel_1 : Nat := 123
def id_impl_mailsValid : Nat := 42
def id_slices_ContainsFunc___impl_Mail_impl_Mail_ : Nat := 77
def id_slices_IndexFunc___impl_Mail_impl_Mail_ : Nat := 112
def id_impl_mailsValid_1 : Nat := 78
def id_impl_MailValid : Nat := 45
def id_impl_draftValid : Nat := 79
def id_impl_isFrom : Nat := 113
def id_impl_draftValid_1 : Nat := 114
def id_impl_areTexts : Nat := 115
def id_impl_areTexts_1 : Nat := 132
def id_impl_TextValid : Nat := 133
def id_impl_copyBoxes : Nat := 32
def id_impl_copyMails : Nat := 71
def id_impl_copyMail : Nat := 56
def id_slices_Clone___string_string_ : Nat := 46
def id_slices_Insert___impl_Box_impl_Box_ : Nat := 48
def id_impl_BoxesSame : Nat := 11
def id_slices_EqualFunc___impl_Box___impl_Box_impl_Box_impl_Box_ : Nat := 37
def id_impl_BoxesSame_1 : Nat := 38
def id_slices_EqualFunc___impl_Mail___impl_Mail_impl_Mail_impl_Mail_ : Nat := 39
def id_impl_MailSame : Nat := 12
def id_slices_Equal___string_string_ : Nat := 40
def id_impl_DeliverMail : Nat := 16
def id_impl_TakeMail : Nat := 9
def id_slices_Delete___impl_Mail_impl_Mail_ : Nat := 33
def id_laws_mwInts : Nat := 18
noncomputable def tabB : List (Nat × TI) := [
 (22, ⟨.slice 5 1 1 [(.int .u8 0)], false, 1, [(.slice none 0 0)]⟩),
 (3, ⟨.int .i64, false, 1, [(.int .i64 0)]⟩),
 (23, ⟨.slice 35 2 40 [(.string (bs [])), (.slice none 0 0)], false, 1, [(.slice none 0 0)]⟩),
 (9, ⟨.str, false, 1, [(.string (bs []))]⟩),
 (4, ⟨.bool, false, 1, [(.bool false)]⟩),
 (26, ⟨.slice 9 1 16 [(.string (bs []))], false, 1, [(.slice none 0 0)]⟩),
 (28, ⟨.struct [(0, 1, false), (1, 1, false), (2, 1, false)], true, 3, [(.string (bs [])), (.slice none 0 0), (.slice none 0 0)]⟩),
 (41, ⟨.slice 3 1 8 [(.int .i64 0)], false, 1, [(.slice none 0 0)]⟩),
 (55, ⟨.other, false, 1, [(.pointer none)]⟩),
 (85, ⟨.struct [(0, 1, false), (1, 1, false)], true, 2, [(.slice none 0 0), (.int .i64 0)]⟩),
 (5, ⟨.int .u8, false, 1, [(.int .u8 0)]⟩),
 (35, ⟨.struct [(0, 1, false), (1, 1, false)], true, 2, [(.string (bs [])), (.slice none 0 0)]⟩),
 (33, ⟨.slice 28 3 64 [(.string (bs [])), (.slice none 0 0), (.slice none 0 0)], false, 1, [(.slice none 0 0)]⟩),
 (120, ⟨.struct [(0, 1, false), (1, 1, false), (2, 1, false)], true, 3, [(.string (bs [])), (.string (bs [])), (.string (bs []))]⟩),
 (89, ⟨.other, false, 1, [.nilFunc]⟩),
 (116, ⟨.int .u64, false, 1, [(.int .u64 0)]⟩),
 (137, ⟨.int .u32, false, 1, [(.int .u32 0)]⟩),
 (68, ⟨.other, false, 1, [.nilFunc]⟩),
 (21, ⟨.int .i32, false, 1, [(.int .i32 0)]⟩),
 (140, ⟨.arr 256 1, true, 256, [(.int .u8 0), (.int .u8 0), (.int .u8 0), (.int .u8 0), (.int .u8 0), (.int .u8 0), (.int .u8 0), (.int .u8 0), (.int .u8 0), (.int .u8 0), (.int .u8 0), (.int .u8 0), (.int .u8 0), (.int .u8 0), (.int .u8 0), (.int .u8 0), (.int .u8 0), (.int .u8 0), (.int .u8 0), (.int .u8 0), (.int .u8 0), (.int .u8 0), (.int .u8 0), (.int .u8 0), (.int .u8 0), (.int .u8 0), (.int .u8 0), (.int .u8 0), (.int .u8 0), (.int .u8 0), (.int .u8 0), (.int .u8 0), (.int .u8 0), (.int .u8 0), (.int .u8 0), (.int .u8 0), (.int .u8 0), (.int .u8 0), (.int .u8 0), (.int .u8 0), (.int .u8 0), (.int .u8 0), (.int .u8 0), (.int .u8 0), (.int .u8 0), (.int .u8 0), (.int .u8 0), (.int .u8 0), (.int .u8 0), (.int .u8 0), (.int .u8 0), (.int .u8 0), (.int .u8 0), (.int .u8 0), (.int .u8 0), (.int .u8 0), (.int .u8 0), (.int .u8 0), (.int .u8 0), (.int .u8 0), (.int .u8 0), (.int .u8 0), (.int .u8 0), (.int .u8 0), (.int .u8 0), (.int .u8 0), (.int .u8 0), (.int .u8 0), (.int .u8 0), (.int .u8 0), (.int .u8 0), (.int .u8 0), (.int .u8 0), (.int .u8 0), (.int .u8 0), (.int .u8 0), (.int .u8 0), (.int .u8 0), (.int .u8 0), (.int .u8 0), (.int .u8 0), (.int .u8 0), (.int .u8 0), (.int .u8 0), (.int .u8 0), (.int .u8 0), (.int .u8 0), (.int .u8 0), (.int .u8 0), (.int .u8 0), (.int .u8 0), (.int .u8 0), (.int .u8 0), (.int .u8 0), (.int .u8 0), (.int .u8 0), (.int .u8 0), (.int .u8 0), (.int .u8 0), (.int .u8 0), (.int .u8 0), (.int .u8 0), (.int .u8 0), (.int .u8 0), (.int .u8 0), (.int .u8 0), (.int .u8 0), (.int .u8 0), (.int .u8 0), (.int .u8 0), (.int .u8 0), (.int .u8 0), (.int .u8 0), (.int .u8 0), (.int .u8 0), (.int .u8 0), (.int .u8 0), (.int .u8 0), (.int .u8 0), (.int .u8 0), (.int .u8 0), (.int .u8 0), (.int .u8 0), (.int .u8 0), (.int .u8 0), (.int .u8 0), (.int .u8 0), (.int .u8 0), (.int .u8 0), (.int .u8 0), (.int .u8 0), (.int .u8 0), (.int .u8 0), (.int .u8 0), (.int .u8 0), (.int .u8 0), (.int .u8 0), (.int .u8 0), (.int .u8 0), (.int .u8 0), (.int .u8 0), (.int .u8 0), (.int .u8 0), (.int .u8 0), (.int .u8 0), (.int .u8 0), (.int .u8 0), (.int .u8 0), (.int .u8 0), (.int .u8 0), (.int .u8 0), (.int .u8 0), (.int .u8 0), (.int .u8 0), (.int .u8 0), (.int .u8 0), (.int .u8 0), (.int .u8 0), (.int .u8 0), (.int .u8 0), (.int .u8 0), (.int .u8 0), (.int .u8 0), (.int .u8 0), (.int .u8 0), (.int .u8 0), (.int .u8 0), (.int .u8 0), (.int .u8 0), (.int .u8 0), (.int .u8 0), (.int .u8 0), (.int .u8 0), (.int .u8 0), (.int .u8 0), (.int .u8 0), (.int .u8 0), (.int .u8 0), (.int .u8 0), (.int .u8 0), (.int .u8 0), (.int .u8 0), (.int .u8 0), (.int .u8 0), (.int .u8 0), (.int .u8 0), (.int .u8 0), (.int .u8 0), (.int .u8 0), (.int .u8 0), (.int .u8 0), (.int .u8 0), (.int .u8 0), (.int .u8 0), (.int .u8 0), (.int .u8 0), (.int .u8 0), (.int .u8 0), (.int .u8 0), (.int .u8 0), (.int .u8 0), (.int .u8 0), (.int .u8 0), (.int .u8 0), (.int .u8 0), (.int .u8 0), (.int .u8 0), (.int .u8 0), (.int .u8 0), (.int .u8 0), (.int .u8 0), (.int .u8 0), (.int .u8 0), (.int .u8 0), (.int .u8 0), (.int .u8 0), (.int .u8 0), (.int .u8 0), (.int .u8 0), (.int .u8 0), (.int .u8 0), (.int .u8 0), (.int .u8 0), (.int .u8 0), (.int .u8 0), (.int .u8 0), (.int .u8 0), (.int .u8 0), (.int .u8 0), (.int .u8 0), (.int .u8 0), (.int .u8 0), (.int .u8 0), (.int .u8 0), (.int .u8 0), (.int .u8 0), (.int .u8 0), (.int .u8 0), (.int .u8 0), (.int .u8 0), (.int .u8 0), (.int .u8 0), (.int .u8 0), (.int .u8 0), (.int .u8 0), (.int .u8 0), (.int .u8 0), (.int .u8 0), (.int .u8 0), (.int .u8 0), (.int .u8 0), (.int .u8 0), (.int .u8 0), (.int .u8 0), (.int .u8 0), (.int .u8 0)]⟩),
 (143, ⟨.arr 16 2, true, 32, [(.int .u8 0), (.int .u8 0), (.int .u8 0), (.int .u8 0), (.int .u8 0), (.int .u8 0), (.int .u8 0), (.int .u8 0), (.int .u8 0), (.int .u8 0), (.int .u8 0), (.int .u8 0), (.int .u8 0), (.int .u8 0), (.int .u8 0), (.int .u8 0), (.int .u8 0), (.int .u8 0), (.int .u8 0), (.int .u8 0), (.int .u8 0), (.int .u8 0), (.int .u8 0), (.int .u8 0), (.int .u8 0), (.int .u8 0), (.int .u8 0), (.int .u8 0), (.int .u8 0), (.int .u8 0), (.int .u8 0), (.int .u8 0)]⟩),
 (142, ⟨.struct [(0, 1, false), (1, 1, false)], true, 2, [(.int .u8 0), (.int .u8 0)]⟩),
 (110, ⟨.other, false, 1, [.nilFunc]⟩),
 (72, ⟨.other, false, 1, [.nilFunc]⟩),
 (67, ⟨.other, false, 1, [.nilFunc]⟩),
 (32, ⟨.other, false, 1, [.nilFunc]⟩)]
noncomputable def annB : List (Nat × Ann) := [
 (5, { loc := [9, 14], loops := [], joins := [(6, 8, [(.ret, ⟨[2], [], []⟩), (.normal, ⟨[3, 4, 5], [], []⟩)])], full := [], dynQ := false }),
 (19, { loc := [], loops := [], joins := [], full := [], dynQ := false }),
 (27, { loc := [], loops := [], joins := [(1, 3, [(.normal, ⟨[0], [], []⟩)])], full := [], dynQ := false }),
 (29, { loc := [], loops := [(9, ⟨⟨[0, 3, 7], [], []⟩, [(.exit 2, ⟨[3], [], []⟩)]⟩), (3, ⟨⟨[0, 3, 4], [], []⟩, [(.exit 0, ⟨[0, 3], [], []⟩)]⟩)], joins := [(5, 4, [(.normal, ⟨[0, 3, 4], [], []⟩)])], full := [], dynQ := false }),
 (52, { loc := [], loops := [], joins := [], full := [], dynQ := false }),
 (67, { loc := [], loops := [], joins := [(2, 4, [(.ret, ⟨[4], [], []⟩), (.normal, ⟨[0, 1], [], []⟩)])], full := [], dynQ := false }),
 (30, { loc := [], loops := [], joins := [], full := [], dynQ := false }),
 (21, { loc := [], loops := [], joins := [], full := [], dynQ := false }),
 (49, { loc := [], loops := [(7, ⟨⟨[1, 6, 7, 8, 9], [], []⟩, [(.exit 0, ⟨[1, 6, 7], [], []⟩)]⟩)], joins := [(13, 15, [(.normal, ⟨[6], [], []⟩)]), (9, 8, [(.normal, ⟨[1, 6, 7, 8, 9], [], []⟩)]), (9, 12, [(.normal, ⟨[1, 6, 7, 8, 9], [], []⟩)]), (1, 3, [(.ret, ⟨[4, 5], [], []⟩), (.normal, ⟨[0, 1], [], []⟩)])], full := [], dynQ := false }),
 (73, { loc := [], loops := [(2, ⟨⟨[0, 3], [], []⟩, [(.exit 0, ⟨[0], [], []⟩), (.ret, ⟨[2], [], []⟩)]⟩), (7, ⟨⟨[0, 3, 4], [], []⟩, [(.exit 2, ⟨[0, 3], [], []⟩), (.ret, ⟨[2], [], []⟩)]⟩)], joins := [(4, 3, [(.ret, ⟨[2], [], []⟩), (.normal, ⟨[0, 3], [], []⟩)]), (4, 6, [(.ret, ⟨[2], [], []⟩), (.normal, ⟨[0, 3], [], []⟩)]), (2, 4, [(.normal, ⟨[0, 3], [], []⟩), (.exit 0, ⟨[0], [], []⟩)])], full := [], dynQ := false }),
 (82, { loc := [3], loops := [], joins := [], full := [], dynQ := false }),
 (117, { loc := [2, 7], loops := [], joins := [], full := [], dynQ := false }),
 (135, { loc := [], loops := [(2, ⟨⟨[0, 1, 7], [], []⟩, [(.exit 0, ⟨[0], [], []⟩), (.ret, ⟨[4, 5, 6], [], []⟩)]⟩)], joins := [], full := [], dynQ := false }),
 (147, { loc := [], loops := [(3, ⟨⟨[0, 6, 7], [], []⟩, [(.exit 0, ⟨[], [], []⟩), (.ret, ⟨[4, 5], [], []⟩)]⟩)], joins := [(5, 4, [(.ret, ⟨[4, 5], [], []⟩), (.normal, ⟨[0, 6, 7], [], []⟩)]), (7, 11, [(.ret, ⟨[4, 5], [], []⟩), (.normal, ⟨[0, 6, 7], [], []⟩)])], full := [], dynQ := false }),
 (136, { loc := [], loops := [(3, ⟨⟨[3, 4], [], []⟩, [(.exit 0, ⟨[3], [], []⟩)]⟩)], joins := [(5, 4, [(.normal, ⟨[3, 4], [], []⟩)])], full := [], dynQ := false }),
 (137, { loc := [1], loops := [], joins := [], full := [], dynQ := false }),
 (148, { loc := [], loops := [], joins := [], full := [], dynQ := false }),
 (127, { loc := [], loops := [(2, ⟨⟨[0, 3], [], []⟩, [(.exit 0, ⟨[0], [], []⟩), (.ret, ⟨[2], [], []⟩)]⟩)], joins := [(4, 3, [(.ret, ⟨[2], [], []⟩), (.normal, ⟨[0, 3], [], []⟩)]), (2, 4, [(.normal, ⟨[0, 3], [], []⟩), (.exit 0, ⟨[0], [], []⟩)])], full := [], dynQ := false }),
 (149, { loc := [], loops := [(3, ⟨⟨[0, 3, 4], [], []⟩, [(.exit 0, ⟨[0], [], []⟩), (.ret, ⟨[2], [], []⟩)]⟩)], joins := [], full := [], dynQ := false }),
 (97, { loc := [], loops := [(4, ⟨⟨[0, 1, 5, 6, 7], [], []⟩, [(.exit 0, ⟨[0, 5, 6], [], []⟩)]⟩)], joins := [(6, 5, [(.normal, ⟨[0, 1, 5, 6, 7], [], []⟩)])], full := [], dynQ := false }),
 (155, { loc := [], loops := [(2, ⟨⟨[0, 3], [], []⟩, [(.exit 0, ⟨[0], [], []⟩), (.ret, ⟨[2], [], []⟩)]⟩)], joins := [(2, 4, [(.normal, ⟨[0, 3], [], []⟩), (.exit 0, ⟨[0], [], []⟩)])], full := [], dynQ := false }),
 (157, { loc := [], loops := [(2, ⟨⟨[0, 3], [], []⟩, [(.exit 0, ⟨[0], [], []⟩), (.ret, ⟨[2], [], []⟩)]⟩)], joins := [], full := [], dynQ := false }),
 (98, { loc := [], loops := [], joins := [], full := [], dynQ := false }),
 (59, { loc := [], loops := [(3, ⟨⟨[0, 3, 4], [], []⟩, [(.exit 0, ⟨[0], [], []⟩), (.ret, ⟨[2], [], []⟩)]⟩), (9, ⟨⟨[0, 3, 4, 5, 6], [], []⟩, [(.exit 2, ⟨[0, 3, 4], [], []⟩), (.ret, ⟨[2], [], []⟩)]⟩)], joins := [(5, 4, [(.ret, ⟨[2], [], []⟩), (.normal, ⟨[0, 3, 4], [], []⟩)]), (11, 10, [(.ret, ⟨[2], [], []⟩), (.normal, ⟨[0, 3, 4, 5, 6], [], []⟩)]), (6, 8, [(.ret, ⟨[2], [], []⟩), (.normal, ⟨[0, 3, 4, 5], [], []⟩)])], full := [], dynQ := false }),
 (58, { loc := [1], loops := [], joins := [], full := [], dynQ := false }),
 (96, { loc := [1], loops := [(9, ⟨⟨[4], [(1, (1, 0))], [(1, 3)]⟩, [(.exit 2, ⟨[], [], []⟩), (.ret, ⟨[2], [], []⟩)]⟩), (4, ⟨⟨[3], [(1, (1, 0))], [(1, 3)]⟩, [(.exit 0, ⟨[], [(1, (1, 0))], [(1, 3)]⟩), (.ret, ⟨[2], [], []⟩)]⟩)], joins := [(1, 3, [(.ret, ⟨[2], [], []⟩), (.normal, ⟨[], [(1, (1, 0))], [(1, 3)]⟩)])], full := [], dynQ := false }),
 (72, { loc := [], loops := [(2, ⟨⟨[0, 1, 5], [], []⟩, [(.exit 0, ⟨[], [], []⟩), (.ret, ⟨[4], [], []⟩)]⟩)], joins := [], full := [], dynQ := false }),
 (66, { loc := [5], loops := [(3, ⟨⟨[0, 3, 4], [], []⟩, [(.exit 0, ⟨[3], [], []⟩)]⟩), (7, ⟨⟨[0, 3, 4, 6], [(5, (5, 0))], [(5, 2)]⟩, [(.exit 2, ⟨[0, 3, 4], [(5, (5, 0))], [(5, 2)]⟩)]⟩)], joins := [], full := [], dynQ := false }),
 (62, { loc := [1, 2], loops := [], joins := [], full := [8, 12], dynQ := false }),
 (35, { loc := [5], loops := [(3, ⟨⟨[3, 7, 8, 9], [], []⟩, [(.exit 0, ⟨[3], [], []⟩)]⟩)], joins := [], full := [], dynQ := false }),
 (74, { loc := [1, 2], loops := [], joins := [], full := [], dynQ := false }),
 (108, { loc := [5], loops := [(3, ⟨⟨[3, 7, 8, 9], [], []⟩, [(.exit 0, ⟨[3], [], []⟩)]⟩)], joins := [], full := [], dynQ := false }),
 (36, { loc := [1, 2], loops := [], joins := [], full := [6, 11], dynQ := false }),
 (44, { loc := [2, 3], loops := [(7, ⟨⟨[0, 5], [(2, (2, 0)), (3, (3, 0))], [(2, 3), (3, 3)]⟩, [(.exit 2, ⟨[], [(2, (2, 0)), (3, (3, 0))], [(2, 3), (3, 3)]⟩)]⟩), (3, ⟨⟨[0, 4], [(2, (2, 0)), (3, (3, 0))], [(2, 3), (3, 3)]⟩, [(.exit 0, ⟨[0], [(2, (2, 0)), (3, (3, 0))], [(2, 3), (3, 3)]⟩)]⟩)], joins := [], full := [], dynQ := false }),
 (17, { loc := [3], loops := [], joins := [], full := [21], dynQ := false }),
 (47, { loc := [3, 11], loops := [(6, ⟨⟨[7, 8, 9], [(3, (3, 0))], [(3, 3)]⟩, [(.exit 0, ⟨[7, 8], [], []⟩)]⟩)], joins := [(8, 7, [(.normal, ⟨[7, 8, 9], [(3, (3, 0))], [(3, 3)]⟩)]), (2, 4, [(.ret, ⟨[4, 5, 6], [], []⟩), (.normal, ⟨[0, 7], [(3, (3, 0))], [(3, 3)]⟩)])], full := [], dynQ := false }),
 (28, { loc := [], loops := [], joins := [], full := [], dynQ := false }),
 (20, { loc := [], loops := [], joins := [(2, 4, [(.ret, ⟨[4, 5], [], []⟩), (.normal, ⟨[0, 1, 6], [], []⟩)])], full := [], dynQ := false }),
 (31, { loc := [], loops := [], joins := [], full := [], dynQ := false }),
 (68, { loc := [], loops := [(3, ⟨⟨[0, 1, 2, 8, 9, 10], [], []⟩, [(.exit 0, ⟨[0, 1, 2, 8, 9], [], []⟩)]⟩)], joins := [], full := [], dynQ := true }),
 (69, { loc := [2], loops := [], joins := [], full := [], dynQ := false }),
 (70, { loc := [], loops := [], joins := [], full := [], dynQ := false }),
 (107, { loc := [], loops := [], joins := [], full := [], dynQ := false }),
 (13, { loc := [4], loops := [(2, ⟨⟨[0, 5, 6, 7], [], []⟩, [(.exit 0, ⟨[0], [], []⟩), (.ret, ⟨[2], [], []⟩)]⟩)], joins := [], full := [], dynQ := false }),
 (41, { loc := [], loops := [], joins := [], full := [], dynQ := false }),
 (75, { loc := [], loops := [], joins := [], full := [], dynQ := false }),
 (109, { loc := [], loops := [], joins := [], full := [], dynQ := false }),
 (130, { loc := [], loops := [(15, ⟨⟨[0, 1, 5, 6, 7, 8, 9, 10], [], []⟩, [(.exit 1, ⟨[], [], []⟩), (.ret, ⟨[4], [], []⟩)]⟩)], joins := [(21, 23, [(.ret, ⟨[4], [], []⟩), (.normal, ⟨[0, 1, 5, 6, 7, 8, 9, 10], [], []⟩)]), (16, 21, [(.ret, ⟨[4], [], []⟩), (.normal, ⟨[0, 1, 5, 6, 7, 8, 9, 10], [], []⟩)]), (2, 10, [(.ret, ⟨[4], [], []⟩), (.normal, ⟨[0, 1, 5], [], []⟩)])], full := [], dynQ := false }),
 (142, { loc := [], loops := [], joins := [], full := [], dynQ := false }),
 (144, { loc := [], loops := [], joins := [], full := [], dynQ := false }),
 (145, { loc := [], loops := [(11, ⟨⟨[0, 1, 5, 6, 7, 8, 10], [], []⟩, [(.exit 2, ⟨[], [], []⟩), (.ret, ⟨[4], [], []⟩)]⟩), (5, ⟨⟨[0, 1, 5, 6, 7, 8, 9], [], []⟩, [(.exit 0, ⟨[0, 1, 5, 6, 7, 8], [], []⟩)]⟩)], joins := [(8, 10, [(.ret, ⟨[4], [], []⟩), (.normal, ⟨[0, 1, 5, 6, 7, 8], [], []⟩)])], full := [], dynQ := false }),
 (154, { loc := [], loops := [(8, ⟨⟨[4, 6, 7, 8], [], []⟩, [(.exit 2, ⟨[4, 6], [], []⟩)]⟩), (3, ⟨⟨[0, 4, 5], [], []⟩, [(.exit 0, ⟨[0, 4], [], []⟩)]⟩)], joins := [(10, 9, [(.normal, ⟨[4, 6, 7, 8], [], []⟩)]), (10, 12, [(.normal, ⟨[4, 6, 7, 8], [], []⟩)])], full := [], dynQ := false }),
 (76, { loc := [], loops := [], joins := [], full := [], dynQ := false }),
 (89, { loc := [], loops := [], joins := [], full := [], dynQ := false }),
 (121, { loc := [], loops := [(11, ⟨⟨[0, 1, 2, 3, 9, 10], [], []⟩, [(.exit 0, ⟨[0, 9, 10], [], []⟩)]⟩)], joins := [(5, 7, [(.normal, ⟨[0, 1, 2, 3], [], []⟩)])], full := [], dynQ := false }),
 (138, { loc := [], loops := [(6, ⟨⟨[0, 1, 6, 7], [], []⟩, [(.exit 0, ⟨[0, 1, 6], [], []⟩)]⟩)], joins := [(2, 4, [(.normal, ⟨[0, 1], [], []⟩)])], full := [], dynQ := false }),
 (150, { loc := [], loops := [], joins := [], full := [], dynQ := false }),
 (151, { loc := [], loops := [], joins := [], full := [], dynQ := false }),
 (156, { loc := [9], loops := [], joins := [], full := [], dynQ := false }),
 (139, { loc := [], loops := [(6, ⟨⟨[0, 1, 5], [], []⟩, [(.ret, ⟨[4], [], []⟩)]⟩)], joins := [], full := [], dynQ := false }),
 (140, { loc := [], loops := [], joins := [], full := [], dynQ := false }),
 (88, { loc := [], loops := [], joins := [], full := [], dynQ := false }),
 (120, { loc := [], loops := [(2, ⟨⟨[0, 1, 7, 8], [], []⟩, [(.exit 0, ⟨[], [], []⟩), (.ret, ⟨[4], [], []⟩)]⟩)], joins := [], full := [], dynQ := true }),
 (110, { loc := [], loops := [], joins := [], full := [], dynQ := false }),
 (111, { loc := [], loops := [], joins := [], full := [], dynQ := false }),
 (122, { loc := [], loops := [(2, ⟨⟨[0, 1, 7, 8], [], []⟩, [(.exit 0, ⟨[], [], []⟩), (.ret, ⟨[4], [], []⟩)]⟩)], joins := [], full := [], dynQ := true }),
 (131, { loc := [], loops := [], joins := [], full := [], dynQ := false }),
 (146, { loc := [], loops := [], joins := [], full := [], dynQ := false }),
 (124, { loc := [], loops := [], joins := [], full := [], dynQ := false }),
 (54, { loc := [], loops := [], joins := [], full := [], dynQ := false }),
 (90, { loc := [], loops := [], joins := [], full := [], dynQ := false }),
 (91, { loc := [], loops := [], joins := [], full := [], dynQ := false }),
 (123, { loc := [], loops := [], joins := [], full := [], dynQ := false }),
 (42, { loc := [], loops := [], joins := [], full := [], dynQ := false }),
 (77, { loc := [], loops := [], joins := [], full := [], dynQ := false }),
 (112, { loc := [], loops := [(2, ⟨⟨[0, 1, 7, 8], [], []⟩, [(.exit 0, ⟨[], [], []⟩), (.ret, ⟨[4], [], []⟩)]⟩)], joins := [], full := [], dynQ := true }),
 (78, { loc := [1], loops := [], joins := [], full := [], dynQ := false }),
 (45, { loc := [1], loops := [], joins := [], full := [], dynQ := false }),
 (79, { loc := [3], loops := [], joins := [], full := [], dynQ := false }),
 (113, { loc := [], loops := [], joins := [], full := [], dynQ := false }),
 (114, { loc := [], loops := [], joins := [], full := [], dynQ := false }),
 (115, { loc := [], loops := [], joins := [], full := [], dynQ := false }),
 (132, { loc := [], loops := [], joins := [], full := [], dynQ := false }),
 (133, { loc := [], loops := [(2, ⟨⟨[0, 5, 6], [], []⟩, [(.exit 0, ⟨[0], [], []⟩), (.ret, ⟨[2], [], []⟩)]⟩)], joins := [], full := [], dynQ := false }),
 (32, { loc := [5], loops := [(3, ⟨⟨[3, 7, 8, 9], [], []⟩, [(.exit 0, ⟨[3], [], []⟩)]⟩)], joins := [], full := [], dynQ := false }),
 (71, { loc := [5], loops := [(3, ⟨⟨[3, 7, 8, 9], [], []⟩, [(.exit 0, ⟨[3], [], []⟩)]⟩)], joins := [], full := [], dynQ := false }),
 (56, { loc := [1, 2], loops := [], joins := [], full := [], dynQ := false }),
 (46, { loc := [], loops := [], joins := [], full := [7], dynQ := false }),
 (11, { loc := [], loops := [], joins := [], full := [], dynQ := false }),
 (37, { loc := [8, 9], loops := [(4, ⟨⟨[1, 2, 15, 16, 17], [], []⟩, [(.exit 0, ⟨[], [], []⟩), (.ret, ⟨[6], [], []⟩)]⟩)], joins := [], full := [], dynQ := true }),
 (38, { loc := [2, 3], loops := [], joins := [], full := [], dynQ := false }),
 (39, { loc := [8, 9], loops := [(4, ⟨⟨[1, 2, 15, 16, 17], [], []⟩, [(.exit 0, ⟨[], [], []⟩), (.ret, ⟨[6], [], []⟩)]⟩)], joins := [], full := [], dynQ := true }),
 (12, { loc := [2, 3], loops := [], joins := [], full := [], dynQ := false }),
 (40, { loc := [], loops := [(4, ⟨⟨[0, 1, 12, 13], [], []⟩, [(.exit 0, ⟨[], [], []⟩), (.ret, ⟨[4], [], []⟩)]⟩)], joins := [], full := [], dynQ := false }),
 (16, { loc := [3], loops := [(5, ⟨⟨[7, 8, 25, 26, 27], [(3, (3, 0))], [(3, 3)]⟩, [(.exit 0, ⟨[7, 8], [], []⟩)]⟩)], joins := [(1, 3, [(.ret, ⟨[4, 5, 6], [], []⟩), (.normal, ⟨[0], [(3, (3, 0))], [(3, 3)]⟩)])], full := [], dynQ := false }),
 (9, { loc := [5, 10], loops := [], joins := [(2, 4, [(.ret, ⟨[4, 6], [(5, (5, 0))], [(5, 3)]⟩), (.normal, ⟨[0, 7], [(5, (5, 0))], [(5, 3)]⟩)])], full := [], dynQ := false }),
 (18, { loc := [], loops := [(4, ⟨⟨[0, 1, 5], [], []⟩, [(.exit 0, ⟨[], [], []⟩), (.ret, ⟨[4], [], []⟩)]⟩)], joins := [], full := [], dynQ := false })]
noncomputable def fnB : List (Nat × Func) := [
 (5, Tryz.f5), (19, Tryz.f19), (27, Tryz.f27), (29, Tryz.f29), (52, Tryz.f52), (67, Tryz.f67), (30, Tryz.f30), (21, Tryz.f21), (49, Tryz.f49), (73, Tryz.f73), (82, Tryz.f82), (117, Tryz.f117), (135, Tryz.f135), (147, Tryz.f147), (136, Tryz.f136), (137, Tryz.f137), (148, Tryz.f148), (127, Tryz.f127), (149, Tryz.f149), (97, Tryz.f97), (155, Tryz.f155), (157, Tryz.f157), (98, Tryz.f98), (59, Tryz.f59), (58, Tryz.f58), (96, Tryz.f96), (72, Tryz.f72), (66, Tryz.f66), (62, Tryz.f62), (35, Tryz.f35), (74, Tryz.f74), (108, Tryz.f108), (36, Tryz.f36), (44, Tryz.f44), (17, Tryz.f17), (47, Tryz.f47), (28, Tryz.f28), (20, Tryz.f20), (31, Tryz.f31), (68, Tryz.f68), (69, Tryz.f69), (70, Tryz.f70), (107, Tryz.f107), (13, Tryz.f13), (41, Tryz.f41), (75, Tryz.f75), (109, Tryz.f109), (130, Tryz.f130), (142, Tryz.f142), (144, Tryz.f144), (145, Tryz.f145), (154, Tryz.f154), (76, Tryz.f76), (89, Tryz.f89), (121, Tryz.f121), (138, Tryz.f138), (150, Tryz.f150), (151, Tryz.f151), (156, Tryz.f156), (139, Tryz.f139), (140, Tryz.f140), (88, Tryz.f88), (120, Tryz.f120), (110, Tryz.f110), (111, Tryz.f111), (122, Tryz.f122), (131, Tryz.f131), (146, Tryz.f146), (124, Tryz.f124), (54, Tryz.f54), (90, Tryz.f90), (91, Tryz.f91), (123, Tryz.f123), (42, Tryz.f42), (77, Tryz.f77), (112, Tryz.f112), (78, Tryz.f78), (45, Tryz.f45), (79, Tryz.f79), (113, Tryz.f113), (114, Tryz.f114), (115, Tryz.f115), (132, Tryz.f132), (133, Tryz.f133), (32, Tryz.f32), (71, Tryz.f71), (56, Tryz.f56), (46, Tryz.f46), (11, Tryz.f11), (37, Tryz.f37), (38, Tryz.f38), (39, Tryz.f39), (12, Tryz.f12), (40, Tryz.f40), (16, Tryz.f16), (9, Tryz.f9), (18, Tryz.f18)]
def quietB : List Nat := [5, 73, 82, 135, 147, 136, 137, 148, 127, 149, 155, 157, 98, 59, 58, 96, 72, 31, 68, 69, 70, 107, 13, 41, 75, 109, 130, 142, 144, 145, 154, 76, 150, 151, 156, 139, 140, 88, 120, 110, 111, 122, 131, 146, 124, 54, 90, 91, 123, 42, 77, 112, 78, 45, 79, 113, 114, 115, 132, 133, 11, 37, 38, 39, 12, 40, 18]
def addsB : List Nat := [19, 21, 49, 117, 97, 66, 62, 35, 74, 108, 36, 17, 47, 20, 89, 121, 138, 32, 71, 56, 46, 16, 9]
def takesB : List (Nat × List Nat) := [(5, [2, 2, 20, 19, 4, 26, 24, 6, 32, 30, 8, 40, 41, 42, 45, 46, 52, 53, 54, 2, 57, 60, 12, 69, 67, 15, 76, 84, 85, 87, 92, 93, 95, 100, 2]), (19, [2, 3, 5, 4, 7, 8, 11, 2, 3]), (27, [2, 0, 8, 2]), (29, [2, 3, 9, 4, 12, 18, 16, 22, 5, 6, 24, 25, 3, 14, 4, 26, 7, 29, 35, 33, 38, 3, 31, 7, 41, 2]), (52, [4, 6, 4]), (67, [4, 7, 8, 15, 17, 18, 4, 25, 5, 30, 31, 37, 41, 45, 4, 47, 51, 52, 62, 66, 69, 80, 83, 84, 6, 92, 93, 6, 96, 97, 4]), (30, [4, 6, 4]), (21, [4, 5, 10, 8, 7, 16, 4, 5]), (49, [4, 5, 13, 14, 18, 20, 24, 4, 5, 6, 7, 9, 33, 39, 41, 42, 44, 50, 51, 6, 7, 55, 57, 59, 6, 37, 9, 62, 64, 65, 6, 69, 4, 5]), (73, [2, 3, 5, 9, 10, 16, 22, 24, 31, 32, 34, 36, 42, 2, 4, 49, 51, 60, 64, 2, 57, 4, 13, 3, 2]), (82, [2, 6, 5, 4, 10, 11, 18, 2]), (117, [3, 9, 8, 4, 5, 6, 14, 15, 19, 20, 3]), (135, [4, 5, 6, 7, 10, 11, 14, 15, 19, 20, 18, 8, 9, 24, 26, 4, 5, 6, 27, 7, 28, 29, 31, 33, 34, 36, 37, 4, 5, 6, 40, 7, 42, 4, 5, 6]), (147, [4, 5, 6, 8, 7, 10, 11, 16, 17, 20, 21, 4, 5, 23, 24, 27, 7, 29, 30, 4, 5, 33, 34, 35, 36, 6, 14, 7, 4, 5]), (136, [2, 5, 4, 7, 14, 18, 20, 26, 28, 11, 4, 2]), (137, [2, 6, 12, 17, 23, 2]), (148, [2, 3, 5, 6, 2]), (127, [2, 3, 4, 5, 8, 9, 14, 15, 18, 19, 20, 2, 12, 3, 24, 2]), (149, [2, 5, 4, 7, 14, 2, 11, 4, 19, 2]), (97, [4, 5, 6, 7, 9, 10, 15, 16, 18, 20, 21, 22, 23, 5, 27, 6, 13, 7, 29, 30, 31, 4]), (155, [2, 3, 4, 5, 8, 9, 14, 15, 2, 12, 3, 19, 22, 23, 2]), (157, [2, 3, 4, 8, 9, 2, 6, 3, 12, 2]), (98, [2, 3, 5, 6, 9, 10, 12, 13, 17, 18, 20, 21, 2]), (59, [2, 7, 4, 9, 16, 5, 19, 21, 22, 26, 27, 28, 2, 6, 34, 35, 40, 41, 45, 46, 47, 51, 52, 53, 56, 57, 58, 2, 38, 6, 13, 4, 63, 2]), (58, [2, 5, 11, 2]), (96, [2, 8, 14, 20, 2, 3, 26, 35, 2, 31, 3, 4, 40, 49, 2, 45, 4, 2]), (72, [4, 5, 6, 13, 17, 19, 4, 10, 5, 4]), (66, [2, 3, 4, 8, 15, 6, 20, 22, 31, 33, 37, 28, 6, 44, 45, 3, 12, 4, 48, 2]), (62, [7, 11]), (35, [2, 3, 9, 13, 3, 9, 19, 2]), (74, [7]), (108, [2, 3, 9, 13, 3, 9, 19, 2]), (36, [5, 10, 13]), (44, [6, 9, 15, 4, 17, 22, 23, 19, 4, 29, 5, 32, 37, 38, 34, 5, 44]), (17, [4, 5, 6, 10, 15, 8, 9, 20, 22, 4, 5, 6]), (47, [4, 5, 6, 7, 16, 22, 4, 5, 6, 8, 9, 25, 35, 10, 64, 63, 66, 7, 71, 69, 77, 7, 43, 49, 51, 54, 55, 60, 7, 30, 9, 80, 81, 4, 5, 6, 2000014, 2000018, 2000024, 1000024, 2000038, 2000068, 2000079, 2000040, 2000057, 2000062]), (28, [4, 5, 9, 11, 13, 14, 5, 20, 25, 6, 30, 32, 35, 41, 4, 2000008, 1000008, 2000010, 2000016, 2000019, 2000028, 2000038]), (20, [4, 5, 10, 8, 6, 7, 17, 18, 22, 23, 25, 4, 5, 32, 33, 4, 5, 2000011, 2000015, 2000019, 2000031, 1000031, 2000036]), (31, [4, 5, 7, 4, 5]), (68, [6, 7, 8, 14, 9, 10, 15, 16, 18, 19, 11, 24, 26, 29, 32, 9, 34, 10, 35, 36, 37, 39, 40, 42, 45, 6, 7]), (69, [4, 7, 4]), (70, [4, 7, 5, 9, 6, 11, 12, 4, 4, 13, 4, 14, 15, 4, 17, 18, 4, 4]), (107, [2, 3, 4, 2]), (13, [2, 7, 9, 3, 16, 22, 23, 25, 27, 2, 7, 2]), (41, [2, 7, 6, 3, 4, 5, 12, 13, 14, 17, 18, 2]), (75, [4, 5, 6, 7, 8, 4, 5, 6]), (109, [4, 5, 6, 8, 9, 7, 11, 13, 14, 16, 17, 18, 4, 5, 6, 22, 4, 5, 6]), (130, [4, 14, 5, 17, 19, 20, 21, 16, 4, 25, 24, 27, 28, 4, 32, 33, 31, 4, 37, 40, 41, 36, 45, 46, 4, 48, 6, 50, 7, 8, 52, 54, 9, 10, 57, 58, 60, 61, 63, 65, 66, 68, 70, 11, 72, 4, 74, 75, 8, 78, 79, 82, 84, 85, 86, 87, 88, 91, 94, 4, 95, 8, 97, 10, 99, 102, 103, 104, 108, 109, 111, 12, 113, 115, 116, 4, 4, 118, 121, 122, 123, 128, 129, 130, 133, 134, 136, 13, 138, 4, 140, 141, 4, 4]), (142, [4, 5, 6, 4]), (144, [2, 3, 2]), (145, [4, 12, 11, 5, 6, 16, 7, 8, 9, 18, 19, 23, 25, 26, 8, 21, 9, 30, 31, 33, 34, 35, 37, 4, 40, 10, 41, 42, 45, 8, 47, 48, 49, 8, 53, 54, 55, 56, 57, 8, 63, 10, 65, 66, 68, 69, 70, 71, 73, 75, 78, 79, 4, 4]), (154, [2, 3, 4, 5, 9, 10, 15, 17, 18, 4, 13, 5, 6, 7, 22, 8, 24, 28, 31, 32, 6, 34, 35, 7, 26, 8, 37, 38, 2, 3]), (76, [2, 3, 6, 7, 2]), (89, [4, 5, 6, 4]), (121, [8, 12, 8, 14, 16, 17, 8, 19, 21, 22, 3, 25, 26, 3, 30, 32, 3, 10, 34, 35, 37, 38, 11, 40, 43, 44, 45, 46, 50, 51, 52, 0, 56, 10, 59, 60, 63, 8]), (138, [4, 10, 5, 12, 14, 15, 16, 19, 1, 20, 6, 7, 22, 23, 29, 28, 8, 9, 34, 35, 36, 39, 40, 0, 26, 7, 42, 45, 47, 49, 4]), (150, [2, 3, 7, 2, 9, 2]), (151, [2, 3, 4, 6, 7, 11, 2, 3, 15, 14, 2, 3]), (156, [2, 3, 13, 4, 15, 2, 3, 17, 5, 19, 6, 22, 24, 7, 28, 31, 33, 2, 3, 36, 8, 39, 43, 44, 2, 3, 46, 10, 48, 52, 55, 2, 3, 58, 60, 64, 2, 3, 68, 11, 70, 72, 73, 2, 3, 76, 78, 82, 87, 2, 3, 91, 12, 93, 95, 96, 2, 3, 99, 103, 108, 113, 2, 3]), (139, [4, 7, 10, 4, 13, 16, 17, 4, 5, 20, 21, 6, 23, 25, 4, 26, 5, 28, 29, 30, 0]), (140, [4, 5, 6, 4]), (88, [4, 6, 4]), (120, [4, 8, 10, 5, 11, 13, 17, 4, 8, 4]), (110, [2, 3, 2]), (111, [2, 3, 6, 7, 11, 12, 2]), (122, [4, 6, 8, 10, 5, 11, 12, 13, 4, 8, 4]), (131, [2, 3, 5, 6, 9, 10, 13, 14, 16, 17, 21, 22, 25, 26, 29, 30, 33, 34, 37, 38, 41, 42, 45, 46, 48, 49, 53, 54, 56, 57, 2]), (146, [2, 3, 5, 6, 9, 10, 12, 13, 2]), (124, [2, 3, 5, 6, 2]), (54, [2, 3, 6, 7, 2]), (90, [2, 3, 2]), (91, [2, 3, 5, 6, 10, 11, 12, 18, 19, 2]), (123, [2, 3, 5, 6, 9, 10, 13, 14, 2]), (42, [4, 7, 9, 4]), (77, [4, 6, 4]), (112, [4, 8, 10, 5, 11, 13, 17, 4, 8, 4]), (78, [2, 2]), (45, [2, 2]), (79, [6, 10, 14, 17, 23, 29, 32, 6]), (113, [2, 3, 5, 6, 2]), (114, [2, 3, 2]), (115, [4, 7, 9, 4]), (132, [2, 3, 2]), (133, [2, 4, 6, 8, 3, 9, 10, 13, 14, 15, 2, 6, 20, 2]), (32, [2, 3, 9, 12, 13, 3, 9, 23, 2]), (71, [2, 3, 9, 13, 3, 9, 19, 2]), (46, [2, 2, 6, 2]), (11, [4, 4]), (37, [6, 6, 17, 19, 7, 23, 26, 6, 17, 6]), (38, [4, 10, 4]), (39, [6, 6, 17, 19, 7, 23, 26, 6, 17, 6]), (12, [4, 10, 17, 4]), (40, [4, 4, 13, 15, 5, 17, 21, 4, 13, 4]), (16, [4, 5, 6, 16, 4, 5, 6, 7, 8, 27, 10, 33, 31, 11, 12, 60, 59, 62, 8, 67, 65, 73, 8, 38, 40, 43, 46, 56, 8, 27, 77, 78, 4, 5, 6, 2000014, 2000018, 2000022, 1000022, 2000034, 2000064, 2000075, 2000050, 2000053, 2000058]), (9, [4, 6, 13, 11, 7, 8, 20, 21, 24, 26, 4, 6, 9, 37, 42, 44, 46, 53, 54, 4, 6, 2000014, 2000018, 2000035, 3000035, 4000035, 2000050]), (18, [4, 4, 5, 11, 18, 22, 4, 15, 5, 4])]
def mvB : List (Nat × List Nat) := [(5, [0]), (19, [0]), (27, [0]), (48, [0, 2])]
def extsB : List (Nat × Nat) := [(153, 0), (143, 2), (152, 1)]
noncomputable def primA : List (Nat × (List Value -> Heap -> Option (Value × Heap))) := [(48, hIns 2 40), (33, hDel 3)]
noncomputable def primV : List (Nat × (List V -> VH -> Option (V × VH))) := [(48, insV 2 40), (33, delV 3)]
noncomputable def base : Base where
 ng := 0
 tab := tabB
 fn := Go.AM.look fnB
 ann := annOf annB
 kind := kindX quietB addsB extsB
 ext := extA
 prim := fun f => Go.AM.look primA f
def globB : Nat -> Option (List V) := fun _ => none
noncomputable def vb : BaseV where
 b := base
 glob := globB
 takes := listOf takesB
 mv := listOf mvB
 prim := fun f => Go.AM.look primV f
noncomputable def cv : CallV := callV vb
noncomputable def pc : FuncId -> List V -> Option V := pcall cv
noncomputable def qc : FuncId -> List V -> Option V := qpcall cv
noncomputable def pco : FuncId -> VH -> List V -> Option V := pcallO cv
noncomputable def qco : FuncId -> VH -> List V -> Option V := qpcallO cv
set_option maxRecDepth 100000 in
theorem fns : FnsOk Tryz.prog fnB := by
 unfold fnB
 refine ⟨⟨rfl, by kernel_rfl⟩, ⟨rfl, by kernel_rfl⟩, ⟨rfl, by kernel_rfl⟩, ⟨rfl, by kernel_rfl⟩, ⟨rfl, by kernel_rfl⟩, ⟨rfl, by kernel_rfl⟩, ⟨rfl, by kernel_rfl⟩, ⟨rfl, by kernel_rfl⟩, ⟨rfl, by kernel_rfl⟩, ⟨rfl, by kernel_rfl⟩, ⟨rfl, by kernel_rfl⟩, ⟨rfl, by kernel_rfl⟩, ⟨rfl, by kernel_rfl⟩, ⟨rfl, by kernel_rfl⟩, ⟨rfl, by kernel_rfl⟩, ⟨rfl, by kernel_rfl⟩, ⟨rfl, by kernel_rfl⟩, ⟨rfl, by kernel_rfl⟩, ⟨rfl, by kernel_rfl⟩, ⟨rfl, by kernel_rfl⟩, ⟨rfl, by kernel_rfl⟩, ⟨rfl, by kernel_rfl⟩, ⟨rfl, by kernel_rfl⟩, ⟨rfl, by kernel_rfl⟩, ⟨rfl, by kernel_rfl⟩, ⟨rfl, by kernel_rfl⟩, ⟨rfl, by kernel_rfl⟩, ⟨rfl, by kernel_rfl⟩, ⟨rfl, by kernel_rfl⟩, ⟨rfl, by kernel_rfl⟩, ⟨rfl, by kernel_rfl⟩, ⟨rfl, by kernel_rfl⟩, ⟨rfl, by kernel_rfl⟩, ⟨rfl, by kernel_rfl⟩, ⟨rfl, by kernel_rfl⟩, ⟨rfl, by kernel_rfl⟩, ⟨rfl, by kernel_rfl⟩, ⟨rfl, by kernel_rfl⟩, ⟨rfl, by kernel_rfl⟩, ⟨rfl, by kernel_rfl⟩, ⟨rfl, by kernel_rfl⟩, ⟨rfl, by kernel_rfl⟩, ⟨rfl, by kernel_rfl⟩, ⟨rfl, by kernel_rfl⟩, ⟨rfl, by kernel_rfl⟩, ⟨rfl, by kernel_rfl⟩, ⟨rfl, by kernel_rfl⟩, ⟨rfl, by kernel_rfl⟩, ⟨rfl, by kernel_rfl⟩, ⟨rfl, by kernel_rfl⟩, ⟨rfl, by kernel_rfl⟩, ⟨rfl, by kernel_rfl⟩, ⟨rfl, by kernel_rfl⟩, ⟨rfl, by kernel_rfl⟩, ⟨rfl, by kernel_rfl⟩, ⟨rfl, by kernel_rfl⟩, ⟨rfl, by kernel_rfl⟩, ⟨rfl, by kernel_rfl⟩, ⟨rfl, by kernel_rfl⟩, ⟨rfl, by kernel_rfl⟩, ⟨rfl, by kernel_rfl⟩, ⟨rfl, by kernel_rfl⟩, ⟨rfl, by kernel_rfl⟩, ⟨rfl, by kernel_rfl⟩, ⟨rfl, by kernel_rfl⟩, ⟨rfl, by kernel_rfl⟩, ⟨rfl, by kernel_rfl⟩, ⟨rfl, by kernel_rfl⟩, ⟨rfl, by kernel_rfl⟩, ⟨rfl, by kernel_rfl⟩, ⟨rfl, by kernel_rfl⟩, ⟨rfl, by kernel_rfl⟩, ⟨rfl, by kernel_rfl⟩, ⟨rfl, by kernel_rfl⟩, ⟨rfl, by kernel_rfl⟩, ⟨rfl, by kernel_rfl⟩, ⟨rfl, by kernel_rfl⟩, ⟨rfl, by kernel_rfl⟩, ⟨rfl, by kernel_rfl⟩, ⟨rfl, by kernel_rfl⟩, ⟨rfl, by kernel_rfl⟩, ⟨rfl, by kernel_rfl⟩, ⟨rfl, by kernel_rfl⟩, ⟨rfl, by kernel_rfl⟩, ⟨rfl, by kernel_rfl⟩, ⟨rfl, by kernel_rfl⟩, ⟨rfl, by kernel_rfl⟩, ⟨rfl, by kernel_rfl⟩, ⟨rfl, by kernel_rfl⟩, ⟨rfl, by kernel_rfl⟩, ⟨rfl, by kernel_rfl⟩, ⟨rfl, by kernel_rfl⟩, ⟨rfl, by kernel_rfl⟩, ⟨rfl, by kernel_rfl⟩, ⟨rfl, by kernel_rfl⟩, ⟨rfl, by kernel_rfl⟩, ⟨rfl, by kernel_rfl⟩, trivial⟩
theorem tabs : tabB? Tryz.prog tabB = true := by kernel_rfl
theorem exts : ExtFns Tryz.prog extsB := by
 unfold extsB
 exact ⟨fun args w => Go.run_callFunc_extern (fn := Tryz.f153) (e := Extern.BytealgIndexByte.indexByte) (by kernel_rfl) (by kernel_rfl) (by kernel_rfl) (by kernel_rfl) (by kernel_rfl) args w, trivial, fun args w => Go.run_callFunc_extern (fn := Tryz.f152) (e := Extern.BytealgCount.count) (by kernel_rfl) (by kernel_rfl) (by kernel_rfl) (by kernel_rfl) (by kernel_rfl) args w, trivial⟩
def ren48 : Go.Shelf.Ren := ⟨fun | 22 => 48 | 29 => 80 | 30 => 81 | n => n, fun | 0 => 0 | 3 => 3 | 4 => 4 | 9 => 35 | 24 => 23 | n => n, fun n => n⟩
theorem lay48 : InsLay Tryz.prog ren48 2 40 (.agg #[(.string (bs [])), (.slice none 0 0)]) where
 f22 := ⟨ "slices.Insert[[]loop.example/mailwire/impl.Box,loop.example/mailwire/impl.Box]", by decide, Tryz.func48.trans (congrArg some (by kernel_rfl))⟩
 ov := fun args w => Go.run_callFunc_extern (fn := Tryz.f80) Tryz.func80 (by kernel_rfl) (by kernel_rfl) (by kernel_rfl) (e := Extern.SlicesOverlaps.overlaps #[23, 23] #[4]) (by kernel_rfl) args w
 eb0 := by decide
 mixed := by kernel_rfl
 t0 := Tryz.underlying0
 a0 := Tryz.isAgg0
 z0 := Tryz.sizeOf0
 v0 := Tryz.zeroValue0
 t3 := Tryz.underlying3
 a3 := Tryz.isAgg3
 z3 := Tryz.sizeOf3
 v3 := Tryz.zeroValue3
 t4 := Tryz.underlying4
 a4 := Tryz.isAgg4
 z4 := Tryz.sizeOf4
 v4 := Tryz.zeroValue4
 t24 := Tryz.underlying23
 a24 := Tryz.isAgg23
 z24 := Tryz.sizeOf23
 v24 := Tryz.zeroValue23
 z9 := Tryz.sizeOf35
 v9 := Tryz.zeroValue35
 i9 := by kernel_rfl
 zs := rfl
 es0 := by decide
def ren33 : Go.Shelf.Ren := ⟨fun | 24 => 33 | n => n, fun | 0 => 0 | 3 => 3 | 4 => 4 | 9 => 28 | 24 => 33 | n => n, fun n => n⟩
theorem lay33 : DelLay Tryz.prog ren33 3 (.agg #[(.string (bs [])), (.slice none 0 0), (.slice none 0 0)]) where
 f24 := ⟨ "slices.Delete[[]loop.example/mailwire/impl.Mail,loop.example/mailwire/impl.Mail]", by decide, Tryz.func33.trans (congrArg some (by kernel_rfl))⟩
 z1 := by decide
 mixed := by kernel_rfl
 t0 := Tryz.underlying0
 a0 := Tryz.isAgg0
 z0 := Tryz.sizeOf0
 v0 := Tryz.zeroValue0
 t3 := Tryz.underlying3
 a3 := Tryz.isAgg3
 z3 := Tryz.sizeOf3
 v3 := Tryz.zeroValue3
 t4 := Tryz.underlying4
 a4 := Tryz.isAgg4
 z4 := Tryz.sizeOf4
 v4 := Tryz.zeroValue4
 t24 := Tryz.underlying33
 a24 := Tryz.isAgg33
 z24 := Tryz.sizeOf33
 v24 := Tryz.zeroValue33
 z9 := Tryz.sizeOf28
 v9 := Tryz.zeroValue28
 i9 := by kernel_rfl
 zs := rfl
 es0 := by decide
theorem primsA_ok : PrimsOk Tryz.prog 0 primA := ⟨fun args hp r hp' h => ins_owes 0 lay48 h, fun args hp r hp' h => del_owes 0 lay33 h, trivial⟩
theorem base_ok : BaseOk Tryz.prog base where
 tab := tab_ok tabs
 fn := fns_ok fns
 ext := ext_ok exts
 prim := prims_ok (P := Tryz.prog) (ng := 0) primsA_ok
 mixed := by kernel_rfl
theorem primsV_ok : PrimsSim vb primV := ⟨fun args H r H' h => insV_sim (b := base) rfl h, fun args H r H' h => delV_sim (b := base) rfl h, trivial⟩
theorem vb_ok : BaseVOk vb where
 zero := tab_zero (tab_ok tabs)
 sl := tab_sl (tab_ok tabs)
 gd := fun g cs h => by cases h
 pos := tab_pos (by kernel_rfl)
 noprim := fun f h => look_keys (f := f) (l := primV) (l' := primA) rfl h
 prim := prims_sim primsV_ok
end Go.Proofs.YtikpckcdpmjpgaaGreatDoor.Q
