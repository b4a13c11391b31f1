/- The program's functions, types and marks, as the machines take them. -/
import Derived.Test.YtikpckcdpmjpgabGreatDoorProg
import Derived.Test.YtikpckcdpmjpgabGreatDoorFnExactTakeMailK4
import Derived.KernelRfl
namespace Go.Proofs.YtikpckcdpmjpgabGreatDoor.Q
open Go Go.AM Go.Proofs Go.Shelf
set_option linter.unusedVariables false
def id_laws_FnExactTakeMail : Nat := 4
def id_laws_szBoxS : Nat := 15
def id_laws_szBox : Nat := 56
def id_laws_szMailS : Nat := 108
def id_laws_szMail : Nat := 25
def id_laws_szStringS : Nat := 72
def id_laws_toBoxS : Nat := 17
def id_laws_toBox : Nat := 60
def id_laws_toMailS : Nat := 113
def id_laws_toMail : Nat := 26
def id_laws_toStringS : Nat := 73
def id_spec_TakeMail : Nat := 16
def id_spec_l11RawTakeMail : Nat := 57
def id_spec_l11Find : Nat := 109
def id_spec_BoxesValid : Nat := 110
def id_spec_l10Box : Nat := 120
def id_spec_l2Box : Nat := 144
def id_spec_l2Cut : Nat := 155
def id_spec_l1Read : Nat := 163
def id_spec_LowerText : Nat := 153
def id_spec_AddressValid : Nat := 156
def id_spec_l2Name : Nat := 164
def id_spec_TextValid : Nat := 135
def id_spec_l2Local : Nat := 165
def id_spec_l2Parts : Nat := 96
def id_spec_AtomValid : Nat := 172
def id_spec_l1Atom : Nat := 175
def id_spec_l1Letter : Nat := 97
def id_spec_l2Domain : Nat := 49
def id_spec_MailValid : Nat := 48
def id_spec_l10Draft : Nat := 95
def id_spec_l11Copy : Nat := 111
def id_spec_l10Mail : Nat := 52
def id_spec_l13OwnListBox : Nat := 58
def id_spec_l13OwnBox : Nat := 112
def id_spec_l13OwnListMail : Nat := 140
def id_spec_l13OwnMail : Nat := 59
def id_impl_TakeMail : Nat := 18
def id_impl_boxPlace : Nat := 61
def id_slices_BinarySearchFunc___impl_Box_impl_Box_string_ : Nat := 114
def id_impl_boxPlace_1 : Nat := 115
def id_cmp_Compare_string_ : Nat := 116
def id_cmp_isNaN_string_ : Nat := 141
def id_impl_BoxesValid : Nat := 62
def id_impl_isPath : Nat := 77
def id_strings_Cut : Nat := 121
def id_internal_stringslite_Cut : Nat := 145
def id_internal_stringslite_Index : Nat := 157
def id_internal_stringslite_IndexByte : Nat := 166
def id_internal_bytealg_IndexByteString : Nat := 173
def id_internal_bytealg_IndexString : Nat := 167
def id_internal_bytealg_Cutover : Nat := 168
def id_internal_bytealg_IndexRabinKarp_string_ : Nat := 169
def id_internal_bytealg_hashStr_string_ : Nat := 174
def id_impl_isLocal : Nat := 122
def id_strings_Split : Nat := 86
def id_strings_genSplit : Nat := 129
def id_strings_explode : Nat := 149
def id_unicode_utf8_RuneCountInString : Nat := 160
def id_unicode_utf8_DecodeRuneInString : Nat := 161
def id_unicode_utf8_decodeRuneInStringSlow : Nat := 171
def id_strings_Count : Nat := 150
def id_internal_bytealg_CountString : Nat := 162
def id_strings_Index : Nat := 151
def id_slices_ContainsFunc___string_string_ : Nat := 85
def id_slices_IndexFunc___string_string_ : Nat := 128
def id_impl_isLocal_1 : Nat := 146
def id_impl_AtomValid : Nat := 147
def id_impl_allBytes : Nat := 130
def id_impl_isAtomByte : Nat := 158
def id_impl_isLetter : Nat := 170
def id_impl_isDigit : Nat := 132
def id_impl_isDomain : Nat := 43
def id_impl_isDomain_1 : Nat := 87
def id_impl_isLabel : Nat := 88
def id_impl_isLabel_1 : Nat := 131
def id_impl_mailsValid : Nat := 117
def id_slices_ContainsFunc___impl_Mail_impl_Mail_ : Nat := 142
def id_slices_IndexFunc___impl_Mail_impl_Mail_ : Nat := 154
def id_impl_mailsValid_1 : Nat := 143
def id_impl_MailValid : Nat := 13
def id_impl_draftValid : Nat := 55
def id_impl_isFrom : Nat := 105
def id_impl_draftValid_1 : Nat := 106
def id_impl_areTexts : Nat := 107
def id_impl_areTexts_1 : Nat := 138
def id_impl_TextValid : Nat := 139
def id_impl_copyBoxes : Nat := 63
def id_impl_copyMails : Nat := 118
def id_impl_copyMail : Nat := 45
def id_slices_Clone___string_string_ : Nat := 75
def id_slices_Delete___impl_Mail_impl_Mail_ : Nat := 64
def id_laws_eqBoxS : Nat := 19
def id_laws_eqBox : Nat := 65
def id_laws_eqMailS : Nat := 119
def id_laws_eqMail : Nat := 20
def id_laws_eqStringS : Nat := 66
def id_laws_markBoxS : Nat := 21
def id_laws_markText : Nat := 67
def id_laws_markMailS : Nat := 68
def id_laws_markStringS : Nat := 69
def id_laws_markMail : Nat := 22
def id_laws_heldBoxS : Nat := 23
def id_laws_heldMailS : Nat := 70
def id_laws_heldStringS : Nat := 71
def id_laws_heldMail : Nat := 24
noncomputable def tabB : List (Nat × TI) := [
 (9, ⟨.str, false, 1, [(.string (bs []))]⟩),
 (3, ⟨.int .i64, false, 1, [(.int .i64 0)]⟩),
 (38, ⟨.slice 81 2 40 [(.string (bs [])), (.slice none 0 0)], false, 1, [(.slice none 0 0)]⟩),
 (40, ⟨.slice 85 2 40 [(.string (bs [])), (.slice none 0 0)], false, 1, [(.slice none 0 0)]⟩),
 (25, ⟨.struct [(0, 1, false), (1, 1, false), (2, 1, false)], true, 3, [(.string (bs [])), (.slice none 0 0), (.slice none 0 0)]⟩),
 (4, ⟨.bool, false, 1, [(.bool false)]⟩),
 (81, ⟨.struct [(0, 1, false), (1, 1, false)], true, 2, [(.string (bs [])), (.slice none 0 0)]⟩),
 (79, ⟨.slice 48 3 64 [(.string (bs [])), (.slice none 0 0), (.slice none 0 0)], false, 1, [(.slice none 0 0)]⟩),
 (48, ⟨.struct [(0, 1, false), (1, 1, false), (2, 1, false)], true, 3, [(.string (bs [])), (.slice none 0 0), (.slice none 0 0)]⟩),
 (23, ⟨.slice 9 1 16 [(.string (bs []))], false, 1, [(.slice none 0 0)]⟩),
 (85, ⟨.struct [(0, 1, false), (1, 1, false)], true, 2, [(.string (bs [])), (.slice none 0 0)]⟩),
 (83, ⟨.slice 25 3 64 [(.string (bs [])), (.slice none 0 0), (.slice none 0 0)], false, 1, [(.slice none 0 0)]⟩),
 (138, ⟨.struct [(0, 1, false), (1, 1, false), (2, 1, false)], true, 3, [(.string (bs [])), (.string (bs [])), (.string (bs []))]⟩),
 (5, ⟨.int .u8, false, 1, [(.int .u8 0)]⟩),
 (22, ⟨.slice 5 1 1 [(.int .u8 0)], false, 1, [(.slice none 0 0)]⟩),
 (123, ⟨.other, false, 1, [.nilFunc]⟩),
 (135, ⟨.int .u64, false, 1, [(.int .u64 0)]⟩),
 (153, ⟨.int .u32, false, 1, [(.int .u32 0)]⟩),
 (71, ⟨.other, false, 1, [.nilFunc]⟩),
 (21, ⟨.int .i32, false, 1, [(.int .i32 0)]⟩),
 (156, ⟨.arr 256 1, true, 256, [(.int .u8 0), (.int .u8 0), (.int .u8 0), (.int .u8 0), (.int .u8 0), (.int .u8 0), (.int .u8 0), (.int .u8 0), (.int .u8 0), (.int .u8 0), (.int .u8 0), (.int .u8 0), (.int .u8 0), (.int .u8 0), (.int .u8 0), (.int .u8 0), (.int .u8 0), (.int .u8 0), (.int .u8 0), (.int .u8 0), (.int .u8 0), (.int .u8 0), (.int .u8 0), (.int .u8 0), (.int .u8 0), (.int .u8 0), (.int .u8 0), (.int .u8 0), (.int .u8 0), (.int .u8 0), (.int .u8 0), (.int .u8 0), (.int .u8 0), (.int .u8 0), (.int .u8 0), (.int .u8 0), (.int .u8 0), (.int .u8 0), (.int .u8 0), (.int .u8 0), (.int .u8 0), (.int .u8 0), (.int .u8 0), (.int .u8 0), (.int .u8 0), (.int .u8 0), (.int .u8 0), (.int .u8 0), (.int .u8 0), (.int .u8 0), (.int .u8 0), (.int .u8 0), (.int .u8 0), (.int .u8 0), (.int .u8 0), (.int .u8 0), (.int .u8 0), (.int .u8 0), (.int .u8 0), (.int .u8 0), (.int .u8 0), (.int .u8 0), (.int .u8 0), (.int .u8 0), (.int .u8 0), (.int .u8 0), (.int .u8 0), (.int .u8 0), (.int .u8 0), (.int .u8 0), (.int .u8 0), (.int .u8 0), (.int .u8 0), (.int .u8 0), (.int .u8 0), (.int .u8 0), (.int .u8 0), (.int .u8 0), (.int .u8 0), (.int .u8 0), (.int .u8 0), (.int .u8 0), (.int .u8 0), (.int .u8 0), (.int .u8 0), (.int .u8 0), (.int .u8 0), (.int .u8 0), (.int .u8 0), (.int .u8 0), (.int .u8 0), (.int .u8 0), (.int .u8 0), (.int .u8 0), (.int .u8 0), (.int .u8 0), (.int .u8 0), (.int .u8 0), (.int .u8 0), (.int .u8 0), (.int .u8 0), (.int .u8 0), (.int .u8 0), (.int .u8 0), (.int .u8 0), (.int .u8 0), (.int .u8 0), (.int .u8 0), (.int .u8 0), (.int .u8 0), (.int .u8 0), (.int .u8 0), (.int .u8 0), (.int .u8 0), (.int .u8 0), (.int .u8 0), (.int .u8 0), (.int .u8 0), (.int .u8 0), (.int .u8 0), (.int .u8 0), (.int .u8 0), (.int .u8 0), (.int .u8 0), (.int .u8 0), (.int .u8 0), (.int .u8 0), (.int .u8 0), (.int .u8 0), (.int .u8 0), (.int .u8 0), (.int .u8 0), (.int .u8 0), (.int .u8 0), (.int .u8 0), (.int .u8 0), (.int .u8 0), (.int .u8 0), (.int .u8 0), (.int .u8 0), (.int .u8 0), (.int .u8 0), (.int .u8 0), (.int .u8 0), (.int .u8 0), (.int .u8 0), (.int .u8 0), (.int .u8 0), (.int .u8 0), (.int .u8 0), (.int .u8 0), (.int .u8 0), (.int .u8 0), (.int .u8 0), (.int .u8 0), (.int .u8 0), (.int .u8 0), (.int .u8 0), (.int .u8 0), (.int .u8 0), (.int .u8 0), (.int .u8 0), (.int .u8 0), (.int .u8 0), (.int .u8 0), (.int .u8 0), (.int .u8 0), (.int .u8 0), (.int .u8 0), (.int .u8 0), (.int .u8 0), (.int .u8 0), (.int .u8 0), (.int .u8 0), (.int .u8 0), (.int .u8 0), (.int .u8 0), (.int .u8 0), (.int .u8 0), (.int .u8 0), (.int .u8 0), (.int .u8 0), (.int .u8 0), (.int .u8 0), (.int .u8 0), (.int .u8 0), (.int .u8 0), (.int .u8 0), (.int .u8 0), (.int .u8 0), (.int .u8 0), (.int .u8 0), (.int .u8 0), (.int .u8 0), (.int .u8 0), (.int .u8 0), (.int .u8 0), (.int .u8 0), (.int .u8 0), (.int .u8 0), (.int .u8 0), (.int .u8 0), (.int .u8 0), (.int .u8 0), (.int .u8 0), (.int .u8 0), (.int .u8 0), (.int .u8 0), (.int .u8 0), (.int .u8 0), (.int .u8 0), (.int .u8 0), (.int .u8 0), (.int .u8 0), (.int .u8 0), (.int .u8 0), (.int .u8 0), (.int .u8 0), (.int .u8 0), (.int .u8 0), (.int .u8 0), (.int .u8 0), (.int .u8 0), (.int .u8 0), (.int .u8 0), (.int .u8 0), (.int .u8 0), (.int .u8 0), (.int .u8 0), (.int .u8 0), (.int .u8 0), (.int .u8 0), (.int .u8 0), (.int .u8 0), (.int .u8 0), (.int .u8 0), (.int .u8 0), (.int .u8 0), (.int .u8 0), (.int .u8 0), (.int .u8 0), (.int .u8 0), (.int .u8 0), (.int .u8 0), (.int .u8 0), (.int .u8 0), (.int .u8 0), (.int .u8 0), (.int .u8 0), (.int .u8 0), (.int .u8 0), (.int .u8 0), (.int .u8 0), (.int .u8 0), (.int .u8 0), (.int .u8 0)]⟩),
 (159, ⟨.arr 16 2, true, 32, [(.int .u8 0), (.int .u8 0), (.int .u8 0), (.int .u8 0), (.int .u8 0), (.int .u8 0), (.int .u8 0), (.int .u8 0), (.int .u8 0), (.int .u8 0), (.int .u8 0), (.int .u8 0), (.int .u8 0), (.int .u8 0), (.int .u8 0), (.int .u8 0), (.int .u8 0), (.int .u8 0), (.int .u8 0), (.int .u8 0), (.int .u8 0), (.int .u8 0), (.int .u8 0), (.int .u8 0), (.int .u8 0), (.int .u8 0), (.int .u8 0), (.int .u8 0), (.int .u8 0), (.int .u8 0), (.int .u8 0), (.int .u8 0)]⟩),
 (158, ⟨.struct [(0, 1, false), (1, 1, false)], true, 2, [(.int .u8 0), (.int .u8 0)]⟩),
 (113, ⟨.other, false, 1, [.nilFunc]⟩),
 (35, ⟨.other, false, 1, [.nilFunc]⟩)]
noncomputable def annB : List (Nat × Ann) := [
 (4, { loc := [7, 11, 17], loops := [], joins := [(31, 33, [(.ret, ⟨[4], [], []⟩), (.normal, ⟨[10, 14], [(11, (11, 0))], [(11, 3)]⟩)]), (16, 18, [(.ret, ⟨[4], [], []⟩), (.normal, ⟨[0, 1, 6, 8, 10], [(7, (7, 0)), (11, (11, 0))], [(7, 3), (11, 3)]⟩)]), (10, 12, [(.ret, ⟨[4], [], []⟩), (.normal, ⟨[0, 1, 6, 8, 9, 10, 12], [(7, (7, 0)), (11, (11, 0))], [(7, 3), (11, 3)]⟩)])], full := [], dynQ := false }),
 (15, { loc := [], loops := [(5, ⟨⟨[0, 1, 5], [], []⟩, [(.exit 0, ⟨[1], [], []⟩), (.ret, ⟨[4], [], []⟩)]⟩)], joins := [], full := [], dynQ := false }),
 (56, { loc := [2], loops := [], joins := [], full := [], dynQ := false }),
 (108, { loc := [], loops := [(5, ⟨⟨[0, 1, 5], [], []⟩, [(.exit 0, ⟨[1], [], []⟩), (.ret, ⟨[4], [], []⟩)]⟩)], joins := [], full := [], dynQ := false }),
 (25, { loc := [2], loops := [], joins := [], full := [], dynQ := false }),
 (72, { loc := [], loops := [(5, ⟨⟨[0, 1, 5], [], []⟩, [(.exit 0, ⟨[1], [], []⟩), (.ret, ⟨[4], [], []⟩)]⟩)], joins := [], full := [], dynQ := false }),
 (17, { loc := [], loops := [(3, ⟨⟨[0, 3, 4], [], []⟩, [(.exit 0, ⟨[3], [], []⟩)]⟩)], joins := [], full := [], dynQ := false }),
 (60, { loc := [1, 2, 3], loops := [], joins := [], full := [], dynQ := false }),
 (113, { loc := [], loops := [(3, ⟨⟨[0, 3, 4], [], []⟩, [(.exit 0, ⟨[3], [], []⟩)]⟩)], joins := [], full := [], dynQ := false }),
 (26, { loc := [1, 2, 3], loops := [], joins := [], full := [], dynQ := false }),
 (73, { loc := [], loops := [(3, ⟨⟨[0, 3, 4], [], []⟩, [(.exit 0, ⟨[3], [], []⟩)]⟩)], joins := [], full := [], dynQ := false }),
 (16, { loc := [5, 8], loops := [], joins := [], full := [], dynQ := false }),
 (57, { loc := [5, 9], loops := [], joins := [(2, 4, [(.ret, ⟨[4, 6], [(5, (5, 0))], [(5, 3)]⟩), (.normal, ⟨[0, 7], [(5, (5, 0))], [(5, 3)]⟩)])], full := [49], dynQ := false }),
 (109, { loc := [], loops := [(2, ⟨⟨[0, 1, 5], [], []⟩, [(.exit 0, ⟨[], [], []⟩), (.ret, ⟨[4], [], []⟩)]⟩)], joins := [], full := [], dynQ := false }),
 (110, { loc := [], loops := [(2, ⟨⟨[0, 3], [], []⟩, [(.exit 0, ⟨[0], [], []⟩), (.ret, ⟨[2], [], []⟩)]⟩), (7, ⟨⟨[0, 3, 4], [], []⟩, [(.exit 2, ⟨[0, 3], [], []⟩), (.ret, ⟨[2], [], []⟩)]⟩)], joins := [(4, 3, [(.ret, ⟨[2], [], []⟩), (.normal, ⟨[0, 3], [], []⟩)]), (4, 6, [(.ret, ⟨[2], [], []⟩), (.normal, ⟨[0, 3], [], []⟩)]), (2, 4, [(.normal, ⟨[0, 3], [], []⟩), (.exit 0, ⟨[0], [], []⟩)])], full := [], dynQ := false }),
 (120, { loc := [3], loops := [], joins := [], full := [], dynQ := false }),
 (144, { loc := [2, 7], loops := [], joins := [], full := [], dynQ := false }),
 (155, { loc := [], loops := [(2, ⟨⟨[0, 1, 7], [], []⟩, [(.exit 0, ⟨[0], [], []⟩), (.ret, ⟨[4, 5, 6], [], []⟩)]⟩)], joins := [], full := [], dynQ := false }),
 (163, { loc := [], loops := [(3, ⟨⟨[0, 6, 7], [], []⟩, [(.exit 0, ⟨[], [], []⟩), (.ret, ⟨[4, 5], [], []⟩)]⟩)], joins := [(5, 4, [(.ret, ⟨[4, 5], [], []⟩), (.normal, ⟨[0, 6, 7], [], []⟩)]), (7, 11, [(.ret, ⟨[4, 5], [], []⟩), (.normal, ⟨[0, 6, 7], [], []⟩)])], full := [], dynQ := false }),
 (153, { loc := [], loops := [(3, ⟨⟨[3, 4], [], []⟩, [(.exit 0, ⟨[3], [], []⟩)]⟩)], joins := [(5, 4, [(.normal, ⟨[3, 4], [], []⟩)])], full := [], dynQ := false }),
 (156, { loc := [1], loops := [], joins := [], full := [], dynQ := false }),
 (164, { loc := [], loops := [], joins := [], full := [], dynQ := false }),
 (135, { loc := [], loops := [(2, ⟨⟨[0, 3], [], []⟩, [(.exit 0, ⟨[0], [], []⟩), (.ret, ⟨[2], [], []⟩)]⟩)], joins := [(4, 3, [(.ret, ⟨[2], [], []⟩), (.normal, ⟨[0, 3], [], []⟩)]), (2, 4, [(.normal, ⟨[0, 3], [], []⟩), (.exit 0, ⟨[0], [], []⟩)])], full := [], dynQ := false }),
 (165, { loc := [], loops := [(3, ⟨⟨[0, 3, 4], [], []⟩, [(.exit 0, ⟨[0], [], []⟩), (.ret, ⟨[2], [], []⟩)]⟩)], joins := [], full := [], dynQ := false }),
 (96, { loc := [], loops := [(4, ⟨⟨[0, 1, 5, 6, 7], [], []⟩, [(.exit 0, ⟨[0, 5, 6], [], []⟩)]⟩)], joins := [(6, 5, [(.normal, ⟨[0, 1, 5, 6, 7], [], []⟩)])], full := [], dynQ := false }),
 (172, { loc := [], loops := [(2, ⟨⟨[0, 3], [], []⟩, [(.exit 0, ⟨[0], [], []⟩), (.ret, ⟨[2], [], []⟩)]⟩)], joins := [(2, 4, [(.normal, ⟨[0, 3], [], []⟩), (.exit 0, ⟨[0], [], []⟩)])], full := [], dynQ := false }),
 (175, { loc := [], loops := [(2, ⟨⟨[0, 3], [], []⟩, [(.exit 0, ⟨[0], [], []⟩), (.ret, ⟨[2], [], []⟩)]⟩)], joins := [], full := [], dynQ := false }),
 (97, { loc := [], loops := [], joins := [], full := [], dynQ := false }),
 (49, { loc := [], loops := [(3, ⟨⟨[0, 3, 4], [], []⟩, [(.exit 0, ⟨[0], [], []⟩), (.ret, ⟨[2], [], []⟩)]⟩), (9, ⟨⟨[0, 3, 4, 5, 6], [], []⟩, [(.exit 2, ⟨[0, 3, 4], [], []⟩), (.ret, ⟨[2], [], []⟩)]⟩)], joins := [(5, 4, [(.ret, ⟨[2], [], []⟩), (.normal, ⟨[0, 3, 4], [], []⟩)]), (11, 10, [(.ret, ⟨[2], [], []⟩), (.normal, ⟨[0, 3, 4, 5, 6], [], []⟩)]), (6, 8, [(.ret, ⟨[2], [], []⟩), (.normal, ⟨[0, 3, 4, 5], [], []⟩)])], full := [], dynQ := false }),
 (48, { loc := [1], loops := [], joins := [], full := [], dynQ := false }),
 (95, { loc := [1], loops := [(9, ⟨⟨[4], [(1, (1, 0))], [(1, 3)]⟩, [(.exit 2, ⟨[], [], []⟩), (.ret, ⟨[2], [], []⟩)]⟩), (4, ⟨⟨[3], [(1, (1, 0))], [(1, 3)]⟩, [(.exit 0, ⟨[], [(1, (1, 0))], [(1, 3)]⟩), (.ret, ⟨[2], [], []⟩)]⟩)], joins := [(1, 3, [(.ret, ⟨[2], [], []⟩), (.normal, ⟨[], [(1, (1, 0))], [(1, 3)]⟩)])], full := [], dynQ := false }),
 (111, { loc := [5], loops := [(3, ⟨⟨[0, 3, 4], [], []⟩, [(.exit 0, ⟨[3], [], []⟩)]⟩), (7, ⟨⟨[0, 3, 4, 6], [(5, (5, 0))], [(5, 2)]⟩, [(.exit 2, ⟨[0, 3, 4], [(5, (5, 0))], [(5, 2)]⟩)]⟩)], joins := [], full := [], dynQ := false }),
 (52, { loc := [1, 2], loops := [], joins := [], full := [8, 12], dynQ := false }),
 (58, { loc := [5], loops := [(3, ⟨⟨[3, 7, 8, 9], [], []⟩, [(.exit 0, ⟨[3], [], []⟩)]⟩)], joins := [], full := [], dynQ := false }),
 (112, { loc := [1, 2], loops := [], joins := [], full := [], dynQ := false }),
 (140, { loc := [5], loops := [(3, ⟨⟨[3, 7, 8, 9], [], []⟩, [(.exit 0, ⟨[3], [], []⟩)]⟩)], joins := [], full := [], dynQ := false }),
 (59, { loc := [1, 2], loops := [], joins := [], full := [6, 11], dynQ := false }),
 (18, { loc := [5, 10], loops := [], joins := [(2, 4, [(.ret, ⟨[4, 6], [(5, (5, 0))], [(5, 3)]⟩), (.normal, ⟨[0, 7], [(5, (5, 0))], [(5, 3)]⟩)])], full := [], dynQ := false }),
 (61, { loc := [], loops := [], joins := [], full := [], dynQ := false }),
 (114, { loc := [], loops := [(3, ⟨⟨[0, 1, 2, 8, 9, 10], [], []⟩, [(.exit 0, ⟨[0, 1, 2, 8, 9], [], []⟩)]⟩)], joins := [], full := [], dynQ := true }),
 (115, { loc := [2], loops := [], joins := [], full := [], dynQ := false }),
 (116, { loc := [], loops := [], joins := [], full := [], dynQ := false }),
 (141, { loc := [], loops := [], joins := [], full := [], dynQ := false }),
 (62, { loc := [4], loops := [(2, ⟨⟨[0, 5, 6, 7], [], []⟩, [(.exit 0, ⟨[0], [], []⟩), (.ret, ⟨[2], [], []⟩)]⟩)], joins := [], full := [], dynQ := false }),
 (77, { loc := [], loops := [], joins := [], full := [], dynQ := false }),
 (121, { loc := [], loops := [], joins := [], full := [], dynQ := false }),
 (145, { loc := [], loops := [], joins := [], full := [], dynQ := false }),
 (157, { loc := [], loops := [(15, ⟨⟨[0, 1, 5, 6, 7, 8, 9, 10], [], []⟩, [(.exit 1, ⟨[], [], []⟩), (.ret, ⟨[4], [], []⟩)]⟩)], joins := [(21, 23, [(.ret, ⟨[4], [], []⟩), (.normal, ⟨[0, 1, 5, 6, 7, 8, 9, 10], [], []⟩)]), (16, 21, [(.ret, ⟨[4], [], []⟩), (.normal, ⟨[0, 1, 5, 6, 7, 8, 9, 10], [], []⟩)]), (2, 10, [(.ret, ⟨[4], [], []⟩), (.normal, ⟨[0, 1, 5], [], []⟩)])], full := [], dynQ := false }),
 (166, { loc := [], loops := [], joins := [], full := [], dynQ := false }),
 (168, { loc := [], loops := [], joins := [], full := [], dynQ := false }),
 (169, { loc := [], loops := [(11, ⟨⟨[0, 1, 5, 6, 7, 8, 10], [], []⟩, [(.exit 2, ⟨[], [], []⟩), (.ret, ⟨[4], [], []⟩)]⟩), (5, ⟨⟨[0, 1, 5, 6, 7, 8, 9], [], []⟩, [(.exit 0, ⟨[0, 1, 5, 6, 7, 8], [], []⟩)]⟩)], joins := [(8, 10, [(.ret, ⟨[4], [], []⟩), (.normal, ⟨[0, 1, 5, 6, 7, 8], [], []⟩)])], full := [], dynQ := false }),
 (174, { loc := [], loops := [(8, ⟨⟨[4, 6, 7, 8], [], []⟩, [(.exit 2, ⟨[4, 6], [], []⟩)]⟩), (3, ⟨⟨[0, 4, 5], [], []⟩, [(.exit 0, ⟨[0, 4], [], []⟩)]⟩)], joins := [(10, 9, [(.normal, ⟨[4, 6, 7, 8], [], []⟩)]), (10, 12, [(.normal, ⟨[4, 6, 7, 8], [], []⟩)])], full := [], dynQ := false }),
 (122, { loc := [], loops := [], joins := [], full := [], dynQ := false }),
 (86, { loc := [], loops := [], joins := [], full := [], dynQ := false }),
 (129, { loc := [], loops := [(11, ⟨⟨[0, 1, 2, 3, 9, 10], [], []⟩, [(.exit 0, ⟨[0, 9, 10], [], []⟩)]⟩)], joins := [(5, 7, [(.normal, ⟨[0, 1, 2, 3], [], []⟩)])], full := [], dynQ := false }),
 (149, { loc := [], loops := [(6, ⟨⟨[0, 1, 6, 7], [], []⟩, [(.exit 0, ⟨[0, 1, 6], [], []⟩)]⟩)], joins := [(2, 4, [(.normal, ⟨[0, 1], [], []⟩)])], full := [], dynQ := false }),
 (160, { loc := [], loops := [], joins := [], full := [], dynQ := false }),
 (161, { loc := [], loops := [], joins := [], full := [], dynQ := false }),
 (171, { loc := [9], loops := [], joins := [], full := [], dynQ := false }),
 (150, { loc := [], loops := [(6, ⟨⟨[0, 1, 5], [], []⟩, [(.ret, ⟨[4], [], []⟩)]⟩)], joins := [], full := [], dynQ := false }),
 (151, { loc := [], loops := [], joins := [], full := [], dynQ := false }),
 (85, { loc := [], loops := [], joins := [], full := [], dynQ := false }),
 (128, { loc := [], loops := [(2, ⟨⟨[0, 1, 7, 8], [], []⟩, [(.exit 0, ⟨[], [], []⟩), (.ret, ⟨[4], [], []⟩)]⟩)], joins := [], full := [], dynQ := true }),
 (146, { loc := [], loops := [], joins := [], full := [], dynQ := false }),
 (147, { loc := [], loops := [], joins := [], full := [], dynQ := false }),
 (130, { loc := [], loops := [(2, ⟨⟨[0, 1, 7, 8], [], []⟩, [(.exit 0, ⟨[], [], []⟩), (.ret, ⟨[4], [], []⟩)]⟩)], joins := [], full := [], dynQ := true }),
 (158, { loc := [], loops := [], joins := [], full := [], dynQ := false }),
 (170, { loc := [], loops := [], joins := [], full := [], dynQ := false }),
 (132, { loc := [], loops := [], joins := [], full := [], dynQ := false }),
 (43, { loc := [], loops := [], joins := [], full := [], dynQ := false }),
 (87, { loc := [], loops := [], joins := [], full := [], dynQ := false }),
 (88, { loc := [], loops := [], joins := [], full := [], dynQ := false }),
 (131, { loc := [], loops := [], joins := [], full := [], dynQ := false }),
 (117, { loc := [], loops := [], joins := [], full := [], dynQ := false }),
 (142, { loc := [], loops := [], joins := [], full := [], dynQ := false }),
 (154, { loc := [], loops := [(2, ⟨⟨[0, 1, 7, 8], [], []⟩, [(.exit 0, ⟨[], [], []⟩), (.ret, ⟨[4], [], []⟩)]⟩)], joins := [], full := [], dynQ := true }),
 (143, { loc := [1], loops := [], joins := [], full := [], dynQ := false }),
 (13, { loc := [1], loops := [], joins := [], full := [], dynQ := false }),
 (55, { loc := [3], loops := [], joins := [], full := [], dynQ := false }),
 (105, { loc := [], loops := [], joins := [], full := [], dynQ := false }),
 (106, { loc := [], loops := [], joins := [], full := [], dynQ := false }),
 (107, { loc := [], loops := [], joins := [], full := [], dynQ := false }),
 (138, { loc := [], loops := [], joins := [], full := [], dynQ := false }),
 (139, { loc := [], loops := [(2, ⟨⟨[0, 5, 6], [], []⟩, [(.exit 0, ⟨[0], [], []⟩), (.ret, ⟨[2], [], []⟩)]⟩)], joins := [], full := [], dynQ := false }),
 (63, { loc := [5], loops := [(3, ⟨⟨[3, 7, 8, 9], [], []⟩, [(.exit 0, ⟨[3], [], []⟩)]⟩)], joins := [], full := [], dynQ := false }),
 (118, { loc := [5], loops := [(3, ⟨⟨[3, 7, 8, 9], [], []⟩, [(.exit 0, ⟨[3], [], []⟩)]⟩)], joins := [], full := [], dynQ := false }),
 (45, { loc := [1, 2], loops := [], joins := [], full := [], dynQ := false }),
 (75, { loc := [], loops := [], joins := [], full := [7], dynQ := false }),
 (19, { loc := [], loops := [(4, ⟨⟨[0, 1, 5], [], []⟩, [(.exit 0, ⟨[], [], []⟩), (.ret, ⟨[4], [], []⟩)]⟩)], joins := [], full := [], dynQ := false }),
 (65, { loc := [2, 3], loops := [], joins := [], full := [], dynQ := false }),
 (119, { loc := [], loops := [(4, ⟨⟨[0, 1, 5], [], []⟩, [(.exit 0, ⟨[], [], []⟩), (.ret, ⟨[4], [], []⟩)]⟩)], joins := [], full := [], dynQ := false }),
 (20, { loc := [2, 3], loops := [], joins := [], full := [], dynQ := false }),
 (66, { loc := [], loops := [(4, ⟨⟨[0, 1, 5], [], []⟩, [(.exit 0, ⟨[], [], []⟩), (.ret, ⟨[4], [], []⟩)]⟩)], joins := [], full := [], dynQ := false }),
 (21, { loc := [], loops := [(2, ⟨⟨[0, 1, 5], [], []⟩, [(.exit 0, ⟨[1], [], []⟩)]⟩)], joins := [], full := [], dynQ := false }),
 (67, { loc := [], loops := [(4, ⟨⟨[0, 3], [], []⟩, [(.exit 0, ⟨[3], [], []⟩)]⟩)], joins := [], full := [], dynQ := false }),
 (68, { loc := [], loops := [(2, ⟨⟨[0, 1, 5], [], []⟩, [(.exit 0, ⟨[1], [], []⟩)]⟩)], joins := [], full := [], dynQ := false }),
 (69, { loc := [], loops := [(2, ⟨⟨[0, 1, 5], [], []⟩, [(.exit 0, ⟨[1], [], []⟩)]⟩)], joins := [], full := [], dynQ := false }),
 (22, { loc := [2], loops := [], joins := [], full := [], dynQ := false }),
 (23, { loc := [], loops := [(2, ⟨⟨[0, 1, 5], [], []⟩, [(.exit 0, ⟨[1], [], []⟩), (.ret, ⟨[4], [], []⟩)]⟩)], joins := [], full := [], dynQ := false }),
 (70, { loc := [], loops := [(2, ⟨⟨[0, 1, 5], [], []⟩, [(.exit 0, ⟨[1], [], []⟩), (.ret, ⟨[4], [], []⟩)]⟩)], joins := [], full := [], dynQ := false }),
 (71, { loc := [], loops := [(2, ⟨⟨[0, 1, 5], [], []⟩, [(.exit 0, ⟨[1], [], []⟩), (.ret, ⟨[4], [], []⟩)]⟩)], joins := [], full := [], dynQ := false }),
 (24, { loc := [2], loops := [], joins := [], full := [], dynQ := false })]
noncomputable def fnB : List (Nat × Func) := [
 (4, Tryz.f4), (15, Tryz.f15), (56, Tryz.f56), (108, Tryz.f108), (25, Tryz.f25), (72, Tryz.f72), (17, Tryz.f17), (60, Tryz.f60), (113, Tryz.f113), (26, Tryz.f26), (73, Tryz.f73), (16, Tryz.f16), (57, Tryz.f57), (109, Tryz.f109), (110, Tryz.f110), (120, Tryz.f120), (144, Tryz.f144), (155, Tryz.f155), (163, Tryz.f163), (153, Tryz.f153), (156, Tryz.f156), (164, Tryz.f164), (135, Tryz.f135), (165, Tryz.f165), (96, Tryz.f96), (172, Tryz.f172), (175, Tryz.f175), (97, Tryz.f97), (49, Tryz.f49), (48, Tryz.f48), (95, Tryz.f95), (111, Tryz.f111), (52, Tryz.f52), (58, Tryz.f58), (112, Tryz.f112), (140, Tryz.f140), (59, Tryz.f59), (18, Tryz.f18), (61, Tryz.f61), (114, Tryz.f114), (115, Tryz.f115), (116, Tryz.f116), (141, Tryz.f141), (62, Tryz.f62), (77, Tryz.f77), (121, Tryz.f121), (145, Tryz.f145), (157, Tryz.f157), (166, Tryz.f166), (168, Tryz.f168), (169, Tryz.f169), (174, Tryz.f174), (122, Tryz.f122), (86, Tryz.f86), (129, Tryz.f129), (149, Tryz.f149), (160, Tryz.f160), (161, Tryz.f161), (171, Tryz.f171), (150, Tryz.f150), (151, Tryz.f151), (85, Tryz.f85), (128, Tryz.f128), (146, Tryz.f146), (147, Tryz.f147), (130, Tryz.f130), (158, Tryz.f158), (170, Tryz.f170), (132, Tryz.f132), (43, Tryz.f43), (87, Tryz.f87), (88, Tryz.f88), (131, Tryz.f131), (117, Tryz.f117), (142, Tryz.f142), (154, Tryz.f154), (143, Tryz.f143), (13, Tryz.f13), (55, Tryz.f55), (105, Tryz.f105), (106, Tryz.f106), (107, Tryz.f107), (138, Tryz.f138), (139, Tryz.f139), (63, Tryz.f63), (118, Tryz.f118), (45, Tryz.f45), (75, Tryz.f75), (19, Tryz.f19), (65, Tryz.f65), (119, Tryz.f119), (20, Tryz.f20), (66, Tryz.f66), (21, Tryz.f21), (67, Tryz.f67), (68, Tryz.f68), (69, Tryz.f69), (22, Tryz.f22), (23, Tryz.f23), (70, Tryz.f70), (71, Tryz.f71), (24, Tryz.f24)]
def quietB : List Nat := [4, 15, 56, 108, 25, 72, 109, 110, 120, 155, 163, 153, 156, 164, 135, 165, 172, 175, 97, 49, 48, 95, 61, 114, 115, 116, 141, 62, 77, 121, 145, 157, 166, 168, 169, 174, 122, 160, 161, 171, 150, 151, 85, 128, 146, 147, 130, 158, 170, 132, 43, 87, 88, 131, 117, 142, 154, 143, 13, 55, 105, 106, 107, 138, 139, 19, 65, 119, 20, 66, 67, 23, 70, 71, 24]
def addsB : List Nat := [16, 57, 144, 96, 111, 52, 58, 112, 140, 59, 18, 86, 129, 149, 63, 118, 45, 75]
def takesB : List (Nat × List Nat) := [(4, [4, 19, 4, 5, 23, 5, 25, 4, 30, 27, 8, 39, 37, 12, 48, 54, 55, 56, 4, 4, 13, 65, 13, 67, 69, 75, 81, 82, 83, 4, 14, 87, 14, 90, 14, 15, 93, 15, 95, 4, 98, 15, 100, 4, 102, 103, 4, 108, 105, 18, 117, 123, 124, 125, 4, 15, 129, 15, 131, 4, 134, 15, 136, 4, 138, 139, 4, 4, 2000024, 2000029, 2000031, 2000036, 2000040, 5000040, 3000040, 2000046, 2000051, 2000061, 2000062, 2000066, 2000072, 2000078, 2000088, 2000091, 2000094, 2000099, 2000107, 2000109, 5000109, 3000109, 2000115, 2000120, 2000130, 2000135]), (15, [4, 6, 1, 10, 4, 5, 12, 19, 22, 1, 24, 4, 16, 5, 26, 4]), (56, [4, 5, 1, 10, 4, 14, 1, 16, 4, 18, 4]), (108, [4, 6, 1, 10, 4, 5, 12, 19, 22, 1, 24, 4, 16, 5, 26, 4]), (25, [4, 5, 1, 10, 4, 14, 1, 16, 4, 20, 1, 22, 4, 24, 4]), (72, [4, 6, 1, 10, 4, 5, 12, 18, 20, 1, 25, 4, 16, 5, 27, 4]), (17, [2, 3, 4, 8, 15, 17, 12, 4, 22, 2]), (60, [11]), (113, [2, 3, 4, 8, 15, 17, 12, 4, 22, 2]), (26, [15]), (73, [2, 3, 4, 8, 15, 17, 12, 4, 21, 2]), (16, [4, 6, 12, 10, 9, 21, 4, 6]), (57, [4, 6, 11, 7, 16, 17, 20, 22, 4, 6, 8, 34, 39, 41, 44, 52, 53, 4, 6, 2000012, 2000014, 2000032, 1000032, 2000049]), (109, [4, 5, 6, 13, 17, 19, 4, 10, 5, 4]), (110, [2, 3, 5, 9, 10, 16, 22, 24, 31, 32, 34, 36, 42, 2, 4, 49, 51, 60, 64, 2, 57, 4, 13, 3, 2]), (120, [2, 6, 5, 4, 10, 11, 18, 2]), (144, [3, 9, 8, 4, 5, 6, 14, 15, 19, 20, 3]), (155, [4, 5, 6, 7, 10, 11, 14, 15, 19, 20, 18, 8, 9, 24, 26, 4, 5, 6, 27, 7, 28, 29, 31, 33, 34, 36, 37, 4, 5, 6, 40, 7, 42, 4, 5, 6]), (163, [4, 5, 6, 8, 7, 10, 11, 16, 17, 20, 21, 4, 5, 23, 24, 27, 7, 29, 30, 4, 5, 33, 34, 35, 36, 6, 14, 7, 4, 5]), (153, [2, 5, 4, 7, 14, 18, 20, 26, 28, 11, 4, 2]), (156, [2, 6, 12, 17, 23, 2]), (164, [2, 3, 5, 6, 2]), (135, [2, 3, 4, 5, 8, 9, 14, 15, 18, 19, 20, 2, 12, 3, 24, 2]), (165, [2, 5, 4, 7, 14, 2, 11, 4, 19, 2]), (96, [4, 5, 6, 7, 9, 10, 15, 16, 18, 20, 21, 22, 23, 5, 27, 6, 13, 7, 29, 30, 31, 4]), (172, [2, 3, 4, 5, 8, 9, 14, 15, 2, 12, 3, 19, 22, 23, 2]), (175, [2, 3, 4, 8, 9, 2, 6, 3, 12, 2]), (97, [2, 3, 5, 6, 9, 10, 12, 13, 17, 18, 20, 21, 2]), (49, [2, 7, 4, 9, 16, 5, 19, 21, 22, 26, 27, 28, 2, 6, 34, 35, 40, 41, 45, 46, 47, 51, 52, 53, 56, 57, 58, 2, 38, 6, 13, 4, 63, 2]), (48, [2, 5, 11, 2]), (95, [2, 8, 14, 20, 2, 3, 26, 35, 2, 31, 3, 4, 40, 49, 2, 45, 4, 2]), (111, [2, 3, 4, 8, 15, 6, 20, 22, 31, 33, 37, 28, 6, 44, 45, 3, 12, 4, 48, 2]), (52, [7, 11]), (58, [2, 3, 9, 13, 3, 9, 19, 2]), (112, [7]), (140, [2, 3, 9, 13, 3, 9, 19, 2]), (59, [5, 10, 13]), (18, [4, 6, 13, 11, 7, 8, 20, 21, 24, 26, 4, 6, 9, 37, 42, 44, 46, 53, 54, 4, 6, 2000014, 2000018, 2000035, 3000035, 4000035, 2000050]), (61, [4, 5, 7, 4, 5]), (114, [6, 7, 8, 14, 9, 10, 15, 16, 18, 19, 11, 24, 26, 29, 32, 9, 34, 10, 35, 36, 37, 39, 40, 42, 45, 6, 7]), (115, [4, 7, 4]), (116, [4, 7, 5, 9, 6, 11, 12, 4, 4, 13, 4, 14, 15, 4, 17, 18, 4, 4]), (141, [2, 3, 4, 2]), (62, [2, 7, 9, 3, 16, 22, 23, 25, 27, 2, 7, 2]), (77, [2, 7, 6, 3, 4, 5, 12, 13, 14, 17, 18, 2]), (121, [4, 5, 6, 7, 8, 4, 5, 6]), (145, [4, 5, 6, 8, 9, 7, 11, 13, 14, 16, 17, 18, 4, 5, 6, 22, 4, 5, 6]), (157, [4, 14, 5, 17, 19, 20, 21, 16, 4, 25, 24, 27, 28, 4, 32, 33, 31, 4, 37, 40, 41, 36, 45, 46, 4, 48, 6, 50, 7, 8, 52, 54, 9, 10, 57, 58, 60, 61, 63, 65, 66, 68, 70, 11, 72, 4, 74, 75, 8, 78, 79, 82, 84, 85, 86, 87, 88, 91, 94, 4, 95, 8, 97, 10, 99, 102, 103, 104, 108, 109, 111, 12, 113, 115, 116, 4, 4, 118, 121, 122, 123, 128, 129, 130, 133, 134, 136, 13, 138, 4, 140, 141, 4, 4]), (166, [4, 5, 6, 4]), (168, [2, 3, 2]), (169, [4, 12, 11, 5, 6, 16, 7, 8, 9, 18, 19, 23, 25, 26, 8, 21, 9, 30, 31, 33, 34, 35, 37, 4, 40, 10, 41, 42, 45, 8, 47, 48, 49, 8, 53, 54, 55, 56, 57, 8, 63, 10, 65, 66, 68, 69, 70, 71, 73, 75, 78, 79, 4, 4]), (174, [2, 3, 4, 5, 9, 10, 15, 17, 18, 4, 13, 5, 6, 7, 22, 8, 24, 28, 31, 32, 6, 34, 35, 7, 26, 8, 37, 38, 2, 3]), (122, [2, 3, 6, 7, 2]), (86, [4, 5, 6, 4]), (129, [8, 12, 8, 14, 16, 17, 8, 19, 21, 22, 3, 25, 26, 3, 30, 32, 3, 10, 34, 35, 37, 38, 11, 40, 43, 44, 45, 46, 50, 51, 52, 0, 56, 10, 59, 60, 63, 8]), (149, [4, 10, 5, 12, 14, 15, 16, 19, 1, 20, 6, 7, 22, 23, 29, 28, 8, 9, 34, 35, 36, 39, 40, 0, 26, 7, 42, 45, 47, 49, 4]), (160, [2, 3, 7, 2, 9, 2]), (161, [2, 3, 4, 6, 7, 11, 2, 3, 15, 14, 2, 3]), (171, [2, 3, 13, 4, 15, 2, 3, 17, 5, 19, 6, 22, 24, 7, 28, 31, 33, 2, 3, 36, 8, 39, 43, 44, 2, 3, 46, 10, 48, 52, 55, 2, 3, 58, 60, 64, 2, 3, 68, 11, 70, 72, 73, 2, 3, 76, 78, 82, 87, 2, 3, 91, 12, 93, 95, 96, 2, 3, 99, 103, 108, 113, 2, 3]), (150, [4, 7, 10, 4, 13, 16, 17, 4, 5, 20, 21, 6, 23, 25, 4, 26, 5, 28, 29, 30, 0]), (151, [4, 5, 6, 4]), (85, [4, 6, 4]), (128, [4, 8, 10, 5, 11, 13, 17, 4, 8, 4]), (146, [2, 3, 2]), (147, [2, 3, 6, 7, 11, 12, 2]), (130, [4, 6, 8, 10, 5, 11, 12, 13, 4, 8, 4]), (158, [2, 3, 5, 6, 9, 10, 13, 14, 16, 17, 21, 22, 25, 26, 29, 30, 33, 34, 37, 38, 41, 42, 45, 46, 48, 49, 53, 54, 56, 57, 2]), (170, [2, 3, 5, 6, 9, 10, 12, 13, 2]), (132, [2, 3, 5, 6, 2]), (43, [2, 3, 6, 7, 2]), (87, [2, 3, 2]), (88, [2, 3, 5, 6, 10, 11, 12, 18, 19, 2]), (131, [2, 3, 5, 6, 9, 10, 13, 14, 2]), (117, [4, 7, 9, 4]), (142, [4, 6, 4]), (154, [4, 8, 10, 5, 11, 13, 17, 4, 8, 4]), (143, [2, 2]), (13, [2, 2]), (55, [6, 10, 14, 17, 23, 29, 32, 6]), (105, [2, 3, 5, 6, 2]), (106, [2, 3, 2]), (107, [4, 7, 9, 4]), (138, [2, 3, 2]), (139, [2, 4, 6, 8, 3, 9, 10, 13, 14, 15, 2, 6, 20, 2]), (63, [2, 3, 9, 12, 13, 3, 9, 23, 2]), (118, [2, 3, 9, 13, 3, 9, 19, 2]), (75, [2, 2, 6, 2]), (19, [4, 4, 5, 11, 18, 22, 4, 15, 5, 4]), (65, [4, 4, 4, 4]), (119, [4, 4, 5, 11, 18, 22, 4, 15, 5, 4]), (20, [4, 4, 4, 4, 4]), (66, [4, 4, 5, 11, 18, 22, 4, 15, 5, 4]), (21, [4, 5, 6, 13, 14, 18, 1, 21, 25, 1, 10, 5, 27, 4]), (67, [2, 4, 2, 3, 6, 8, 14, 3, 16, 0, 18, 2]), (68, [4, 5, 6, 13, 14, 18, 1, 21, 25, 1, 28, 32, 1, 10, 5, 34, 4]), (69, [4, 5, 6, 13, 14, 17, 1, 10, 5, 19, 4]), (22, [4, 7, 1, 11, 1, 13, 4]), (23, [4, 5, 6, 13, 17, 4, 20, 1, 23, 27, 1, 29, 4, 10, 5, 31, 4]), (70, [4, 5, 6, 13, 17, 4, 20, 1, 23, 27, 1, 29, 4, 32, 36, 1, 38, 4, 10, 5, 40, 4]), (71, [4, 5, 6, 13, 16, 4, 19, 1, 10, 5, 21, 4]), (24, [4, 7, 1, 9, 4, 13, 1, 15, 4, 17, 4])]
def mvB : List (Nat × List Nat) := []
def extsB : List (Nat × Nat) := [(173, 0), (167, 2), (162, 1)]
noncomputable def primA : List (Nat × (List Value -> Heap -> Option (Value × Heap))) := [(64, hDel 3)]
noncomputable def primV : List (Nat × (List V -> VH -> Option (V × VH))) := [(64, delV 3)]
noncomputable def base : Base where
 ng := 0
 tab := tabB
 fn := Go.AM.look fnB
 ann := annOf annB
 kind := kindX quietB addsB extsB
 ext := extA
 prim := fun f => Go.AM.look primA f
def globB : Nat -> Option (List V) := fun _ => none
noncomputable def vb : BaseV where
 b := base
 glob := globB
 takes := listOf takesB
 mv := listOf mvB
 prim := fun f => Go.AM.look primV f
noncomputable def cv : CallV := callV vb
noncomputable def pc : FuncId -> List V -> Option V := pcall cv
noncomputable def qc : FuncId -> List V -> Option V := qpcall cv
noncomputable def pco : FuncId -> VH -> List V -> Option V := pcallO cv
noncomputable def pcu : FuncId -> VH -> List V -> Option V := pcallU cv
noncomputable def qco : FuncId -> VH -> List V -> Option V := qpcallO cv
set_option maxRecDepth 100000 in
theorem fns : FnsOk Tryz.prog fnB := by
 unfold fnB
 refine ⟨⟨rfl, by kernel_rfl⟩, ⟨rfl, by kernel_rfl⟩, ⟨rfl, by kernel_rfl⟩, ⟨rfl, by kernel_rfl⟩, ⟨rfl, by kernel_rfl⟩, ⟨rfl, by kernel_rfl⟩, ⟨rfl, by kernel_rfl⟩, ⟨rfl, by kernel_rfl⟩, ⟨rfl, by kernel_rfl⟩, ⟨rfl, by kernel_rfl⟩, ⟨rfl, by kernel_rfl⟩, ⟨rfl, by kernel_rfl⟩, ⟨rfl, by kernel_rfl⟩, ⟨rfl, by kernel_rfl⟩, ⟨rfl, by kernel_rfl⟩, ⟨rfl, by kernel_rfl⟩, ⟨rfl, by kernel_rfl⟩, ⟨rfl, by kernel_rfl⟩, ⟨rfl, by kernel_rfl⟩, ⟨rfl, by kernel_rfl⟩, ⟨rfl, by kernel_rfl⟩, ⟨rfl, by kernel_rfl⟩, ⟨rfl, by kernel_rfl⟩, ⟨rfl, by kernel_rfl⟩, ⟨rfl, by kernel_rfl⟩, ⟨rfl, by kernel_rfl⟩, ⟨rfl, by kernel_rfl⟩, ⟨rfl, by kernel_rfl⟩, ⟨rfl, by kernel_rfl⟩, ⟨rfl, by kernel_rfl⟩, ⟨rfl, by kernel_rfl⟩, ⟨rfl, by kernel_rfl⟩, ⟨rfl, by kernel_rfl⟩, ⟨rfl, by kernel_rfl⟩, ⟨rfl, by kernel_rfl⟩, ⟨rfl, by kernel_rfl⟩, ⟨rfl, by kernel_rfl⟩, ⟨rfl, by kernel_rfl⟩, ⟨rfl, by kernel_rfl⟩, ⟨rfl, by kernel_rfl⟩, ⟨rfl, by kernel_rfl⟩, ⟨rfl, by kernel_rfl⟩, ⟨rfl, by kernel_rfl⟩, ⟨rfl, by kernel_rfl⟩, ⟨rfl, by kernel_rfl⟩, ⟨rfl, by kernel_rfl⟩, ⟨rfl, by kernel_rfl⟩, ⟨rfl, by kernel_rfl⟩, ⟨rfl, by kernel_rfl⟩, ⟨rfl, by kernel_rfl⟩, ⟨rfl, by kernel_rfl⟩, ⟨rfl, by kernel_rfl⟩, ⟨rfl, by kernel_rfl⟩, ⟨rfl, by kernel_rfl⟩, ⟨rfl, by kernel_rfl⟩, ⟨rfl, by kernel_rfl⟩, ⟨rfl, by kernel_rfl⟩, ⟨rfl, by kernel_rfl⟩, ⟨rfl, by kernel_rfl⟩, ⟨rfl, by kernel_rfl⟩, ⟨rfl, by kernel_rfl⟩, ⟨rfl, by kernel_rfl⟩, ⟨rfl, by kernel_rfl⟩, ⟨rfl, by kernel_rfl⟩, ⟨rfl, by kernel_rfl⟩, ⟨rfl, by kernel_rfl⟩, ⟨rfl, by kernel_rfl⟩, ⟨rfl, by kernel_rfl⟩, ⟨rfl, by kernel_rfl⟩, ⟨rfl, by kernel_rfl⟩, ⟨rfl, by kernel_rfl⟩, ⟨rfl, by kernel_rfl⟩, ⟨rfl, by kernel_rfl⟩, ⟨rfl, by kernel_rfl⟩, ⟨rfl, by kernel_rfl⟩, ⟨rfl, by kernel_rfl⟩, ⟨rfl, by kernel_rfl⟩, ⟨rfl, by kernel_rfl⟩, ⟨rfl, by kernel_rfl⟩, ⟨rfl, by kernel_rfl⟩, ⟨rfl, by kernel_rfl⟩, ⟨rfl, by kernel_rfl⟩, ⟨rfl, by kernel_rfl⟩, ⟨rfl, by kernel_rfl⟩, ⟨rfl, by kernel_rfl⟩, ⟨rfl, by kernel_rfl⟩, ⟨rfl, by kernel_rfl⟩, ⟨rfl, by kernel_rfl⟩, ⟨rfl, by kernel_rfl⟩, ⟨rfl, by kernel_rfl⟩, ⟨rfl, by kernel_rfl⟩, ⟨rfl, by kernel_rfl⟩, ⟨rfl, by kernel_rfl⟩, ⟨rfl, by kernel_rfl⟩, ⟨rfl, by kernel_rfl⟩, ⟨rfl, by kernel_rfl⟩, ⟨rfl, by kernel_rfl⟩, ⟨rfl, by kernel_rfl⟩, ⟨rfl, by kernel_rfl⟩, ⟨rfl, by kernel_rfl⟩, ⟨rfl, by kernel_rfl⟩, ⟨rfl, by kernel_rfl⟩, trivial⟩
theorem tabs : tabB? Tryz.prog tabB = true := by kernel_rfl
theorem exts : ExtFns Tryz.prog extsB := by
 unfold extsB
 exact ⟨fun args w => Go.run_callFunc_extern (fn := Tryz.f173) (e := Extern.BytealgIndexByte.indexByte) (by kernel_rfl) (by kernel_rfl) (by kernel_rfl) (by kernel_rfl) (by kernel_rfl) args w, trivial, fun args w => Go.run_callFunc_extern (fn := Tryz.f162) (e := Extern.BytealgCount.count) (by kernel_rfl) (by kernel_rfl) (by kernel_rfl) (by kernel_rfl) (by kernel_rfl) args w, trivial⟩
def ren64 : Go.Shelf.Ren := ⟨fun | 24 => 64 | n => n, fun | 0 => 0 | 3 => 3 | 4 => 4 | 9 => 25 | 24 => 83 | n => n, fun n => n⟩
theorem lay64 : DelLay Tryz.prog ren64 3 (.agg #[(.string (bs [])), (.slice none 0 0), (.slice none 0 0)]) where
 f24 := ⟨ "slices.Delete[[]loop.example/mailwire/impl.Mail,loop.example/mailwire/impl.Mail]", by decide, Tryz.func64.trans (congrArg some (by kernel_rfl))⟩
 z1 := by decide
 mixed := by kernel_rfl
 t0 := Tryz.underlying0
 a0 := Tryz.isAgg0
 z0 := Tryz.sizeOf0
 v0 := Tryz.zeroValue0
 t3 := Tryz.underlying3
 a3 := Tryz.isAgg3
 z3 := Tryz.sizeOf3
 v3 := Tryz.zeroValue3
 t4 := Tryz.underlying4
 a4 := Tryz.isAgg4
 z4 := Tryz.sizeOf4
 v4 := Tryz.zeroValue4
 t24 := Tryz.underlying83
 a24 := Tryz.isAgg83
 z24 := Tryz.sizeOf83
 v24 := Tryz.zeroValue83
 z9 := Tryz.sizeOf25
 v9 := Tryz.zeroValue25
 i9 := by kernel_rfl
 zs := rfl
 es0 := by decide
theorem primsA_ok : PrimsOk Tryz.prog 0 primA := ⟨fun args hp r hp' h => del_owes 0 lay64 h, trivial⟩
theorem base_ok : BaseOk Tryz.prog base where
 tab := tab_ok tabs
 fn := fns_ok fns
 ext := ext_ok exts
 prim := prims_ok (P := Tryz.prog) (ng := 0) primsA_ok
 mixed := by kernel_rfl
theorem primsV_ok : PrimsSim vb primV := ⟨fun args H r H' h => delV_sim (b := base) rfl h, trivial⟩
theorem vb_ok : BaseVOk vb where
 zero := tab_zero (tab_ok tabs)
 sl := tab_sl (tab_ok tabs)
 gd := fun g cs h => by cases h
 pos := tab_pos (by kernel_rfl)
 noprim := fun f h => look_keys (f := f) (l := primV) (l' := primA) rfl h
 prim := prims_sim primsV_ok
end Go.Proofs.YtikpckcdpmjpgabGreatDoor.Q
