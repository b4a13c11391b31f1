/- The program's functions, types and marks, as the machines take them. -/
import Derived.Test.YtjpkhkndkockiaaGreatDoorProg
import Derived.Test.YtjpkhkndkockiaaGreatDoorFnExactSayAllK4
import Derived.KernelRfl
namespace Go.Proofs.YtjpkhkndkockiaaGreatDoor.Q
open Go Go.AM Go.Proofs Go.Shelf
set_option linter.unusedVariables false
def id_laws_FnExactSayAll : Nat := 4
def id_laws_szSession : Nat := 5
def id_laws_szMail : Nat := 21
def id_laws_szStringS : Nat := 12
def id_laws_szMailS : Nat := 22
def id_laws_toSession : Nat := 7
def id_laws_toMail : Nat := 25
def id_laws_toStringS : Nat := 14
def id_laws_toMailS : Nat := 26
def id_spec_SayAll : Nat := 13
def id_spec_l10RawSayAll : Nat := 36
def id_spec_SessionValid : Nat := 38
def id_spec_l10Draft : Nat := 54
def id_spec_l10Box : Nat := 79
def id_spec_l2Box : Nat := 98
def id_spec_l2Cut : Nat := 58
def id_spec_l1Read : Nat := 82
def id_spec_LowerText : Nat := 59
def id_spec_AddressValid : Nat := 109
def id_spec_l2Name : Nat := 116
def id_spec_TextValid : Nat := 39
def id_spec_l2Local : Nat := 117
def id_spec_l2Parts : Nat := 80
def id_spec_AtomValid : Nat := 124
def id_spec_l1Atom : Nat := 127
def id_spec_l1Letter : Nat := 81
def id_spec_l2Domain : Nat := 55
def id_spec_MailValid : Nat := 56
def id_spec_l10Copy : Nat := 40
def id_spec_l10Mail : Nat := 57
def id_spec_SayLine : Nat := 6
def id_spec_l10RawSayLine : Nat := 23
def id_spec_l10Data : Nat := 41
def id_spec_l10Command : Nat := 42
def id_spec_l10Hello : Nat := 60
def id_spec_l10From : Nat := 61
def id_spec_l10Path : Nat := 83
def id_spec_SameText : Nat := 99
def id_spec_l10To : Nat := 62
def id_spec_l13OwnSession : Nat := 24
def id_spec_l13OwnMail : Nat := 43
def id_spec_l13OwnListMail : Nat := 44
def id_impl_SayAll : Nat := 15
def id_impl_SessionValid : Nat := 27
def id_impl_draftValid : Nat := 45
def id_impl_isFrom : Nat := 63
def id_impl_isPath : Nat := 66
def id_strings_Cut : Nat := 85
def id_internal_stringslite_Cut : Nat := 100
def id_internal_stringslite_Index : Nat := 110
def id_internal_stringslite_IndexByte : Nat := 118
def id_internal_bytealg_IndexByteString : Nat := 125
def id_internal_bytealg_IndexString : Nat := 119
def id_internal_bytealg_Cutover : Nat := 120
def id_internal_bytealg_IndexRabinKarp_string_ : Nat := 121
def id_internal_bytealg_hashStr_string_ : Nat := 126
def id_impl_isLocal : Nat := 86
def id_strings_Split : Nat := 71
def id_strings_genSplit : Nat := 89
def id_strings_explode : Nat := 103
def id_unicode_utf8_RuneCountInString : Nat := 112
def id_unicode_utf8_DecodeRuneInString : Nat := 113
def id_unicode_utf8_decodeRuneInStringSlow : Nat := 123
def id_strings_Count : Nat := 104
def id_internal_bytealg_CountString : Nat := 114
def id_strings_Index : Nat := 105
def id_slices_ContainsFunc___string_string_ : Nat := 64
def id_slices_IndexFunc___string_string_ : Nat := 84
def id_impl_isLocal_1 : Nat := 101
def id_impl_AtomValid : Nat := 102
def id_impl_allBytes : Nat := 90
def id_impl_isAtomByte : Nat := 111
def id_impl_isLetter : Nat := 122
def id_impl_isDigit : Nat := 92
def id_impl_isDomain : Nat := 47
def id_impl_isDomain_1 : Nat := 72
def id_impl_isLabel : Nat := 73
def id_impl_isLabel_1 : Nat := 91
def id_impl_draftValid_1 : Nat := 65
def id_impl_areTexts : Nat := 67
def id_impl_areTexts_1 : Nat := 87
def id_impl_TextValid : Nat := 50
def id_impl_mailsValid : Nat := 46
def id_slices_ContainsFunc___impl_Mail_impl_Mail_ : Nat := 68
def id_slices_IndexFunc___impl_Mail_impl_Mail_ : Nat := 88
def id_impl_mailsValid_1 : Nat := 69
def id_impl_MailValid : Nat := 70
def id_impl_copySession : Nat := 28
def id_impl_copyMail : Nat := 48
def id_slices_Clone___string_string_ : Nat := 74
def id_impl_copyMails : Nat := 49
def id_impl_Session_say : Nat := 29
def id_impl_Session_sayData : Nat := 51
def id_strings_TrimPrefix : Nat := 75
def id_internal_stringslite_TrimPrefix : Nat := 93
def id_internal_stringslite_HasPrefix : Nat := 106
def id_impl_Session_sayCommand : Nat := 52
def id_impl_outside : Nat := 76
def id_impl_quoted : Nat := 94
def id_impl_LowerText : Nat := 77
def id_impl_pathIn : Nat := 78
def id_impl_SameText : Nat := 95
def id_strings_CutSuffix : Nat := 96
def id_internal_stringslite_CutSuffix : Nat := 107
def id_internal_stringslite_HasSuffix : Nat := 115
def id_strings_CutPrefix : Nat := 97
def id_internal_stringslite_CutPrefix : Nat := 108
def id_laws_eqSession : Nat := 9
def id_laws_eqMail : Nat := 30
def id_laws_eqStringS : Nat := 17
def id_laws_eqMailS : Nat := 31
def id_laws_eqIntS : Nat := 16
def id_laws_markSession : Nat := 10
def id_laws_markMail : Nat := 32
def id_laws_markStringS : Nat := 18
def id_laws_markText : Nat := 37
def id_laws_markMailS : Nat := 33
def id_laws_markIntS : Nat := 19
def id_laws_heldSession : Nat := 11
def id_laws_heldMail : Nat := 34
def id_laws_heldStringS : Nat := 53
def id_laws_heldMailS : Nat := 35
def id_laws_heldIntS : Nat := 20
noncomputable def tabB : List (Nat × TI) := [
 (27, ⟨.struct [(0, 1, false), (1, 1, false), (2, 3, true), (5, 1, false)], true, 6, [(.int .i64 0), (.string (bs [])), (.string (bs [])), (.slice none 0 0), (.slice none 0 0), (.slice none 0 0)]⟩),
 (3, ⟨.int .i64, false, 1, [(.int .i64 0)]⟩),
 (22, ⟨.slice 9 1 16 [(.string (bs []))], false, 1, [(.slice none 0 0)]⟩),
 (32, ⟨.struct [(0, 1, false), (1, 1, false), (2, 3, true), (5, 1, false)], true, 6, [(.int .i64 0), (.string (bs [])), (.string (bs [])), (.slice none 0 0), (.slice none 0 0), (.slice none 0 0)]⟩),
 (40, ⟨.slice 3 1 8 [(.int .i64 0)], false, 1, [(.slice none 0 0)]⟩),
 (4, ⟨.bool, false, 1, [(.bool false)]⟩),
 (9, ⟨.str, false, 1, [(.string (bs []))]⟩),
 (24, ⟨.struct [(0, 1, false), (1, 1, false), (2, 1, false)], true, 3, [(.string (bs [])), (.slice none 0 0), (.slice none 0 0)]⟩),
 (25, ⟨.slice 24 3 64 [(.string (bs [])), (.slice none 0 0), (.slice none 0 0)], false, 1, [(.slice none 0 0)]⟩),
 (29, ⟨.struct [(0, 1, false), (1, 1, false), (2, 1, false)], true, 3, [(.string (bs [])), (.slice none 0 0), (.slice none 0 0)]⟩),
 (30, ⟨.slice 29 3 64 [(.string (bs [])), (.slice none 0 0), (.slice none 0 0)], false, 1, [(.slice none 0 0)]⟩),
 (96, ⟨.struct [(0, 1, false), (1, 1, false), (2, 1, false)], true, 3, [(.string (bs [])), (.string (bs [])), (.string (bs []))]⟩),
 (5, ⟨.int .u8, false, 1, [(.int .u8 0)]⟩),
 (70, ⟨.slice 5 1 1 [(.int .u8 0)], false, 1, [(.slice none 0 0)]⟩),
 (61, ⟨.other, false, 1, [.nilFunc]⟩),
 (106, ⟨.int .u32, false, 1, [(.int .u32 0)]⟩),
 (21, ⟨.int .i32, false, 1, [(.int .i32 0)]⟩),
 (109, ⟨.arr 256 1, true, 256, [(.int .u8 0), (.int .u8 0), (.int .u8 0), (.int .u8 0), (.int .u8 0), (.int .u8 0), (.int .u8 0), (.int .u8 0), (.int .u8 0), (.int .u8 0), (.int .u8 0), (.int .u8 0), (.int .u8 0), (.int .u8 0), (.int .u8 0), (.int .u8 0), (.int .u8 0), (.int .u8 0), (.int .u8 0), (.int .u8 0), (.int .u8 0), (.int .u8 0), (.int .u8 0), (.int .u8 0), (.int .u8 0), (.int .u8 0), (.int .u8 0), (.int .u8 0), (.int .u8 0), (.int .u8 0), (.int .u8 0), (.int .u8 0), (.int .u8 0), (.int .u8 0), (.int .u8 0), (.int .u8 0), (.int .u8 0), (.int .u8 0), (.int .u8 0), (.int .u8 0), (.int .u8 0), (.int .u8 0), (.int .u8 0), (.int .u8 0), (.int .u8 0), (.int .u8 0), (.int .u8 0), (.int .u8 0), (.int .u8 0), (.int .u8 0), (.int .u8 0), (.int .u8 0), (.int .u8 0), (.int .u8 0), (.int .u8 0), (.int .u8 0), (.int .u8 0), (.int .u8 0), (.int .u8 0), (.int .u8 0), (.int .u8 0), (.int .u8 0), (.int .u8 0), (.int .u8 0), (.int .u8 0), (.int .u8 0), (.int .u8 0), (.int .u8 0), (.int .u8 0), (.int .u8 0), (.int .u8 0), (.int .u8 0), (.int .u8 0), (.int .u8 0), (.int .u8 0), (.int .u8 0), (.int .u8 0), (.int .u8 0), (.int .u8 0), (.int .u8 0), (.int .u8 0), (.int .u8 0), (.int .u8 0), (.int .u8 0), (.int .u8 0), (.int .u8 0), (.int .u8 0), (.int .u8 0), (.int .u8 0), (.int .u8 0), (.int .u8 0), (.int .u8 0), (.int .u8 0), (.int .u8 0), (.int .u8 0), (.int .u8 0), (.int .u8 0), (.int .u8 0), (.int .u8 0), (.int .u8 0), (.int .u8 0), (.int .u8 0), (.int .u8 0), (.int .u8 0), (.int .u8 0), (.int .u8 0), (.int .u8 0), (.int .u8 0), (.int .u8 0), (.int .u8 0), (.int .u8 0), (.int .u8 0), (.int .u8 0), (.int .u8 0), (.int .u8 0), (.int .u8 0), (.int .u8 0), (.int .u8 0), (.int .u8 0), (.int .u8 0), (.int .u8 0), (.int .u8 0), (.int .u8 0), (.int .u8 0), (.int .u8 0), (.int .u8 0), (.int .u8 0), (.int .u8 0), (.int .u8 0), (.int .u8 0), (.int .u8 0), (.int .u8 0), (.int .u8 0), (.int .u8 0), (.int .u8 0), (.int .u8 0), (.int .u8 0), (.int .u8 0), (.int .u8 0), (.int .u8 0), (.int .u8 0), (.int .u8 0), (.int .u8 0), (.int .u8 0), (.int .u8 0), (.int .u8 0), (.int .u8 0), (.int .u8 0), (.int .u8 0), (.int .u8 0), (.int .u8 0), (.int .u8 0), (.int .u8 0), (.int .u8 0), (.int .u8 0), (.int .u8 0), (.int .u8 0), (.int .u8 0), (.int .u8 0), (.int .u8 0), (.int .u8 0), (.int .u8 0), (.int .u8 0), (.int .u8 0), (.int .u8 0), (.int .u8 0), (.int .u8 0), (.int .u8 0), (.int .u8 0), (.int .u8 0), (.int .u8 0), (.int .u8 0), (.int .u8 0), (.int .u8 0), (.int .u8 0), (.int .u8 0), (.int .u8 0), (.int .u8 0), (.int .u8 0), (.int .u8 0), (.int .u8 0), (.int .u8 0), (.int .u8 0), (.int .u8 0), (.int .u8 0), (.int .u8 0), (.int .u8 0), (.int .u8 0), (.int .u8 0), (.int .u8 0), (.int .u8 0), (.int .u8 0), (.int .u8 0), (.int .u8 0), (.int .u8 0), (.int .u8 0), (.int .u8 0), (.int .u8 0), (.int .u8 0), (.int .u8 0), (.int .u8 0), (.int .u8 0), (.int .u8 0), (.int .u8 0), (.int .u8 0), (.int .u8 0), (.int .u8 0), (.int .u8 0), (.int .u8 0), (.int .u8 0), (.int .u8 0), (.int .u8 0), (.int .u8 0), (.int .u8 0), (.int .u8 0), (.int .u8 0), (.int .u8 0), (.int .u8 0), (.int .u8 0), (.int .u8 0), (.int .u8 0), (.int .u8 0), (.int .u8 0), (.int .u8 0), (.int .u8 0), (.int .u8 0), (.int .u8 0), (.int .u8 0), (.int .u8 0), (.int .u8 0), (.int .u8 0), (.int .u8 0), (.int .u8 0), (.int .u8 0), (.int .u8 0), (.int .u8 0), (.int .u8 0), (.int .u8 0), (.int .u8 0), (.int .u8 0), (.int .u8 0), (.int .u8 0), (.int .u8 0), (.int .u8 0), (.int .u8 0), (.int .u8 0), (.int .u8 0), (.int .u8 0), (.int .u8 0), (.int .u8 0), (.int .u8 0), (.int .u8 0), (.int .u8 0), (.int .u8 0), (.int .u8 0), (.int .u8 0)]⟩),
 (112, ⟨.arr 16 2, true, 32, [(.int .u8 0), (.int .u8 0), (.int .u8 0), (.int .u8 0), (.int .u8 0), (.int .u8 0), (.int .u8 0), (.int .u8 0), (.int .u8 0), (.int .u8 0), (.int .u8 0), (.int .u8 0), (.int .u8 0), (.int .u8 0), (.int .u8 0), (.int .u8 0), (.int .u8 0), (.int .u8 0), (.int .u8 0), (.int .u8 0), (.int .u8 0), (.int .u8 0), (.int .u8 0), (.int .u8 0), (.int .u8 0), (.int .u8 0), (.int .u8 0), (.int .u8 0), (.int .u8 0), (.int .u8 0), (.int .u8 0), (.int .u8 0)]⟩),
 (111, ⟨.struct [(0, 1, false), (1, 1, false)], true, 2, [(.int .u8 0), (.int .u8 0)]⟩),
 (84, ⟨.other, false, 1, [.nilFunc]⟩),
 (71, ⟨.other, false, 1, [.nilFunc]⟩),
 (68, ⟨.other, false, 1, [(.pointer none)]⟩)]
noncomputable def annB : List (Nat × Ann) := [
 (4, { loc := [2, 6, 9, 11, 17], loops := [], joins := [(36, 38, [(.ret, ⟨[4], [], []⟩), (.normal, ⟨[12, 15], [(11, (11, 0))], [(11, 6)]⟩)]), (21, 23, [(.ret, ⟨[4], [], []⟩), (.normal, ⟨[1, 7, 8, 12], [(2, (2, 0)), (6, (6, 0)), (11, (11, 0))], [(2, 6), (6, 6), (11, 6)]⟩)]), (12, 14, [(.ret, ⟨[4], [], []⟩), (.normal, ⟨[1, 7, 8, 10, 12, 13], [(2, (2, 0)), (6, (6, 0)), (9, (9, 0)), (11, (11, 0))], [(2, 6), (6, 6), (9, 6), (11, 6)]⟩)])], full := [], dynQ := false }),
 (5, { loc := [2], loops := [], joins := [], full := [], dynQ := false }),
 (21, { loc := [2], loops := [], joins := [], full := [], dynQ := false }),
 (12, { loc := [], loops := [(5, ⟨⟨[0, 1, 5], [], []⟩, [(.exit 0, ⟨[1], [], []⟩), (.ret, ⟨[4], [], []⟩)]⟩)], joins := [], full := [], dynQ := false }),
 (22, { loc := [], loops := [(5, ⟨⟨[0, 1, 5], [], []⟩, [(.exit 0, ⟨[1], [], []⟩), (.ret, ⟨[4], [], []⟩)]⟩)], joins := [], full := [], dynQ := false }),
 (7, { loc := [1, 2, 3], loops := [], joins := [], full := [], dynQ := false }),
 (25, { loc := [1, 2, 3], loops := [], joins := [], full := [], dynQ := false }),
 (14, { loc := [], loops := [(3, ⟨⟨[0, 3, 4], [], []⟩, [(.exit 0, ⟨[3], [], []⟩)]⟩)], joins := [], full := [], dynQ := false }),
 (26, { loc := [], loops := [(3, ⟨⟨[0, 3, 4], [], []⟩, [(.exit 0, ⟨[3], [], []⟩)]⟩)], joins := [], full := [], dynQ := false }),
 (13, { loc := [2, 4, 7], loops := [], joins := [], full := [21], dynQ := false }),
 (36, { loc := [2, 4, 8, 10], loops := [(6, ⟨⟨[1, 7, 9], [(4, (4, 0)), (8, (8, 0))], [(4, 6), (8, 6)]⟩, [(.exit 0, ⟨[7], [(4, (4, 0)), (8, (8, 0))], [(4, 6), (8, 6)]⟩), (.ret, ⟨[5, 6], [(4, (4, 0))], [(4, 6)]⟩)]⟩)], joins := [(8, 7, [(.ret, ⟨[5, 6], [(4, (4, 0))], [(4, 6)]⟩), (.normal, ⟨[1, 7, 9], [(4, (4, 0)), (8, (8, 0))], [(4, 6), (8, 6)]⟩)])], full := [], dynQ := false }),
 (38, { loc := [1, 3], loops := [(5, ⟨⟨[4], [(1, (1, 0)), (3, (3, 0))], [(1, 6), (3, 3)]⟩, [(.exit 0, ⟨[], [(1, (1, 0)), (3, (3, 0))], [(1, 6), (3, 3)]⟩), (.ret, ⟨[2], [], []⟩)]⟩)], joins := [(13, 19, [(.ret, ⟨[2], [], []⟩), (.normal, ⟨[], [(3, (3, 0))], [(3, 3)]⟩)]), (14, 16, [(.normal, ⟨[73, 74], [(3, (3, 0))], [(3, 3)]⟩)]), (11, 13, [(.ret, ⟨[2], [], []⟩), (.normal, ⟨[], [(1, (1, 0)), (3, (3, 0))], [(1, 6), (3, 3)]⟩)]), (9, 11, [(.ret, ⟨[2], [], []⟩), (.normal, ⟨[], [(1, (1, 0)), (3, (3, 0))], [(1, 6), (3, 3)]⟩)]), (2, 4, [(.ret, ⟨[2], [], []⟩), (.normal, ⟨[], [(1, (1, 0)), (3, (3, 0))], [(1, 6), (3, 3)]⟩)])], full := [], dynQ := false }),
 (54, { loc := [1], loops := [(9, ⟨⟨[4], [(1, (1, 0))], [(1, 3)]⟩, [(.exit 2, ⟨[], [], []⟩), (.ret, ⟨[2], [], []⟩)]⟩), (4, ⟨⟨[3], [(1, (1, 0))], [(1, 3)]⟩, [(.exit 0, ⟨[], [(1, (1, 0))], [(1, 3)]⟩), (.ret, ⟨[2], [], []⟩)]⟩)], joins := [(1, 3, [(.ret, ⟨[2], [], []⟩), (.normal, ⟨[], [(1, (1, 0))], [(1, 3)]⟩)])], full := [], dynQ := false }),
 (79, { loc := [3], loops := [], joins := [], full := [], dynQ := false }),
 (98, { loc := [2, 7], loops := [], joins := [], full := [], dynQ := false }),
 (58, { loc := [], loops := [(2, ⟨⟨[0, 1, 7], [], []⟩, [(.exit 0, ⟨[0], [], []⟩), (.ret, ⟨[4, 5, 6], [], []⟩)]⟩)], joins := [], full := [], dynQ := false }),
 (82, { loc := [], loops := [(3, ⟨⟨[0, 6, 7], [], []⟩, [(.exit 0, ⟨[], [], []⟩), (.ret, ⟨[4, 5], [], []⟩)]⟩)], joins := [(5, 4, [(.ret, ⟨[4, 5], [], []⟩), (.normal, ⟨[0, 6, 7], [], []⟩)]), (7, 11, [(.ret, ⟨[4, 5], [], []⟩), (.normal, ⟨[0, 6, 7], [], []⟩)])], full := [], dynQ := false }),
 (59, { loc := [], loops := [(3, ⟨⟨[3, 4], [], []⟩, [(.exit 0, ⟨[3], [], []⟩)]⟩)], joins := [(5, 4, [(.normal, ⟨[3, 4], [], []⟩)])], full := [], dynQ := false }),
 (109, { loc := [1], loops := [], joins := [], full := [], dynQ := false }),
 (116, { loc := [], loops := [], joins := [], full := [], dynQ := false }),
 (39, { loc := [], loops := [(2, ⟨⟨[0, 3], [], []⟩, [(.exit 0, ⟨[0], [], []⟩), (.ret, ⟨[2], [], []⟩)]⟩)], joins := [(4, 3, [(.ret, ⟨[2], [], []⟩), (.normal, ⟨[0, 3], [], []⟩)]), (2, 4, [(.normal, ⟨[0, 3], [], []⟩), (.exit 0, ⟨[0], [], []⟩)])], full := [], dynQ := false }),
 (117, { loc := [], loops := [(3, ⟨⟨[0, 3, 4], [], []⟩, [(.exit 0, ⟨[0], [], []⟩), (.ret, ⟨[2], [], []⟩)]⟩)], joins := [], full := [], dynQ := false }),
 (80, { loc := [], loops := [(4, ⟨⟨[0, 1, 5, 6, 7], [], []⟩, [(.exit 0, ⟨[0, 5, 6], [], []⟩)]⟩)], joins := [(6, 5, [(.normal, ⟨[0, 1, 5, 6, 7], [], []⟩)])], full := [], dynQ := false }),
 (124, { loc := [], loops := [(2, ⟨⟨[0, 3], [], []⟩, [(.exit 0, ⟨[0], [], []⟩), (.ret, ⟨[2], [], []⟩)]⟩)], joins := [(2, 4, [(.normal, ⟨[0, 3], [], []⟩), (.exit 0, ⟨[0], [], []⟩)])], full := [], dynQ := false }),
 (127, { loc := [], loops := [(2, ⟨⟨[0, 3], [], []⟩, [(.exit 0, ⟨[0], [], []⟩), (.ret, ⟨[2], [], []⟩)]⟩)], joins := [], full := [], dynQ := false }),
 (81, { loc := [], loops := [], joins := [], full := [], dynQ := false }),
 (55, { loc := [], loops := [(3, ⟨⟨[0, 3, 4], [], []⟩, [(.exit 0, ⟨[0], [], []⟩), (.ret, ⟨[2], [], []⟩)]⟩), (9, ⟨⟨[0, 3, 4, 5, 6], [], []⟩, [(.exit 2, ⟨[0, 3, 4], [], []⟩), (.ret, ⟨[2], [], []⟩)]⟩)], joins := [(5, 4, [(.ret, ⟨[2], [], []⟩), (.normal, ⟨[0, 3, 4], [], []⟩)]), (11, 10, [(.ret, ⟨[2], [], []⟩), (.normal, ⟨[0, 3, 4, 5, 6], [], []⟩)]), (6, 8, [(.ret, ⟨[2], [], []⟩), (.normal, ⟨[0, 3, 4, 5], [], []⟩)])], full := [], dynQ := false }),
 (56, { loc := [1], loops := [], joins := [], full := [], dynQ := false }),
 (40, { loc := [1, 2], loops := [(3, ⟨⟨[3, 4], [(1, (1, 0)), (2, (2, 0))], [(1, 6), (2, 6)]⟩, [(.exit 0, ⟨[3], [(2, (2, 0))], [(2, 6)]⟩)]⟩)], joins := [], full := [], dynQ := false }),
 (57, { loc := [1, 2], loops := [], joins := [], full := [8, 12], dynQ := false }),
 (6, { loc := [2, 4, 7], loops := [], joins := [], full := [], dynQ := false }),
 (23, { loc := [2, 4, 7], loops := [], joins := [(5, 8, [(.normal, ⟨[8], [(4, (4, 0)), (7, (7, 0))], [(4, 6), (7, 6)]⟩)]), (1, 3, [(.ret, ⟨[5, 6], [(4, (4, 0))], [(4, 6)]⟩), (.normal, ⟨[1], [(2, (2, 0)), (4, (4, 0))], [(2, 6), (4, 6)]⟩)])], full := [], dynQ := false }),
 (41, { loc := [2, 4, 6], loops := [], joins := [(4, 6, [(.normal, ⟨[], [(2, (2, 0)), (4, (4, 0))], [(2, 6), (4, 6)]⟩)]), (2, 4, [(.normal, ⟨[1], [(2, (2, 0)), (4, (4, 0))], [(2, 6), (4, 6)]⟩)])], full := [], dynQ := false }),
 (42, { loc := [2, 4], loops := [], joins := [(16, 18, [(.normal, ⟨[], [(2, (2, 0)), (4, (4, 0))], [(2, 6), (4, 6)]⟩)])], full := [], dynQ := false }),
 (60, { loc := [2, 4], loops := [], joins := [(1, 3, [(.ret, ⟨[5], [(4, (4, 0))], [(4, 6)]⟩), (.normal, ⟨[1], [(2, (2, 0)), (4, (4, 0))], [(2, 6), (4, 6)]⟩)])], full := [], dynQ := false }),
 (61, { loc := [2, 4], loops := [], joins := [], full := [], dynQ := false }),
 (83, { loc := [8], loops := [], joins := [(2, 4, [(.ret, ⟨[4, 5], [], []⟩), (.normal, ⟨[0, 6], [], []⟩)])], full := [], dynQ := false }),
 (99, { loc := [], loops := [], joins := [], full := [], dynQ := false }),
 (62, { loc := [2, 4], loops := [], joins := [(2, 8, [(.ret, ⟨[5], [(4, (4, 0))], [(4, 6)]⟩), (.normal, ⟨[6], [(2, (2, 0)), (4, (4, 0))], [(2, 6), (4, 6)]⟩)])], full := [], dynQ := false }),
 (24, { loc := [1, 2], loops := [], joins := [], full := [], dynQ := false }),
 (43, { loc := [1, 2], loops := [], joins := [], full := [6, 11], dynQ := false }),
 (44, { loc := [5], loops := [(3, ⟨⟨[3, 7, 8, 9], [], []⟩, [(.exit 0, ⟨[3], [], []⟩)]⟩)], joins := [], full := [], dynQ := false }),
 (15, { loc := [2, 4], loops := [(5, ⟨⟨[7, 8, 20, 21, 22], [(4, (4, 0))], [(4, 6)]⟩, [(.exit 0, ⟨[7, 8], [(4, (4, 0))], [(4, 6)]⟩), (.ret, ⟨[5, 6], [(4, (4, 0))], [(4, 6)]⟩)]⟩)], joins := [], full := [], dynQ := false }),
 (27, { loc := [1], loops := [], joins := [(3, 9, [(.ret, ⟨[2], [], []⟩), (.normal, ⟨[], [(1, (1, 0))], [(1, 6)]⟩)]), (1, 3, [(.ret, ⟨[2], [], []⟩), (.normal, ⟨[], [(1, (1, 0))], [(1, 6)]⟩)])], full := [], dynQ := false }),
 (45, { loc := [3], loops := [], joins := [], full := [], dynQ := false }),
 (63, { loc := [], loops := [], joins := [], full := [], dynQ := false }),
 (66, { loc := [], loops := [], joins := [], full := [], dynQ := false }),
 (85, { loc := [], loops := [], joins := [], full := [], dynQ := false }),
 (100, { loc := [], loops := [], joins := [], full := [], dynQ := false }),
 (110, { loc := [], loops := [(15, ⟨⟨[0, 1, 5, 6, 7, 8, 9, 10], [], []⟩, [(.exit 1, ⟨[], [], []⟩), (.ret, ⟨[4], [], []⟩)]⟩)], joins := [(21, 23, [(.ret, ⟨[4], [], []⟩), (.normal, ⟨[0, 1, 5, 6, 7, 8, 9, 10], [], []⟩)]), (16, 21, [(.ret, ⟨[4], [], []⟩), (.normal, ⟨[0, 1, 5, 6, 7, 8, 9, 10], [], []⟩)]), (2, 10, [(.ret, ⟨[4], [], []⟩), (.normal, ⟨[0, 1, 5], [], []⟩)])], full := [], dynQ := false }),
 (118, { loc := [], loops := [], joins := [], full := [], dynQ := false }),
 (120, { loc := [], loops := [], joins := [], full := [], dynQ := false }),
 (121, { loc := [], loops := [(11, ⟨⟨[0, 1, 5, 6, 7, 8, 10], [], []⟩, [(.exit 2, ⟨[], [], []⟩), (.ret, ⟨[4], [], []⟩)]⟩), (5, ⟨⟨[0, 1, 5, 6, 7, 8, 9], [], []⟩, [(.exit 0, ⟨[0, 1, 5, 6, 7, 8], [], []⟩)]⟩)], joins := [(8, 10, [(.ret, ⟨[4], [], []⟩), (.normal, ⟨[0, 1, 5, 6, 7, 8], [], []⟩)])], full := [], dynQ := false }),
 (126, { loc := [], loops := [(8, ⟨⟨[4, 6, 7, 8], [], []⟩, [(.exit 2, ⟨[4, 6], [], []⟩)]⟩), (3, ⟨⟨[0, 4, 5], [], []⟩, [(.exit 0, ⟨[0, 4], [], []⟩)]⟩)], joins := [(10, 9, [(.normal, ⟨[4, 6, 7, 8], [], []⟩)]), (10, 12, [(.normal, ⟨[4, 6, 7, 8], [], []⟩)])], full := [], dynQ := false }),
 (86, { loc := [], loops := [], joins := [], full := [], dynQ := false }),
 (71, { loc := [], loops := [], joins := [], full := [], dynQ := false }),
 (89, { loc := [], loops := [(11, ⟨⟨[0, 1, 2, 3, 9, 10], [], []⟩, [(.exit 0, ⟨[0, 9, 10], [], []⟩)]⟩)], joins := [(5, 7, [(.normal, ⟨[0, 1, 2, 3], [], []⟩)])], full := [], dynQ := false }),
 (103, { loc := [], loops := [(6, ⟨⟨[0, 1, 6, 7], [], []⟩, [(.exit 0, ⟨[0, 1, 6], [], []⟩)]⟩)], joins := [(2, 4, [(.normal, ⟨[0, 1], [], []⟩)])], full := [], dynQ := false }),
 (112, { loc := [], loops := [], joins := [], full := [], dynQ := false }),
 (113, { loc := [], loops := [], joins := [], full := [], dynQ := false }),
 (123, { loc := [9], loops := [], joins := [], full := [], dynQ := false }),
 (104, { loc := [], loops := [(6, ⟨⟨[0, 1, 5], [], []⟩, [(.ret, ⟨[4], [], []⟩)]⟩)], joins := [], full := [], dynQ := false }),
 (105, { loc := [], loops := [], joins := [], full := [], dynQ := false }),
 (64, { loc := [], loops := [], joins := [], full := [], dynQ := false }),
 (84, { loc := [], loops := [(2, ⟨⟨[0, 1, 7, 8], [], []⟩, [(.exit 0, ⟨[], [], []⟩), (.ret, ⟨[4], [], []⟩)]⟩)], joins := [], full := [], dynQ := true }),
 (101, { loc := [], loops := [], joins := [], full := [], dynQ := false }),
 (102, { loc := [], loops := [], joins := [], full := [], dynQ := false }),
 (90, { loc := [], loops := [(2, ⟨⟨[0, 1, 7, 8], [], []⟩, [(.exit 0, ⟨[], [], []⟩), (.ret, ⟨[4], [], []⟩)]⟩)], joins := [], full := [], dynQ := true }),
 (111, { loc := [], loops := [], joins := [], full := [], dynQ := false }),
 (122, { loc := [], loops := [], joins := [], full := [], dynQ := false }),
 (92, { loc := [], loops := [], joins := [], full := [], dynQ := false }),
 (47, { loc := [], loops := [], joins := [], full := [], dynQ := false }),
 (72, { loc := [], loops := [], joins := [], full := [], dynQ := false }),
 (73, { loc := [], loops := [], joins := [], full := [], dynQ := false }),
 (91, { loc := [], loops := [], joins := [], full := [], dynQ := false }),
 (65, { loc := [], loops := [], joins := [], full := [], dynQ := false }),
 (67, { loc := [], loops := [], joins := [], full := [], dynQ := false }),
 (87, { loc := [], loops := [], joins := [], full := [], dynQ := false }),
 (50, { loc := [], loops := [(2, ⟨⟨[0, 5, 6], [], []⟩, [(.exit 0, ⟨[0], [], []⟩), (.ret, ⟨[2], [], []⟩)]⟩)], joins := [], full := [], dynQ := false }),
 (46, { loc := [], loops := [], joins := [], full := [], dynQ := false }),
 (68, { loc := [], loops := [], joins := [], full := [], dynQ := false }),
 (88, { loc := [], loops := [(2, ⟨⟨[0, 1, 7, 8], [], []⟩, [(.exit 0, ⟨[], [], []⟩), (.ret, ⟨[4], [], []⟩)]⟩)], joins := [], full := [], dynQ := true }),
 (69, { loc := [1], loops := [], joins := [], full := [], dynQ := false }),
 (70, { loc := [1], loops := [], joins := [], full := [], dynQ := false }),
 (28, { loc := [1, 2], loops := [], joins := [], full := [], dynQ := false }),
 (48, { loc := [1, 2], loops := [], joins := [], full := [], dynQ := false }),
 (74, { loc := [], loops := [], joins := [], full := [7], dynQ := false }),
 (49, { loc := [5], loops := [(3, ⟨⟨[3, 7, 8, 9], [], []⟩, [(.exit 0, ⟨[3], [], []⟩)]⟩)], joins := [], full := [], dynQ := false }),
 (29, { loc := [], loops := [], joins := [(1, 5, [(.ret, ⟨[4, 5], [], []⟩), (.normal, ⟨[0, 1], [], []⟩)])], full := [], dynQ := false }),
 (51, { loc := [5], loops := [], joins := [], full := [], dynQ := false }),
 (75, { loc := [], loops := [], joins := [], full := [], dynQ := false }),
 (93, { loc := [], loops := [], joins := [], full := [], dynQ := false }),
 (106, { loc := [], loops := [], joins := [], full := [], dynQ := false }),
 (52, { loc := [], loops := [], joins := [(22, 28, [(.ret, ⟨[4], [], []⟩), (.normal, ⟨[0, 12], [], []⟩)]), (8, 10, [(.ret, ⟨[4], [], []⟩), (.normal, ⟨[0, 9], [], []⟩)]), (2, 5, [(.normal, ⟨[0, 5, 6, 7], [], []⟩)])], full := [], dynQ := false }),
 (76, { loc := [], loops := [(2, ⟨⟨[0, 1, 5], [], []⟩, [(.exit 0, ⟨[], [], []⟩), (.ret, ⟨[4], [], []⟩)]⟩)], joins := [(4, 3, [(.ret, ⟨[4], [], []⟩), (.normal, ⟨[0, 1, 5], [], []⟩)])], full := [], dynQ := false }),
 (94, { loc := [], loops := [(3, ⟨⟨[0, 5, 6], [], []⟩, [(.exit 0, ⟨[], [], []⟩), (.ret, ⟨[2, 3, 4], [], []⟩)]⟩)], joins := [(5, 4, [(.ret, ⟨[2, 3, 4], [], []⟩), (.normal, ⟨[0, 5, 6], [], []⟩)]), (5, 11, [(.ret, ⟨[2, 3, 4], [], []⟩), (.normal, ⟨[0, 5, 6], [], []⟩)])], full := [], dynQ := false }),
 (77, { loc := [], loops := [(3, ⟨⟨[3, 8, 9, 10], [], []⟩, [(.exit 0, ⟨[3], [], []⟩)]⟩)], joins := [], full := [], dynQ := false }),
 (78, { loc := [], loops := [], joins := [(8, 10, [(.normal, ⟨[6], [], []⟩)]), (5, 7, [(.ret, ⟨[4, 5], [], []⟩), (.normal, ⟨[6], [], []⟩)]), (1, 3, [(.ret, ⟨[4, 5], [], []⟩), (.normal, ⟨[0, 1], [], []⟩)])], full := [], dynQ := false }),
 (95, { loc := [], loops := [], joins := [], full := [], dynQ := false }),
 (96, { loc := [], loops := [], joins := [], full := [], dynQ := false }),
 (107, { loc := [], loops := [], joins := [], full := [], dynQ := false }),
 (115, { loc := [], loops := [], joins := [], full := [], dynQ := false }),
 (97, { loc := [], loops := [], joins := [], full := [], dynQ := false }),
 (108, { loc := [], loops := [], joins := [], full := [], dynQ := false }),
 (9, { loc := [2, 3], loops := [], joins := [], full := [], dynQ := false }),
 (30, { loc := [2, 3], loops := [], joins := [], full := [], dynQ := false }),
 (17, { loc := [], loops := [(4, ⟨⟨[0, 1, 5], [], []⟩, [(.exit 0, ⟨[], [], []⟩), (.ret, ⟨[4], [], []⟩)]⟩)], joins := [], full := [], dynQ := false }),
 (31, { loc := [], loops := [(4, ⟨⟨[0, 1, 5], [], []⟩, [(.exit 0, ⟨[], [], []⟩), (.ret, ⟨[4], [], []⟩)]⟩)], joins := [], full := [], dynQ := false }),
 (16, { loc := [], loops := [(4, ⟨⟨[0, 1, 5], [], []⟩, [(.exit 0, ⟨[], [], []⟩), (.ret, ⟨[4], [], []⟩)]⟩)], joins := [], full := [], dynQ := false }),
 (10, { loc := [2], loops := [], joins := [], full := [], dynQ := false }),
 (32, { loc := [2], loops := [], joins := [], full := [], dynQ := false }),
 (18, { loc := [], loops := [(2, ⟨⟨[0, 1, 5], [], []⟩, [(.exit 0, ⟨[1], [], []⟩)]⟩)], joins := [], full := [], dynQ := false }),
 (37, { loc := [], loops := [(4, ⟨⟨[0, 3], [], []⟩, [(.exit 0, ⟨[3], [], []⟩)]⟩)], joins := [], full := [], dynQ := false }),
 (33, { loc := [], loops := [(2, ⟨⟨[0, 1, 5], [], []⟩, [(.exit 0, ⟨[1], [], []⟩)]⟩)], joins := [], full := [], dynQ := false }),
 (19, { loc := [], loops := [(2, ⟨⟨[0, 1, 5], [], []⟩, [(.exit 0, ⟨[1], [], []⟩)]⟩)], joins := [], full := [], dynQ := false }),
 (11, { loc := [2], loops := [], joins := [], full := [], dynQ := false }),
 (34, { loc := [2], loops := [], joins := [], full := [], dynQ := false }),
 (53, { loc := [], loops := [(2, ⟨⟨[0, 1, 5], [], []⟩, [(.exit 0, ⟨[1], [], []⟩), (.ret, ⟨[4], [], []⟩)]⟩)], joins := [], full := [], dynQ := false }),
 (35, { loc := [], loops := [(2, ⟨⟨[0, 1, 5], [], []⟩, [(.exit 0, ⟨[1], [], []⟩), (.ret, ⟨[4], [], []⟩)]⟩)], joins := [], full := [], dynQ := false }),
 (20, { loc := [], loops := [(2, ⟨⟨[0, 1, 5], [], []⟩, [(.exit 0, ⟨[1], [], []⟩), (.ret, ⟨[4], [], []⟩)]⟩)], joins := [], full := [], dynQ := false })]
noncomputable def fnB : List (Nat × Func) := [
 (4, Tryz.f4), (5, Tryz.f5), (21, Tryz.f21), (12, Tryz.f12), (22, Tryz.f22), (7, Tryz.f7), (25, Tryz.f25), (14, Tryz.f14), (26, Tryz.f26), (13, Tryz.f13), (36, Tryz.f36), (38, Tryz.f38), (54, Tryz.f54), (79, Tryz.f79), (98, Tryz.f98), (58, Tryz.f58), (82, Tryz.f82), (59, Tryz.f59), (109, Tryz.f109), (116, Tryz.f116), (39, Tryz.f39), (117, Tryz.f117), (80, Tryz.f80), (124, Tryz.f124), (127, Tryz.f127), (81, Tryz.f81), (55, Tryz.f55), (56, Tryz.f56), (40, Tryz.f40), (57, Tryz.f57), (6, Tryz.f6), (23, Tryz.f23), (41, Tryz.f41), (42, Tryz.f42), (60, Tryz.f60), (61, Tryz.f61), (83, Tryz.f83), (99, Tryz.f99), (62, Tryz.f62), (24, Tryz.f24), (43, Tryz.f43), (44, Tryz.f44), (15, Tryz.f15), (27, Tryz.f27), (45, Tryz.f45), (63, Tryz.f63), (66, Tryz.f66), (85, Tryz.f85), (100, Tryz.f100), (110, Tryz.f110), (118, Tryz.f118), (120, Tryz.f120), (121, Tryz.f121), (126, Tryz.f126), (86, Tryz.f86), (71, Tryz.f71), (89, Tryz.f89), (103, Tryz.f103), (112, Tryz.f112), (113, Tryz.f113), (123, Tryz.f123), (104, Tryz.f104), (105, Tryz.f105), (64, Tryz.f64), (84, Tryz.f84), (101, Tryz.f101), (102, Tryz.f102), (90, Tryz.f90), (111, Tryz.f111), (122, Tryz.f122), (92, Tryz.f92), (47, Tryz.f47), (72, Tryz.f72), (73, Tryz.f73), (91, Tryz.f91), (65, Tryz.f65), (67, Tryz.f67), (87, Tryz.f87), (50, Tryz.f50), (46, Tryz.f46), (68, Tryz.f68), (88, Tryz.f88), (69, Tryz.f69), (70, Tryz.f70), (28, Tryz.f28), (48, Tryz.f48), (74, Tryz.f74), (49, Tryz.f49), (29, Tryz.f29), (51, Tryz.f51), (75, Tryz.f75), (93, Tryz.f93), (106, Tryz.f106), (52, Tryz.f52), (76, Tryz.f76), (94, Tryz.f94), (77, Tryz.f77), (78, Tryz.f78), (95, Tryz.f95), (96, Tryz.f96), (107, Tryz.f107), (115, Tryz.f115), (97, Tryz.f97), (108, Tryz.f108), (9, Tryz.f9), (30, Tryz.f30), (17, Tryz.f17), (31, Tryz.f31), (16, Tryz.f16), (10, Tryz.f10), (32, Tryz.f32), (18, Tryz.f18), (37, Tryz.f37), (33, Tryz.f33), (19, Tryz.f19), (11, Tryz.f11), (34, Tryz.f34), (53, Tryz.f53), (35, Tryz.f35), (20, Tryz.f20)]
def quietB : List Nat := [4, 5, 21, 12, 22, 38, 54, 79, 58, 82, 59, 109, 116, 39, 117, 124, 127, 81, 55, 56, 83, 99, 27, 45, 63, 66, 85, 100, 110, 118, 120, 121, 126, 86, 112, 113, 123, 104, 105, 64, 84, 101, 102, 90, 111, 122, 92, 47, 72, 73, 91, 65, 67, 87, 50, 46, 68, 88, 69, 70, 75, 93, 106, 76, 94, 77, 78, 95, 96, 107, 115, 97, 108, 9, 30, 17, 31, 16, 37, 11, 34, 53, 35, 20]
def addsB : List Nat := [13, 98, 80, 57, 60, 61, 24, 43, 44, 15, 71, 89, 103, 28, 48, 74, 49]
def takesB : List (Nat × List Nat) := [(4, [4, 5, 21, 5, 23, 4, 26, 5, 28, 4, 30, 8, 43, 13, 54, 60, 61, 62, 4, 4, 4, 14, 76, 14, 79, 14, 81, 83, 89, 95, 96, 97, 4, 15, 101, 15, 104, 15, 16, 107, 16, 109, 4, 112, 16, 114, 4, 116, 117, 4, 119, 19, 132, 138, 139, 140, 4, 16, 144, 16, 146, 4, 149, 16, 151, 4, 153, 154, 4, 4, 2000022, 2000027, 2000032, 2000034, 2000035, 2000040, 2000042, 2000046, 5000046, 3000046, 2000052, 2000057, 2000067, 2000068, 2000072, 2000073, 2000077, 2000080, 2000086, 2000092, 2000102, 2000105, 2000108, 2000113, 2000121, 2000123, 2000124, 5000124, 3000124, 2000130, 2000135, 2000145, 2000150]), (5, [4, 5, 1, 10, 4, 14, 1, 16, 4, 20, 1, 22, 4, 24, 4]), (21, [4, 5, 1, 10, 4, 14, 1, 16, 4, 20, 1, 22, 4, 24, 4]), (12, [4, 6, 1, 10, 4, 5, 12, 18, 20, 1, 25, 4, 16, 5, 27, 4]), (22, [4, 6, 1, 10, 4, 5, 12, 19, 22, 1, 24, 4, 16, 5, 26, 4]), (7, [18]), (25, [15]), (14, [2, 3, 4, 8, 15, 17, 12, 4, 21, 2]), (26, [2, 3, 4, 8, 15, 17, 12, 4, 22, 2]), (13, [5, 6, 11, 10, 15, 8, 9, 20, 22, 5, 6]), (36, [5, 6, 7, 18, 5, 6, 19, 9, 21, 28, 30, 27, 34, 11, 12, 37, 5, 6, 41, 43, 44, 7, 47, 25, 9, 48, 49, 5, 6]), (38, [2, 10, 15, 20, 24, 31, 2, 4, 37, 46, 2, 42, 4, 54, 2, 66, 2, 74, 74, 2, 81, 2, 90, 2]), (54, [2, 8, 14, 20, 2, 3, 26, 35, 2, 31, 3, 4, 40, 49, 2, 45, 4, 2]), (79, [2, 6, 5, 4, 10, 11, 18, 2]), (98, [3, 9, 8, 4, 5, 6, 14, 15, 19, 20, 3]), (58, [4, 5, 6, 7, 10, 11, 14, 15, 19, 20, 18, 8, 9, 24, 26, 4, 5, 6, 27, 7, 28, 29, 31, 33, 34, 36, 37, 4, 5, 6, 40, 7, 42, 4, 5, 6]), (82, [4, 5, 6, 8, 7, 10, 11, 16, 17, 20, 21, 4, 5, 23, 24, 27, 7, 29, 30, 4, 5, 33, 34, 35, 36, 6, 14, 7, 4, 5]), (59, [2, 5, 4, 7, 14, 18, 20, 26, 28, 11, 4, 2]), (109, [2, 6, 12, 17, 23, 2]), (116, [2, 3, 5, 6, 2]), (39, [2, 3, 4, 5, 8, 9, 14, 15, 18, 19, 20, 2, 12, 3, 24, 2]), (117, [2, 5, 4, 7, 14, 2, 11, 4, 19, 2]), (80, [4, 5, 6, 7, 9, 10, 15, 16, 18, 20, 21, 22, 23, 5, 27, 6, 13, 7, 29, 30, 31, 4]), (124, [2, 3, 4, 5, 8, 9, 14, 15, 2, 12, 3, 19, 22, 23, 2]), (127, [2, 3, 4, 8, 9, 2, 6, 3, 12, 2]), (81, [2, 3, 5, 6, 9, 10, 12, 13, 17, 18, 20, 21, 2]), (55, [2, 7, 4, 9, 16, 5, 19, 21, 22, 26, 27, 28, 2, 6, 34, 35, 40, 41, 45, 46, 47, 51, 52, 53, 56, 57, 58, 2, 38, 6, 13, 4, 63, 2]), (56, [2, 5, 11, 2]), (40, [4, 13, 21, 24, 18, 4, 31]), (57, [7, 11]), (6, [5, 6, 11, 12, 10, 8, 9, 19, 20, 5, 6]), (23, [5, 6, 12, 17, 18, 5, 6, 23, 8, 29, 30, 28, 32, 8, 35, 36, 34, 38, 8, 40, 41, 5, 6]), (41, [5, 7, 9, 11, 12, 16, 1, 25, 26, 31, 5, 33, 37, 42, 5, 43, 48, 5, 50, 51, 55, 5]), (42, [5, 10, 9, 6, 7, 8, 15, 17, 20, 22, 5, 24, 27, 29, 5, 31, 33, 34, 36, 5, 38, 40, 45, 5, 47, 5, 48, 56, 5, 57, 59, 5, 60, 65, 5, 66, 5]), (60, [5, 6, 9, 10, 14, 15, 21, 5, 22, 29, 5]), (61, [5, 9, 8, 6, 7, 14, 13, 16, 5, 17, 21, 5, 23, 26, 5]), (83, [4, 5, 10, 6, 12, 14, 17, 18, 19, 21, 25, 26, 27, 31, 32, 33, 4, 5, 39, 40, 42, 7, 46, 4, 5, 49, 48, 9, 59, 4, 5]), (99, [4, 5, 7, 4]), (62, [5, 9, 8, 6, 7, 14, 16, 17, 13, 20, 5, 25, 21, 30, 5, 31, 37, 5, 41, 42, 47, 5]), (24, [11]), (43, [5, 10, 13]), (44, [2, 3, 9, 13, 3, 9, 19, 2]), (15, [5, 6, 5, 6, 8, 22, 10, 27, 26, 11, 12, 31, 5, 6, 34, 36, 37, 8, 22, 41, 42, 5, 6]), (27, [2, 6, 11, 17, 23, 27, 2, 38, 34, 2, 56, 47, 2, 68, 62, 2, 77, 82, 87, 2]), (45, [6, 10, 14, 17, 23, 29, 32, 6]), (63, [2, 3, 5, 6, 2]), (66, [2, 7, 6, 3, 4, 5, 12, 13, 14, 17, 18, 2]), (85, [4, 5, 6, 7, 8, 4, 5, 6]), (100, [4, 5, 6, 8, 9, 7, 11, 13, 14, 16, 17, 18, 4, 5, 6, 22, 4, 5, 6]), (110, [4, 14, 5, 17, 19, 20, 21, 16, 4, 25, 24, 27, 28, 4, 32, 33, 31, 4, 37, 40, 41, 36, 45, 46, 4, 48, 6, 50, 7, 8, 52, 54, 9, 10, 57, 58, 60, 61, 63, 65, 66, 68, 70, 11, 72, 4, 74, 75, 8, 78, 79, 82, 84, 85, 86, 87, 88, 91, 94, 4, 95, 8, 97, 10, 99, 102, 103, 104, 108, 109, 111, 12, 113, 115, 116, 4, 4, 118, 121, 122, 123, 128, 129, 130, 133, 134, 136, 13, 138, 4, 140, 141, 4, 4]), (118, [4, 5, 6, 4]), (120, [2, 3, 2]), (121, [4, 12, 11, 5, 6, 16, 7, 8, 9, 18, 19, 23, 25, 26, 8, 21, 9, 30, 31, 33, 34, 35, 37, 4, 40, 10, 41, 42, 45, 8, 47, 48, 49, 8, 53, 54, 55, 56, 57, 8, 63, 10, 65, 66, 68, 69, 70, 71, 73, 75, 78, 79, 4, 4]), (126, [2, 3, 4, 5, 9, 10, 15, 17, 18, 4, 13, 5, 6, 7, 22, 8, 24, 28, 31, 32, 6, 34, 35, 7, 26, 8, 37, 38, 2, 3]), (86, [2, 3, 6, 7, 2]), (71, [4, 5, 6, 4]), (89, [8, 12, 8, 14, 16, 17, 8, 19, 21, 22, 3, 25, 26, 3, 30, 32, 3, 10, 34, 35, 37, 38, 11, 40, 43, 44, 45, 46, 50, 51, 52, 0, 56, 10, 59, 60, 63, 8]), (103, [4, 10, 5, 12, 14, 15, 16, 19, 1, 20, 6, 7, 22, 23, 29, 28, 8, 9, 34, 35, 36, 39, 40, 0, 26, 7, 42, 45, 47, 49, 4]), (112, [2, 3, 7, 2, 9, 2]), (113, [2, 3, 4, 6, 7, 11, 2, 3, 15, 14, 2, 3]), (123, [2, 3, 13, 4, 15, 2, 3, 17, 5, 19, 6, 22, 24, 7, 28, 31, 33, 2, 3, 36, 8, 39, 43, 44, 2, 3, 46, 10, 48, 52, 55, 2, 3, 58, 60, 64, 2, 3, 68, 11, 70, 72, 73, 2, 3, 76, 78, 82, 87, 2, 3, 91, 12, 93, 95, 96, 2, 3, 99, 103, 108, 113, 2, 3]), (104, [4, 7, 10, 4, 13, 16, 17, 4, 5, 20, 21, 6, 23, 25, 4, 26, 5, 28, 29, 30, 0]), (105, [4, 5, 6, 4]), (64, [4, 6, 4]), (84, [4, 8, 10, 5, 11, 13, 17, 4, 8, 4]), (101, [2, 3, 2]), (102, [2, 3, 6, 7, 11, 12, 2]), (90, [4, 6, 8, 10, 5, 11, 12, 13, 4, 8, 4]), (111, [2, 3, 5, 6, 9, 10, 13, 14, 16, 17, 21, 22, 25, 26, 29, 30, 33, 34, 37, 38, 41, 42, 45, 46, 48, 49, 53, 54, 56, 57, 2]), (122, [2, 3, 5, 6, 9, 10, 12, 13, 2]), (92, [2, 3, 5, 6, 2]), (47, [2, 3, 6, 7, 2]), (72, [2, 3, 2]), (73, [2, 3, 5, 6, 10, 11, 12, 18, 19, 2]), (91, [2, 3, 5, 6, 9, 10, 13, 14, 2]), (65, [2, 3, 2]), (67, [4, 7, 9, 4]), (87, [2, 3, 2]), (50, [2, 4, 6, 8, 3, 9, 10, 13, 14, 15, 2, 6, 20, 2]), (46, [4, 7, 9, 4]), (68, [4, 6, 4]), (88, [4, 8, 10, 5, 11, 13, 17, 4, 8, 4]), (69, [2, 2]), (70, [2, 2]), (74, [2, 2, 6, 2]), (49, [2, 3, 9, 13, 3, 9, 19, 2]), (29, [4, 5, 7, 12, 13, 6, 4, 5, 18, 17, 23, 24, 4, 5, 26, 27, 4, 5]), (51, [4, 6, 8, 15, 16, 20, 21, 4, 28, 31, 32, 33, 39, 4, 45, 44, 4, 51, 52, 55, 56, 4]), (75, [4, 5, 6, 4]), (93, [4, 5, 6, 8, 9, 4, 12, 4]), (106, [4, 5, 7, 10, 11, 12, 15, 4]), (52, [4, 14, 5, 6, 7, 15, 8, 17, 19, 20, 22, 23, 5, 6, 7, 26, 5, 29, 28, 31, 9, 33, 35, 36, 4, 40, 41, 42, 43, 4, 52, 51, 55, 54, 10, 11, 60, 59, 4, 63, 62, 4, 68, 69, 70, 4, 77, 76, 80, 79, 12, 13, 85, 87, 88, 84, 4, 92, 97, 98, 91, 4, 105, 104, 4, 112, 113, 114, 118, 119, 4, 128, 127, 4, 130, 129, 132, 4, 137, 4, 141, 140, 143, 147, 152, 4, 156, 155, 4, 159, 158, 161, 162, 4, 4]), (76, [4, 5, 9, 10, 15, 16, 18, 21, 22, 20, 6, 7, 8, 28, 4, 30, 31, 5, 35, 34, 37, 4, 13, 5, 4]), (94, [2, 3, 4, 5, 6, 8, 9, 15, 16, 14, 21, 2, 3, 4, 24, 25, 23, 28, 6, 30, 31, 2, 3, 4, 34, 35, 36, 5, 12, 6, 2, 3, 4]), (77, [2, 6, 10, 12, 4, 5, 15, 17, 18, 22, 10, 2]), (78, [4, 5, 12, 14, 17, 18, 19, 22, 4, 5, 27, 28, 26, 6, 7, 35, 34, 6, 8, 39, 41, 42, 4, 5, 46, 45, 9, 10, 11, 51, 52, 54, 6, 57, 58, 4, 5]), (95, [4, 5, 7, 4]), (96, [4, 5, 6, 7, 4, 5]), (107, [4, 5, 6, 7, 10, 4, 5, 11, 12, 14, 4, 5]), (115, [4, 5, 7, 10, 11, 12, 14, 18, 4]), (97, [4, 5, 6, 7, 4, 5]), (108, [4, 5, 6, 7, 10, 4, 5, 11, 12, 4, 5]), (9, [4, 4, 4, 4, 4, 4]), (30, [4, 4, 4, 4, 4]), (17, [4, 4, 5, 11, 18, 22, 4, 15, 5, 4]), (31, [4, 4, 5, 11, 18, 22, 4, 15, 5, 4]), (16, [4, 4, 5, 11, 18, 22, 4, 15, 5, 4]), (10, [4, 7, 1, 11, 1, 13, 4]), (32, [4, 7, 1, 11, 1, 13, 4]), (18, [4, 5, 6, 13, 14, 17, 1, 10, 5, 19, 4]), (37, [2, 4, 2, 3, 6, 8, 14, 3, 16, 0, 18, 2]), (33, [4, 5, 6, 13, 14, 18, 1, 21, 25, 1, 28, 32, 1, 10, 5, 34, 4]), (19, [4, 5, 6, 13, 14, 16, 1, 10, 5, 18, 4]), (11, [4, 7, 1, 9, 4, 13, 1, 15, 4, 17, 4]), (34, [4, 7, 1, 9, 4, 13, 1, 15, 4, 17, 4]), (53, [4, 5, 6, 13, 16, 4, 19, 1, 10, 5, 21, 4]), (35, [4, 5, 6, 13, 17, 4, 20, 1, 23, 27, 1, 29, 4, 32, 36, 1, 38, 4, 10, 5, 40, 4]), (20, [4, 5, 6, 13, 16, 4, 18, 1, 10, 5, 20, 4])]
def mvB : List (Nat × List Nat) := [(13, [0]), (36, [0]), (40, [0]), (6, [0]), (23, [0]), (41, [0]), (42, [0]), (62, [0])]
def extsB : List (Nat × Nat) := [(125, 0), (119, 2), (114, 1)]
noncomputable def primA : List (Nat × (List Value -> Heap -> Option (Value × Heap))) := []
noncomputable def primV : List (Nat × (List V -> VH -> Option (V × VH))) := []
noncomputable def base : Base where
 ng := 0
 tab := tabB
 fn := Go.AM.look fnB
 ann := annOf annB
 kind := kindX quietB addsB extsB
 ext := extA
 prim := fun f => Go.AM.look primA f
def globB : Nat -> Option (List V) := fun _ => none
noncomputable def vb : BaseV where
 b := base
 glob := globB
 takes := listOf takesB
 mv := listOf mvB
 prim := fun f => Go.AM.look primV f
noncomputable def cv : CallV := callV vb
noncomputable def pc : FuncId -> List V -> Option V := pcall cv
noncomputable def qc : FuncId -> List V -> Option V := qpcall cv
noncomputable def pco : FuncId -> VH -> List V -> Option V := pcallO cv
noncomputable def pcu : FuncId -> VH -> List V -> Option V := pcallU cv
noncomputable def qco : FuncId -> VH -> List V -> Option V := qpcallO cv
set_option maxRecDepth 100000 in
theorem fns : FnsOk Tryz.prog fnB := by
 unfold fnB
 refine ⟨⟨rfl, by kernel_rfl⟩, ⟨rfl, by kernel_rfl⟩, ⟨rfl, by kernel_rfl⟩, ⟨rfl, by kernel_rfl⟩, ⟨rfl, by kernel_rfl⟩, ⟨rfl, by kernel_rfl⟩, ⟨rfl, by kernel_rfl⟩, ⟨rfl, by kernel_rfl⟩, ⟨rfl, by kernel_rfl⟩, ⟨rfl, by kernel_rfl⟩, ⟨rfl, by kernel_rfl⟩, ⟨rfl, by kernel_rfl⟩, ⟨rfl, by kernel_rfl⟩, ⟨rfl, by kernel_rfl⟩, ⟨rfl, by kernel_rfl⟩, ⟨rfl, by kernel_rfl⟩, ⟨rfl, by kernel_rfl⟩, ⟨rfl, by kernel_rfl⟩, ⟨rfl, by kernel_rfl⟩, ⟨rfl, by kernel_rfl⟩, ⟨rfl, by kernel_rfl⟩, ⟨rfl, by kernel_rfl⟩, ⟨rfl, by kernel_rfl⟩, ⟨rfl, by kernel_rfl⟩, ⟨rfl, by kernel_rfl⟩, ⟨rfl, by kernel_rfl⟩, ⟨rfl, by kernel_rfl⟩, ⟨rfl, by kernel_rfl⟩, ⟨rfl, by kernel_rfl⟩, ⟨rfl, by kernel_rfl⟩, ⟨rfl, by kernel_rfl⟩, ⟨rfl, by kernel_rfl⟩, ⟨rfl, by kernel_rfl⟩, ⟨rfl, by kernel_rfl⟩, ⟨rfl, by kernel_rfl⟩, ⟨rfl, by kernel_rfl⟩, ⟨rfl, by kernel_rfl⟩, ⟨rfl, by kernel_rfl⟩, ⟨rfl, by kernel_rfl⟩, ⟨rfl, by kernel_rfl⟩, ⟨rfl, by kernel_rfl⟩, ⟨rfl, by kernel_rfl⟩, ⟨rfl, by kernel_rfl⟩, ⟨rfl, by kernel_rfl⟩, ⟨rfl, by kernel_rfl⟩, ⟨rfl, by kernel_rfl⟩, ⟨rfl, by kernel_rfl⟩, ⟨rfl, by kernel_rfl⟩, ⟨rfl, by kernel_rfl⟩, ⟨rfl, by kernel_rfl⟩, ⟨rfl, by kernel_rfl⟩, ⟨rfl, by kernel_rfl⟩, ⟨rfl, by kernel_rfl⟩, ⟨rfl, by kernel_rfl⟩, ⟨rfl, by kernel_rfl⟩, ⟨rfl, by kernel_rfl⟩, ⟨rfl, by kernel_rfl⟩, ⟨rfl, by kernel_rfl⟩, ⟨rfl, by kernel_rfl⟩, ⟨rfl, by kernel_rfl⟩, ⟨rfl, by kernel_rfl⟩, ⟨rfl, by kernel_rfl⟩, ⟨rfl, by kernel_rfl⟩, ⟨rfl, by kernel_rfl⟩, ⟨rfl, by kernel_rfl⟩, ⟨rfl, by kernel_rfl⟩, ⟨rfl, by kernel_rfl⟩, ⟨rfl, by kernel_rfl⟩, ⟨rfl, by kernel_rfl⟩, ⟨rfl, by kernel_rfl⟩, ⟨rfl, by kernel_rfl⟩, ⟨rfl, by kernel_rfl⟩, ⟨rfl, by kernel_rfl⟩, ⟨rfl, by kernel_rfl⟩, ⟨rfl, by kernel_rfl⟩, ⟨rfl, by kernel_rfl⟩, ⟨rfl, by kernel_rfl⟩, ⟨rfl, by kernel_rfl⟩, ⟨rfl, by kernel_rfl⟩, ⟨rfl, by kernel_rfl⟩, ⟨rfl, by kernel_rfl⟩, ⟨rfl, by kernel_rfl⟩, ⟨rfl, by kernel_rfl⟩, ⟨rfl, by kernel_rfl⟩, ⟨rfl, by kernel_rfl⟩, ⟨rfl, by kernel_rfl⟩, ⟨rfl, by kernel_rfl⟩, ⟨rfl, by kernel_rfl⟩, ⟨rfl, by kernel_rfl⟩, ⟨rfl, by kernel_rfl⟩, ⟨rfl, by kernel_rfl⟩, ⟨rfl, by kernel_rfl⟩, ⟨rfl, by kernel_rfl⟩, ⟨rfl, by kernel_rfl⟩, ⟨rfl, by kernel_rfl⟩, ⟨rfl, by kernel_rfl⟩, ⟨rfl, by kernel_rfl⟩, ⟨rfl, by kernel_rfl⟩, ⟨rfl, by kernel_rfl⟩, ⟨rfl, by kernel_rfl⟩, ⟨rfl, by kernel_rfl⟩, ⟨rfl, by kernel_rfl⟩, ⟨rfl, by kernel_rfl⟩, ⟨rfl, by kernel_rfl⟩, ⟨rfl, by kernel_rfl⟩, ⟨rfl, by kernel_rfl⟩, ⟨rfl, by kernel_rfl⟩, ⟨rfl, by kernel_rfl⟩, ⟨rfl, by kernel_rfl⟩, ⟨rfl, by kernel_rfl⟩, ⟨rfl, by kernel_rfl⟩, ⟨rfl, by kernel_rfl⟩, ⟨rfl, by kernel_rfl⟩, ⟨rfl, by kernel_rfl⟩, ⟨rfl, by kernel_rfl⟩, ⟨rfl, by kernel_rfl⟩, ⟨rfl, by kernel_rfl⟩, ⟨rfl, by kernel_rfl⟩, ⟨rfl, by kernel_rfl⟩, ⟨rfl, by kernel_rfl⟩, trivial⟩
theorem tabs : tabB? Tryz.prog tabB = true := by kernel_rfl
theorem exts : ExtFns Tryz.prog extsB := by
 unfold extsB
 exact ⟨fun args w => Go.run_callFunc_extern (fn := Tryz.f125) (e := Extern.BytealgIndexByte.indexByte) (by kernel_rfl) (by kernel_rfl) (by kernel_rfl) (by kernel_rfl) (by kernel_rfl) args w, trivial, fun args w => Go.run_callFunc_extern (fn := Tryz.f114) (e := Extern.BytealgCount.count) (by kernel_rfl) (by kernel_rfl) (by kernel_rfl) (by kernel_rfl) (by kernel_rfl) args w, trivial⟩
theorem primsA_ok : PrimsOk Tryz.prog 0 primA := trivial
theorem base_ok : BaseOk Tryz.prog base where
 tab := tab_ok tabs
 fn := fns_ok fns
 ext := ext_ok exts
 prim := prims_ok (P := Tryz.prog) (ng := 0) primsA_ok
 mixed := by kernel_rfl
theorem primsV_ok : PrimsSim vb primV := trivial
theorem vb_ok : BaseVOk vb where
 zero := tab_zero (tab_ok tabs)
 sl := tab_sl (tab_ok tabs)
 gd := fun g cs h => by cases h
 pos := tab_pos (by kernel_rfl)
 noprim := fun f h => look_keys (f := f) (l := primV) (l' := primA) rfl h
 prim := prims_sim primsV_ok
end Go.Proofs.YtjpkhkndkockiaaGreatDoor.Q
