/- The program's functions, types and marks, as the machines take them. -/
import Derived.Test.YtjbekhailkednaaDoorProg
import Derived.Test.YtjbekhailkednaaDoorK4
import Derived.KernelRfl
namespace Go.Proofs.YtjbekhailkednaaDoor.Q
open Go Go.AM Go.Proofs
set_option linter.unusedVariables false
def id_laws_FnSpeakTwice : Nat := 4
def id_spec_DrawSpeakMail : Nat := 5
def id_spec_l13Open : Nat := 11
def id_spec_l10DrawMail : Nat := 13
def id_spec_l13Rd_of : Nat := 27
def id_spec_l13Rd_pick : Nat := 26
def id_spec_l13Rd_num : Nat := 28
def id_spec_l10WrongMail : Nat := 12
def id_spec_l10Mail : Nat := 25
def id_impl_SpeakMail : Nat := 6
def id_impl_MailValid : Nat := 14
def id_impl_draftValid : Nat := 29
def id_impl_isFrom : Nat := 39
def id_impl_isPath : Nat := 41
def id_strings_Cut : Nat := 55
def id_internal_stringslite_Cut : Nat := 69
def id_internal_stringslite_Index : Nat := 80
def id_internal_stringslite_IndexByte : Nat := 90
def id_internal_bytealg_IndexByteString : Nat := 99
def id_internal_bytealg_IndexString : Nat := 91
def id_internal_bytealg_Cutover : Nat := 92
def id_internal_bytealg_IndexRabinKarp_string_ : Nat := 93
def id_internal_bytealg_hashStr_string_ : Nat := 100
def id_impl_isLocal : Nat := 56
def id_strings_Split : Nat := 47
def id_strings_genSplit : Nat := 60
def id_strings_explode : Nat := 75
def id_unicode_utf8_RuneCountInString : Nat := 86
def id_unicode_utf8_DecodeRuneInString : Nat := 87
def id_unicode_utf8_decodeRuneInStringSlow : Nat := 98
def id_strings_Count : Nat := 76
def id_internal_bytealg_CountString : Nat := 88
def id_strings_Index : Nat := 77
def id_slices_ContainsFunc___string_string_ : Nat := 16
def id_slices_IndexFunc___string_string_ : Nat := 31
def id_impl_isLocal_1 : Nat := 70
def id_impl_AtomValid : Nat := 71
def id_impl_allBytes : Nat := 61
def id_impl_isAtomByte : Nat := 81
def id_impl_isLetter : Nat := 94
def id_impl_isDigit : Nat := 63
def id_impl_isDomain : Nat := 34
def id_impl_isDomain_1 : Nat := 48
def id_impl_isLabel : Nat := 49
def id_impl_isLabel_1 : Nat := 62
def id_impl_draftValid_1 : Nat := 40
def id_impl_areTexts : Nat := 42
def id_impl_areTexts_1 : Nat := 57
def id_impl_TextValid : Nat := 18
def id_impl_stuffed : Nat := 15
def id_strings_HasPrefix : Nat := 30
def id_internal_stringslite_HasPrefix : Nat := 43
def id_impl_SpeakMail_1 : Nat := 17
def id_spec_SpeakMail : Nat := 7
def id_spec_MailValid : Nat := 19
def id_spec_l10Draft : Nat := 32
def id_spec_l10Box : Nat := 44
def id_spec_l2Box : Nat := 58
def id_spec_l2Cut : Nat := 72
def id_spec_l1Read : Nat := 82
def id_spec_LowerText : Nat := 73
def id_spec_AddressValid : Nat := 74
def id_spec_l2Name : Nat := 83
def id_spec_TextValid : Nat := 20
def id_spec_l2Local : Nat := 84
def id_spec_l2Parts : Nat := 95
def id_spec_AtomValid : Nat := 96
def id_spec_l1Atom : Nat := 101
def id_spec_l1Letter : Nat := 97
def id_spec_l2Domain : Nat := 85
def id_laws_mwTexts : Nat := 8
def id_impl_SayAll : Nat := 9
def id_impl_SessionValid : Nat := 21
def id_impl_mailsValid : Nat := 33
def id_slices_ContainsFunc___impl_Mail_impl_Mail_ : Nat := 45
def id_slices_IndexFunc___impl_Mail_impl_Mail_ : Nat := 59
def id_impl_mailsValid_1 : Nat := 46
def id_impl_copySession : Nat := 22
def id_impl_copyMail : Nat := 35
def id_slices_Clone___string_string_ : Nat := 50
def id_impl_copyMails : Nat := 36
def id_impl_Session_say : Nat := 23
def id_impl_Session_sayData : Nat := 37
def id_strings_TrimPrefix : Nat := 51
def id_internal_stringslite_TrimPrefix : Nat := 64
def id_impl_Session_sayCommand : Nat := 38
def id_impl_outside : Nat := 52
def id_impl_quoted : Nat := 65
def id_impl_LowerText : Nat := 53
def id_impl_pathIn : Nat := 54
def id_impl_SameText : Nat := 66
def id_strings_CutSuffix : Nat := 67
def id_internal_stringslite_CutSuffix : Nat := 78
def id_internal_stringslite_HasSuffix : Nat := 89
def id_strings_CutPrefix : Nat := 68
def id_internal_stringslite_CutPrefix : Nat := 79
def id_impl_MailSame : Nat := 10
def id_slices_Equal___string_string_ : Nat := 24
noncomputable def tabB : List (Nat × TI) := [
  (22, ⟨.slice 5 1 1 [(.int .u8 0)], false, 1, [(.slice none 0 0)]⟩),
  (3, ⟨.int .i64, false, 1, [(.int .i64 0)]⟩),
  (25, ⟨.struct [(0, 1, false), (1, 1, false), (2, 1, false)], true, 3, [(.string (bs [])), (.slice none 0 0), (.slice none 0 0)]⟩),
  (23, ⟨.slice 9 1 16 [(.string (bs []))], false, 1, [(.slice none 0 0)]⟩),
  (4, ⟨.bool, false, 1, [(.bool false)]⟩),
  (32, ⟨.struct [(0, 1, false), (1, 1, false), (2, 3, true), (5, 1, false)], true, 6, [(.int .i64 0), (.string (bs [])), (.string (bs [])), (.slice none 0 0), (.slice none 0 0), (.slice none 0 0)]⟩),
  (30, ⟨.slice 25 3 64 [(.string (bs [])), (.slice none 0 0), (.slice none 0 0)], false, 1, [(.slice none 0 0)]⟩),
  (38, ⟨.other, false, 1, [(.pointer none)]⟩),
  (51, ⟨.struct [(0, 1, false), (1, 1, false)], true, 2, [(.slice none 0 0), (.int .i64 0)]⟩),
  (33, ⟨.slice 3 1 8 [(.int .i64 0)], false, 1, [(.slice none 0 0)]⟩),
  (9, ⟨.str, false, 1, [(.string (bs []))]⟩),
  (5, ⟨.int .u8, false, 1, [(.int .u8 0)]⟩),
  (45, ⟨.other, false, 1, [.nilFunc]⟩),
  (93, ⟨.int .u32, false, 1, [(.int .u32 0)]⟩),
  (21, ⟨.int .i32, false, 1, [(.int .i32 0)]⟩),
  (96, ⟨.arr 256 1, true, 256, [(.int .u8 0), (.int .u8 0), (.int .u8 0), (.int .u8 0), (.int .u8 0), (.int .u8 0), (.int .u8 0), (.int .u8 0), (.int .u8 0), (.int .u8 0), (.int .u8 0), (.int .u8 0), (.int .u8 0), (.int .u8 0), (.int .u8 0), (.int .u8 0), (.int .u8 0), (.int .u8 0), (.int .u8 0), (.int .u8 0), (.int .u8 0), (.int .u8 0), (.int .u8 0), (.int .u8 0), (.int .u8 0), (.int .u8 0), (.int .u8 0), (.int .u8 0), (.int .u8 0), (.int .u8 0), (.int .u8 0), (.int .u8 0), (.int .u8 0), (.int .u8 0), (.int .u8 0), (.int .u8 0), (.int .u8 0), (.int .u8 0), (.int .u8 0), (.int .u8 0), (.int .u8 0), (.int .u8 0), (.int .u8 0), (.int .u8 0), (.int .u8 0), (.int .u8 0), (.int .u8 0), (.int .u8 0), (.int .u8 0), (.int .u8 0), (.int .u8 0), (.int .u8 0), (.int .u8 0), (.int .u8 0), (.int .u8 0), (.int .u8 0), (.int .u8 0), (.int .u8 0), (.int .u8 0), (.int .u8 0), (.int .u8 0), (.int .u8 0), (.int .u8 0), (.int .u8 0), (.int .u8 0), (.int .u8 0), (.int .u8 0), (.int .u8 0), (.int .u8 0), (.int .u8 0), (.int .u8 0), (.int .u8 0), (.int .u8 0), (.int .u8 0), (.int .u8 0), (.int .u8 0), (.int .u8 0), (.int .u8 0), (.int .u8 0), (.int .u8 0), (.int .u8 0), (.int .u8 0), (.int .u8 0), (.int .u8 0), (.int .u8 0), (.int .u8 0), (.int .u8 0), (.int .u8 0), (.int .u8 0), (.int .u8 0), (.int .u8 0), (.int .u8 0), (.int .u8 0), (.int .u8 0), (.int .u8 0), (.int .u8 0), (.int .u8 0), (.int .u8 0), (.int .u8 0), (.int .u8 0), (.int .u8 0), (.int .u8 0), (.int .u8 0), (.int .u8 0), (.int .u8 0), (.int .u8 0), (.int .u8 0), (.int .u8 0), (.int .u8 0), (.int .u8 0), (.int .u8 0), (.int .u8 0), (.int .u8 0), (.int .u8 0), (.int .u8 0), (.int .u8 0), (.int .u8 0), (.int .u8 0), (.int .u8 0), (.int .u8 0), (.int .u8 0), (.int .u8 0), (.int .u8 0), (.int .u8 0), (.int .u8 0), (.int .u8 0), (.int .u8 0), (.int .u8 0), (.int .u8 0), (.int .u8 0), (.int .u8 0), (.int .u8 0), (.int .u8 0), (.int .u8 0), (.int .u8 0), (.int .u8 0), (.int .u8 0), (.int .u8 0), (.int .u8 0), (.int .u8 0), (.int .u8 0), (.int .u8 0), (.int .u8 0), (.int .u8 0), (.int .u8 0), (.int .u8 0), (.int .u8 0), (.int .u8 0), (.int .u8 0), (.int .u8 0), (.int .u8 0), (.int .u8 0), (.int .u8 0), (.int .u8 0), (.int .u8 0), (.int .u8 0), (.int .u8 0), (.int .u8 0), (.int .u8 0), (.int .u8 0), (.int .u8 0), (.int .u8 0), (.int .u8 0), (.int .u8 0), (.int .u8 0), (.int .u8 0), (.int .u8 0), (.int .u8 0), (.int .u8 0), (.int .u8 0), (.int .u8 0), (.int .u8 0), (.int .u8 0), (.int .u8 0), (.int .u8 0), (.int .u8 0), (.int .u8 0), (.int .u8 0), (.int .u8 0), (.int .u8 0), (.int .u8 0), (.int .u8 0), (.int .u8 0), (.int .u8 0), (.int .u8 0), (.int .u8 0), (.int .u8 0), (.int .u8 0), (.int .u8 0), (.int .u8 0), (.int .u8 0), (.int .u8 0), (.int .u8 0), (.int .u8 0), (.int .u8 0), (.int .u8 0), (.int .u8 0), (.int .u8 0), (.int .u8 0), (.int .u8 0), (.int .u8 0), (.int .u8 0), (.int .u8 0), (.int .u8 0), (.int .u8 0), (.int .u8 0), (.int .u8 0), (.int .u8 0), (.int .u8 0), (.int .u8 0), (.int .u8 0), (.int .u8 0), (.int .u8 0), (.int .u8 0), (.int .u8 0), (.int .u8 0), (.int .u8 0), (.int .u8 0), (.int .u8 0), (.int .u8 0), (.int .u8 0), (.int .u8 0), (.int .u8 0), (.int .u8 0), (.int .u8 0), (.int .u8 0), (.int .u8 0), (.int .u8 0), (.int .u8 0), (.int .u8 0), (.int .u8 0), (.int .u8 0), (.int .u8 0), (.int .u8 0), (.int .u8 0), (.int .u8 0), (.int .u8 0), (.int .u8 0), (.int .u8 0), (.int .u8 0), (.int .u8 0), (.int .u8 0), (.int .u8 0), (.int .u8 0), (.int .u8 0), (.int .u8 0), (.int .u8 0), (.int .u8 0), (.int .u8 0), (.int .u8 0), (.int .u8 0), (.int .u8 0), (.int .u8 0), (.int .u8 0), (.int .u8 0), (.int .u8 0)]⟩),
  (99, ⟨.arr 16 2, true, 32, [(.int .u8 0), (.int .u8 0), (.int .u8 0), (.int .u8 0), (.int .u8 0), (.int .u8 0), (.int .u8 0), (.int .u8 0), (.int .u8 0), (.int .u8 0), (.int .u8 0), (.int .u8 0), (.int .u8 0), (.int .u8 0), (.int .u8 0), (.int .u8 0), (.int .u8 0), (.int .u8 0), (.int .u8 0), (.int .u8 0), (.int .u8 0), (.int .u8 0), (.int .u8 0), (.int .u8 0), (.int .u8 0), (.int .u8 0), (.int .u8 0), (.int .u8 0), (.int .u8 0), (.int .u8 0), (.int .u8 0), (.int .u8 0)]⟩),
  (98, ⟨.struct [(0, 1, false), (1, 1, false)], true, 2, [(.int .u8 0), (.int .u8 0)]⟩),
  (80, ⟨.other, false, 1, [.nilFunc]⟩),
  (74, ⟨.struct [(0, 1, false), (1, 1, false), (2, 1, false)], true, 3, [(.string (bs [])), (.string (bs [])), (.string (bs []))]⟩),
  (42, ⟨.other, false, 1, [.nilFunc]⟩),
  (61, ⟨.other, false, 1, [(.pointer none)]⟩)]
noncomputable def annB : List (Nat × Ann) := [
  (4, { loc := [3, 9], loops := [], joins := [(6, 8, [(.ret, ⟨[2], [], []⟩), (.normal, ⟨[4], [(3, (3, 0))], [(3, 3)]⟩)])], full := [50], dynQ := false }),
  (5, { loc := [2], loops := [], joins := [], full := [], dynQ := false }),
  (11, { loc := [], loops := [], joins := [(1, 3, [(.normal, ⟨[0], [], []⟩)])], full := [], dynQ := false }),
  (13, { loc := [2, 3], loops := [(7, ⟨⟨[0, 5], [(2, (2, 0)), (3, (3, 0))], [(2, 3), (3, 3)]⟩, [(.exit 2, ⟨[], [(2, (2, 0)), (3, (3, 0))], [(2, 3), (3, 3)]⟩)]⟩), (3, ⟨⟨[0, 4], [(2, (2, 0)), (3, (3, 0))], [(2, 3), (3, 3)]⟩, [(.exit 0, ⟨[0], [(2, (2, 0)), (3, (3, 0))], [(2, 3), (3, 3)]⟩)]⟩)], joins := [], full := [], dynQ := false }),
  (27, { loc := [], loops := [], joins := [], full := [], dynQ := false }),
  (26, { loc := [], loops := [], joins := [(2, 4, [(.ret, ⟨[4], [], []⟩), (.normal, ⟨[0, 1], [], []⟩)])], full := [], dynQ := false }),
  (28, { loc := [], loops := [], joins := [], full := [], dynQ := false }),
  (12, { loc := [3, 4, 5], loops := [], joins := [], full := [], dynQ := false }),
  (25, { loc := [1, 2], loops := [], joins := [], full := [8, 12], dynQ := false }),
  (6, { loc := [1], loops := [(11, ⟨⟨[4, 35, 36, 37], [], []⟩, [(.exit 2, ⟨[4], [], []⟩)]⟩), (5, ⟨⟨[4, 18, 19, 20], [(1, (1, 0))], [(1, 3)]⟩, [(.exit 0, ⟨[4], [(1, (1, 0))], [(1, 3)]⟩)]⟩)], joins := [], full := [], dynQ := false }),
  (14, { loc := [1], loops := [], joins := [], full := [], dynQ := false }),
  (29, { loc := [3], loops := [], joins := [], full := [], dynQ := false }),
  (39, { loc := [], loops := [], joins := [], full := [], dynQ := false }),
  (41, { loc := [], loops := [], joins := [], full := [], dynQ := false }),
  (55, { loc := [], loops := [], joins := [], full := [], dynQ := false }),
  (69, { loc := [], loops := [], joins := [], full := [], dynQ := false }),
  (80, { loc := [], loops := [(15, ⟨⟨[0, 1, 5, 6, 7, 8, 9, 10], [], []⟩, [(.exit 1, ⟨[], [], []⟩), (.ret, ⟨[4], [], []⟩)]⟩)], joins := [(21, 23, [(.ret, ⟨[4], [], []⟩), (.normal, ⟨[0, 1, 5, 6, 7, 8, 9, 10], [], []⟩)]), (16, 21, [(.ret, ⟨[4], [], []⟩), (.normal, ⟨[0, 1, 5, 6, 7, 8, 9, 10], [], []⟩)]), (2, 10, [(.ret, ⟨[4], [], []⟩), (.normal, ⟨[0, 1, 5], [], []⟩)])], full := [], dynQ := false }),
  (90, { loc := [], loops := [], joins := [], full := [], dynQ := false }),
  (92, { loc := [], loops := [], joins := [], full := [], dynQ := false }),
  (93, { loc := [], loops := [(11, ⟨⟨[0, 1, 5, 6, 7, 8, 10], [], []⟩, [(.exit 2, ⟨[], [], []⟩), (.ret, ⟨[4], [], []⟩)]⟩), (5, ⟨⟨[0, 1, 5, 6, 7, 8, 9], [], []⟩, [(.exit 0, ⟨[0, 1, 5, 6, 7, 8], [], []⟩)]⟩)], joins := [(8, 10, [(.ret, ⟨[4], [], []⟩), (.normal, ⟨[0, 1, 5, 6, 7, 8], [], []⟩)])], full := [], dynQ := false }),
  (100, { loc := [], loops := [(8, ⟨⟨[4, 6, 7, 8], [], []⟩, [(.exit 2, ⟨[4, 6], [], []⟩)]⟩), (3, ⟨⟨[0, 4, 5], [], []⟩, [(.exit 0, ⟨[0, 4], [], []⟩)]⟩)], joins := [(10, 9, [(.normal, ⟨[4, 6, 7, 8], [], []⟩)]), (10, 12, [(.normal, ⟨[4, 6, 7, 8], [], []⟩)])], full := [], dynQ := false }),
  (56, { loc := [], loops := [], joins := [], full := [], dynQ := false }),
  (47, { loc := [], loops := [], joins := [], full := [], dynQ := false }),
  (60, { loc := [], loops := [(11, ⟨⟨[0, 1, 2, 3, 9, 10], [], []⟩, [(.exit 0, ⟨[0, 9, 10], [], []⟩)]⟩)], joins := [(5, 7, [(.normal, ⟨[0, 1, 2, 3], [], []⟩)])], full := [], dynQ := false }),
  (75, { loc := [], loops := [(6, ⟨⟨[0, 1, 6, 7], [], []⟩, [(.exit 0, ⟨[0, 1, 6], [], []⟩)]⟩)], joins := [(2, 4, [(.normal, ⟨[0, 1], [], []⟩)])], full := [], dynQ := false }),
  (86, { loc := [], loops := [], joins := [], full := [], dynQ := false }),
  (87, { loc := [], loops := [], joins := [], full := [], dynQ := false }),
  (98, { loc := [9], loops := [], joins := [], full := [], dynQ := false }),
  (76, { loc := [], loops := [(6, ⟨⟨[0, 1, 5], [], []⟩, [(.ret, ⟨[4], [], []⟩)]⟩)], joins := [], full := [], dynQ := false }),
  (77, { loc := [], loops := [], joins := [], full := [], dynQ := false }),
  (16, { loc := [], loops := [], joins := [], full := [], dynQ := false }),
  (31, { loc := [], loops := [(2, ⟨⟨[0, 1, 7, 8], [], []⟩, [(.exit 0, ⟨[], [], []⟩), (.ret, ⟨[4], [], []⟩)]⟩)], joins := [], full := [], dynQ := true }),
  (70, { loc := [], loops := [], joins := [], full := [], dynQ := false }),
  (71, { loc := [], loops := [], joins := [], full := [], dynQ := false }),
  (61, { loc := [], loops := [(2, ⟨⟨[0, 1, 7, 8], [], []⟩, [(.exit 0, ⟨[], [], []⟩), (.ret, ⟨[4], [], []⟩)]⟩)], joins := [], full := [], dynQ := true }),
  (81, { loc := [], loops := [], joins := [], full := [], dynQ := false }),
  (94, { loc := [], loops := [], joins := [], full := [], dynQ := false }),
  (63, { loc := [], loops := [], joins := [], full := [], dynQ := false }),
  (34, { loc := [], loops := [], joins := [], full := [], dynQ := false }),
  (48, { loc := [], loops := [], joins := [], full := [], dynQ := false }),
  (49, { loc := [], loops := [], joins := [], full := [], dynQ := false }),
  (62, { loc := [], loops := [], joins := [], full := [], dynQ := false }),
  (40, { loc := [], loops := [], joins := [], full := [], dynQ := false }),
  (42, { loc := [], loops := [], joins := [], full := [], dynQ := false }),
  (57, { loc := [], loops := [], joins := [], full := [], dynQ := false }),
  (18, { loc := [], loops := [(2, ⟨⟨[0, 5, 6], [], []⟩, [(.exit 0, ⟨[0], [], []⟩), (.ret, ⟨[2], [], []⟩)]⟩)], joins := [], full := [], dynQ := false }),
  (15, { loc := [], loops := [], joins := [], full := [], dynQ := false }),
  (30, { loc := [], loops := [], joins := [], full := [], dynQ := false }),
  (43, { loc := [], loops := [], joins := [], full := [], dynQ := false }),
  (17, { loc := [], loops := [], joins := [], full := [], dynQ := false }),
  (7, { loc := [1], loops := [(10, ⟨⟨[4, 6], [(1, (1, 0))], [(1, 3)]⟩, [(.exit 2, ⟨[4], [], []⟩), (.ret, ⟨[2, 3], [], []⟩)]⟩), (5, ⟨⟨[4, 5], [(1, (1, 0))], [(1, 3)]⟩, [(.exit 0, ⟨[4], [(1, (1, 0))], [(1, 3)]⟩)]⟩)], joins := [(12, 11, [(.ret, ⟨[2, 3], [], []⟩), (.normal, ⟨[4, 6], [(1, (1, 0))], [(1, 3)]⟩)]), (13, 15, [(.normal, ⟨[4, 6, 7], [(1, (1, 0))], [(1, 3)]⟩)])], full := [], dynQ := false }),
  (19, { loc := [1], loops := [], joins := [], full := [], dynQ := false }),
  (32, { loc := [1], loops := [(9, ⟨⟨[4], [(1, (1, 0))], [(1, 3)]⟩, [(.exit 2, ⟨[], [], []⟩), (.ret, ⟨[2], [], []⟩)]⟩), (4, ⟨⟨[3], [(1, (1, 0))], [(1, 3)]⟩, [(.exit 0, ⟨[], [(1, (1, 0))], [(1, 3)]⟩), (.ret, ⟨[2], [], []⟩)]⟩)], joins := [(1, 3, [(.ret, ⟨[2], [], []⟩), (.normal, ⟨[], [(1, (1, 0))], [(1, 3)]⟩)])], full := [], dynQ := false }),
  (44, { loc := [3], loops := [], joins := [], full := [], dynQ := false }),
  (58, { loc := [2, 7], loops := [], joins := [], full := [], dynQ := false }),
  (72, { loc := [], loops := [(2, ⟨⟨[0, 1, 7], [], []⟩, [(.exit 0, ⟨[0], [], []⟩), (.ret, ⟨[4, 5, 6], [], []⟩)]⟩)], joins := [], full := [], dynQ := false }),
  (82, { loc := [], loops := [(3, ⟨⟨[0, 6, 7], [], []⟩, [(.exit 0, ⟨[], [], []⟩), (.ret, ⟨[4, 5], [], []⟩)]⟩)], joins := [(5, 4, [(.ret, ⟨[4, 5], [], []⟩), (.normal, ⟨[0, 6, 7], [], []⟩)]), (7, 11, [(.ret, ⟨[4, 5], [], []⟩), (.normal, ⟨[0, 6, 7], [], []⟩)])], full := [], dynQ := false }),
  (73, { loc := [], loops := [(3, ⟨⟨[3, 4], [], []⟩, [(.exit 0, ⟨[3], [], []⟩)]⟩)], joins := [(5, 4, [(.normal, ⟨[3, 4], [], []⟩)])], full := [], dynQ := false }),
  (74, { loc := [1], loops := [], joins := [], full := [], dynQ := false }),
  (83, { loc := [], loops := [], joins := [], full := [], dynQ := false }),
  (20, { loc := [], loops := [(2, ⟨⟨[0, 3], [], []⟩, [(.exit 0, ⟨[0], [], []⟩), (.ret, ⟨[2], [], []⟩)]⟩)], joins := [(4, 3, [(.ret, ⟨[2], [], []⟩), (.normal, ⟨[0, 3], [], []⟩)]), (2, 4, [(.normal, ⟨[0, 3], [], []⟩), (.exit 0, ⟨[0], [], []⟩)])], full := [], dynQ := false }),
  (84, { loc := [], loops := [(3, ⟨⟨[0, 3, 4], [], []⟩, [(.exit 0, ⟨[0], [], []⟩), (.ret, ⟨[2], [], []⟩)]⟩)], joins := [], full := [], dynQ := false }),
  (95, { loc := [], loops := [(4, ⟨⟨[0, 1, 5, 6, 7], [], []⟩, [(.exit 0, ⟨[0, 5, 6], [], []⟩)]⟩)], joins := [(6, 5, [(.normal, ⟨[0, 1, 5, 6, 7], [], []⟩)])], full := [], dynQ := false }),
  (96, { loc := [], loops := [(2, ⟨⟨[0, 3], [], []⟩, [(.exit 0, ⟨[0], [], []⟩), (.ret, ⟨[2], [], []⟩)]⟩)], joins := [(2, 4, [(.normal, ⟨[0, 3], [], []⟩), (.exit 0, ⟨[0], [], []⟩)])], full := [], dynQ := false }),
  (101, { loc := [], loops := [(2, ⟨⟨[0, 3], [], []⟩, [(.exit 0, ⟨[0], [], []⟩), (.ret, ⟨[2], [], []⟩)]⟩)], joins := [], full := [], dynQ := false }),
  (97, { loc := [], loops := [], joins := [], full := [], dynQ := false }),
  (85, { loc := [], loops := [(3, ⟨⟨[0, 3, 4], [], []⟩, [(.exit 0, ⟨[0], [], []⟩), (.ret, ⟨[2], [], []⟩)]⟩), (9, ⟨⟨[0, 3, 4, 5, 6], [], []⟩, [(.exit 2, ⟨[0, 3, 4], [], []⟩), (.ret, ⟨[2], [], []⟩)]⟩)], joins := [(5, 4, [(.ret, ⟨[2], [], []⟩), (.normal, ⟨[0, 3, 4], [], []⟩)]), (11, 10, [(.ret, ⟨[2], [], []⟩), (.normal, ⟨[0, 3, 4, 5, 6], [], []⟩)]), (6, 8, [(.ret, ⟨[2], [], []⟩), (.normal, ⟨[0, 3, 4, 5], [], []⟩)])], full := [], dynQ := false }),
  (8, { loc := [], loops := [(4, ⟨⟨[0, 1, 5], [], []⟩, [(.exit 0, ⟨[], [], []⟩), (.ret, ⟨[4], [], []⟩)]⟩)], joins := [], full := [], dynQ := false }),
  (9, { loc := [2, 4], loops := [(5, ⟨⟨[7, 8, 20, 21, 22], [(4, (4, 0))], [(4, 6)]⟩, [(.exit 0, ⟨[7, 8], [(4, (4, 0))], [(4, 6)]⟩), (.ret, ⟨[5, 6], [(4, (4, 0))], [(4, 6)]⟩)]⟩)], joins := [], full := [], dynQ := false }),
  (21, { loc := [1], loops := [], joins := [(3, 9, [(.ret, ⟨[2], [], []⟩), (.normal, ⟨[], [(1, (1, 0))], [(1, 6)]⟩)]), (1, 3, [(.ret, ⟨[2], [], []⟩), (.normal, ⟨[], [(1, (1, 0))], [(1, 6)]⟩)])], full := [], dynQ := false }),
  (33, { loc := [], loops := [], joins := [], full := [], dynQ := false }),
  (45, { loc := [], loops := [], joins := [], full := [], dynQ := false }),
  (59, { loc := [], loops := [(2, ⟨⟨[0, 1, 7, 8], [], []⟩, [(.exit 0, ⟨[], [], []⟩), (.ret, ⟨[4], [], []⟩)]⟩)], joins := [], full := [], dynQ := true }),
  (46, { loc := [1], loops := [], joins := [], full := [], dynQ := false }),
  (22, { loc := [1, 2], loops := [], joins := [], full := [], dynQ := false }),
  (35, { loc := [1, 2], loops := [], joins := [], full := [], dynQ := false }),
  (50, { loc := [], loops := [], joins := [], full := [7], dynQ := false }),
  (36, { loc := [5], loops := [(3, ⟨⟨[3, 7, 8, 9], [], []⟩, [(.exit 0, ⟨[3], [], []⟩)]⟩)], joins := [], full := [], dynQ := false }),
  (23, { loc := [], loops := [], joins := [(1, 5, [(.ret, ⟨[4, 5], [], []⟩), (.normal, ⟨[0, 1], [], []⟩)])], full := [], dynQ := false }),
  (37, { loc := [5], loops := [], joins := [], full := [], dynQ := false }),
  (51, { loc := [], loops := [], joins := [], full := [], dynQ := false }),
  (64, { loc := [], loops := [], joins := [], full := [], dynQ := false }),
  (38, { loc := [], loops := [], joins := [(22, 28, [(.ret, ⟨[4], [], []⟩), (.normal, ⟨[0, 12], [], []⟩)]), (8, 10, [(.ret, ⟨[4], [], []⟩), (.normal, ⟨[0, 9], [], []⟩)]), (2, 5, [(.normal, ⟨[0, 5, 6, 7], [], []⟩)])], full := [], dynQ := false }),
  (52, { loc := [], loops := [(2, ⟨⟨[0, 1, 5], [], []⟩, [(.exit 0, ⟨[], [], []⟩), (.ret, ⟨[4], [], []⟩)]⟩)], joins := [(4, 3, [(.ret, ⟨[4], [], []⟩), (.normal, ⟨[0, 1, 5], [], []⟩)])], full := [], dynQ := false }),
  (65, { loc := [], loops := [(3, ⟨⟨[0, 5, 6], [], []⟩, [(.exit 0, ⟨[], [], []⟩), (.ret, ⟨[2, 3, 4], [], []⟩)]⟩)], joins := [(5, 4, [(.ret, ⟨[2, 3, 4], [], []⟩), (.normal, ⟨[0, 5, 6], [], []⟩)]), (5, 11, [(.ret, ⟨[2, 3, 4], [], []⟩), (.normal, ⟨[0, 5, 6], [], []⟩)])], full := [], dynQ := false }),
  (53, { loc := [], loops := [(3, ⟨⟨[3, 8, 9, 10], [], []⟩, [(.exit 0, ⟨[3], [], []⟩)]⟩)], joins := [], full := [], dynQ := false }),
  (54, { loc := [], loops := [], joins := [(8, 10, [(.normal, ⟨[6], [], []⟩)]), (5, 7, [(.ret, ⟨[4, 5], [], []⟩), (.normal, ⟨[6], [], []⟩)]), (1, 3, [(.ret, ⟨[4, 5], [], []⟩), (.normal, ⟨[0, 1], [], []⟩)])], full := [], dynQ := false }),
  (66, { loc := [], loops := [], joins := [], full := [], dynQ := false }),
  (67, { loc := [], loops := [], joins := [], full := [], dynQ := false }),
  (78, { loc := [], loops := [], joins := [], full := [], dynQ := false }),
  (89, { loc := [], loops := [], joins := [], full := [], dynQ := false }),
  (68, { loc := [], loops := [], joins := [], full := [], dynQ := false }),
  (79, { loc := [], loops := [], joins := [], full := [], dynQ := false }),
  (10, { loc := [2, 3], loops := [], joins := [], full := [], dynQ := false }),
  (24, { loc := [], loops := [(4, ⟨⟨[0, 1, 12, 13], [], []⟩, [(.exit 0, ⟨[], [], []⟩), (.ret, ⟨[4], [], []⟩)]⟩)], joins := [], full := [], dynQ := false })]
noncomputable def fnB : List (Nat × Func) := [
  (4, Tryd.f4), (5, Tryd.f5), (11, Tryd.f11), (13, Tryd.f13), (27, Tryd.f27), (26, Tryd.f26), (28, Tryd.f28), (12, Tryd.f12), (25, Tryd.f25), (6, Tryd.f6), (14, Tryd.f14), (29, Tryd.f29), (39, Tryd.f39), (41, Tryd.f41), (55, Tryd.f55), (69, Tryd.f69), (80, Tryd.f80), (90, Tryd.f90), (92, Tryd.f92), (93, Tryd.f93), (100, Tryd.f100), (56, Tryd.f56), (47, Tryd.f47), (60, Tryd.f60), (75, Tryd.f75), (86, Tryd.f86), (87, Tryd.f87), (98, Tryd.f98), (76, Tryd.f76), (77, Tryd.f77), (16, Tryd.f16), (31, Tryd.f31), (70, Tryd.f70), (71, Tryd.f71), (61, Tryd.f61), (81, Tryd.f81), (94, Tryd.f94), (63, Tryd.f63), (34, Tryd.f34), (48, Tryd.f48), (49, Tryd.f49), (62, Tryd.f62), (40, Tryd.f40), (42, Tryd.f42), (57, Tryd.f57), (18, Tryd.f18), (15, Tryd.f15), (30, Tryd.f30), (43, Tryd.f43), (17, Tryd.f17), (7, Tryd.f7), (19, Tryd.f19), (32, Tryd.f32), (44, Tryd.f44), (58, Tryd.f58), (72, Tryd.f72), (82, Tryd.f82), (73, Tryd.f73), (74, Tryd.f74), (83, Tryd.f83), (20, Tryd.f20), (84, Tryd.f84), (95, Tryd.f95), (96, Tryd.f96), (101, Tryd.f101), (97, Tryd.f97), (85, Tryd.f85), (8, Tryd.f8), (9, Tryd.f9), (21, Tryd.f21), (33, Tryd.f33), (45, Tryd.f45), (59, Tryd.f59), (46, Tryd.f46), (22, Tryd.f22), (35, Tryd.f35), (50, Tryd.f50), (36, Tryd.f36), (23, Tryd.f23), (37, Tryd.f37), (51, Tryd.f51), (64, Tryd.f64), (38, Tryd.f38), (52, Tryd.f52), (65, Tryd.f65), (53, Tryd.f53), (54, Tryd.f54), (66, Tryd.f66), (67, Tryd.f67), (78, Tryd.f78), (89, Tryd.f89), (68, Tryd.f68), (79, Tryd.f79), (10, Tryd.f10), (24, Tryd.f24)]
def quietB : List Nat := [4, 14, 29, 39, 41, 55, 69, 80, 90, 92, 93, 100, 56, 86, 87, 98, 76, 77, 16, 31, 70, 71, 61, 81, 94, 63, 34, 48, 49, 62, 40, 42, 57, 18, 15, 30, 43, 17, 19, 32, 44, 72, 82, 73, 74, 83, 20, 84, 96, 101, 97, 85, 8, 21, 33, 45, 59, 46, 51, 64, 52, 65, 53, 54, 66, 67, 78, 89, 68, 79, 10, 24]
def addsB : List Nat := [25, 6, 47, 60, 75, 7, 58, 95, 9, 22, 35, 50, 36]
def takesB : List (Nat × List Nat) := [(4, [2, 2, 15, 17, 20, 4, 5, 22, 7, 31, 32, 33, 36, 37, 43, 44, 45, 2, 49, 8, 51, 52, 8, 56, 54, 11, 63, 64, 70, 78, 86, 2]), (5, [4, 3, 6, 7]), (11, [2, 0, 8, 2]), (13, [6, 9, 15, 4, 17, 22, 23, 19, 4, 29, 5, 32, 37, 38, 34, 5, 44]), (27, [4, 6, 4]), (26, [4, 7, 8, 15, 17, 18, 4, 25, 5, 30, 31, 37, 41, 45, 4, 47, 51, 52, 62, 66, 69, 80, 83, 84, 6, 92, 93, 6, 96, 97, 4]), (28, [4, 6, 4]), (12, [8, 10, 12, 16, 20, 23, 27]), (25, [7, 11]), (6, [2, 3, 2, 3, 4, 20, 6, 24, 25, 4, 20, 31, 4, 37, 8, 41, 42, 4, 37, 2, 3, 49, 2, 3]), (14, [2, 2]), (29, [6, 10, 14, 17, 23, 29, 32, 6]), (39, [2, 3, 5, 6, 2]), (41, [2, 7, 6, 3, 4, 5, 12, 13, 14, 17, 18, 2]), (55, [4, 5, 6, 7, 8, 4, 5, 6]), (69, [4, 5, 6, 8, 9, 7, 11, 13, 14, 16, 17, 18, 4, 5, 6, 22, 4, 5, 6]), (80, [4, 14, 5, 17, 19, 20, 21, 16, 4, 25, 24, 27, 28, 4, 32, 33, 31, 4, 37, 40, 41, 36, 45, 46, 4, 48, 6, 50, 7, 8, 52, 54, 9, 10, 57, 58, 60, 61, 63, 65, 66, 68, 70, 11, 72, 4, 74, 75, 8, 78, 79, 82, 84, 85, 86, 87, 88, 91, 94, 4, 95, 8, 97, 10, 99, 102, 103, 104, 108, 109, 111, 12, 113, 115, 116, 4, 4, 118, 121, 122, 123, 128, 129, 130, 133, 134, 136, 13, 138, 4, 140, 141, 4, 4]), (90, [4, 5, 6, 4]), (92, [2, 3, 2]), (93, [4, 12, 11, 5, 6, 16, 7, 8, 9, 18, 19, 23, 25, 26, 8, 21, 9, 30, 31, 33, 34, 35, 37, 4, 40, 10, 41, 42, 45, 8, 47, 48, 49, 8, 53, 54, 55, 56, 57, 8, 63, 10, 65, 66, 68, 69, 70, 71, 73, 75, 78, 79, 4, 4]), (100, [2, 3, 4, 5, 9, 10, 15, 17, 18, 4, 13, 5, 6, 7, 22, 8, 24, 28, 31, 32, 6, 34, 35, 7, 26, 8, 37, 38, 2, 3]), (56, [2, 3, 6, 7, 2]), (47, [4, 5, 6, 4]), (60, [8, 12, 8, 14, 16, 17, 8, 19, 21, 22, 3, 25, 26, 3, 30, 32, 3, 10, 34, 35, 37, 38, 11, 40, 43, 44, 45, 46, 50, 51, 52, 0, 56, 10, 59, 60, 63, 8]), (75, [4, 10, 5, 12, 14, 15, 16, 19, 1, 20, 6, 7, 22, 23, 29, 28, 8, 9, 34, 35, 36, 39, 40, 0, 26, 7, 42, 45, 47, 49, 4]), (86, [2, 3, 7, 2, 9, 2]), (87, [2, 3, 4, 6, 7, 11, 2, 3, 15, 14, 2, 3]), (98, [2, 3, 13, 4, 15, 2, 3, 17, 5, 19, 6, 22, 24, 7, 28, 31, 33, 2, 3, 36, 8, 39, 43, 44, 2, 3, 46, 10, 48, 52, 55, 2, 3, 58, 60, 64, 2, 3, 68, 11, 70, 72, 73, 2, 3, 76, 78, 82, 87, 2, 3, 91, 12, 93, 95, 96, 2, 3, 99, 103, 108, 113, 2, 3]), (76, [4, 7, 10, 4, 13, 16, 17, 4, 5, 20, 21, 6, 23, 25, 4, 26, 5, 28, 29, 30, 0]), (77, [4, 5, 6, 4]), (16, [4, 6, 4]), (31, [4, 8, 10, 5, 11, 13, 17, 4, 8, 4]), (70, [2, 3, 2]), (71, [2, 3, 6, 7, 11, 12, 2]), (61, [4, 6, 8, 10, 5, 11, 12, 13, 4, 8, 4]), (81, [2, 3, 5, 6, 9, 10, 13, 14, 16, 17, 21, 22, 25, 26, 29, 30, 33, 34, 37, 38, 41, 42, 45, 46, 48, 49, 53, 54, 56, 57, 2]), (94, [2, 3, 5, 6, 9, 10, 12, 13, 2]), (63, [2, 3, 5, 6, 2]), (34, [2, 3, 6, 7, 2]), (48, [2, 3, 2]), (49, [2, 3, 5, 6, 10, 11, 12, 18, 19, 2]), (62, [2, 3, 5, 6, 9, 10, 13, 14, 2]), (40, [2, 3, 2]), (42, [4, 7, 9, 4]), (57, [2, 3, 2]), (18, [2, 4, 6, 8, 3, 9, 10, 13, 14, 15, 2, 6, 20, 2]), (15, [2, 3, 5, 2, 7, 2]), (30, [4, 5, 6, 4]), (43, [4, 5, 7, 10, 11, 12, 15, 4]), (17, [2, 3, 2]), (7, [2, 3, 2, 3, 4, 5, 17, 24, 27, 4, 22, 5, 34, 4, 6, 37, 46, 7, 49, 51, 52, 56, 7, 58, 2, 3, 62, 63, 4, 42, 6, 66, 2, 3]), (19, [2, 5, 11, 2]), (32, [2, 8, 14, 20, 2, 3, 26, 35, 2, 31, 3, 4, 40, 49, 2, 45, 4, 2]), (44, [2, 6, 5, 4, 10, 11, 18, 2]), (58, [3, 9, 8, 4, 5, 6, 14, 15, 19, 20, 3]), (72, [4, 5, 6, 7, 10, 11, 14, 15, 19, 20, 18, 8, 9, 24, 26, 4, 5, 6, 27, 7, 28, 29, 31, 33, 34, 36, 37, 4, 5, 6, 40, 7, 42, 4, 5, 6]), (82, [4, 5, 6, 8, 7, 10, 11, 16, 17, 20, 21, 4, 5, 23, 24, 27, 7, 29, 30, 4, 5, 33, 34, 35, 36, 6, 14, 7, 4, 5]), (73, [2, 5, 4, 7, 14, 18, 20, 26, 28, 11, 4, 2]), (74, [2, 6, 12, 17, 23, 2]), (83, [2, 3, 5, 6, 2]), (20, [2, 3, 4, 5, 8, 9, 14, 15, 18, 19, 20, 2, 12, 3, 24, 2]), (84, [2, 5, 4, 7, 14, 2, 11, 4, 19, 2]), (95, [4, 5, 6, 7, 9, 10, 15, 16, 18, 20, 21, 22, 23, 5, 27, 6, 13, 7, 29, 30, 31, 4]), (96, [2, 3, 4, 5, 8, 9, 14, 15, 2, 12, 3, 19, 22, 23, 2]), (101, [2, 3, 4, 8, 9, 2, 6, 3, 12, 2]), (97, [2, 3, 5, 6, 9, 10, 12, 13, 17, 18, 20, 21, 2]), (85, [2, 7, 4, 9, 16, 5, 19, 21, 22, 26, 27, 28, 2, 6, 34, 35, 40, 41, 45, 46, 47, 51, 52, 53, 56, 57, 58, 2, 38, 6, 13, 4, 63, 2]), (8, [4, 4, 5, 11, 18, 22, 4, 15, 5, 4]), (9, [5, 6, 5, 6, 8, 22, 10, 27, 26, 11, 12, 31, 5, 6, 34, 36, 37, 8, 22, 41, 42, 5, 6]), (21, [2, 6, 11, 17, 23, 27, 2, 38, 34, 2, 56, 47, 2, 68, 62, 2, 77, 82, 87, 2]), (33, [4, 7, 9, 4]), (45, [4, 6, 4]), (59, [4, 8, 10, 5, 11, 13, 17, 4, 8, 4]), (46, [2, 2]), (50, [2, 2, 6, 2]), (36, [2, 3, 9, 13, 3, 9, 19, 2]), (23, [4, 5, 7, 12, 13, 6, 4, 5, 18, 17, 23, 24, 4, 5, 26, 27, 4, 5]), (37, [4, 6, 8, 15, 16, 20, 21, 4, 28, 31, 32, 33, 39, 4, 45, 44, 4, 51, 52, 55, 56, 4]), (51, [4, 5, 6, 4]), (64, [4, 5, 6, 8, 9, 4, 12, 4]), (38, [4, 14, 5, 6, 7, 15, 8, 17, 19, 20, 22, 23, 5, 6, 7, 26, 5, 29, 28, 31, 9, 33, 35, 36, 4, 40, 41, 42, 43, 4, 52, 51, 55, 54, 10, 11, 60, 59, 4, 63, 62, 4, 68, 69, 70, 4, 77, 76, 80, 79, 12, 13, 85, 87, 88, 84, 4, 92, 97, 98, 91, 4, 105, 104, 4, 112, 113, 114, 118, 119, 4, 128, 127, 4, 130, 129, 132, 4, 137, 4, 141, 140, 143, 147, 152, 4, 156, 155, 4, 159, 158, 161, 162, 4, 4]), (52, [4, 5, 9, 10, 15, 16, 18, 21, 22, 20, 6, 7, 8, 28, 4, 30, 31, 5, 35, 34, 37, 4, 13, 5, 4]), (65, [2, 3, 4, 5, 6, 8, 9, 15, 16, 14, 21, 2, 3, 4, 24, 25, 23, 28, 6, 30, 31, 2, 3, 4, 34, 35, 36, 5, 12, 6, 2, 3, 4]), (53, [2, 6, 10, 12, 4, 5, 15, 17, 18, 22, 10, 2]), (54, [4, 5, 12, 14, 17, 18, 19, 22, 4, 5, 27, 28, 26, 6, 7, 35, 34, 6, 8, 39, 41, 42, 4, 5, 46, 45, 9, 10, 11, 51, 52, 54, 6, 57, 58, 4, 5]), (66, [4, 5, 7, 4]), (67, [4, 5, 6, 7, 4, 5]), (78, [4, 5, 6, 7, 10, 4, 5, 11, 12, 14, 4, 5]), (89, [4, 5, 7, 10, 11, 12, 14, 18, 4]), (68, [4, 5, 6, 7, 4, 5]), (79, [4, 5, 6, 7, 10, 4, 5, 11, 12, 4, 5]), (10, [4, 10, 17, 4]), (24, [4, 4, 13, 15, 5, 17, 21, 4, 13, 4])]
def mvB : List (Nat × List Nat) := [(4, [0]), (5, [0]), (11, [0])]
def extsB : List (Nat × Nat) := [(99, 0), (91, 2), (88, 1)]
-- extern: [(99, internal_bytealg_IndexByteString), (91, internal_bytealg_IndexString), (88, internal_bytealg_CountString)]

noncomputable def base : Base where
  ng := 0
  tab := tabB
  fn := Go.AM.look fnB
  ann := annOf annB
  kind := kindX quietB addsB extsB
  ext := extA
  prim := fun _ => none
def globB : Nat → Option (List V) := fun _ => none
noncomputable def vb : BaseV where
  b := base
  glob := globB
  takes := listOf takesB
  mv := listOf mvB
  prim := fun _ => none
noncomputable def cv : CallV := callV vb
noncomputable def pc : FuncId → List V → Option V := pcall cv
noncomputable def qc : FuncId → List V → Option V := qpcall cv
set_option maxRecDepth 100000 in
theorem fns : FnsOk Tryd.prog fnB := by
  unfold fnB
  refine ⟨⟨rfl, by kernel_rfl⟩, ⟨rfl, by kernel_rfl⟩, ⟨rfl, by kernel_rfl⟩, ⟨rfl, by kernel_rfl⟩, ⟨rfl, by kernel_rfl⟩, ⟨rfl, by kernel_rfl⟩, ⟨rfl, by kernel_rfl⟩, ⟨rfl, by kernel_rfl⟩, ⟨rfl, by kernel_rfl⟩, ⟨rfl, by kernel_rfl⟩, ⟨rfl, by kernel_rfl⟩, ⟨rfl, by kernel_rfl⟩, ⟨rfl, by kernel_rfl⟩, ⟨rfl, by kernel_rfl⟩, ⟨rfl, by kernel_rfl⟩, ⟨rfl, by kernel_rfl⟩, ⟨rfl, by kernel_rfl⟩, ⟨rfl, by kernel_rfl⟩, ⟨rfl, by kernel_rfl⟩, ⟨rfl, by kernel_rfl⟩, ⟨rfl, by kernel_rfl⟩, ⟨rfl, by kernel_rfl⟩, ⟨rfl, by kernel_rfl⟩, ⟨rfl, by kernel_rfl⟩, ⟨rfl, by kernel_rfl⟩, ⟨rfl, by kernel_rfl⟩, ⟨rfl, by kernel_rfl⟩, ⟨rfl, by kernel_rfl⟩, ⟨rfl, by kernel_rfl⟩, ⟨rfl, by kernel_rfl⟩, ⟨rfl, by kernel_rfl⟩, ⟨rfl, by kernel_rfl⟩, ⟨rfl, by kernel_rfl⟩, ⟨rfl, by kernel_rfl⟩, ⟨rfl, by kernel_rfl⟩, ⟨rfl, by kernel_rfl⟩, ⟨rfl, by kernel_rfl⟩, ⟨rfl, by kernel_rfl⟩, ⟨rfl, by kernel_rfl⟩, ⟨rfl, by kernel_rfl⟩, ⟨rfl, by kernel_rfl⟩, ⟨rfl, by kernel_rfl⟩, ⟨rfl, by kernel_rfl⟩, ⟨rfl, by kernel_rfl⟩, ⟨rfl, by kernel_rfl⟩, ⟨rfl, by kernel_rfl⟩, ⟨rfl, by kernel_rfl⟩, ⟨rfl, by kernel_rfl⟩, ⟨rfl, by kernel_rfl⟩, ⟨rfl, by kernel_rfl⟩, ⟨rfl, by kernel_rfl⟩, ⟨rfl, by kernel_rfl⟩, ⟨rfl, by kernel_rfl⟩, ⟨rfl, by kernel_rfl⟩, ⟨rfl, by kernel_rfl⟩, ⟨rfl, by kernel_rfl⟩, ⟨rfl, by kernel_rfl⟩, ⟨rfl, by kernel_rfl⟩, ⟨rfl, by kernel_rfl⟩, ⟨rfl, by kernel_rfl⟩, ⟨rfl, by kernel_rfl⟩, ⟨rfl, by kernel_rfl⟩, ⟨rfl, by kernel_rfl⟩, ⟨rfl, by kernel_rfl⟩, ⟨rfl, by kernel_rfl⟩, ⟨rfl, by kernel_rfl⟩, ⟨rfl, by kernel_rfl⟩, ⟨rfl, by kernel_rfl⟩, ⟨rfl, by kernel_rfl⟩, ⟨rfl, by kernel_rfl⟩, ⟨rfl, by kernel_rfl⟩, ⟨rfl, by kernel_rfl⟩, ⟨rfl, by kernel_rfl⟩, ⟨rfl, by kernel_rfl⟩, ⟨rfl, by kernel_rfl⟩, ⟨rfl, by kernel_rfl⟩, ⟨rfl, by kernel_rfl⟩, ⟨rfl, by kernel_rfl⟩, ⟨rfl, by kernel_rfl⟩, ⟨rfl, by kernel_rfl⟩, ⟨rfl, by kernel_rfl⟩, ⟨rfl, by kernel_rfl⟩, ⟨rfl, by kernel_rfl⟩, ⟨rfl, by kernel_rfl⟩, ⟨rfl, by kernel_rfl⟩, ⟨rfl, by kernel_rfl⟩, ⟨rfl, by kernel_rfl⟩, ⟨rfl, by kernel_rfl⟩, ⟨rfl, by kernel_rfl⟩, ⟨rfl, by kernel_rfl⟩, ⟨rfl, by kernel_rfl⟩, ⟨rfl, by kernel_rfl⟩, ⟨rfl, by kernel_rfl⟩, ⟨rfl, by kernel_rfl⟩, ⟨rfl, by kernel_rfl⟩, trivial⟩
theorem tabs : tabB? Tryd.prog tabB = true := by kernel_rfl
theorem exts : ExtFns Tryd.prog extsB := by
  unfold extsB
  exact ⟨fun args w => Go.run_callFunc_extern (fn := Tryd.f99) (e := Extern.BytealgIndexByte.indexByte) (by kernel_rfl) (by kernel_rfl) (by kernel_rfl) (by kernel_rfl) (by kernel_rfl) args w, trivial, fun args w => Go.run_callFunc_extern (fn := Tryd.f88) (e := Extern.BytealgCount.count) (by kernel_rfl) (by kernel_rfl) (by kernel_rfl) (by kernel_rfl) (by kernel_rfl) args w, trivial⟩
theorem base_ok : BaseOk Tryd.prog base where
  tab := tab_ok tabs
  fn := fns_ok fns
  ext := ext_ok exts
  prim := fun f g args hp r hp' h => by cases h
  mixed := by kernel_rfl
theorem vb_ok : BaseVOk vb where
  zero := tab_zero (tab_ok tabs)
  sl := tab_sl (tab_ok tabs)
  gd := fun g cs h => by cases h
  noprim := fun _ _ => rfl
  prim := fun f g args r H h => by cases h
end Go.Proofs.YtjbekhailkednaaDoor.Q
