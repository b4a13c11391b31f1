/- The program's functions, types and marks, as the machines take them. -/
import Derived.Test.YtjbekhailkednaaGreatDoorProg
import Derived.Test.YtjbekhailkednaaGreatDoorK4
import Derived.KernelRfl
namespace Go.Proofs.YtjbekhailkednaaGreatDoor.Q
open Go Go.AM Go.Proofs
set_option linter.unusedVariables false
def id_laws_FnSayCapital : Nat := 4
def id_spec_DrawSayLine : Nat := 12
def id_spec_l13Open : Nat := 16
def id_spec_l10Draw : Nat := 18
def id_spec_l13Rd_num : Nat := 34
def id_spec_l13Rd_pick : Nat := 33
def id_spec_SayLine : Nat := 13
def id_spec_l10RawSayLine : Nat := 29
def id_spec_SessionValid : Nat := 9
def id_spec_l10Draft : Nat := 22
def id_spec_l10Box : Nat := 47
def id_spec_l2Box : Nat := 70
def id_spec_l2Cut : Nat := 75
def id_spec_l1Read : Nat := 92
def id_spec_LowerText : Nat := 76
def id_spec_AddressValid : Nat := 86
def id_spec_l2Name : Nat := 99
def id_spec_TextValid : Nat := 48
def id_spec_l2Local : Nat := 100
def id_spec_l2Parts : Nat := 49
def id_spec_AtomValid : Nat := 111
def id_spec_l1Atom : Nat := 115
def id_spec_l1Letter : Nat := 50
def id_spec_l2Domain : Nat := 23
def id_spec_MailValid : Nat := 24
def id_spec_l10Copy : Nat := 32
def id_spec_l10Mail : Nat := 60
def id_spec_l10Data : Nat := 56
def id_spec_l10Command : Nat := 57
def id_spec_l10Hello : Nat := 77
def id_spec_l10From : Nat := 78
def id_spec_l10Path : Nat := 93
def id_spec_SameText : Nat := 104
def id_spec_l10To : Nat := 79
def id_spec_l13OwnSession : Nat := 30
def id_spec_l13OwnMail : Nat := 58
def id_spec_l13OwnListMail : Nat := 59
def id_spec_l10Line : Nat := 28
def id_spec_l13Rd_of : Nat := 35
def id_spec_l10Wrong : Nat := 17
def id_impl_SayLine : Nat := 10
def id_impl_SessionValid : Nat := 8
def id_impl_draftValid : Nat := 19
def id_impl_isFrom : Nat := 36
def id_impl_isPath : Nat := 39
def id_strings_Cut : Nat := 62
def id_internal_stringslite_Cut : Nat := 80
def id_internal_stringslite_Index : Nat := 94
def id_internal_stringslite_IndexByte : Nat := 105
def id_internal_bytealg_IndexByteString : Nat := 113
def id_internal_bytealg_IndexString : Nat := 106
def id_internal_bytealg_Cutover : Nat := 107
def id_internal_bytealg_IndexRabinKarp_string_ : Nat := 108
def id_internal_bytealg_hashStr_string_ : Nat := 114
def id_impl_isLocal : Nat := 63
def id_strings_Split : Nat := 44
def id_strings_genSplit : Nat := 66
def id_strings_explode : Nat := 83
def id_unicode_utf8_RuneCountInString : Nat := 96
def id_unicode_utf8_DecodeRuneInString : Nat := 97
def id_unicode_utf8_decodeRuneInStringSlow : Nat := 110
def id_strings_Count : Nat := 84
def id_internal_bytealg_CountString : Nat := 98
def id_strings_Index : Nat := 85
def id_slices_ContainsFunc___string_string_ : Nat := 37
def id_slices_IndexFunc___string_string_ : Nat := 61
def id_impl_isLocal_1 : Nat := 81
def id_impl_AtomValid : Nat := 82
def id_impl_allBytes : Nat := 67
def id_impl_isAtomByte : Nat := 95
def id_impl_isLetter : Nat := 109
def id_impl_isDigit : Nat := 69
def id_impl_isDomain : Nat := 21
def id_impl_isDomain_1 : Nat := 45
def id_impl_isLabel : Nat := 46
def id_impl_isLabel_1 : Nat := 68
def id_impl_draftValid_1 : Nat := 38
def id_impl_areTexts : Nat := 40
def id_impl_areTexts_1 : Nat := 64
def id_impl_TextValid : Nat := 53
def id_impl_mailsValid : Nat := 20
def id_slices_ContainsFunc___impl_Mail_impl_Mail_ : Nat := 41
def id_slices_IndexFunc___impl_Mail_impl_Mail_ : Nat := 65
def id_impl_mailsValid_1 : Nat := 42
def id_impl_MailValid : Nat := 43
def id_impl_copySession : Nat := 25
def id_impl_copyMail : Nat := 51
def id_slices_Clone___string_string_ : Nat := 71
def id_impl_copyMails : Nat := 52
def id_impl_Session_say : Nat := 26
def id_impl_Session_sayData : Nat := 54
def id_strings_TrimPrefix : Nat := 72
def id_internal_stringslite_TrimPrefix : Nat := 87
def id_internal_stringslite_HasPrefix : Nat := 101
def id_impl_Session_sayCommand : Nat := 55
def id_impl_outside : Nat := 73
def id_impl_quoted : Nat := 88
def id_impl_LowerText : Nat := 15
def id_impl_pathIn : Nat := 74
def id_impl_SameText : Nat := 89
def id_strings_CutSuffix : Nat := 90
def id_internal_stringslite_CutSuffix : Nat := 102
def id_internal_stringslite_HasSuffix : Nat := 112
def id_strings_CutPrefix : Nat := 91
def id_internal_stringslite_CutPrefix : Nat := 103
def id_impl_SessionSame : Nat := 14
def id_impl_MailSame : Nat := 11
def id_slices_Equal___string_string_ : Nat := 27
def id_slices_EqualFunc___impl_Mail___impl_Mail_impl_Mail_impl_Mail_ : Nat := 31
noncomputable def tabB : List (Nat × TI) := [
  (22, ⟨.slice 5 1 1 [(.int .u8 0)], false, 1, [(.slice none 0 0)]⟩),
  (3, ⟨.int .i64, false, 1, [(.int .i64 0)]⟩),
  (28, ⟨.struct [(0, 1, false), (1, 1, false), (2, 3, true), (5, 1, false)], true, 6, [(.int .i64 0), (.string (bs [])), (.string (bs [])), (.slice none 0 0), (.slice none 0 0), (.slice none 0 0)]⟩),
  (9, ⟨.str, false, 1, [(.string (bs []))]⟩),
  (4, ⟨.bool, false, 1, [(.bool false)]⟩),
  (39, ⟨.other, false, 1, [(.pointer none)]⟩),
  (54, ⟨.struct [(0, 1, false), (1, 1, false)], true, 2, [(.slice none 0 0), (.int .i64 0)]⟩),
  (23, ⟨.slice 9 1 16 [(.string (bs []))], false, 1, [(.slice none 0 0)]⟩),
  (57, ⟨.slice 3 1 8 [(.int .i64 0)], false, 1, [(.slice none 0 0)]⟩),
  (5, ⟨.int .u8, false, 1, [(.int .u8 0)]⟩),
  (25, ⟨.struct [(0, 1, false), (1, 1, false), (2, 1, false)], true, 3, [(.string (bs [])), (.slice none 0 0), (.slice none 0 0)]⟩),
  (26, ⟨.slice 25 3 64 [(.string (bs [])), (.slice none 0 0), (.slice none 0 0)], false, 1, [(.slice none 0 0)]⟩),
  (78, ⟨.struct [(0, 1, false), (1, 1, false), (2, 1, false)], true, 3, [(.string (bs [])), (.string (bs [])), (.string (bs []))]⟩),
  (45, ⟨.other, false, 1, [.nilFunc]⟩),
  (98, ⟨.int .u32, false, 1, [(.int .u32 0)]⟩),
  (21, ⟨.int .i32, false, 1, [(.int .i32 0)]⟩),
  (101, ⟨.arr 256 1, true, 256, [(.int .u8 0), (.int .u8 0), (.int .u8 0), (.int .u8 0), (.int .u8 0), (.int .u8 0), (.int .u8 0), (.int .u8 0), (.int .u8 0), (.int .u8 0), (.int .u8 0), (.int .u8 0), (.int .u8 0), (.int .u8 0), (.int .u8 0), (.int .u8 0), (.int .u8 0), (.int .u8 0), (.int .u8 0), (.int .u8 0), (.int .u8 0), (.int .u8 0), (.int .u8 0), (.int .u8 0), (.int .u8 0), (.int .u8 0), (.int .u8 0), (.int .u8 0), (.int .u8 0), (.int .u8 0), (.int .u8 0), (.int .u8 0), (.int .u8 0), (.int .u8 0), (.int .u8 0), (.int .u8 0), (.int .u8 0), (.int .u8 0), (.int .u8 0), (.int .u8 0), (.int .u8 0), (.int .u8 0), (.int .u8 0), (.int .u8 0), (.int .u8 0), (.int .u8 0), (.int .u8 0), (.int .u8 0), (.int .u8 0), (.int .u8 0), (.int .u8 0), (.int .u8 0), (.int .u8 0), (.int .u8 0), (.int .u8 0), (.int .u8 0), (.int .u8 0), (.int .u8 0), (.int .u8 0), (.int .u8 0), (.int .u8 0), (.int .u8 0), (.int .u8 0), (.int .u8 0), (.int .u8 0), (.int .u8 0), (.int .u8 0), (.int .u8 0), (.int .u8 0), (.int .u8 0), (.int .u8 0), (.int .u8 0), (.int .u8 0), (.int .u8 0), (.int .u8 0), (.int .u8 0), (.int .u8 0), (.int .u8 0), (.int .u8 0), (.int .u8 0), (.int .u8 0), (.int .u8 0), (.int .u8 0), (.int .u8 0), (.int .u8 0), (.int .u8 0), (.int .u8 0), (.int .u8 0), (.int .u8 0), (.int .u8 0), (.int .u8 0), (.int .u8 0), (.int .u8 0), (.int .u8 0), (.int .u8 0), (.int .u8 0), (.int .u8 0), (.int .u8 0), (.int .u8 0), (.int .u8 0), (.int .u8 0), (.int .u8 0), (.int .u8 0), (.int .u8 0), (.int .u8 0), (.int .u8 0), (.int .u8 0), (.int .u8 0), (.int .u8 0), (.int .u8 0), (.int .u8 0), (.int .u8 0), (.int .u8 0), (.int .u8 0), (.int .u8 0), (.int .u8 0), (.int .u8 0), (.int .u8 0), (.int .u8 0), (.int .u8 0), (.int .u8 0), (.int .u8 0), (.int .u8 0), (.int .u8 0), (.int .u8 0), (.int .u8 0), (.int .u8 0), (.int .u8 0), (.int .u8 0), (.int .u8 0), (.int .u8 0), (.int .u8 0), (.int .u8 0), (.int .u8 0), (.int .u8 0), (.int .u8 0), (.int .u8 0), (.int .u8 0), (.int .u8 0), (.int .u8 0), (.int .u8 0), (.int .u8 0), (.int .u8 0), (.int .u8 0), (.int .u8 0), (.int .u8 0), (.int .u8 0), (.int .u8 0), (.int .u8 0), (.int .u8 0), (.int .u8 0), (.int .u8 0), (.int .u8 0), (.int .u8 0), (.int .u8 0), (.int .u8 0), (.int .u8 0), (.int .u8 0), (.int .u8 0), (.int .u8 0), (.int .u8 0), (.int .u8 0), (.int .u8 0), (.int .u8 0), (.int .u8 0), (.int .u8 0), (.int .u8 0), (.int .u8 0), (.int .u8 0), (.int .u8 0), (.int .u8 0), (.int .u8 0), (.int .u8 0), (.int .u8 0), (.int .u8 0), (.int .u8 0), (.int .u8 0), (.int .u8 0), (.int .u8 0), (.int .u8 0), (.int .u8 0), (.int .u8 0), (.int .u8 0), (.int .u8 0), (.int .u8 0), (.int .u8 0), (.int .u8 0), (.int .u8 0), (.int .u8 0), (.int .u8 0), (.int .u8 0), (.int .u8 0), (.int .u8 0), (.int .u8 0), (.int .u8 0), (.int .u8 0), (.int .u8 0), (.int .u8 0), (.int .u8 0), (.int .u8 0), (.int .u8 0), (.int .u8 0), (.int .u8 0), (.int .u8 0), (.int .u8 0), (.int .u8 0), (.int .u8 0), (.int .u8 0), (.int .u8 0), (.int .u8 0), (.int .u8 0), (.int .u8 0), (.int .u8 0), (.int .u8 0), (.int .u8 0), (.int .u8 0), (.int .u8 0), (.int .u8 0), (.int .u8 0), (.int .u8 0), (.int .u8 0), (.int .u8 0), (.int .u8 0), (.int .u8 0), (.int .u8 0), (.int .u8 0), (.int .u8 0), (.int .u8 0), (.int .u8 0), (.int .u8 0), (.int .u8 0), (.int .u8 0), (.int .u8 0), (.int .u8 0), (.int .u8 0), (.int .u8 0), (.int .u8 0), (.int .u8 0), (.int .u8 0), (.int .u8 0), (.int .u8 0), (.int .u8 0), (.int .u8 0), (.int .u8 0), (.int .u8 0), (.int .u8 0), (.int .u8 0), (.int .u8 0), (.int .u8 0), (.int .u8 0), (.int .u8 0), (.int .u8 0), (.int .u8 0), (.int .u8 0), (.int .u8 0), (.int .u8 0)]⟩),
  (104, ⟨.arr 16 2, true, 32, [(.int .u8 0), (.int .u8 0), (.int .u8 0), (.int .u8 0), (.int .u8 0), (.int .u8 0), (.int .u8 0), (.int .u8 0), (.int .u8 0), (.int .u8 0), (.int .u8 0), (.int .u8 0), (.int .u8 0), (.int .u8 0), (.int .u8 0), (.int .u8 0), (.int .u8 0), (.int .u8 0), (.int .u8 0), (.int .u8 0), (.int .u8 0), (.int .u8 0), (.int .u8 0), (.int .u8 0), (.int .u8 0), (.int .u8 0), (.int .u8 0), (.int .u8 0), (.int .u8 0), (.int .u8 0), (.int .u8 0), (.int .u8 0)]⟩),
  (103, ⟨.struct [(0, 1, false), (1, 1, false)], true, 2, [(.int .u8 0), (.int .u8 0)]⟩),
  (64, ⟨.other, false, 1, [.nilFunc]⟩),
  (46, ⟨.other, false, 1, [.nilFunc]⟩),
  (67, ⟨.other, false, 1, [(.pointer none)]⟩),
  (33, ⟨.other, false, 1, [.nilFunc]⟩)]
noncomputable def annB : List (Nat × Ann) := [
  (4, { loc := [3, 5, 8], loops := [], joins := [(6, 8, [(.ret, ⟨[2], [], []⟩), (.normal, ⟨[4, 6], [(3, (3, 0)), (5, (5, 0))], [(3, 6), (5, 6)]⟩)])], full := [], dynQ := false }),
  (12, { loc := [2], loops := [], joins := [], full := [], dynQ := false }),
  (16, { loc := [], loops := [], joins := [(1, 3, [(.normal, ⟨[0], [], []⟩)])], full := [], dynQ := false }),
  (18, { loc := [2, 3, 8], loops := [(9, ⟨⟨[0, 7], [(2, (2, 0)), (3, (3, 0))], [(2, 6), (3, 6)]⟩, [(.exit 2, ⟨[], [(2, (2, 0)), (3, (3, 0))], [(2, 6), (3, 6)]⟩)]⟩), (5, ⟨⟨[0, 4, 5, 6], [(2, (2, 0)), (3, (3, 0))], [(2, 6), (3, 6)]⟩, [(.exit 0, ⟨[0], [(2, (2, 0)), (3, (3, 0))], [(2, 6), (3, 6)]⟩)]⟩)], joins := [(11, 10, [(.normal, ⟨[0, 7], [(2, (2, 0)), (3, (3, 0))], [(2, 6), (3, 6)]⟩)])], full := [], dynQ := false }),
  (34, { loc := [], loops := [], joins := [], full := [], dynQ := false }),
  (33, { loc := [], loops := [], joins := [(2, 4, [(.ret, ⟨[4], [], []⟩), (.normal, ⟨[0, 1], [], []⟩)])], full := [], dynQ := false }),
  (13, { loc := [2, 4, 7], loops := [], joins := [], full := [], dynQ := false }),
  (29, { loc := [2, 4, 7], loops := [], joins := [(5, 8, [(.normal, ⟨[8], [(4, (4, 0)), (7, (7, 0))], [(4, 6), (7, 6)]⟩)]), (1, 3, [(.ret, ⟨[5, 6], [(4, (4, 0))], [(4, 6)]⟩), (.normal, ⟨[1], [(2, (2, 0)), (4, (4, 0))], [(2, 6), (4, 6)]⟩)])], full := [], dynQ := false }),
  (9, { loc := [1, 3], loops := [(5, ⟨⟨[4], [(1, (1, 0)), (3, (3, 0))], [(1, 6), (3, 3)]⟩, [(.exit 0, ⟨[], [(1, (1, 0)), (3, (3, 0))], [(1, 6), (3, 3)]⟩), (.ret, ⟨[2], [], []⟩)]⟩)], joins := [(13, 19, [(.ret, ⟨[2], [], []⟩), (.normal, ⟨[], [(3, (3, 0))], [(3, 3)]⟩)]), (14, 16, [(.normal, ⟨[73, 74], [(3, (3, 0))], [(3, 3)]⟩)]), (11, 13, [(.ret, ⟨[2], [], []⟩), (.normal, ⟨[], [(1, (1, 0)), (3, (3, 0))], [(1, 6), (3, 3)]⟩)]), (9, 11, [(.ret, ⟨[2], [], []⟩), (.normal, ⟨[], [(1, (1, 0)), (3, (3, 0))], [(1, 6), (3, 3)]⟩)]), (2, 4, [(.ret, ⟨[2], [], []⟩), (.normal, ⟨[], [(1, (1, 0)), (3, (3, 0))], [(1, 6), (3, 3)]⟩)])], full := [], dynQ := false }),
  (22, { loc := [1], loops := [(9, ⟨⟨[4], [(1, (1, 0))], [(1, 3)]⟩, [(.exit 2, ⟨[], [], []⟩), (.ret, ⟨[2], [], []⟩)]⟩), (4, ⟨⟨[3], [(1, (1, 0))], [(1, 3)]⟩, [(.exit 0, ⟨[], [(1, (1, 0))], [(1, 3)]⟩), (.ret, ⟨[2], [], []⟩)]⟩)], joins := [(1, 3, [(.ret, ⟨[2], [], []⟩), (.normal, ⟨[], [(1, (1, 0))], [(1, 3)]⟩)])], full := [], dynQ := false }),
  (47, { loc := [3], loops := [], joins := [], full := [], dynQ := false }),
  (70, { loc := [2, 7], loops := [], joins := [], full := [], dynQ := false }),
  (75, { loc := [], loops := [(2, ⟨⟨[0, 1, 7], [], []⟩, [(.exit 0, ⟨[0], [], []⟩), (.ret, ⟨[4, 5, 6], [], []⟩)]⟩)], joins := [], full := [], dynQ := false }),
  (92, { loc := [], loops := [(3, ⟨⟨[0, 6, 7], [], []⟩, [(.exit 0, ⟨[], [], []⟩), (.ret, ⟨[4, 5], [], []⟩)]⟩)], joins := [(5, 4, [(.ret, ⟨[4, 5], [], []⟩), (.normal, ⟨[0, 6, 7], [], []⟩)]), (7, 11, [(.ret, ⟨[4, 5], [], []⟩), (.normal, ⟨[0, 6, 7], [], []⟩)])], full := [], dynQ := false }),
  (76, { loc := [], loops := [(3, ⟨⟨[3, 4], [], []⟩, [(.exit 0, ⟨[3], [], []⟩)]⟩)], joins := [(5, 4, [(.normal, ⟨[3, 4], [], []⟩)])], full := [], dynQ := false }),
  (86, { loc := [1], loops := [], joins := [], full := [], dynQ := false }),
  (99, { loc := [], loops := [], joins := [], full := [], dynQ := false }),
  (48, { loc := [], loops := [(2, ⟨⟨[0, 3], [], []⟩, [(.exit 0, ⟨[0], [], []⟩), (.ret, ⟨[2], [], []⟩)]⟩)], joins := [(4, 3, [(.ret, ⟨[2], [], []⟩), (.normal, ⟨[0, 3], [], []⟩)]), (2, 4, [(.normal, ⟨[0, 3], [], []⟩), (.exit 0, ⟨[0], [], []⟩)])], full := [], dynQ := false }),
  (100, { loc := [], loops := [(3, ⟨⟨[0, 3, 4], [], []⟩, [(.exit 0, ⟨[0], [], []⟩), (.ret, ⟨[2], [], []⟩)]⟩)], joins := [], full := [], dynQ := false }),
  (49, { loc := [], loops := [(4, ⟨⟨[0, 1, 5, 6, 7], [], []⟩, [(.exit 0, ⟨[0, 5, 6], [], []⟩)]⟩)], joins := [(6, 5, [(.normal, ⟨[0, 1, 5, 6, 7], [], []⟩)])], full := [], dynQ := false }),
  (111, { loc := [], loops := [(2, ⟨⟨[0, 3], [], []⟩, [(.exit 0, ⟨[0], [], []⟩), (.ret, ⟨[2], [], []⟩)]⟩)], joins := [(2, 4, [(.normal, ⟨[0, 3], [], []⟩), (.exit 0, ⟨[0], [], []⟩)])], full := [], dynQ := false }),
  (115, { loc := [], loops := [(2, ⟨⟨[0, 3], [], []⟩, [(.exit 0, ⟨[0], [], []⟩), (.ret, ⟨[2], [], []⟩)]⟩)], joins := [], full := [], dynQ := false }),
  (50, { loc := [], loops := [], joins := [], full := [], dynQ := false }),
  (23, { loc := [], loops := [(3, ⟨⟨[0, 3, 4], [], []⟩, [(.exit 0, ⟨[0], [], []⟩), (.ret, ⟨[2], [], []⟩)]⟩), (9, ⟨⟨[0, 3, 4, 5, 6], [], []⟩, [(.exit 2, ⟨[0, 3, 4], [], []⟩), (.ret, ⟨[2], [], []⟩)]⟩)], joins := [(5, 4, [(.ret, ⟨[2], [], []⟩), (.normal, ⟨[0, 3, 4], [], []⟩)]), (11, 10, [(.ret, ⟨[2], [], []⟩), (.normal, ⟨[0, 3, 4, 5, 6], [], []⟩)]), (6, 8, [(.ret, ⟨[2], [], []⟩), (.normal, ⟨[0, 3, 4, 5], [], []⟩)])], full := [], dynQ := false }),
  (24, { loc := [1], loops := [], joins := [], full := [], dynQ := false }),
  (32, { loc := [1, 2], loops := [(3, ⟨⟨[3, 4], [(1, (1, 0)), (2, (2, 0))], [(1, 6), (2, 6)]⟩, [(.exit 0, ⟨[3], [(2, (2, 0))], [(2, 6)]⟩)]⟩)], joins := [], full := [], dynQ := false }),
  (60, { loc := [1, 2], loops := [], joins := [], full := [8, 12], dynQ := false }),
  (56, { loc := [2, 4, 6], loops := [], joins := [(4, 6, [(.normal, ⟨[], [(2, (2, 0)), (4, (4, 0))], [(2, 6), (4, 6)]⟩)]), (2, 4, [(.normal, ⟨[1], [(2, (2, 0)), (4, (4, 0))], [(2, 6), (4, 6)]⟩)])], full := [], dynQ := false }),
  (57, { loc := [2, 4], loops := [], joins := [(16, 18, [(.normal, ⟨[], [(2, (2, 0)), (4, (4, 0))], [(2, 6), (4, 6)]⟩)])], full := [], dynQ := false }),
  (77, { loc := [2, 4], loops := [], joins := [(1, 3, [(.ret, ⟨[5], [(4, (4, 0))], [(4, 6)]⟩), (.normal, ⟨[1], [(2, (2, 0)), (4, (4, 0))], [(2, 6), (4, 6)]⟩)])], full := [], dynQ := false }),
  (78, { loc := [2, 4], loops := [], joins := [], full := [], dynQ := false }),
  (93, { loc := [8], loops := [], joins := [(2, 4, [(.ret, ⟨[4, 5], [], []⟩), (.normal, ⟨[0, 6], [], []⟩)])], full := [], dynQ := false }),
  (104, { loc := [], loops := [], joins := [], full := [], dynQ := false }),
  (79, { loc := [2, 4], loops := [], joins := [(2, 8, [(.ret, ⟨[5], [(4, (4, 0))], [(4, 6)]⟩), (.normal, ⟨[6], [(2, (2, 0)), (4, (4, 0))], [(2, 6), (4, 6)]⟩)])], full := [], dynQ := false }),
  (30, { loc := [1, 2], loops := [], joins := [], full := [], dynQ := false }),
  (58, { loc := [1, 2], loops := [], joins := [], full := [6, 11], dynQ := false }),
  (59, { loc := [5], loops := [(3, ⟨⟨[3, 7, 8, 9], [], []⟩, [(.exit 0, ⟨[3], [], []⟩)]⟩)], joins := [], full := [], dynQ := false }),
  (28, { loc := [], loops := [], joins := [], full := [], dynQ := false }),
  (35, { loc := [], loops := [], joins := [], full := [], dynQ := false }),
  (17, { loc := [3, 4, 5], loops := [], joins := [], full := [], dynQ := false }),
  (10, { loc := [2, 4], loops := [], joins := [], full := [], dynQ := false }),
  (8, { loc := [1], loops := [], joins := [(3, 9, [(.ret, ⟨[2], [], []⟩), (.normal, ⟨[], [(1, (1, 0))], [(1, 6)]⟩)]), (1, 3, [(.ret, ⟨[2], [], []⟩), (.normal, ⟨[], [(1, (1, 0))], [(1, 6)]⟩)])], full := [], dynQ := false }),
  (19, { loc := [3], loops := [], joins := [], full := [], dynQ := false }),
  (36, { loc := [], loops := [], joins := [], full := [], dynQ := false }),
  (39, { loc := [], loops := [], joins := [], full := [], dynQ := false }),
  (62, { loc := [], loops := [], joins := [], full := [], dynQ := false }),
  (80, { loc := [], loops := [], joins := [], full := [], dynQ := false }),
  (94, { loc := [], loops := [(15, ⟨⟨[0, 1, 5, 6, 7, 8, 9, 10], [], []⟩, [(.exit 1, ⟨[], [], []⟩), (.ret, ⟨[4], [], []⟩)]⟩)], joins := [(21, 23, [(.ret, ⟨[4], [], []⟩), (.normal, ⟨[0, 1, 5, 6, 7, 8, 9, 10], [], []⟩)]), (16, 21, [(.ret, ⟨[4], [], []⟩), (.normal, ⟨[0, 1, 5, 6, 7, 8, 9, 10], [], []⟩)]), (2, 10, [(.ret, ⟨[4], [], []⟩), (.normal, ⟨[0, 1, 5], [], []⟩)])], full := [], dynQ := false }),
  (105, { loc := [], loops := [], joins := [], full := [], dynQ := false }),
  (107, { loc := [], loops := [], joins := [], full := [], dynQ := false }),
  (108, { loc := [], loops := [(11, ⟨⟨[0, 1, 5, 6, 7, 8, 10], [], []⟩, [(.exit 2, ⟨[], [], []⟩), (.ret, ⟨[4], [], []⟩)]⟩), (5, ⟨⟨[0, 1, 5, 6, 7, 8, 9], [], []⟩, [(.exit 0, ⟨[0, 1, 5, 6, 7, 8], [], []⟩)]⟩)], joins := [(8, 10, [(.ret, ⟨[4], [], []⟩), (.normal, ⟨[0, 1, 5, 6, 7, 8], [], []⟩)])], full := [], dynQ := false }),
  (114, { loc := [], loops := [(8, ⟨⟨[4, 6, 7, 8], [], []⟩, [(.exit 2, ⟨[4, 6], [], []⟩)]⟩), (3, ⟨⟨[0, 4, 5], [], []⟩, [(.exit 0, ⟨[0, 4], [], []⟩)]⟩)], joins := [(10, 9, [(.normal, ⟨[4, 6, 7, 8], [], []⟩)]), (10, 12, [(.normal, ⟨[4, 6, 7, 8], [], []⟩)])], full := [], dynQ := false }),
  (63, { loc := [], loops := [], joins := [], full := [], dynQ := false }),
  (44, { loc := [], loops := [], joins := [], full := [], dynQ := false }),
  (66, { loc := [], loops := [(11, ⟨⟨[0, 1, 2, 3, 9, 10], [], []⟩, [(.exit 0, ⟨[0, 9, 10], [], []⟩)]⟩)], joins := [(5, 7, [(.normal, ⟨[0, 1, 2, 3], [], []⟩)])], full := [], dynQ := false }),
  (83, { loc := [], loops := [(6, ⟨⟨[0, 1, 6, 7], [], []⟩, [(.exit 0, ⟨[0, 1, 6], [], []⟩)]⟩)], joins := [(2, 4, [(.normal, ⟨[0, 1], [], []⟩)])], full := [], dynQ := false }),
  (96, { loc := [], loops := [], joins := [], full := [], dynQ := false }),
  (97, { loc := [], loops := [], joins := [], full := [], dynQ := false }),
  (110, { loc := [9], loops := [], joins := [], full := [], dynQ := false }),
  (84, { loc := [], loops := [(6, ⟨⟨[0, 1, 5], [], []⟩, [(.ret, ⟨[4], [], []⟩)]⟩)], joins := [], full := [], dynQ := false }),
  (85, { loc := [], loops := [], joins := [], full := [], dynQ := false }),
  (37, { loc := [], loops := [], joins := [], full := [], dynQ := false }),
  (61, { loc := [], loops := [(2, ⟨⟨[0, 1, 7, 8], [], []⟩, [(.exit 0, ⟨[], [], []⟩), (.ret, ⟨[4], [], []⟩)]⟩)], joins := [], full := [], dynQ := true }),
  (81, { loc := [], loops := [], joins := [], full := [], dynQ := false }),
  (82, { loc := [], loops := [], joins := [], full := [], dynQ := false }),
  (67, { loc := [], loops := [(2, ⟨⟨[0, 1, 7, 8], [], []⟩, [(.exit 0, ⟨[], [], []⟩), (.ret, ⟨[4], [], []⟩)]⟩)], joins := [], full := [], dynQ := true }),
  (95, { loc := [], loops := [], joins := [], full := [], dynQ := false }),
  (109, { loc := [], loops := [], joins := [], full := [], dynQ := false }),
  (69, { loc := [], loops := [], joins := [], full := [], dynQ := false }),
  (21, { loc := [], loops := [], joins := [], full := [], dynQ := false }),
  (45, { loc := [], loops := [], joins := [], full := [], dynQ := false }),
  (46, { loc := [], loops := [], joins := [], full := [], dynQ := false }),
  (68, { loc := [], loops := [], joins := [], full := [], dynQ := false }),
  (38, { loc := [], loops := [], joins := [], full := [], dynQ := false }),
  (40, { loc := [], loops := [], joins := [], full := [], dynQ := false }),
  (64, { loc := [], loops := [], joins := [], full := [], dynQ := false }),
  (53, { loc := [], loops := [(2, ⟨⟨[0, 5, 6], [], []⟩, [(.exit 0, ⟨[0], [], []⟩), (.ret, ⟨[2], [], []⟩)]⟩)], joins := [], full := [], dynQ := false }),
  (20, { loc := [], loops := [], joins := [], full := [], dynQ := false }),
  (41, { loc := [], loops := [], joins := [], full := [], dynQ := false }),
  (65, { loc := [], loops := [(2, ⟨⟨[0, 1, 7, 8], [], []⟩, [(.exit 0, ⟨[], [], []⟩), (.ret, ⟨[4], [], []⟩)]⟩)], joins := [], full := [], dynQ := true }),
  (42, { loc := [1], loops := [], joins := [], full := [], dynQ := false }),
  (43, { loc := [1], loops := [], joins := [], full := [], dynQ := false }),
  (25, { loc := [1, 2], loops := [], joins := [], full := [], dynQ := false }),
  (51, { loc := [1, 2], loops := [], joins := [], full := [], dynQ := false }),
  (71, { loc := [], loops := [], joins := [], full := [7], dynQ := false }),
  (52, { loc := [5], loops := [(3, ⟨⟨[3, 7, 8, 9], [], []⟩, [(.exit 0, ⟨[3], [], []⟩)]⟩)], joins := [], full := [], dynQ := false }),
  (26, { loc := [], loops := [], joins := [(1, 5, [(.ret, ⟨[4, 5], [], []⟩), (.normal, ⟨[0, 1], [], []⟩)])], full := [], dynQ := false }),
  (54, { loc := [5], loops := [], joins := [], full := [], dynQ := false }),
  (72, { loc := [], loops := [], joins := [], full := [], dynQ := false }),
  (87, { loc := [], loops := [], joins := [], full := [], dynQ := false }),
  (101, { loc := [], loops := [], joins := [], full := [], dynQ := false }),
  (55, { loc := [], loops := [], joins := [(22, 28, [(.ret, ⟨[4], [], []⟩), (.normal, ⟨[0, 12], [], []⟩)]), (8, 10, [(.ret, ⟨[4], [], []⟩), (.normal, ⟨[0, 9], [], []⟩)]), (2, 5, [(.normal, ⟨[0, 5, 6, 7], [], []⟩)])], full := [], dynQ := false }),
  (73, { loc := [], loops := [(2, ⟨⟨[0, 1, 5], [], []⟩, [(.exit 0, ⟨[], [], []⟩), (.ret, ⟨[4], [], []⟩)]⟩)], joins := [(4, 3, [(.ret, ⟨[4], [], []⟩), (.normal, ⟨[0, 1, 5], [], []⟩)])], full := [], dynQ := false }),
  (88, { loc := [], loops := [(3, ⟨⟨[0, 5, 6], [], []⟩, [(.exit 0, ⟨[], [], []⟩), (.ret, ⟨[2, 3, 4], [], []⟩)]⟩)], joins := [(5, 4, [(.ret, ⟨[2, 3, 4], [], []⟩), (.normal, ⟨[0, 5, 6], [], []⟩)]), (5, 11, [(.ret, ⟨[2, 3, 4], [], []⟩), (.normal, ⟨[0, 5, 6], [], []⟩)])], full := [], dynQ := false }),
  (15, { loc := [], loops := [(3, ⟨⟨[3, 8, 9, 10], [], []⟩, [(.exit 0, ⟨[3], [], []⟩)]⟩)], joins := [], full := [], dynQ := false }),
  (74, { loc := [], loops := [], joins := [(8, 10, [(.normal, ⟨[6], [], []⟩)]), (5, 7, [(.ret, ⟨[4, 5], [], []⟩), (.normal, ⟨[6], [], []⟩)]), (1, 3, [(.ret, ⟨[4, 5], [], []⟩), (.normal, ⟨[0, 1], [], []⟩)])], full := [], dynQ := false }),
  (89, { loc := [], loops := [], joins := [], full := [], dynQ := false }),
  (90, { loc := [], loops := [], joins := [], full := [], dynQ := false }),
  (102, { loc := [], loops := [], joins := [], full := [], dynQ := false }),
  (112, { loc := [], loops := [], joins := [], full := [], dynQ := false }),
  (91, { loc := [], loops := [], joins := [], full := [], dynQ := false }),
  (103, { loc := [], loops := [], joins := [], full := [], dynQ := false }),
  (14, { loc := [2, 3], loops := [], joins := [], full := [], dynQ := false }),
  (11, { loc := [2, 3], loops := [], joins := [], full := [], dynQ := false }),
  (27, { loc := [], loops := [(4, ⟨⟨[0, 1, 12, 13], [], []⟩, [(.exit 0, ⟨[], [], []⟩), (.ret, ⟨[4], [], []⟩)]⟩)], joins := [], full := [], dynQ := false }),
  (31, { loc := [8, 9], loops := [(4, ⟨⟨[1, 2, 15, 16, 17], [], []⟩, [(.exit 0, ⟨[], [], []⟩), (.ret, ⟨[6], [], []⟩)]⟩)], joins := [], full := [], dynQ := true })]
noncomputable def fnB : List (Nat × Func) := [
  (4, Tryz.f4), (12, Tryz.f12), (16, Tryz.f16), (18, Tryz.f18), (34, Tryz.f34), (33, Tryz.f33), (13, Tryz.f13), (29, Tryz.f29), (9, Tryz.f9), (22, Tryz.f22), (47, Tryz.f47), (70, Tryz.f70), (75, Tryz.f75), (92, Tryz.f92), (76, Tryz.f76), (86, Tryz.f86), (99, Tryz.f99), (48, Tryz.f48), (100, Tryz.f100), (49, Tryz.f49), (111, Tryz.f111), (115, Tryz.f115), (50, Tryz.f50), (23, Tryz.f23), (24, Tryz.f24), (32, Tryz.f32), (60, Tryz.f60), (56, Tryz.f56), (57, Tryz.f57), (77, Tryz.f77), (78, Tryz.f78), (93, Tryz.f93), (104, Tryz.f104), (79, Tryz.f79), (30, Tryz.f30), (58, Tryz.f58), (59, Tryz.f59), (28, Tryz.f28), (35, Tryz.f35), (17, Tryz.f17), (10, Tryz.f10), (8, Tryz.f8), (19, Tryz.f19), (36, Tryz.f36), (39, Tryz.f39), (62, Tryz.f62), (80, Tryz.f80), (94, Tryz.f94), (105, Tryz.f105), (107, Tryz.f107), (108, Tryz.f108), (114, Tryz.f114), (63, Tryz.f63), (44, Tryz.f44), (66, Tryz.f66), (83, Tryz.f83), (96, Tryz.f96), (97, Tryz.f97), (110, Tryz.f110), (84, Tryz.f84), (85, Tryz.f85), (37, Tryz.f37), (61, Tryz.f61), (81, Tryz.f81), (82, Tryz.f82), (67, Tryz.f67), (95, Tryz.f95), (109, Tryz.f109), (69, Tryz.f69), (21, Tryz.f21), (45, Tryz.f45), (46, Tryz.f46), (68, Tryz.f68), (38, Tryz.f38), (40, Tryz.f40), (64, Tryz.f64), (53, Tryz.f53), (20, Tryz.f20), (41, Tryz.f41), (65, Tryz.f65), (42, Tryz.f42), (43, Tryz.f43), (25, Tryz.f25), (51, Tryz.f51), (71, Tryz.f71), (52, Tryz.f52), (26, Tryz.f26), (54, Tryz.f54), (72, Tryz.f72), (87, Tryz.f87), (101, Tryz.f101), (55, Tryz.f55), (73, Tryz.f73), (88, Tryz.f88), (15, Tryz.f15), (74, Tryz.f74), (89, Tryz.f89), (90, Tryz.f90), (102, Tryz.f102), (112, Tryz.f112), (91, Tryz.f91), (103, Tryz.f103), (14, Tryz.f14), (11, Tryz.f11), (27, Tryz.f27), (31, Tryz.f31)]
def quietB : List Nat := [4, 9, 22, 47, 75, 92, 76, 86, 99, 48, 100, 111, 115, 50, 23, 24, 93, 104, 8, 19, 36, 39, 62, 80, 94, 105, 107, 108, 114, 63, 96, 97, 110, 84, 85, 37, 61, 81, 82, 67, 95, 109, 69, 21, 45, 46, 68, 38, 40, 64, 53, 20, 41, 65, 42, 43, 72, 87, 101, 73, 88, 15, 74, 89, 90, 102, 112, 91, 103, 14, 11, 27, 31]
def addsB : List Nat := [70, 49, 60, 77, 78, 30, 58, 59, 10, 44, 66, 83, 25, 51, 71, 52]
def takesB : List (Nat × List Nat) := [(4, [2, 2, 18, 17, 20, 4, 24, 22, 6, 7, 30, 31, 29, 9, 10, 40, 41, 42, 45, 46, 47, 50, 51, 54, 62, 63, 64, 67, 68, 69, 2, 74, 72, 77, 12, 13, 80, 81, 82, 83, 86, 2]), (12, [3, 5, 4, 7, 8, 11, 3]), (16, [2, 0, 8, 2]), (18, [13, 5, 6, 16, 17, 22, 24, 21, 28, 19, 6, 31, 7, 33, 38, 39, 37, 42, 9, 10, 45, 46, 35, 7, 47]), (34, [4, 6, 4]), (33, [4, 7, 8, 15, 17, 18, 4, 25, 5, 30, 31, 37, 41, 45, 4, 47, 51, 52, 62, 66, 69, 80, 83, 84, 6, 92, 93, 6, 96, 97, 4]), (13, [5, 6, 11, 12, 10, 8, 9, 19, 20, 5, 6]), (29, [5, 6, 12, 17, 18, 5, 6, 23, 8, 29, 30, 28, 32, 8, 35, 36, 34, 38, 8, 40, 41, 5, 6]), (9, [2, 10, 15, 20, 24, 31, 2, 4, 37, 46, 2, 42, 4, 54, 2, 66, 2, 74, 74, 2, 81, 2, 90, 2]), (22, [2, 8, 14, 20, 2, 3, 26, 35, 2, 31, 3, 4, 40, 49, 2, 45, 4, 2]), (47, [2, 6, 5, 4, 10, 11, 18, 2]), (70, [3, 9, 8, 4, 5, 6, 14, 15, 19, 20, 3]), (75, [4, 5, 6, 7, 10, 11, 14, 15, 19, 20, 18, 8, 9, 24, 26, 4, 5, 6, 27, 7, 28, 29, 31, 33, 34, 36, 37, 4, 5, 6, 40, 7, 42, 4, 5, 6]), (92, [4, 5, 6, 8, 7, 10, 11, 16, 17, 20, 21, 4, 5, 23, 24, 27, 7, 29, 30, 4, 5, 33, 34, 35, 36, 6, 14, 7, 4, 5]), (76, [2, 5, 4, 7, 14, 18, 20, 26, 28, 11, 4, 2]), (86, [2, 6, 12, 17, 23, 2]), (99, [2, 3, 5, 6, 2]), (48, [2, 3, 4, 5, 8, 9, 14, 15, 18, 19, 20, 2, 12, 3, 24, 2]), (100, [2, 5, 4, 7, 14, 2, 11, 4, 19, 2]), (49, [4, 5, 6, 7, 9, 10, 15, 16, 18, 20, 21, 22, 23, 5, 27, 6, 13, 7, 29, 30, 31, 4]), (111, [2, 3, 4, 5, 8, 9, 14, 15, 2, 12, 3, 19, 22, 23, 2]), (115, [2, 3, 4, 8, 9, 2, 6, 3, 12, 2]), (50, [2, 3, 5, 6, 9, 10, 12, 13, 17, 18, 20, 21, 2]), (23, [2, 7, 4, 9, 16, 5, 19, 21, 22, 26, 27, 28, 2, 6, 34, 35, 40, 41, 45, 46, 47, 51, 52, 53, 56, 57, 58, 2, 38, 6, 13, 4, 63, 2]), (24, [2, 5, 11, 2]), (32, [4, 13, 21, 24, 18, 4, 31]), (60, [7, 11]), (56, [5, 7, 9, 11, 12, 16, 1, 25, 26, 31, 5, 33, 37, 42, 5, 43, 48, 5, 50, 51, 55, 5]), (57, [5, 10, 9, 6, 7, 8, 15, 17, 20, 22, 5, 24, 27, 29, 5, 31, 33, 34, 36, 5, 38, 40, 45, 5, 47, 5, 48, 56, 5, 57, 59, 5, 60, 65, 5, 66, 5]), (77, [5, 6, 9, 10, 14, 15, 21, 5, 22, 29, 5]), (78, [5, 9, 8, 6, 7, 14, 13, 16, 5, 17, 21, 5, 23, 26, 5]), (93, [4, 5, 10, 6, 12, 14, 17, 18, 19, 21, 25, 26, 27, 31, 32, 33, 4, 5, 39, 40, 42, 7, 46, 4, 5, 49, 48, 9, 59, 4, 5]), (104, [4, 5, 7, 4]), (79, [5, 9, 8, 6, 7, 14, 16, 17, 13, 20, 5, 25, 21, 30, 5, 31, 37, 5, 41, 42, 47, 5]), (30, [11]), (58, [5, 10, 13]), (59, [2, 3, 9, 13, 3, 9, 19, 2]), (28, [2, 3, 2]), (35, [4, 6, 4]), (17, [6, 8, 10, 12, 16, 18, 22, 26, 27, 34, 37, 42]), (10, [5, 6, 5, 6, 17, 16, 8, 9, 21, 5, 6, 24, 25, 5, 6]), (8, [2, 6, 11, 17, 23, 27, 2, 38, 34, 2, 56, 47, 2, 68, 62, 2, 77, 82, 87, 2]), (19, [6, 10, 14, 17, 23, 29, 32, 6]), (36, [2, 3, 5, 6, 2]), (39, [2, 7, 6, 3, 4, 5, 12, 13, 14, 17, 18, 2]), (62, [4, 5, 6, 7, 8, 4, 5, 6]), (80, [4, 5, 6, 8, 9, 7, 11, 13, 14, 16, 17, 18, 4, 5, 6, 22, 4, 5, 6]), (94, [4, 14, 5, 17, 19, 20, 21, 16, 4, 25, 24, 27, 28, 4, 32, 33, 31, 4, 37, 40, 41, 36, 45, 46, 4, 48, 6, 50, 7, 8, 52, 54, 9, 10, 57, 58, 60, 61, 63, 65, 66, 68, 70, 11, 72, 4, 74, 75, 8, 78, 79, 82, 84, 85, 86, 87, 88, 91, 94, 4, 95, 8, 97, 10, 99, 102, 103, 104, 108, 109, 111, 12, 113, 115, 116, 4, 4, 118, 121, 122, 123, 128, 129, 130, 133, 134, 136, 13, 138, 4, 140, 141, 4, 4]), (105, [4, 5, 6, 4]), (107, [2, 3, 2]), (108, [4, 12, 11, 5, 6, 16, 7, 8, 9, 18, 19, 23, 25, 26, 8, 21, 9, 30, 31, 33, 34, 35, 37, 4, 40, 10, 41, 42, 45, 8, 47, 48, 49, 8, 53, 54, 55, 56, 57, 8, 63, 10, 65, 66, 68, 69, 70, 71, 73, 75, 78, 79, 4, 4]), (114, [2, 3, 4, 5, 9, 10, 15, 17, 18, 4, 13, 5, 6, 7, 22, 8, 24, 28, 31, 32, 6, 34, 35, 7, 26, 8, 37, 38, 2, 3]), (63, [2, 3, 6, 7, 2]), (44, [4, 5, 6, 4]), (66, [8, 12, 8, 14, 16, 17, 8, 19, 21, 22, 3, 25, 26, 3, 30, 32, 3, 10, 34, 35, 37, 38, 11, 40, 43, 44, 45, 46, 50, 51, 52, 0, 56, 10, 59, 60, 63, 8]), (83, [4, 10, 5, 12, 14, 15, 16, 19, 1, 20, 6, 7, 22, 23, 29, 28, 8, 9, 34, 35, 36, 39, 40, 0, 26, 7, 42, 45, 47, 49, 4]), (96, [2, 3, 7, 2, 9, 2]), (97, [2, 3, 4, 6, 7, 11, 2, 3, 15, 14, 2, 3]), (110, [2, 3, 13, 4, 15, 2, 3, 17, 5, 19, 6, 22, 24, 7, 28, 31, 33, 2, 3, 36, 8, 39, 43, 44, 2, 3, 46, 10, 48, 52, 55, 2, 3, 58, 60, 64, 2, 3, 68, 11, 70, 72, 73, 2, 3, 76, 78, 82, 87, 2, 3, 91, 12, 93, 95, 96, 2, 3, 99, 103, 108, 113, 2, 3]), (84, [4, 7, 10, 4, 13, 16, 17, 4, 5, 20, 21, 6, 23, 25, 4, 26, 5, 28, 29, 30, 0]), (85, [4, 5, 6, 4]), (37, [4, 6, 4]), (61, [4, 8, 10, 5, 11, 13, 17, 4, 8, 4]), (81, [2, 3, 2]), (82, [2, 3, 6, 7, 11, 12, 2]), (67, [4, 6, 8, 10, 5, 11, 12, 13, 4, 8, 4]), (95, [2, 3, 5, 6, 9, 10, 13, 14, 16, 17, 21, 22, 25, 26, 29, 30, 33, 34, 37, 38, 41, 42, 45, 46, 48, 49, 53, 54, 56, 57, 2]), (109, [2, 3, 5, 6, 9, 10, 12, 13, 2]), (69, [2, 3, 5, 6, 2]), (21, [2, 3, 6, 7, 2]), (45, [2, 3, 2]), (46, [2, 3, 5, 6, 10, 11, 12, 18, 19, 2]), (68, [2, 3, 5, 6, 9, 10, 13, 14, 2]), (38, [2, 3, 2]), (40, [4, 7, 9, 4]), (64, [2, 3, 2]), (53, [2, 4, 6, 8, 3, 9, 10, 13, 14, 15, 2, 6, 20, 2]), (20, [4, 7, 9, 4]), (41, [4, 6, 4]), (65, [4, 8, 10, 5, 11, 13, 17, 4, 8, 4]), (42, [2, 2]), (43, [2, 2]), (71, [2, 2, 6, 2]), (52, [2, 3, 9, 13, 3, 9, 19, 2]), (26, [4, 5, 7, 12, 13, 6, 4, 5, 18, 17, 23, 24, 4, 5, 26, 27, 4, 5]), (54, [4, 6, 8, 15, 16, 20, 21, 4, 28, 31, 32, 33, 39, 4, 45, 44, 4, 51, 52, 55, 56, 4]), (72, [4, 5, 6, 4]), (87, [4, 5, 6, 8, 9, 4, 12, 4]), (101, [4, 5, 7, 10, 11, 12, 15, 4]), (55, [4, 14, 5, 6, 7, 15, 8, 17, 19, 20, 22, 23, 5, 6, 7, 26, 5, 29, 28, 31, 9, 33, 35, 36, 4, 40, 41, 42, 43, 4, 52, 51, 55, 54, 10, 11, 60, 59, 4, 63, 62, 4, 68, 69, 70, 4, 77, 76, 80, 79, 12, 13, 85, 87, 88, 84, 4, 92, 97, 98, 91, 4, 105, 104, 4, 112, 113, 114, 118, 119, 4, 128, 127, 4, 130, 129, 132, 4, 137, 4, 141, 140, 143, 147, 152, 4, 156, 155, 4, 159, 158, 161, 162, 4, 4]), (73, [4, 5, 9, 10, 15, 16, 18, 21, 22, 20, 6, 7, 8, 28, 4, 30, 31, 5, 35, 34, 37, 4, 13, 5, 4]), (88, [2, 3, 4, 5, 6, 8, 9, 15, 16, 14, 21, 2, 3, 4, 24, 25, 23, 28, 6, 30, 31, 2, 3, 4, 34, 35, 36, 5, 12, 6, 2, 3, 4]), (15, [2, 6, 10, 12, 4, 5, 15, 17, 18, 22, 10, 2]), (74, [4, 5, 12, 14, 17, 18, 19, 22, 4, 5, 27, 28, 26, 6, 7, 35, 34, 6, 8, 39, 41, 42, 4, 5, 46, 45, 9, 10, 11, 51, 52, 54, 6, 57, 58, 4, 5]), (89, [4, 5, 7, 4]), (90, [4, 5, 6, 7, 4, 5]), (102, [4, 5, 6, 7, 10, 4, 5, 11, 12, 14, 4, 5]), (112, [4, 5, 7, 10, 11, 12, 14, 18, 4]), (91, [4, 5, 6, 7, 4, 5]), (103, [4, 5, 6, 7, 10, 4, 5, 11, 12, 4, 5]), (14, [4, 10, 17, 24, 4]), (11, [4, 10, 17, 4]), (27, [4, 4, 13, 15, 5, 17, 21, 4, 13, 4]), (31, [6, 6, 17, 19, 7, 23, 26, 6, 17, 6])]
def mvB : List (Nat × List Nat) := [(4, [0]), (12, [0]), (16, [0]), (13, [0]), (29, [0]), (32, [0]), (56, [0]), (57, [0]), (79, [0]), (17, [1])]
def extsB : List (Nat × Nat) := [(113, 0), (106, 2), (98, 1)]
-- extern: [(113, internal_bytealg_IndexByteString), (106, internal_bytealg_IndexString), (98, internal_bytealg_CountString)]

noncomputable def base : Base where
  ng := 0
  tab := tabB
  fn := Go.AM.look fnB
  ann := annOf annB
  kind := kindX quietB addsB extsB
  ext := extA
  prim := fun _ => none
def globB : Nat → Option (List V) := fun _ => none
noncomputable def vb : BaseV where
  b := base
  glob := globB
  takes := listOf takesB
  mv := listOf mvB
  prim := fun _ => none
noncomputable def cv : CallV := callV vb
noncomputable def pc : FuncId → List V → Option V := pcall cv
noncomputable def qc : FuncId → List V → Option V := qpcall cv
set_option maxRecDepth 100000 in
theorem fns : FnsOk Tryz.prog fnB := by
  unfold fnB
  refine ⟨⟨rfl, by kernel_rfl⟩, ⟨rfl, by kernel_rfl⟩, ⟨rfl, by kernel_rfl⟩, ⟨rfl, by kernel_rfl⟩, ⟨rfl, by kernel_rfl⟩, ⟨rfl, by kernel_rfl⟩, ⟨rfl, by kernel_rfl⟩, ⟨rfl, by kernel_rfl⟩, ⟨rfl, by kernel_rfl⟩, ⟨rfl, by kernel_rfl⟩, ⟨rfl, by kernel_rfl⟩, ⟨rfl, by kernel_rfl⟩, ⟨rfl, by kernel_rfl⟩, ⟨rfl, by kernel_rfl⟩, ⟨rfl, by kernel_rfl⟩, ⟨rfl, by kernel_rfl⟩, ⟨rfl, by kernel_rfl⟩, ⟨rfl, by kernel_rfl⟩, ⟨rfl, by kernel_rfl⟩, ⟨rfl, by kernel_rfl⟩, ⟨rfl, by kernel_rfl⟩, ⟨rfl, by kernel_rfl⟩, ⟨rfl, by kernel_rfl⟩, ⟨rfl, by kernel_rfl⟩, ⟨rfl, by kernel_rfl⟩, ⟨rfl, by kernel_rfl⟩, ⟨rfl, by kernel_rfl⟩, ⟨rfl, by kernel_rfl⟩, ⟨rfl, by kernel_rfl⟩, ⟨rfl, by kernel_rfl⟩, ⟨rfl, by kernel_rfl⟩, ⟨rfl, by kernel_rfl⟩, ⟨rfl, by kernel_rfl⟩, ⟨rfl, by kernel_rfl⟩, ⟨rfl, by kernel_rfl⟩, ⟨rfl, by kernel_rfl⟩, ⟨rfl, by kernel_rfl⟩, ⟨rfl, by kernel_rfl⟩, ⟨rfl, by kernel_rfl⟩, ⟨rfl, by kernel_rfl⟩, ⟨rfl, by kernel_rfl⟩, ⟨rfl, by kernel_rfl⟩, ⟨rfl, by kernel_rfl⟩, ⟨rfl, by kernel_rfl⟩, ⟨rfl, by kernel_rfl⟩, ⟨rfl, by kernel_rfl⟩, ⟨rfl, by kernel_rfl⟩, ⟨rfl, by kernel_rfl⟩, ⟨rfl, by kernel_rfl⟩, ⟨rfl, by kernel_rfl⟩, ⟨rfl, by kernel_rfl⟩, ⟨rfl, by kernel_rfl⟩, ⟨rfl, by kernel_rfl⟩, ⟨rfl, by kernel_rfl⟩, ⟨rfl, by kernel_rfl⟩, ⟨rfl, by kernel_rfl⟩, ⟨rfl, by kernel_rfl⟩, ⟨rfl, by kernel_rfl⟩, ⟨rfl, by kernel_rfl⟩, ⟨rfl, by kernel_rfl⟩, ⟨rfl, by kernel_rfl⟩, ⟨rfl, by kernel_rfl⟩, ⟨rfl, by kernel_rfl⟩, ⟨rfl, by kernel_rfl⟩, ⟨rfl, by kernel_rfl⟩, ⟨rfl, by kernel_rfl⟩, ⟨rfl, by kernel_rfl⟩, ⟨rfl, by kernel_rfl⟩, ⟨rfl, by kernel_rfl⟩, ⟨rfl, by kernel_rfl⟩, ⟨rfl, by kernel_rfl⟩, ⟨rfl, by kernel_rfl⟩, ⟨rfl, by kernel_rfl⟩, ⟨rfl, by kernel_rfl⟩, ⟨rfl, by kernel_rfl⟩, ⟨rfl, by kernel_rfl⟩, ⟨rfl, by kernel_rfl⟩, ⟨rfl, by kernel_rfl⟩, ⟨rfl, by kernel_rfl⟩, ⟨rfl, by kernel_rfl⟩, ⟨rfl, by kernel_rfl⟩, ⟨rfl, by kernel_rfl⟩, ⟨rfl, by kernel_rfl⟩, ⟨rfl, by kernel_rfl⟩, ⟨rfl, by kernel_rfl⟩, ⟨rfl, by kernel_rfl⟩, ⟨rfl, by kernel_rfl⟩, ⟨rfl, by kernel_rfl⟩, ⟨rfl, by kernel_rfl⟩, ⟨rfl, by kernel_rfl⟩, ⟨rfl, by kernel_rfl⟩, ⟨rfl, by kernel_rfl⟩, ⟨rfl, by kernel_rfl⟩, ⟨rfl, by kernel_rfl⟩, ⟨rfl, by kernel_rfl⟩, ⟨rfl, by kernel_rfl⟩, ⟨rfl, by kernel_rfl⟩, ⟨rfl, by kernel_rfl⟩, ⟨rfl, by kernel_rfl⟩, ⟨rfl, by kernel_rfl⟩, ⟨rfl, by kernel_rfl⟩, ⟨rfl, by kernel_rfl⟩, ⟨rfl, by kernel_rfl⟩, ⟨rfl, by kernel_rfl⟩, ⟨rfl, by kernel_rfl⟩, ⟨rfl, by kernel_rfl⟩, trivial⟩
theorem tabs : tabB? Tryz.prog tabB = true := by kernel_rfl
theorem exts : ExtFns Tryz.prog extsB := by
  unfold extsB
  exact ⟨fun args w => Go.run_callFunc_extern (fn := Tryz.f113) (e := Extern.BytealgIndexByte.indexByte) (by kernel_rfl) (by kernel_rfl) (by kernel_rfl) (by kernel_rfl) (by kernel_rfl) args w, trivial, fun args w => Go.run_callFunc_extern (fn := Tryz.f98) (e := Extern.BytealgCount.count) (by kernel_rfl) (by kernel_rfl) (by kernel_rfl) (by kernel_rfl) (by kernel_rfl) args w, trivial⟩
theorem base_ok : BaseOk Tryz.prog base where
  tab := tab_ok tabs
  fn := fns_ok fns
  ext := ext_ok exts
  prim := fun f g args hp r hp' h => by cases h
  mixed := by kernel_rfl
theorem vb_ok : BaseVOk vb where
  zero := tab_zero (tab_ok tabs)
  sl := tab_sl (tab_ok tabs)
  gd := fun g cs h => by cases h
  noprim := fun _ _ => rfl
  prim := fun f g args r H h => by cases h
end Go.Proofs.YtjbekhailkednaaGreatDoor.Q
