/- The program's functions, types and marks, as the machines take them. -/
import Derived.Test.YtjobinbeggkliabGreatDoorProg
import Derived.Test.YtjobinbeggkliabGreatDoorFnDeliverNoneK4
import Derived.KernelRfl
namespace Go.Proofs.YtjobinbeggkliabGreatDoor.Q
open Go Go.AM Go.Proofs Go.Shelf
set_option linter.unusedVariables false
def id_laws_FnDeliverNone : Nat := 3
def id_spec_DrawDeliverMail : Nat := 5
def id_spec_l13Open : Nat := 14
def id_spec_l11Draw : Nat := 16
def id_spec_l13Rd_num : Nat := 36
def id_spec_l13Rd_pick : Nat := 35
def id_spec_l13Rd_of : Nat := 32
def id_spec_AddBox : Nat := 12
def id_spec_l11RawAddBox : Nat := 33
def id_spec_BoxesValid : Nat := 44
def id_spec_l10Box : Nat := 54
def id_spec_l2Box : Nat := 72
def id_spec_l2Cut : Nat := 86
def id_spec_l1Read : Nat := 97
def id_spec_LowerText : Nat := 87
def id_spec_AddressValid : Nat := 88
def id_spec_l2Name : Nat := 98
def id_spec_TextValid : Nat := 77
def id_spec_l2Local : Nat := 99
def id_spec_l2Parts : Nat := 106
def id_spec_AtomValid : Nat := 107
def id_spec_l1Atom : Nat := 110
def id_spec_l1Letter : Nat := 108
def id_spec_l2Domain : Nat := 100
def id_spec_MailValid : Nat := 45
def id_spec_l10Draft : Nat := 63
def id_spec_l11Find : Nat := 46
def id_spec_l11Copy : Nat := 34
def id_spec_l10Mail : Nat := 37
def id_spec_l13OwnListBox : Nat := 25
def id_spec_l13OwnBox : Nat := 47
def id_spec_l13OwnListMail : Nat := 64
def id_spec_l13OwnMail : Nat := 78
def id_spec_l10DrawMail : Nat := 18
def id_spec_DeliverMail : Nat := 7
def id_spec_l11RawDeliverMail : Nat := 24
def id_spec_l11Wrong : Nat := 15
def id_spec_l10WrongMail : Nat := 17
def id_impl_DeliverMail : Nat := 6
def id_impl_BoxesValid : Nat := 19
def id_impl_isPath : Nat := 30
def id_strings_Cut : Nat := 49
def id_internal_stringslite_Cut : Nat := 65
def id_internal_stringslite_Index : Nat := 79
def id_internal_stringslite_IndexByte : Nat := 89
def id_internal_bytealg_IndexByteString : Nat := 101
def id_internal_bytealg_IndexString : Nat := 90
def id_internal_bytealg_Cutover : Nat := 91
def id_internal_bytealg_IndexRabinKarp_string_ : Nat := 92
def id_internal_bytealg_hashStr_string_ : Nat := 102
def id_impl_isLocal : Nat := 50
def id_strings_Split : Nat := 66
def id_strings_genSplit : Nat := 80
def id_strings_explode : Nat := 93
def id_unicode_utf8_RuneCountInString : Nat := 103
def id_unicode_utf8_DecodeRuneInString : Nat := 104
def id_unicode_utf8_decodeRuneInStringSlow : Nat := 109
def id_strings_Count : Nat := 94
def id_internal_bytealg_CountString : Nat := 105
def id_strings_Index : Nat := 95
def id_slices_ContainsFunc___string_string_ : Nat := 58
def id_slices_IndexFunc___string_string_ : Nat := 74
def id_impl_isLocal_1 : Nat := 67
def id_impl_AtomValid : Nat := 68
def id_impl_allBytes : Nat := 81
def id_impl_isAtomByte : Nat := 82
def id_impl_isLetter : Nat := 96
def id_impl_isDigit : Nat := 84
def id_impl_isDomain : Nat := 51
def id_impl_isDomain_1 : Nat := 69
def id_impl_isLabel : Nat := 70
def id_impl_isLabel_1 : Nat := 83
def id_impl_mailsValid : Nat := 38
def id_slices_ContainsFunc___impl_Mail_impl_Mail_ : Nat := 55
def id_slices_IndexFunc___impl_Mail_impl_Mail_ : Nat := 73
def id_impl_mailsValid_1 : Nat := 56
def id_impl_MailValid : Nat := 20
def id_impl_draftValid : Nat := 39
def id_impl_isFrom : Nat := 57
def id_impl_draftValid_1 : Nat := 59
def id_impl_areTexts : Nat := 60
def id_impl_areTexts_1 : Nat := 75
def id_impl_TextValid : Nat := 76
def id_impl_copyBoxes : Nat := 21
def id_impl_copyMails : Nat := 40
def id_impl_copyMail : Nat := 61
def id_slices_Clone___string_string_ : Nat := 23
def id_impl_boxPlace : Nat := 22
def id_slices_BinarySearchFunc___impl_Box_impl_Box_string_ : Nat := 41
def id_impl_boxPlace_1 : Nat := 42
def id_cmp_Compare_string_ : Nat := 43
def id_cmp_isNaN_string_ : Nat := 62
def id_impl_BoxesSame : Nat := 8
def id_slices_EqualFunc___impl_Box___impl_Box_impl_Box_impl_Box_ : Nat := 26
def id_impl_BoxesSame_1 : Nat := 27
def id_slices_EqualFunc___impl_Mail___impl_Mail_impl_Mail_impl_Mail_ : Nat := 28
def id_impl_MailSame : Nat := 29
def id_slices_Equal___string_string_ : Nat := 48
def id_laws_mwInts : Nat := 9
def id_impl_AddBox : Nat := 10
def id_slices_Insert___impl_Box_impl_Box_ : Nat := 31
noncomputable def tabB : List (Nat × TI) := [
  (22, ⟨.slice 5 1 1 [(.int .u8 0)], false, 1, [(.slice none 0 0)]⟩),
  (3, ⟨.int .i64, false, 1, [(.int .i64 0)]⟩),
  (26, ⟨.struct [(0, 1, false), (1, 1, false), (2, 1, false)], true, 3, [(.string (bs [])), (.slice none 0 0), (.slice none 0 0)]⟩),
  (23, ⟨.slice 41 2 40 [(.string (bs [])), (.slice none 0 0)], false, 1, [(.slice none 0 0)]⟩),
  (29, ⟨.slice 3 1 8 [(.int .i64 0)], false, 1, [(.slice none 0 0)]⟩),
  (4, ⟨.bool, false, 1, [(.bool false)]⟩),
  (24, ⟨.slice 9 1 16 [(.string (bs []))], false, 1, [(.slice none 0 0)]⟩),
  (9, ⟨.str, false, 1, [(.string (bs []))]⟩),
  (43, ⟨.other, false, 1, [(.pointer none)]⟩),
  (63, ⟨.struct [(0, 1, false), (1, 1, false)], true, 2, [(.slice none 0 0), (.int .i64 0)]⟩),
  (5, ⟨.int .u8, false, 1, [(.int .u8 0)]⟩),
  (41, ⟨.struct [(0, 1, false), (1, 1, false)], true, 2, [(.string (bs [])), (.slice none 0 0)]⟩),
  (39, ⟨.slice 26 3 64 [(.string (bs [])), (.slice none 0 0), (.slice none 0 0)], false, 1, [(.slice none 0 0)]⟩),
  (85, ⟨.struct [(0, 1, false), (1, 1, false), (2, 1, false)], true, 3, [(.string (bs [])), (.string (bs [])), (.string (bs []))]⟩),
  (101, ⟨.int .u32, false, 1, [(.int .u32 0)]⟩),
  (59, ⟨.other, false, 1, [.nilFunc]⟩),
  (21, ⟨.int .i32, false, 1, [(.int .i32 0)]⟩),
  (108, ⟨.arr 256 1, true, 256, [(.int .u8 0), (.int .u8 0), (.int .u8 0), (.int .u8 0), (.int .u8 0), (.int .u8 0), (.int .u8 0), (.int .u8 0), (.int .u8 0), (.int .u8 0), (.int .u8 0), (.int .u8 0), (.int .u8 0), (.int .u8 0), (.int .u8 0), (.int .u8 0), (.int .u8 0), (.int .u8 0), (.int .u8 0), (.int .u8 0), (.int .u8 0), (.int .u8 0), (.int .u8 0), (.int .u8 0), (.int .u8 0), (.int .u8 0), (.int .u8 0), (.int .u8 0), (.int .u8 0), (.int .u8 0), (.int .u8 0), (.int .u8 0), (.int .u8 0), (.int .u8 0), (.int .u8 0), (.int .u8 0), (.int .u8 0), (.int .u8 0), (.int .u8 0), (.int .u8 0), (.int .u8 0), (.int .u8 0), (.int .u8 0), (.int .u8 0), (.int .u8 0), (.int .u8 0), (.int .u8 0), (.int .u8 0), (.int .u8 0), (.int .u8 0), (.int .u8 0), (.int .u8 0), (.int .u8 0), (.int .u8 0), (.int .u8 0), (.int .u8 0), (.int .u8 0), (.int .u8 0), (.int .u8 0), (.int .u8 0), (.int .u8 0), (.int .u8 0), (.int .u8 0), (.int .u8 0), (.int .u8 0), (.int .u8 0), (.int .u8 0), (.int .u8 0), (.int .u8 0), (.int .u8 0), (.int .u8 0), (.int .u8 0), (.int .u8 0), (.int .u8 0), (.int .u8 0), (.int .u8 0), (.int .u8 0), (.int .u8 0), (.int .u8 0), (.int .u8 0), (.int .u8 0), (.int .u8 0), (.int .u8 0), (.int .u8 0), (.int .u8 0), (.int .u8 0), (.int .u8 0), (.int .u8 0), (.int .u8 0), (.int .u8 0), (.int .u8 0), (.int .u8 0), (.int .u8 0), (.int .u8 0), (.int .u8 0), (.int .u8 0), (.int .u8 0), (.int .u8 0), (.int .u8 0), (.int .u8 0), (.int .u8 0), (.int .u8 0), (.int .u8 0), (.int .u8 0), (.int .u8 0), (.int .u8 0), (.int .u8 0), (.int .u8 0), (.int .u8 0), (.int .u8 0), (.int .u8 0), (.int .u8 0), (.int .u8 0), (.int .u8 0), (.int .u8 0), (.int .u8 0), (.int .u8 0), (.int .u8 0), (.int .u8 0), (.int .u8 0), (.int .u8 0), (.int .u8 0), (.int .u8 0), (.int .u8 0), (.int .u8 0), (.int .u8 0), (.int .u8 0), (.int .u8 0), (.int .u8 0), (.int .u8 0), (.int .u8 0), (.int .u8 0), (.int .u8 0), (.int .u8 0), (.int .u8 0), (.int .u8 0), (.int .u8 0), (.int .u8 0), (.int .u8 0), (.int .u8 0), (.int .u8 0), (.int .u8 0), (.int .u8 0), (.int .u8 0), (.int .u8 0), (.int .u8 0), (.int .u8 0), (.int .u8 0), (.int .u8 0), (.int .u8 0), (.int .u8 0), (.int .u8 0), (.int .u8 0), (.int .u8 0), (.int .u8 0), (.int .u8 0), (.int .u8 0), (.int .u8 0), (.int .u8 0), (.int .u8 0), (.int .u8 0), (.int .u8 0), (.int .u8 0), (.int .u8 0), (.int .u8 0), (.int .u8 0), (.int .u8 0), (.int .u8 0), (.int .u8 0), (.int .u8 0), (.int .u8 0), (.int .u8 0), (.int .u8 0), (.int .u8 0), (.int .u8 0), (.int .u8 0), (.int .u8 0), (.int .u8 0), (.int .u8 0), (.int .u8 0), (.int .u8 0), (.int .u8 0), (.int .u8 0), (.int .u8 0), (.int .u8 0), (.int .u8 0), (.int .u8 0), (.int .u8 0), (.int .u8 0), (.int .u8 0), (.int .u8 0), (.int .u8 0), (.int .u8 0), (.int .u8 0), (.int .u8 0), (.int .u8 0), (.int .u8 0), (.int .u8 0), (.int .u8 0), (.int .u8 0), (.int .u8 0), (.int .u8 0), (.int .u8 0), (.int .u8 0), (.int .u8 0), (.int .u8 0), (.int .u8 0), (.int .u8 0), (.int .u8 0), (.int .u8 0), (.int .u8 0), (.int .u8 0), (.int .u8 0), (.int .u8 0), (.int .u8 0), (.int .u8 0), (.int .u8 0), (.int .u8 0), (.int .u8 0), (.int .u8 0), (.int .u8 0), (.int .u8 0), (.int .u8 0), (.int .u8 0), (.int .u8 0), (.int .u8 0), (.int .u8 0), (.int .u8 0), (.int .u8 0), (.int .u8 0), (.int .u8 0), (.int .u8 0), (.int .u8 0), (.int .u8 0), (.int .u8 0), (.int .u8 0), (.int .u8 0), (.int .u8 0), (.int .u8 0), (.int .u8 0), (.int .u8 0), (.int .u8 0), (.int .u8 0), (.int .u8 0), (.int .u8 0), (.int .u8 0), (.int .u8 0), (.int .u8 0), (.int .u8 0), (.int .u8 0), (.int .u8 0), (.int .u8 0), (.int .u8 0), (.int .u8 0), (.int .u8 0), (.int .u8 0)]⟩),
  (111, ⟨.arr 16 2, true, 32, [(.int .u8 0), (.int .u8 0), (.int .u8 0), (.int .u8 0), (.int .u8 0), (.int .u8 0), (.int .u8 0), (.int .u8 0), (.int .u8 0), (.int .u8 0), (.int .u8 0), (.int .u8 0), (.int .u8 0), (.int .u8 0), (.int .u8 0), (.int .u8 0), (.int .u8 0), (.int .u8 0), (.int .u8 0), (.int .u8 0), (.int .u8 0), (.int .u8 0), (.int .u8 0), (.int .u8 0), (.int .u8 0), (.int .u8 0), (.int .u8 0), (.int .u8 0), (.int .u8 0), (.int .u8 0), (.int .u8 0), (.int .u8 0)]⟩),
  (110, ⟨.struct [(0, 1, false), (1, 1, false)], true, 2, [(.int .u8 0), (.int .u8 0)]⟩),
  (92, ⟨.other, false, 1, [.nilFunc]⟩),
  (50, ⟨.other, false, 1, [.nilFunc]⟩),
  (72, ⟨.other, false, 1, [.nilFunc]⟩),
  (82, ⟨.int .u64, false, 1, [(.int .u64 0)]⟩),
  (58, ⟨.other, false, 1, [.nilFunc]⟩),
  (57, ⟨.other, false, 1, [.nilFunc]⟩)]
noncomputable def annB : List (Nat × Ann) := [
  (3, { loc := [4, 11], loops := [], joins := [(6, 8, [(.ret, ⟨[2], [], []⟩), (.normal, ⟨[3], [(4, (4, 0))], [(4, 3)]⟩)])], full := [], dynQ := false }),
  (5, { loc := [3], loops := [], joins := [], full := [], dynQ := false }),
  (14, { loc := [], loops := [], joins := [(1, 3, [(.normal, ⟨[0], [], []⟩)])], full := [], dynQ := false }),
  (16, { loc := [], loops := [(9, ⟨⟨[0, 3, 7], [], []⟩, [(.exit 2, ⟨[3], [], []⟩)]⟩), (3, ⟨⟨[0, 3, 4], [], []⟩, [(.exit 0, ⟨[0, 3], [], []⟩)]⟩)], joins := [(5, 4, [(.normal, ⟨[0, 3, 4], [], []⟩)])], full := [], dynQ := false }),
  (36, { loc := [], loops := [], joins := [], full := [], dynQ := false }),
  (35, { loc := [], loops := [], joins := [(2, 4, [(.ret, ⟨[4], [], []⟩), (.normal, ⟨[0, 1], [], []⟩)])], full := [], dynQ := false }),
  (32, { loc := [], loops := [], joins := [], full := [], dynQ := false }),
  (12, { loc := [], loops := [], joins := [], full := [], dynQ := false }),
  (33, { loc := [], loops := [(7, ⟨⟨[1, 6, 7, 8, 9], [], []⟩, [(.exit 0, ⟨[1, 6, 7], [], []⟩)]⟩)], joins := [(13, 15, [(.normal, ⟨[6], [], []⟩)]), (9, 8, [(.normal, ⟨[1, 6, 7, 8, 9], [], []⟩)]), (9, 12, [(.normal, ⟨[1, 6, 7, 8, 9], [], []⟩)]), (1, 3, [(.ret, ⟨[4, 5], [], []⟩), (.normal, ⟨[0, 1], [], []⟩)])], full := [], dynQ := false }),
  (44, { loc := [], loops := [(2, ⟨⟨[0, 3], [], []⟩, [(.exit 0, ⟨[0], [], []⟩), (.ret, ⟨[2], [], []⟩)]⟩), (7, ⟨⟨[0, 3, 4], [], []⟩, [(.exit 2, ⟨[0, 3], [], []⟩), (.ret, ⟨[2], [], []⟩)]⟩)], joins := [(4, 3, [(.ret, ⟨[2], [], []⟩), (.normal, ⟨[0, 3], [], []⟩)]), (4, 6, [(.ret, ⟨[2], [], []⟩), (.normal, ⟨[0, 3], [], []⟩)]), (2, 4, [(.normal, ⟨[0, 3], [], []⟩), (.exit 0, ⟨[0], [], []⟩)])], full := [], dynQ := false }),
  (54, { loc := [3], loops := [], joins := [], full := [], dynQ := false }),
  (72, { loc := [2, 7], loops := [], joins := [], full := [], dynQ := false }),
  (86, { loc := [], loops := [(2, ⟨⟨[0, 1, 7], [], []⟩, [(.exit 0, ⟨[0], [], []⟩), (.ret, ⟨[4, 5, 6], [], []⟩)]⟩)], joins := [], full := [], dynQ := false }),
  (97, { loc := [], loops := [(3, ⟨⟨[0, 6, 7], [], []⟩, [(.exit 0, ⟨[], [], []⟩), (.ret, ⟨[4, 5], [], []⟩)]⟩)], joins := [(5, 4, [(.ret, ⟨[4, 5], [], []⟩), (.normal, ⟨[0, 6, 7], [], []⟩)]), (7, 11, [(.ret, ⟨[4, 5], [], []⟩), (.normal, ⟨[0, 6, 7], [], []⟩)])], full := [], dynQ := false }),
  (87, { loc := [], loops := [(3, ⟨⟨[3, 4], [], []⟩, [(.exit 0, ⟨[3], [], []⟩)]⟩)], joins := [(5, 4, [(.normal, ⟨[3, 4], [], []⟩)])], full := [], dynQ := false }),
  (88, { loc := [1], loops := [], joins := [], full := [], dynQ := false }),
  (98, { loc := [], loops := [], joins := [], full := [], dynQ := false }),
  (77, { loc := [], loops := [(2, ⟨⟨[0, 3], [], []⟩, [(.exit 0, ⟨[0], [], []⟩), (.ret, ⟨[2], [], []⟩)]⟩)], joins := [(4, 3, [(.ret, ⟨[2], [], []⟩), (.normal, ⟨[0, 3], [], []⟩)]), (2, 4, [(.normal, ⟨[0, 3], [], []⟩), (.exit 0, ⟨[0], [], []⟩)])], full := [], dynQ := false }),
  (99, { loc := [], loops := [(3, ⟨⟨[0, 3, 4], [], []⟩, [(.exit 0, ⟨[0], [], []⟩), (.ret, ⟨[2], [], []⟩)]⟩)], joins := [], full := [], dynQ := false }),
  (106, { loc := [], loops := [(4, ⟨⟨[0, 1, 5, 6, 7], [], []⟩, [(.exit 0, ⟨[0, 5, 6], [], []⟩)]⟩)], joins := [(6, 5, [(.normal, ⟨[0, 1, 5, 6, 7], [], []⟩)])], full := [], dynQ := false }),
  (107, { loc := [], loops := [(2, ⟨⟨[0, 3], [], []⟩, [(.exit 0, ⟨[0], [], []⟩), (.ret, ⟨[2], [], []⟩)]⟩)], joins := [(2, 4, [(.normal, ⟨[0, 3], [], []⟩), (.exit 0, ⟨[0], [], []⟩)])], full := [], dynQ := false }),
  (110, { loc := [], loops := [(2, ⟨⟨[0, 3], [], []⟩, [(.exit 0, ⟨[0], [], []⟩), (.ret, ⟨[2], [], []⟩)]⟩)], joins := [], full := [], dynQ := false }),
  (108, { loc := [], loops := [], joins := [], full := [], dynQ := false }),
  (100, { loc := [], loops := [(3, ⟨⟨[0, 3, 4], [], []⟩, [(.exit 0, ⟨[0], [], []⟩), (.ret, ⟨[2], [], []⟩)]⟩), (9, ⟨⟨[0, 3, 4, 5, 6], [], []⟩, [(.exit 2, ⟨[0, 3, 4], [], []⟩), (.ret, ⟨[2], [], []⟩)]⟩)], joins := [(5, 4, [(.ret, ⟨[2], [], []⟩), (.normal, ⟨[0, 3, 4], [], []⟩)]), (11, 10, [(.ret, ⟨[2], [], []⟩), (.normal, ⟨[0, 3, 4, 5, 6], [], []⟩)]), (6, 8, [(.ret, ⟨[2], [], []⟩), (.normal, ⟨[0, 3, 4, 5], [], []⟩)])], full := [], dynQ := false }),
  (45, { loc := [1], loops := [], joins := [], full := [], dynQ := false }),
  (63, { loc := [1], loops := [(9, ⟨⟨[4], [(1, (1, 0))], [(1, 3)]⟩, [(.exit 2, ⟨[], [], []⟩), (.ret, ⟨[2], [], []⟩)]⟩), (4, ⟨⟨[3], [(1, (1, 0))], [(1, 3)]⟩, [(.exit 0, ⟨[], [(1, (1, 0))], [(1, 3)]⟩), (.ret, ⟨[2], [], []⟩)]⟩)], joins := [(1, 3, [(.ret, ⟨[2], [], []⟩), (.normal, ⟨[], [(1, (1, 0))], [(1, 3)]⟩)])], full := [], dynQ := false }),
  (46, { loc := [], loops := [(2, ⟨⟨[0, 1, 5], [], []⟩, [(.exit 0, ⟨[], [], []⟩), (.ret, ⟨[4], [], []⟩)]⟩)], joins := [], full := [], dynQ := false }),
  (34, { loc := [5], loops := [(3, ⟨⟨[0, 3, 4], [], []⟩, [(.exit 0, ⟨[3], [], []⟩)]⟩), (7, ⟨⟨[0, 3, 4, 6], [(5, (5, 0))], [(5, 2)]⟩, [(.exit 2, ⟨[0, 3, 4], [(5, (5, 0))], [(5, 2)]⟩)]⟩)], joins := [], full := [], dynQ := false }),
  (37, { loc := [1, 2], loops := [], joins := [], full := [8, 12], dynQ := false }),
  (25, { loc := [5], loops := [(3, ⟨⟨[3, 7, 8, 9], [], []⟩, [(.exit 0, ⟨[3], [], []⟩)]⟩)], joins := [], full := [], dynQ := false }),
  (47, { loc := [1, 2], loops := [], joins := [], full := [], dynQ := false }),
  (64, { loc := [5], loops := [(3, ⟨⟨[3, 7, 8, 9], [], []⟩, [(.exit 0, ⟨[3], [], []⟩)]⟩)], joins := [], full := [], dynQ := false }),
  (78, { loc := [1, 2], loops := [], joins := [], full := [6, 11], dynQ := false }),
  (18, { loc := [2, 3], loops := [(7, ⟨⟨[0, 5], [(2, (2, 0)), (3, (3, 0))], [(2, 3), (3, 3)]⟩, [(.exit 2, ⟨[], [(2, (2, 0)), (3, (3, 0))], [(2, 3), (3, 3)]⟩)]⟩), (3, ⟨⟨[0, 4], [(2, (2, 0)), (3, (3, 0))], [(2, 3), (3, 3)]⟩, [(.exit 0, ⟨[0], [(2, (2, 0)), (3, (3, 0))], [(2, 3), (3, 3)]⟩)]⟩)], joins := [], full := [], dynQ := false }),
  (7, { loc := [3], loops := [], joins := [], full := [21], dynQ := false }),
  (24, { loc := [3, 11], loops := [(6, ⟨⟨[7, 8, 9], [(3, (3, 0))], [(3, 3)]⟩, [(.exit 0, ⟨[7, 8], [], []⟩)]⟩)], joins := [(8, 7, [(.normal, ⟨[7, 8, 9], [(3, (3, 0))], [(3, 3)]⟩)]), (2, 4, [(.ret, ⟨[4, 5, 6], [], []⟩), (.normal, ⟨[0, 7], [(3, (3, 0))], [(3, 3)]⟩)])], full := [], dynQ := false }),
  (15, { loc := [], loops := [], joins := [], full := [], dynQ := false }),
  (17, { loc := [3, 4, 5], loops := [], joins := [], full := [], dynQ := false }),
  (6, { loc := [3], loops := [(5, ⟨⟨[7, 8, 25, 26, 27], [(3, (3, 0))], [(3, 3)]⟩, [(.exit 0, ⟨[7, 8], [], []⟩)]⟩)], joins := [(1, 3, [(.ret, ⟨[4, 5, 6], [], []⟩), (.normal, ⟨[0], [(3, (3, 0))], [(3, 3)]⟩)])], full := [], dynQ := false }),
  (19, { loc := [4], loops := [(2, ⟨⟨[0, 5, 6, 7], [], []⟩, [(.exit 0, ⟨[0], [], []⟩), (.ret, ⟨[2], [], []⟩)]⟩)], joins := [], full := [], dynQ := false }),
  (30, { loc := [], loops := [], joins := [], full := [], dynQ := false }),
  (49, { loc := [], loops := [], joins := [], full := [], dynQ := false }),
  (65, { loc := [], loops := [], joins := [], full := [], dynQ := false }),
  (79, { loc := [], loops := [(15, ⟨⟨[0, 1, 5, 6, 7, 8, 9, 10], [], []⟩, [(.exit 1, ⟨[], [], []⟩), (.ret, ⟨[4], [], []⟩)]⟩)], joins := [(21, 23, [(.ret, ⟨[4], [], []⟩), (.normal, ⟨[0, 1, 5, 6, 7, 8, 9, 10], [], []⟩)]), (16, 21, [(.ret, ⟨[4], [], []⟩), (.normal, ⟨[0, 1, 5, 6, 7, 8, 9, 10], [], []⟩)]), (2, 10, [(.ret, ⟨[4], [], []⟩), (.normal, ⟨[0, 1, 5], [], []⟩)])], full := [], dynQ := false }),
  (89, { loc := [], loops := [], joins := [], full := [], dynQ := false }),
  (91, { loc := [], loops := [], joins := [], full := [], dynQ := false }),
  (92, { loc := [], loops := [(11, ⟨⟨[0, 1, 5, 6, 7, 8, 10], [], []⟩, [(.exit 2, ⟨[], [], []⟩), (.ret, ⟨[4], [], []⟩)]⟩), (5, ⟨⟨[0, 1, 5, 6, 7, 8, 9], [], []⟩, [(.exit 0, ⟨[0, 1, 5, 6, 7, 8], [], []⟩)]⟩)], joins := [(8, 10, [(.ret, ⟨[4], [], []⟩), (.normal, ⟨[0, 1, 5, 6, 7, 8], [], []⟩)])], full := [], dynQ := false }),
  (102, { loc := [], loops := [(8, ⟨⟨[4, 6, 7, 8], [], []⟩, [(.exit 2, ⟨[4, 6], [], []⟩)]⟩), (3, ⟨⟨[0, 4, 5], [], []⟩, [(.exit 0, ⟨[0, 4], [], []⟩)]⟩)], joins := [(10, 9, [(.normal, ⟨[4, 6, 7, 8], [], []⟩)]), (10, 12, [(.normal, ⟨[4, 6, 7, 8], [], []⟩)])], full := [], dynQ := false }),
  (50, { loc := [], loops := [], joins := [], full := [], dynQ := false }),
  (66, { loc := [], loops := [], joins := [], full := [], dynQ := false }),
  (80, { loc := [], loops := [(11, ⟨⟨[0, 1, 2, 3, 9, 10], [], []⟩, [(.exit 0, ⟨[0, 9, 10], [], []⟩)]⟩)], joins := [(5, 7, [(.normal, ⟨[0, 1, 2, 3], [], []⟩)])], full := [], dynQ := false }),
  (93, { loc := [], loops := [(6, ⟨⟨[0, 1, 6, 7], [], []⟩, [(.exit 0, ⟨[0, 1, 6], [], []⟩)]⟩)], joins := [(2, 4, [(.normal, ⟨[0, 1], [], []⟩)])], full := [], dynQ := false }),
  (103, { loc := [], loops := [], joins := [], full := [], dynQ := false }),
  (104, { loc := [], loops := [], joins := [], full := [], dynQ := false }),
  (109, { loc := [9], loops := [], joins := [], full := [], dynQ := false }),
  (94, { loc := [], loops := [(6, ⟨⟨[0, 1, 5], [], []⟩, [(.ret, ⟨[4], [], []⟩)]⟩)], joins := [], full := [], dynQ := false }),
  (95, { loc := [], loops := [], joins := [], full := [], dynQ := false }),
  (58, { loc := [], loops := [], joins := [], full := [], dynQ := false }),
  (74, { loc := [], loops := [(2, ⟨⟨[0, 1, 7, 8], [], []⟩, [(.exit 0, ⟨[], [], []⟩), (.ret, ⟨[4], [], []⟩)]⟩)], joins := [], full := [], dynQ := true }),
  (67, { loc := [], loops := [], joins := [], full := [], dynQ := false }),
  (68, { loc := [], loops := [], joins := [], full := [], dynQ := false }),
  (81, { loc := [], loops := [(2, ⟨⟨[0, 1, 7, 8], [], []⟩, [(.exit 0, ⟨[], [], []⟩), (.ret, ⟨[4], [], []⟩)]⟩)], joins := [], full := [], dynQ := true }),
  (82, { loc := [], loops := [], joins := [], full := [], dynQ := false }),
  (96, { loc := [], loops := [], joins := [], full := [], dynQ := false }),
  (84, { loc := [], loops := [], joins := [], full := [], dynQ := false }),
  (51, { loc := [], loops := [], joins := [], full := [], dynQ := false }),
  (69, { loc := [], loops := [], joins := [], full := [], dynQ := false }),
  (70, { loc := [], loops := [], joins := [], full := [], dynQ := false }),
  (83, { loc := [], loops := [], joins := [], full := [], dynQ := false }),
  (38, { loc := [], loops := [], joins := [], full := [], dynQ := false }),
  (55, { loc := [], loops := [], joins := [], full := [], dynQ := false }),
  (73, { loc := [], loops := [(2, ⟨⟨[0, 1, 7, 8], [], []⟩, [(.exit 0, ⟨[], [], []⟩), (.ret, ⟨[4], [], []⟩)]⟩)], joins := [], full := [], dynQ := true }),
  (56, { loc := [1], loops := [], joins := [], full := [], dynQ := false }),
  (20, { loc := [1], loops := [], joins := [], full := [], dynQ := false }),
  (39, { loc := [3], loops := [], joins := [], full := [], dynQ := false }),
  (57, { loc := [], loops := [], joins := [], full := [], dynQ := false }),
  (59, { loc := [], loops := [], joins := [], full := [], dynQ := false }),
  (60, { loc := [], loops := [], joins := [], full := [], dynQ := false }),
  (75, { loc := [], loops := [], joins := [], full := [], dynQ := false }),
  (76, { loc := [], loops := [(2, ⟨⟨[0, 5, 6], [], []⟩, [(.exit 0, ⟨[0], [], []⟩), (.ret, ⟨[2], [], []⟩)]⟩)], joins := [], full := [], dynQ := false }),
  (21, { loc := [5], loops := [(3, ⟨⟨[3, 7, 8, 9], [], []⟩, [(.exit 0, ⟨[3], [], []⟩)]⟩)], joins := [], full := [], dynQ := false }),
  (40, { loc := [5], loops := [(3, ⟨⟨[3, 7, 8, 9], [], []⟩, [(.exit 0, ⟨[3], [], []⟩)]⟩)], joins := [], full := [], dynQ := false }),
  (61, { loc := [1, 2], loops := [], joins := [], full := [], dynQ := false }),
  (23, { loc := [], loops := [], joins := [], full := [7], dynQ := false }),
  (22, { loc := [], loops := [], joins := [], full := [], dynQ := false }),
  (41, { loc := [], loops := [(3, ⟨⟨[0, 1, 2, 8, 9, 10], [], []⟩, [(.exit 0, ⟨[0, 1, 2, 8, 9], [], []⟩)]⟩)], joins := [], full := [], dynQ := true }),
  (42, { loc := [2], loops := [], joins := [], full := [], dynQ := false }),
  (43, { loc := [], loops := [], joins := [], full := [], dynQ := false }),
  (62, { loc := [], loops := [], joins := [], full := [], dynQ := false }),
  (8, { loc := [], loops := [], joins := [], full := [], dynQ := false }),
  (26, { loc := [8, 9], loops := [(4, ⟨⟨[1, 2, 15, 16, 17], [], []⟩, [(.exit 0, ⟨[], [], []⟩), (.ret, ⟨[6], [], []⟩)]⟩)], joins := [], full := [], dynQ := true }),
  (27, { loc := [2, 3], loops := [], joins := [], full := [], dynQ := false }),
  (28, { loc := [8, 9], loops := [(4, ⟨⟨[1, 2, 15, 16, 17], [], []⟩, [(.exit 0, ⟨[], [], []⟩), (.ret, ⟨[6], [], []⟩)]⟩)], joins := [], full := [], dynQ := true }),
  (29, { loc := [2, 3], loops := [], joins := [], full := [], dynQ := false }),
  (48, { loc := [], loops := [(4, ⟨⟨[0, 1, 12, 13], [], []⟩, [(.exit 0, ⟨[], [], []⟩), (.ret, ⟨[4], [], []⟩)]⟩)], joins := [], full := [], dynQ := false }),
  (9, { loc := [], loops := [(4, ⟨⟨[0, 1, 5], [], []⟩, [(.exit 0, ⟨[], [], []⟩), (.ret, ⟨[4], [], []⟩)]⟩)], joins := [], full := [], dynQ := false }),
  (10, { loc := [], loops := [], joins := [(2, 4, [(.ret, ⟨[4, 5], [], []⟩), (.normal, ⟨[0, 1, 6], [], []⟩)])], full := [], dynQ := false })]
noncomputable def fnB : List (Nat × Func) := [
  (3, Tryz.f3), (5, Tryz.f5), (14, Tryz.f14), (16, Tryz.f16), (36, Tryz.f36), (35, Tryz.f35), (32, Tryz.f32), (12, Tryz.f12), (33, Tryz.f33), (44, Tryz.f44), (54, Tryz.f54), (72, Tryz.f72), (86, Tryz.f86), (97, Tryz.f97), (87, Tryz.f87), (88, Tryz.f88), (98, Tryz.f98), (77, Tryz.f77), (99, Tryz.f99), (106, Tryz.f106), (107, Tryz.f107), (110, Tryz.f110), (108, Tryz.f108), (100, Tryz.f100), (45, Tryz.f45), (63, Tryz.f63), (46, Tryz.f46), (34, Tryz.f34), (37, Tryz.f37), (25, Tryz.f25), (47, Tryz.f47), (64, Tryz.f64), (78, Tryz.f78), (18, Tryz.f18), (7, Tryz.f7), (24, Tryz.f24), (15, Tryz.f15), (17, Tryz.f17), (6, Tryz.f6), (19, Tryz.f19), (30, Tryz.f30), (49, Tryz.f49), (65, Tryz.f65), (79, Tryz.f79), (89, Tryz.f89), (91, Tryz.f91), (92, Tryz.f92), (102, Tryz.f102), (50, Tryz.f50), (66, Tryz.f66), (80, Tryz.f80), (93, Tryz.f93), (103, Tryz.f103), (104, Tryz.f104), (109, Tryz.f109), (94, Tryz.f94), (95, Tryz.f95), (58, Tryz.f58), (74, Tryz.f74), (67, Tryz.f67), (68, Tryz.f68), (81, Tryz.f81), (82, Tryz.f82), (96, Tryz.f96), (84, Tryz.f84), (51, Tryz.f51), (69, Tryz.f69), (70, Tryz.f70), (83, Tryz.f83), (38, Tryz.f38), (55, Tryz.f55), (73, Tryz.f73), (56, Tryz.f56), (20, Tryz.f20), (39, Tryz.f39), (57, Tryz.f57), (59, Tryz.f59), (60, Tryz.f60), (75, Tryz.f75), (76, Tryz.f76), (21, Tryz.f21), (40, Tryz.f40), (61, Tryz.f61), (23, Tryz.f23), (22, Tryz.f22), (41, Tryz.f41), (42, Tryz.f42), (43, Tryz.f43), (62, Tryz.f62), (8, Tryz.f8), (26, Tryz.f26), (27, Tryz.f27), (28, Tryz.f28), (29, Tryz.f29), (48, Tryz.f48), (9, Tryz.f9), (10, Tryz.f10)]
def quietB : List Nat := [3, 44, 54, 86, 97, 87, 88, 98, 77, 99, 107, 110, 108, 100, 45, 63, 46, 19, 30, 49, 65, 79, 89, 91, 92, 102, 50, 103, 104, 109, 94, 95, 58, 74, 67, 68, 81, 82, 96, 84, 51, 69, 70, 83, 38, 55, 73, 56, 20, 39, 57, 59, 60, 75, 76, 22, 41, 42, 43, 62, 8, 26, 27, 28, 29, 48, 9]
def addsB : List Nat := [5, 12, 33, 72, 106, 34, 37, 25, 47, 64, 78, 7, 24, 6, 66, 80, 93, 21, 40, 61, 23, 10]
def takesB : List (Nat × List Nat) := [(3, [2, 2, 21, 20, 25, 7, 32, 10, 43, 49, 50, 51, 54, 55, 61, 66, 67, 68, 2, 74, 13, 83, 2, 85, 16, 92, 93, 98, 2]), (5, [2, 5, 4, 7, 8, 11, 12, 2]), (14, [2, 0, 8, 2]), (16, [2, 3, 9, 4, 12, 18, 16, 22, 5, 6, 24, 25, 3, 14, 4, 26, 7, 29, 35, 33, 38, 3, 31, 7, 41, 2]), (36, [4, 6, 4]), (35, [4, 7, 8, 15, 17, 18, 4, 25, 5, 30, 31, 37, 41, 45, 4, 47, 51, 52, 62, 66, 69, 80, 83, 84, 6, 92, 93, 6, 96, 97, 4]), (32, [4, 6, 4]), (12, [4, 5, 10, 8, 7, 16, 4, 5]), (33, [4, 5, 13, 14, 18, 20, 24, 4, 5, 6, 7, 9, 33, 39, 41, 42, 44, 50, 51, 6, 7, 55, 57, 59, 6, 37, 9, 62, 64, 65, 6, 69, 4, 5]), (44, [2, 3, 5, 9, 10, 16, 22, 24, 31, 32, 34, 36, 42, 2, 4, 49, 51, 60, 64, 2, 57, 4, 13, 3, 2]), (54, [2, 6, 5, 4, 10, 11, 18, 2]), (72, [3, 9, 8, 4, 5, 6, 14, 15, 19, 20, 3]), (86, [4, 5, 6, 7, 10, 11, 14, 15, 19, 20, 18, 8, 9, 24, 26, 4, 5, 6, 27, 7, 28, 29, 31, 33, 34, 36, 37, 4, 5, 6, 40, 7, 42, 4, 5, 6]), (97, [4, 5, 6, 8, 7, 10, 11, 16, 17, 20, 21, 4, 5, 23, 24, 27, 7, 29, 30, 4, 5, 33, 34, 35, 36, 6, 14, 7, 4, 5]), (87, [2, 5, 4, 7, 14, 18, 20, 26, 28, 11, 4, 2]), (88, [2, 6, 12, 17, 23, 2]), (98, [2, 3, 5, 6, 2]), (77, [2, 3, 4, 5, 8, 9, 14, 15, 18, 19, 20, 2, 12, 3, 24, 2]), (99, [2, 5, 4, 7, 14, 2, 11, 4, 19, 2]), (106, [4, 5, 6, 7, 9, 10, 15, 16, 18, 20, 21, 22, 23, 5, 27, 6, 13, 7, 29, 30, 31, 4]), (107, [2, 3, 4, 5, 8, 9, 14, 15, 2, 12, 3, 19, 22, 23, 2]), (110, [2, 3, 4, 8, 9, 2, 6, 3, 12, 2]), (108, [2, 3, 5, 6, 9, 10, 12, 13, 17, 18, 20, 21, 2]), (100, [2, 7, 4, 9, 16, 5, 19, 21, 22, 26, 27, 28, 2, 6, 34, 35, 40, 41, 45, 46, 47, 51, 52, 53, 56, 57, 58, 2, 38, 6, 13, 4, 63, 2]), (45, [2, 5, 11, 2]), (63, [2, 8, 14, 20, 2, 3, 26, 35, 2, 31, 3, 4, 40, 49, 2, 45, 4, 2]), (46, [4, 5, 6, 13, 17, 19, 4, 10, 5, 4]), (34, [2, 3, 4, 8, 15, 6, 20, 22, 31, 33, 37, 28, 6, 44, 45, 3, 12, 4, 48, 2]), (37, [7, 11]), (25, [2, 3, 9, 13, 3, 9, 19, 2]), (47, [7]), (64, [2, 3, 9, 13, 3, 9, 19, 2]), (78, [5, 10, 13]), (18, [6, 9, 15, 4, 17, 22, 23, 19, 4, 29, 5, 32, 37, 38, 34, 5, 44]), (7, [4, 5, 6, 10, 15, 8, 9, 20, 22, 4, 5, 6]), (24, [4, 5, 6, 7, 16, 22, 4, 5, 6, 8, 9, 25, 35, 10, 64, 63, 66, 7, 71, 69, 77, 7, 43, 49, 51, 54, 55, 60, 7, 30, 9, 80, 81, 4, 5, 6, 2000014, 2000018, 2000024, 1000024, 2000038, 2000068, 2000079, 2000040, 2000057, 2000062]), (15, [4, 5, 9, 11, 13, 14, 5, 20, 25, 6, 30, 32, 35, 41, 4, 2000008, 1000008, 2000010, 2000016, 2000019, 2000028, 2000038]), (17, [8, 10, 12, 16, 20, 23, 27]), (6, [4, 5, 6, 16, 4, 5, 6, 7, 8, 27, 10, 33, 31, 11, 12, 60, 59, 62, 8, 67, 65, 73, 8, 38, 40, 43, 46, 56, 8, 27, 77, 78, 4, 5, 6, 2000014, 2000018, 2000022, 1000022, 2000034, 2000064, 2000075, 2000050, 2000053, 2000058]), (19, [2, 7, 9, 3, 16, 22, 23, 25, 27, 2, 7, 2]), (30, [2, 7, 6, 3, 4, 5, 12, 13, 14, 17, 18, 2]), (49, [4, 5, 6, 7, 8, 4, 5, 6]), (65, [4, 5, 6, 8, 9, 7, 11, 13, 14, 16, 17, 18, 4, 5, 6, 22, 4, 5, 6]), (79, [4, 14, 5, 17, 19, 20, 21, 16, 4, 25, 24, 27, 28, 4, 32, 33, 31, 4, 37, 40, 41, 36, 45, 46, 4, 48, 6, 50, 7, 8, 52, 54, 9, 10, 57, 58, 60, 61, 63, 65, 66, 68, 70, 11, 72, 4, 74, 75, 8, 78, 79, 82, 84, 85, 86, 87, 88, 91, 94, 4, 95, 8, 97, 10, 99, 102, 103, 104, 108, 109, 111, 12, 113, 115, 116, 4, 4, 118, 121, 122, 123, 128, 129, 130, 133, 134, 136, 13, 138, 4, 140, 141, 4, 4]), (89, [4, 5, 6, 4]), (91, [2, 3, 2]), (92, [4, 12, 11, 5, 6, 16, 7, 8, 9, 18, 19, 23, 25, 26, 8, 21, 9, 30, 31, 33, 34, 35, 37, 4, 40, 10, 41, 42, 45, 8, 47, 48, 49, 8, 53, 54, 55, 56, 57, 8, 63, 10, 65, 66, 68, 69, 70, 71, 73, 75, 78, 79, 4, 4]), (102, [2, 3, 4, 5, 9, 10, 15, 17, 18, 4, 13, 5, 6, 7, 22, 8, 24, 28, 31, 32, 6, 34, 35, 7, 26, 8, 37, 38, 2, 3]), (50, [2, 3, 6, 7, 2]), (66, [4, 5, 6, 4]), (80, [8, 12, 8, 14, 16, 17, 8, 19, 21, 22, 3, 25, 26, 3, 30, 32, 3, 10, 34, 35, 37, 38, 11, 40, 43, 44, 45, 46, 50, 51, 52, 0, 56, 10, 59, 60, 63, 8]), (93, [4, 10, 5, 12, 14, 15, 16, 19, 1, 20, 6, 7, 22, 23, 29, 28, 8, 9, 34, 35, 36, 39, 40, 0, 26, 7, 42, 45, 47, 49, 4]), (103, [2, 3, 7, 2, 9, 2]), (104, [2, 3, 4, 6, 7, 11, 2, 3, 15, 14, 2, 3]), (109, [2, 3, 13, 4, 15, 2, 3, 17, 5, 19, 6, 22, 24, 7, 28, 31, 33, 2, 3, 36, 8, 39, 43, 44, 2, 3, 46, 10, 48, 52, 55, 2, 3, 58, 60, 64, 2, 3, 68, 11, 70, 72, 73, 2, 3, 76, 78, 82, 87, 2, 3, 91, 12, 93, 95, 96, 2, 3, 99, 103, 108, 113, 2, 3]), (94, [4, 7, 10, 4, 13, 16, 17, 4, 5, 20, 21, 6, 23, 25, 4, 26, 5, 28, 29, 30, 0]), (95, [4, 5, 6, 4]), (58, [4, 6, 4]), (74, [4, 8, 10, 5, 11, 13, 17, 4, 8, 4]), (67, [2, 3, 2]), (68, [2, 3, 6, 7, 11, 12, 2]), (81, [4, 6, 8, 10, 5, 11, 12, 13, 4, 8, 4]), (82, [2, 3, 5, 6, 9, 10, 13, 14, 16, 17, 21, 22, 25, 26, 29, 30, 33, 34, 37, 38, 41, 42, 45, 46, 48, 49, 53, 54, 56, 57, 2]), (96, [2, 3, 5, 6, 9, 10, 12, 13, 2]), (84, [2, 3, 5, 6, 2]), (51, [2, 3, 6, 7, 2]), (69, [2, 3, 2]), (70, [2, 3, 5, 6, 10, 11, 12, 18, 19, 2]), (83, [2, 3, 5, 6, 9, 10, 13, 14, 2]), (38, [4, 7, 9, 4]), (55, [4, 6, 4]), (73, [4, 8, 10, 5, 11, 13, 17, 4, 8, 4]), (56, [2, 2]), (20, [2, 2]), (39, [6, 10, 14, 17, 23, 29, 32, 6]), (57, [2, 3, 5, 6, 2]), (59, [2, 3, 2]), (60, [4, 7, 9, 4]), (75, [2, 3, 2]), (76, [2, 4, 6, 8, 3, 9, 10, 13, 14, 15, 2, 6, 20, 2]), (21, [2, 3, 9, 12, 13, 3, 9, 23, 2]), (40, [2, 3, 9, 13, 3, 9, 19, 2]), (23, [2, 2, 6, 2]), (22, [4, 5, 7, 4, 5]), (41, [6, 7, 8, 14, 9, 10, 15, 16, 18, 19, 11, 24, 26, 29, 32, 9, 34, 10, 35, 36, 37, 39, 40, 42, 45, 6, 7]), (42, [4, 7, 4]), (43, [4, 7, 5, 9, 6, 11, 12, 4, 4, 13, 4, 14, 15, 4, 17, 18, 4, 4]), (62, [2, 3, 4, 2]), (8, [4, 4]), (26, [6, 6, 17, 19, 7, 23, 26, 6, 17, 6]), (27, [4, 10, 4]), (28, [6, 6, 17, 19, 7, 23, 26, 6, 17, 6]), (29, [4, 10, 17, 4]), (48, [4, 4, 13, 15, 5, 17, 21, 4, 13, 4]), (9, [4, 4, 5, 11, 18, 22, 4, 15, 5, 4]), (10, [4, 5, 10, 8, 6, 7, 17, 18, 22, 23, 25, 4, 5, 32, 33, 4, 5, 2000011, 2000015, 2000019, 2000031, 1000031, 2000036])]
def mvB : List (Nat × List Nat) := [(3, [0]), (5, [0]), (14, [0]), (31, [0, 2])]
def extsB : List (Nat × Nat) := [(101, 0), (90, 2), (105, 1)]
noncomputable def primA : List (Nat × (List Value → Heap → Option (Value × Heap))) := [(31, hIns 2 40)]
noncomputable def primV : List (Nat × (List V → VH → Option (V × VH))) := [(31, insV 2 40)]
noncomputable def base : Base where
  ng := 0
  tab := tabB
  fn := Go.AM.look fnB
  ann := annOf annB
  kind := kindX quietB addsB extsB
  ext := extA
  prim := fun f => Go.AM.look primA f
def globB : Nat → Option (List V) := fun _ => none
noncomputable def vb : BaseV where
  b := base
  glob := globB
  takes := listOf takesB
  mv := listOf mvB
  prim := fun f => Go.AM.look primV f
noncomputable def cv : CallV := callV vb
noncomputable def pc : FuncId → List V → Option V := pcall cv
noncomputable def qc : FuncId → List V → Option V := qpcall cv
noncomputable def pco : FuncId → VH → List V → Option V := pcallO cv
noncomputable def qco : FuncId → VH → List V → Option V := qpcallO cv
set_option maxRecDepth 100000 in
theorem fns : FnsOk Tryz.prog fnB := by
  unfold fnB
  refine ⟨⟨rfl, by kernel_rfl⟩, ⟨rfl, by kernel_rfl⟩, ⟨rfl, by kernel_rfl⟩, ⟨rfl, by kernel_rfl⟩, ⟨rfl, by kernel_rfl⟩, ⟨rfl, by kernel_rfl⟩, ⟨rfl, by kernel_rfl⟩, ⟨rfl, by kernel_rfl⟩, ⟨rfl, by kernel_rfl⟩, ⟨rfl, by kernel_rfl⟩, ⟨rfl, by kernel_rfl⟩, ⟨rfl, by kernel_rfl⟩, ⟨rfl, by kernel_rfl⟩, ⟨rfl, by kernel_rfl⟩, ⟨rfl, by kernel_rfl⟩, ⟨rfl, by kernel_rfl⟩, ⟨rfl, by kernel_rfl⟩, ⟨rfl, by kernel_rfl⟩, ⟨rfl, by kernel_rfl⟩, ⟨rfl, by kernel_rfl⟩, ⟨rfl, by kernel_rfl⟩, ⟨rfl, by kernel_rfl⟩, ⟨rfl, by kernel_rfl⟩, ⟨rfl, by kernel_rfl⟩, ⟨rfl, by kernel_rfl⟩, ⟨rfl, by kernel_rfl⟩, ⟨rfl, by kernel_rfl⟩, ⟨rfl, by kernel_rfl⟩, ⟨rfl, by kernel_rfl⟩, ⟨rfl, by kernel_rfl⟩, ⟨rfl, by kernel_rfl⟩, ⟨rfl, by kernel_rfl⟩, ⟨rfl, by kernel_rfl⟩, ⟨rfl, by kernel_rfl⟩, ⟨rfl, by kernel_rfl⟩, ⟨rfl, by kernel_rfl⟩, ⟨rfl, by kernel_rfl⟩, ⟨rfl, by kernel_rfl⟩, ⟨rfl, by kernel_rfl⟩, ⟨rfl, by kernel_rfl⟩, ⟨rfl, by kernel_rfl⟩, ⟨rfl, by kernel_rfl⟩, ⟨rfl, by kernel_rfl⟩, ⟨rfl, by kernel_rfl⟩, ⟨rfl, by kernel_rfl⟩, ⟨rfl, by kernel_rfl⟩, ⟨rfl, by kernel_rfl⟩, ⟨rfl, by kernel_rfl⟩, ⟨rfl, by kernel_rfl⟩, ⟨rfl, by kernel_rfl⟩, ⟨rfl, by kernel_rfl⟩, ⟨rfl, by kernel_rfl⟩, ⟨rfl, by kernel_rfl⟩, ⟨rfl, by kernel_rfl⟩, ⟨rfl, by kernel_rfl⟩, ⟨rfl, by kernel_rfl⟩, ⟨rfl, by kernel_rfl⟩, ⟨rfl, by kernel_rfl⟩, ⟨rfl, by kernel_rfl⟩, ⟨rfl, by kernel_rfl⟩, ⟨rfl, by kernel_rfl⟩, ⟨rfl, by kernel_rfl⟩, ⟨rfl, by kernel_rfl⟩, ⟨rfl, by kernel_rfl⟩, ⟨rfl, by kernel_rfl⟩, ⟨rfl, by kernel_rfl⟩, ⟨rfl, by kernel_rfl⟩, ⟨rfl, by kernel_rfl⟩, ⟨rfl, by kernel_rfl⟩, ⟨rfl, by kernel_rfl⟩, ⟨rfl, by kernel_rfl⟩, ⟨rfl, by kernel_rfl⟩, ⟨rfl, by kernel_rfl⟩, ⟨rfl, by kernel_rfl⟩, ⟨rfl, by kernel_rfl⟩, ⟨rfl, by kernel_rfl⟩, ⟨rfl, by kernel_rfl⟩, ⟨rfl, by kernel_rfl⟩, ⟨rfl, by kernel_rfl⟩, ⟨rfl, by kernel_rfl⟩, ⟨rfl, by kernel_rfl⟩, ⟨rfl, by kernel_rfl⟩, ⟨rfl, by kernel_rfl⟩, ⟨rfl, by kernel_rfl⟩, ⟨rfl, by kernel_rfl⟩, ⟨rfl, by kernel_rfl⟩, ⟨rfl, by kernel_rfl⟩, ⟨rfl, by kernel_rfl⟩, ⟨rfl, by kernel_rfl⟩, ⟨rfl, by kernel_rfl⟩, ⟨rfl, by kernel_rfl⟩, ⟨rfl, by kernel_rfl⟩, ⟨rfl, by kernel_rfl⟩, ⟨rfl, by kernel_rfl⟩, ⟨rfl, by kernel_rfl⟩, ⟨rfl, by kernel_rfl⟩, ⟨rfl, by kernel_rfl⟩, trivial⟩
theorem tabs : tabB? Tryz.prog tabB = true := by kernel_rfl
theorem exts : ExtFns Tryz.prog extsB := by
  unfold extsB
  exact ⟨fun args w => Go.run_callFunc_extern (fn := Tryz.f101) (e := Extern.BytealgIndexByte.indexByte) (by kernel_rfl) (by kernel_rfl) (by kernel_rfl) (by kernel_rfl) (by kernel_rfl) args w, trivial, fun args w => Go.run_callFunc_extern (fn := Tryz.f105) (e := Extern.BytealgCount.count) (by kernel_rfl) (by kernel_rfl) (by kernel_rfl) (by kernel_rfl) (by kernel_rfl) args w, trivial⟩
def ren31 : Go.Shelf.Ren := ⟨fun | 22 => 31 | 29 => 52 | 30 => 53 | n => n, fun | 0 => 0 | 3 => 3 | 4 => 4 | 9 => 41 | 24 => 23 | n => n, fun n => n⟩
theorem lay31 : InsLay Tryz.prog ren31 2 40 (.agg #[(.string (bs [])), (.slice none 0 0)]) where
  f22 := ⟨ "slices.Insert[[]loop.example/mailwire/impl.Box,loop.example/mailwire/impl.Box]", by decide, Tryz.func31.trans (congrArg some (by kernel_rfl))⟩
  ov := fun args w => Go.run_callFunc_extern (fn := Tryz.f52) Tryz.func52 (by kernel_rfl) (by kernel_rfl) (by kernel_rfl) (e := Extern.SlicesOverlaps.overlaps #[23, 23] #[4]) (by kernel_rfl) args w
  eb0 := by decide
  mixed := by kernel_rfl
  t0 := Tryz.underlying0
  a0 := Tryz.isAgg0
  z0 := Tryz.sizeOf0
  v0 := Tryz.zeroValue0
  t3 := Tryz.underlying3
  a3 := Tryz.isAgg3
  z3 := Tryz.sizeOf3
  v3 := Tryz.zeroValue3
  t4 := Tryz.underlying4
  a4 := Tryz.isAgg4
  z4 := Tryz.sizeOf4
  v4 := Tryz.zeroValue4
  t24 := Tryz.underlying23
  a24 := Tryz.isAgg23
  z24 := Tryz.sizeOf23
  v24 := Tryz.zeroValue23
  z9 := Tryz.sizeOf41
  v9 := Tryz.zeroValue41
  i9 := by kernel_rfl
  zs := rfl
  es0 := by decide
theorem primsA_ok : PrimsOk Tryz.prog 0 primA := ⟨fun args hp r hp' h => ins_owes 0 lay31 h, trivial⟩
theorem base_ok : BaseOk Tryz.prog base where
  tab := tab_ok tabs
  fn := fns_ok fns
  ext := ext_ok exts
  prim := prims_ok (P := Tryz.prog) (ng := 0) primsA_ok
  mixed := by kernel_rfl
theorem primsV_ok : PrimsSim vb primV := ⟨fun args H r H' h => insV_sim (b := base) rfl h, trivial⟩
theorem vb_ok : BaseVOk vb where
  zero := tab_zero (tab_ok tabs)
  sl := tab_sl (tab_ok tabs)
  gd := fun g cs h => by cases h
  pos := tab_pos (by kernel_rfl)
  noprim := fun f h => look_keys (l := primV) (l' := primA) rfl h
  prim := prims_sim primsV_ok
end Go.Proofs.YtjobinbeggkliabGreatDoor.Q
