/- The program's functions, types and marks, as the machines take them. -/
import Derived.Test.YtikpckcdpmjpgaaDoorProg
import Derived.Test.YtikpckcdpmjpgaaDoorFnCountHeldK4
import Derived.KernelRfl
namespace Go.Proofs.YtikpckcdpmjpgaaDoor.Q
open Go Go.AM Go.Proofs Go.Shelf
set_option linter.unusedVariables false
def id_laws_FnCountHeld : Nat := 3
def id_spec_DrawCountHeld : Nat := 4
def id_spec_l13Open : Nat := 9
def id_spec_l11Draw : Nat := 11
def id_spec_l13Rd_num : Nat := 21
def id_spec_l13Rd_pick : Nat := 19
def id_spec_l13Rd_of : Nat := 20
def id_spec_AddBox : Nat := 22
def id_spec_l11RawAddBox : Nat := 38
def id_spec_BoxesValid : Nat := 12
def id_spec_l10Box : Nat := 25
def id_spec_l2Box : Nat := 41
def id_spec_l2Cut : Nat := 56
def id_spec_l1Read : Nat := 72
def id_spec_LowerText : Nat := 57
def id_spec_AddressValid : Nat := 58
def id_spec_l2Name : Nat := 73
def id_spec_TextValid : Nat := 59
def id_spec_l2Local : Nat := 74
def id_spec_l2Parts : Nat := 87
def id_spec_AtomValid : Nat := 88
def id_spec_l1Atom : Nat := 95
def id_spec_l1Letter : Nat := 89
def id_spec_l2Domain : Nat := 75
def id_spec_MailValid : Nat := 26
def id_spec_l10Draft : Nat := 42
def id_spec_l11Find : Nat := 54
def id_spec_l11Copy : Nat := 18
def id_spec_l10Mail : Nat := 37
def id_spec_l13OwnListBox : Nat := 39
def id_spec_l13OwnBox : Nat := 55
def id_spec_l13OwnListMail : Nat := 71
def id_spec_l13OwnMail : Nat := 86
def id_spec_l10DrawMail : Nat := 24
def id_spec_DeliverMail : Nat := 23
def id_spec_l11RawDeliverMail : Nat := 40
def id_spec_l11Wrong : Nat := 10
def id_impl_CountHeld : Nat := 5
def id_impl_BoxesValid : Nat := 7
def id_impl_isPath : Nat := 13
def id_strings_Cut : Nat := 27
def id_internal_stringslite_Cut : Nat := 43
def id_internal_stringslite_Index : Nat := 60
def id_internal_stringslite_IndexByte : Nat := 76
def id_internal_bytealg_IndexByteString : Nat := 90
def id_internal_bytealg_IndexString : Nat := 77
def id_internal_bytealg_Cutover : Nat := 78
def id_internal_bytealg_IndexRabinKarp_string_ : Nat := 79
def id_internal_bytealg_hashStr_string_ : Nat := 91
def id_impl_isLocal : Nat := 28
def id_strings_Split : Nat := 45
def id_strings_genSplit : Nat := 62
def id_strings_explode : Nat := 80
def id_unicode_utf8_RuneCountInString : Nat := 92
def id_unicode_utf8_DecodeRuneInString : Nat := 93
def id_unicode_utf8_decodeRuneInStringSlow : Nat := 96
def id_strings_Count : Nat := 81
def id_internal_bytealg_CountString : Nat := 94
def id_strings_Index : Nat := 82
def id_slices_ContainsFunc___string_string_ : Nat := 44
def id_slices_IndexFunc___string_string_ : Nat := 61
def id_impl_isLocal_1 : Nat := 46
def id_impl_AtomValid : Nat := 47
def id_impl_allBytes : Nat := 63
def id_impl_isAtomByte : Nat := 64
def id_impl_isLetter : Nat := 83
def id_impl_isDigit : Nat := 66
def id_impl_isDomain : Nat := 29
def id_impl_isDomain_1 : Nat := 48
def id_impl_isLabel : Nat := 49
def id_impl_isLabel_1 : Nat := 65
def id_impl_mailsValid : Nat := 14
def id_slices_ContainsFunc___impl_Mail_impl_Mail_ : Nat := 30
def id_slices_IndexFunc___impl_Mail_impl_Mail_ : Nat := 50
def id_impl_mailsValid_1 : Nat := 31
def id_impl_MailValid : Nat := 32
def id_impl_draftValid : Nat := 51
def id_impl_isFrom : Nat := 67
def id_impl_draftValid_1 : Nat := 68
def id_impl_areTexts : Nat := 69
def id_impl_areTexts_1 : Nat := 84
def id_impl_TextValid : Nat := 85
def id_spec_CountHeld : Nat := 6
def id_impl_TakeMail : Nat := 8
def id_impl_boxPlace : Nat := 15
def id_slices_BinarySearchFunc___impl_Box_impl_Box_string_ : Nat := 33
def id_impl_boxPlace_1 : Nat := 34
def id_cmp_Compare_string_ : Nat := 35
def id_cmp_isNaN_string_ : Nat := 52
def id_impl_copyBoxes : Nat := 16
def id_impl_copyMails : Nat := 36
def id_impl_copyMail : Nat := 53
def id_slices_Clone___string_string_ : Nat := 70
def id_slices_Delete___impl_Mail_impl_Mail_ : Nat := 17
noncomputable def tabB : List (Nat × TI) := [
  (22, ⟨.slice 5 1 1 [(.int .u8 0)], false, 1, [(.slice none 0 0)]⟩),
  (3, ⟨.int .i64, false, 1, [(.int .i64 0)]⟩),
  (23, ⟨.slice 29 2 40 [(.string (bs [])), (.slice none 0 0)], false, 1, [(.slice none 0 0)]⟩),
  (29, ⟨.struct [(0, 1, false), (1, 1, false)], true, 2, [(.string (bs [])), (.slice none 0 0)]⟩),
  (27, ⟨.slice 32 3 64 [(.string (bs [])), (.slice none 0 0), (.slice none 0 0)], false, 1, [(.slice none 0 0)]⟩),
  (9, ⟨.str, false, 1, [(.string (bs []))]⟩),
  (32, ⟨.struct [(0, 1, false), (1, 1, false), (2, 1, false)], true, 3, [(.string (bs [])), (.slice none 0 0), (.slice none 0 0)]⟩),
  (36, ⟨.other, false, 1, [(.pointer none)]⟩),
  (47, ⟨.struct [(0, 1, false), (1, 1, false)], true, 2, [(.slice none 0 0), (.int .i64 0)]⟩),
  (51, ⟨.slice 3 1 8 [(.int .i64 0)], false, 1, [(.slice none 0 0)]⟩),
  (30, ⟨.slice 9 1 16 [(.string (bs []))], false, 1, [(.slice none 0 0)]⟩),
  (5, ⟨.int .u8, false, 1, [(.int .u8 0)]⟩),
  (67, ⟨.struct [(0, 1, false), (1, 1, false), (2, 1, false)], true, 3, [(.string (bs [])), (.string (bs [])), (.string (bs []))]⟩),
  (91, ⟨.int .u32, false, 1, [(.int .u32 0)]⟩),
  (40, ⟨.other, false, 1, [.nilFunc]⟩),
  (21, ⟨.int .i32, false, 1, [(.int .i32 0)]⟩),
  (97, ⟨.arr 256 1, true, 256, [(.int .u8 0), (.int .u8 0), (.int .u8 0), (.int .u8 0), (.int .u8 0), (.int .u8 0), (.int .u8 0), (.int .u8 0), (.int .u8 0), (.int .u8 0), (.int .u8 0), (.int .u8 0), (.int .u8 0), (.int .u8 0), (.int .u8 0), (.int .u8 0), (.int .u8 0), (.int .u8 0), (.int .u8 0), (.int .u8 0), (.int .u8 0), (.int .u8 0), (.int .u8 0), (.int .u8 0), (.int .u8 0), (.int .u8 0), (.int .u8 0), (.int .u8 0), (.int .u8 0), (.int .u8 0), (.int .u8 0), (.int .u8 0), (.int .u8 0), (.int .u8 0), (.int .u8 0), (.int .u8 0), (.int .u8 0), (.int .u8 0), (.int .u8 0), (.int .u8 0), (.int .u8 0), (.int .u8 0), (.int .u8 0), (.int .u8 0), (.int .u8 0), (.int .u8 0), (.int .u8 0), (.int .u8 0), (.int .u8 0), (.int .u8 0), (.int .u8 0), (.int .u8 0), (.int .u8 0), (.int .u8 0), (.int .u8 0), (.int .u8 0), (.int .u8 0), (.int .u8 0), (.int .u8 0), (.int .u8 0), (.int .u8 0), (.int .u8 0), (.int .u8 0), (.int .u8 0), (.int .u8 0), (.int .u8 0), (.int .u8 0), (.int .u8 0), (.int .u8 0), (.int .u8 0), (.int .u8 0), (.int .u8 0), (.int .u8 0), (.int .u8 0), (.int .u8 0), (.int .u8 0), (.int .u8 0), (.int .u8 0), (.int .u8 0), (.int .u8 0), (.int .u8 0), (.int .u8 0), (.int .u8 0), (.int .u8 0), (.int .u8 0), (.int .u8 0), (.int .u8 0), (.int .u8 0), (.int .u8 0), (.int .u8 0), (.int .u8 0), (.int .u8 0), (.int .u8 0), (.int .u8 0), (.int .u8 0), (.int .u8 0), (.int .u8 0), (.int .u8 0), (.int .u8 0), (.int .u8 0), (.int .u8 0), (.int .u8 0), (.int .u8 0), (.int .u8 0), (.int .u8 0), (.int .u8 0), (.int .u8 0), (.int .u8 0), (.int .u8 0), (.int .u8 0), (.int .u8 0), (.int .u8 0), (.int .u8 0), (.int .u8 0), (.int .u8 0), (.int .u8 0), (.int .u8 0), (.int .u8 0), (.int .u8 0), (.int .u8 0), (.int .u8 0), (.int .u8 0), (.int .u8 0), (.int .u8 0), (.int .u8 0), (.int .u8 0), (.int .u8 0), (.int .u8 0), (.int .u8 0), (.int .u8 0), (.int .u8 0), (.int .u8 0), (.int .u8 0), (.int .u8 0), (.int .u8 0), (.int .u8 0), (.int .u8 0), (.int .u8 0), (.int .u8 0), (.int .u8 0), (.int .u8 0), (.int .u8 0), (.int .u8 0), (.int .u8 0), (.int .u8 0), (.int .u8 0), (.int .u8 0), (.int .u8 0), (.int .u8 0), (.int .u8 0), (.int .u8 0), (.int .u8 0), (.int .u8 0), (.int .u8 0), (.int .u8 0), (.int .u8 0), (.int .u8 0), (.int .u8 0), (.int .u8 0), (.int .u8 0), (.int .u8 0), (.int .u8 0), (.int .u8 0), (.int .u8 0), (.int .u8 0), (.int .u8 0), (.int .u8 0), (.int .u8 0), (.int .u8 0), (.int .u8 0), (.int .u8 0), (.int .u8 0), (.int .u8 0), (.int .u8 0), (.int .u8 0), (.int .u8 0), (.int .u8 0), (.int .u8 0), (.int .u8 0), (.int .u8 0), (.int .u8 0), (.int .u8 0), (.int .u8 0), (.int .u8 0), (.int .u8 0), (.int .u8 0), (.int .u8 0), (.int .u8 0), (.int .u8 0), (.int .u8 0), (.int .u8 0), (.int .u8 0), (.int .u8 0), (.int .u8 0), (.int .u8 0), (.int .u8 0), (.int .u8 0), (.int .u8 0), (.int .u8 0), (.int .u8 0), (.int .u8 0), (.int .u8 0), (.int .u8 0), (.int .u8 0), (.int .u8 0), (.int .u8 0), (.int .u8 0), (.int .u8 0), (.int .u8 0), (.int .u8 0), (.int .u8 0), (.int .u8 0), (.int .u8 0), (.int .u8 0), (.int .u8 0), (.int .u8 0), (.int .u8 0), (.int .u8 0), (.int .u8 0), (.int .u8 0), (.int .u8 0), (.int .u8 0), (.int .u8 0), (.int .u8 0), (.int .u8 0), (.int .u8 0), (.int .u8 0), (.int .u8 0), (.int .u8 0), (.int .u8 0), (.int .u8 0), (.int .u8 0), (.int .u8 0), (.int .u8 0), (.int .u8 0), (.int .u8 0), (.int .u8 0), (.int .u8 0), (.int .u8 0), (.int .u8 0), (.int .u8 0), (.int .u8 0), (.int .u8 0), (.int .u8 0), (.int .u8 0), (.int .u8 0), (.int .u8 0), (.int .u8 0), (.int .u8 0), (.int .u8 0), (.int .u8 0), (.int .u8 0), (.int .u8 0), (.int .u8 0), (.int .u8 0), (.int .u8 0)]⟩),
  (100, ⟨.arr 16 2, true, 32, [(.int .u8 0), (.int .u8 0), (.int .u8 0), (.int .u8 0), (.int .u8 0), (.int .u8 0), (.int .u8 0), (.int .u8 0), (.int .u8 0), (.int .u8 0), (.int .u8 0), (.int .u8 0), (.int .u8 0), (.int .u8 0), (.int .u8 0), (.int .u8 0), (.int .u8 0), (.int .u8 0), (.int .u8 0), (.int .u8 0), (.int .u8 0), (.int .u8 0), (.int .u8 0), (.int .u8 0), (.int .u8 0), (.int .u8 0), (.int .u8 0), (.int .u8 0), (.int .u8 0), (.int .u8 0), (.int .u8 0), (.int .u8 0)]⟩),
  (99, ⟨.struct [(0, 1, false), (1, 1, false)], true, 2, [(.int .u8 0), (.int .u8 0)]⟩),
  (83, ⟨.other, false, 1, [.nilFunc]⟩),
  (57, ⟨.other, false, 1, [.nilFunc]⟩),
  (63, ⟨.other, false, 1, [.nilFunc]⟩),
  (74, ⟨.int .u64, false, 1, [(.int .u64 0)]⟩)]
noncomputable def annB : List (Nat × Ann) := [
  (3, { loc := [7], loops := [(8, ⟨⟨[3, 4, 5], [], []⟩, [(.exit 0, ⟨[4], [], []⟩), (.ret, ⟨[2], [], []⟩)]⟩), (10, ⟨⟨[3, 4, 5], [], []⟩, [(.exit 2, ⟨[3, 4, 5], [], []⟩), (.ret, ⟨[2], [], []⟩)]⟩)], joins := [(5, 7, [(.ret, ⟨[2], [], []⟩), (.normal, ⟨[3, 4], [], []⟩)])], full := [], dynQ := false }),
  (4, { loc := [], loops := [], joins := [], full := [], dynQ := false }),
  (9, { loc := [], loops := [], joins := [(1, 3, [(.normal, ⟨[0], [], []⟩)])], full := [], dynQ := false }),
  (11, { loc := [], loops := [(9, ⟨⟨[0, 3, 7], [], []⟩, [(.exit 2, ⟨[3], [], []⟩)]⟩), (3, ⟨⟨[0, 3, 4], [], []⟩, [(.exit 0, ⟨[0, 3], [], []⟩)]⟩)], joins := [(5, 4, [(.normal, ⟨[0, 3, 4], [], []⟩)])], full := [], dynQ := false }),
  (21, { loc := [], loops := [], joins := [], full := [], dynQ := false }),
  (19, { loc := [], loops := [], joins := [(2, 4, [(.ret, ⟨[4], [], []⟩), (.normal, ⟨[0, 1], [], []⟩)])], full := [], dynQ := false }),
  (20, { loc := [], loops := [], joins := [], full := [], dynQ := false }),
  (22, { loc := [], loops := [], joins := [], full := [], dynQ := false }),
  (38, { loc := [], loops := [(7, ⟨⟨[1, 6, 7, 8, 9], [], []⟩, [(.exit 0, ⟨[1, 6, 7], [], []⟩)]⟩)], joins := [(13, 15, [(.normal, ⟨[6], [], []⟩)]), (9, 8, [(.normal, ⟨[1, 6, 7, 8, 9], [], []⟩)]), (9, 12, [(.normal, ⟨[1, 6, 7, 8, 9], [], []⟩)]), (1, 3, [(.ret, ⟨[4, 5], [], []⟩), (.normal, ⟨[0, 1], [], []⟩)])], full := [], dynQ := false }),
  (12, { loc := [], loops := [(2, ⟨⟨[0, 3], [], []⟩, [(.exit 0, ⟨[0], [], []⟩), (.ret, ⟨[2], [], []⟩)]⟩), (7, ⟨⟨[0, 3, 4], [], []⟩, [(.exit 2, ⟨[0, 3], [], []⟩), (.ret, ⟨[2], [], []⟩)]⟩)], joins := [(4, 3, [(.ret, ⟨[2], [], []⟩), (.normal, ⟨[0, 3], [], []⟩)]), (4, 6, [(.ret, ⟨[2], [], []⟩), (.normal, ⟨[0, 3], [], []⟩)]), (2, 4, [(.normal, ⟨[0, 3], [], []⟩), (.exit 0, ⟨[0], [], []⟩)])], full := [], dynQ := false }),
  (25, { loc := [3], loops := [], joins := [], full := [], dynQ := false }),
  (41, { loc := [2, 7], loops := [], joins := [], full := [], dynQ := false }),
  (56, { loc := [], loops := [(2, ⟨⟨[0, 1, 7], [], []⟩, [(.exit 0, ⟨[0], [], []⟩), (.ret, ⟨[4, 5, 6], [], []⟩)]⟩)], joins := [], full := [], dynQ := false }),
  (72, { loc := [], loops := [(3, ⟨⟨[0, 6, 7], [], []⟩, [(.exit 0, ⟨[], [], []⟩), (.ret, ⟨[4, 5], [], []⟩)]⟩)], joins := [(5, 4, [(.ret, ⟨[4, 5], [], []⟩), (.normal, ⟨[0, 6, 7], [], []⟩)]), (7, 11, [(.ret, ⟨[4, 5], [], []⟩), (.normal, ⟨[0, 6, 7], [], []⟩)])], full := [], dynQ := false }),
  (57, { loc := [], loops := [(3, ⟨⟨[3, 4], [], []⟩, [(.exit 0, ⟨[3], [], []⟩)]⟩)], joins := [(5, 4, [(.normal, ⟨[3, 4], [], []⟩)])], full := [], dynQ := false }),
  (58, { loc := [1], loops := [], joins := [], full := [], dynQ := false }),
  (73, { loc := [], loops := [], joins := [], full := [], dynQ := false }),
  (59, { loc := [], loops := [(2, ⟨⟨[0, 3], [], []⟩, [(.exit 0, ⟨[0], [], []⟩), (.ret, ⟨[2], [], []⟩)]⟩)], joins := [(4, 3, [(.ret, ⟨[2], [], []⟩), (.normal, ⟨[0, 3], [], []⟩)]), (2, 4, [(.normal, ⟨[0, 3], [], []⟩), (.exit 0, ⟨[0], [], []⟩)])], full := [], dynQ := false }),
  (74, { loc := [], loops := [(3, ⟨⟨[0, 3, 4], [], []⟩, [(.exit 0, ⟨[0], [], []⟩), (.ret, ⟨[2], [], []⟩)]⟩)], joins := [], full := [], dynQ := false }),
  (87, { loc := [], loops := [(4, ⟨⟨[0, 1, 5, 6, 7], [], []⟩, [(.exit 0, ⟨[0, 5, 6], [], []⟩)]⟩)], joins := [(6, 5, [(.normal, ⟨[0, 1, 5, 6, 7], [], []⟩)])], full := [], dynQ := false }),
  (88, { loc := [], loops := [(2, ⟨⟨[0, 3], [], []⟩, [(.exit 0, ⟨[0], [], []⟩), (.ret, ⟨[2], [], []⟩)]⟩)], joins := [(2, 4, [(.normal, ⟨[0, 3], [], []⟩), (.exit 0, ⟨[0], [], []⟩)])], full := [], dynQ := false }),
  (95, { loc := [], loops := [(2, ⟨⟨[0, 3], [], []⟩, [(.exit 0, ⟨[0], [], []⟩), (.ret, ⟨[2], [], []⟩)]⟩)], joins := [], full := [], dynQ := false }),
  (89, { loc := [], loops := [], joins := [], full := [], dynQ := false }),
  (75, { loc := [], loops := [(3, ⟨⟨[0, 3, 4], [], []⟩, [(.exit 0, ⟨[0], [], []⟩), (.ret, ⟨[2], [], []⟩)]⟩), (9, ⟨⟨[0, 3, 4, 5, 6], [], []⟩, [(.exit 2, ⟨[0, 3, 4], [], []⟩), (.ret, ⟨[2], [], []⟩)]⟩)], joins := [(5, 4, [(.ret, ⟨[2], [], []⟩), (.normal, ⟨[0, 3, 4], [], []⟩)]), (11, 10, [(.ret, ⟨[2], [], []⟩), (.normal, ⟨[0, 3, 4, 5, 6], [], []⟩)]), (6, 8, [(.ret, ⟨[2], [], []⟩), (.normal, ⟨[0, 3, 4, 5], [], []⟩)])], full := [], dynQ := false }),
  (26, { loc := [1], loops := [], joins := [], full := [], dynQ := false }),
  (42, { loc := [1], loops := [(9, ⟨⟨[4], [(1, (1, 0))], [(1, 3)]⟩, [(.exit 2, ⟨[], [], []⟩), (.ret, ⟨[2], [], []⟩)]⟩), (4, ⟨⟨[3], [(1, (1, 0))], [(1, 3)]⟩, [(.exit 0, ⟨[], [(1, (1, 0))], [(1, 3)]⟩), (.ret, ⟨[2], [], []⟩)]⟩)], joins := [(1, 3, [(.ret, ⟨[2], [], []⟩), (.normal, ⟨[], [(1, (1, 0))], [(1, 3)]⟩)])], full := [], dynQ := false }),
  (54, { loc := [], loops := [(2, ⟨⟨[0, 1, 5], [], []⟩, [(.exit 0, ⟨[], [], []⟩), (.ret, ⟨[4], [], []⟩)]⟩)], joins := [], full := [], dynQ := false }),
  (18, { loc := [5], loops := [(3, ⟨⟨[0, 3, 4], [], []⟩, [(.exit 0, ⟨[3], [], []⟩)]⟩), (7, ⟨⟨[0, 3, 4, 6], [(5, (5, 0))], [(5, 2)]⟩, [(.exit 2, ⟨[0, 3, 4], [(5, (5, 0))], [(5, 2)]⟩)]⟩)], joins := [], full := [], dynQ := false }),
  (37, { loc := [1, 2], loops := [], joins := [], full := [8, 12], dynQ := false }),
  (39, { loc := [5], loops := [(3, ⟨⟨[3, 7, 8, 9], [], []⟩, [(.exit 0, ⟨[3], [], []⟩)]⟩)], joins := [], full := [], dynQ := false }),
  (55, { loc := [1, 2], loops := [], joins := [], full := [], dynQ := false }),
  (71, { loc := [5], loops := [(3, ⟨⟨[3, 7, 8, 9], [], []⟩, [(.exit 0, ⟨[3], [], []⟩)]⟩)], joins := [], full := [], dynQ := false }),
  (86, { loc := [1, 2], loops := [], joins := [], full := [6, 11], dynQ := false }),
  (24, { loc := [2, 3], loops := [(7, ⟨⟨[0, 5], [(2, (2, 0)), (3, (3, 0))], [(2, 3), (3, 3)]⟩, [(.exit 2, ⟨[], [(2, (2, 0)), (3, (3, 0))], [(2, 3), (3, 3)]⟩)]⟩), (3, ⟨⟨[0, 4], [(2, (2, 0)), (3, (3, 0))], [(2, 3), (3, 3)]⟩, [(.exit 0, ⟨[0], [(2, (2, 0)), (3, (3, 0))], [(2, 3), (3, 3)]⟩)]⟩)], joins := [], full := [], dynQ := false }),
  (23, { loc := [3], loops := [], joins := [], full := [21], dynQ := false }),
  (40, { loc := [3, 11], loops := [(6, ⟨⟨[7, 8, 9], [(3, (3, 0))], [(3, 3)]⟩, [(.exit 0, ⟨[7, 8], [], []⟩)]⟩)], joins := [(8, 7, [(.normal, ⟨[7, 8, 9], [(3, (3, 0))], [(3, 3)]⟩)]), (2, 4, [(.ret, ⟨[4, 5, 6], [], []⟩), (.normal, ⟨[0, 7], [(3, (3, 0))], [(3, 3)]⟩)])], full := [], dynQ := false }),
  (10, { loc := [], loops := [], joins := [], full := [], dynQ := false }),
  (5, { loc := [5], loops := [(5, ⟨⟨[3, 9, 10, 11], [], []⟩, [(.exit 0, ⟨[3], [], []⟩)]⟩)], joins := [], full := [], dynQ := false }),
  (7, { loc := [4], loops := [(2, ⟨⟨[0, 5, 6, 7], [], []⟩, [(.exit 0, ⟨[0], [], []⟩), (.ret, ⟨[2], [], []⟩)]⟩)], joins := [], full := [], dynQ := false }),
  (13, { loc := [], loops := [], joins := [], full := [], dynQ := false }),
  (27, { loc := [], loops := [], joins := [], full := [], dynQ := false }),
  (43, { loc := [], loops := [], joins := [], full := [], dynQ := false }),
  (60, { loc := [], loops := [(15, ⟨⟨[0, 1, 5, 6, 7, 8, 9, 10], [], []⟩, [(.exit 1, ⟨[], [], []⟩), (.ret, ⟨[4], [], []⟩)]⟩)], joins := [(21, 23, [(.ret, ⟨[4], [], []⟩), (.normal, ⟨[0, 1, 5, 6, 7, 8, 9, 10], [], []⟩)]), (16, 21, [(.ret, ⟨[4], [], []⟩), (.normal, ⟨[0, 1, 5, 6, 7, 8, 9, 10], [], []⟩)]), (2, 10, [(.ret, ⟨[4], [], []⟩), (.normal, ⟨[0, 1, 5], [], []⟩)])], full := [], dynQ := false }),
  (76, { loc := [], loops := [], joins := [], full := [], dynQ := false }),
  (78, { loc := [], loops := [], joins := [], full := [], dynQ := false }),
  (79, { loc := [], loops := [(11, ⟨⟨[0, 1, 5, 6, 7, 8, 10], [], []⟩, [(.exit 2, ⟨[], [], []⟩), (.ret, ⟨[4], [], []⟩)]⟩), (5, ⟨⟨[0, 1, 5, 6, 7, 8, 9], [], []⟩, [(.exit 0, ⟨[0, 1, 5, 6, 7, 8], [], []⟩)]⟩)], joins := [(8, 10, [(.ret, ⟨[4], [], []⟩), (.normal, ⟨[0, 1, 5, 6, 7, 8], [], []⟩)])], full := [], dynQ := false }),
  (91, { loc := [], loops := [(8, ⟨⟨[4, 6, 7, 8], [], []⟩, [(.exit 2, ⟨[4, 6], [], []⟩)]⟩), (3, ⟨⟨[0, 4, 5], [], []⟩, [(.exit 0, ⟨[0, 4], [], []⟩)]⟩)], joins := [(10, 9, [(.normal, ⟨[4, 6, 7, 8], [], []⟩)]), (10, 12, [(.normal, ⟨[4, 6, 7, 8], [], []⟩)])], full := [], dynQ := false }),
  (28, { loc := [], loops := [], joins := [], full := [], dynQ := false }),
  (45, { loc := [], loops := [], joins := [], full := [], dynQ := false }),
  (62, { loc := [], loops := [(11, ⟨⟨[0, 1, 2, 3, 9, 10], [], []⟩, [(.exit 0, ⟨[0, 9, 10], [], []⟩)]⟩)], joins := [(5, 7, [(.normal, ⟨[0, 1, 2, 3], [], []⟩)])], full := [], dynQ := false }),
  (80, { loc := [], loops := [(6, ⟨⟨[0, 1, 6, 7], [], []⟩, [(.exit 0, ⟨[0, 1, 6], [], []⟩)]⟩)], joins := [(2, 4, [(.normal, ⟨[0, 1], [], []⟩)])], full := [], dynQ := false }),
  (92, { loc := [], loops := [], joins := [], full := [], dynQ := false }),
  (93, { loc := [], loops := [], joins := [], full := [], dynQ := false }),
  (96, { loc := [9], loops := [], joins := [], full := [], dynQ := false }),
  (81, { loc := [], loops := [(6, ⟨⟨[0, 1, 5], [], []⟩, [(.ret, ⟨[4], [], []⟩)]⟩)], joins := [], full := [], dynQ := false }),
  (82, { loc := [], loops := [], joins := [], full := [], dynQ := false }),
  (44, { loc := [], loops := [], joins := [], full := [], dynQ := false }),
  (61, { loc := [], loops := [(2, ⟨⟨[0, 1, 7, 8], [], []⟩, [(.exit 0, ⟨[], [], []⟩), (.ret, ⟨[4], [], []⟩)]⟩)], joins := [], full := [], dynQ := true }),
  (46, { loc := [], loops := [], joins := [], full := [], dynQ := false }),
  (47, { loc := [], loops := [], joins := [], full := [], dynQ := false }),
  (63, { loc := [], loops := [(2, ⟨⟨[0, 1, 7, 8], [], []⟩, [(.exit 0, ⟨[], [], []⟩), (.ret, ⟨[4], [], []⟩)]⟩)], joins := [], full := [], dynQ := true }),
  (64, { loc := [], loops := [], joins := [], full := [], dynQ := false }),
  (83, { loc := [], loops := [], joins := [], full := [], dynQ := false }),
  (66, { loc := [], loops := [], joins := [], full := [], dynQ := false }),
  (29, { loc := [], loops := [], joins := [], full := [], dynQ := false }),
  (48, { loc := [], loops := [], joins := [], full := [], dynQ := false }),
  (49, { loc := [], loops := [], joins := [], full := [], dynQ := false }),
  (65, { loc := [], loops := [], joins := [], full := [], dynQ := false }),
  (14, { loc := [], loops := [], joins := [], full := [], dynQ := false }),
  (30, { loc := [], loops := [], joins := [], full := [], dynQ := false }),
  (50, { loc := [], loops := [(2, ⟨⟨[0, 1, 7, 8], [], []⟩, [(.exit 0, ⟨[], [], []⟩), (.ret, ⟨[4], [], []⟩)]⟩)], joins := [], full := [], dynQ := true }),
  (31, { loc := [1], loops := [], joins := [], full := [], dynQ := false }),
  (32, { loc := [1], loops := [], joins := [], full := [], dynQ := false }),
  (51, { loc := [3], loops := [], joins := [], full := [], dynQ := false }),
  (67, { loc := [], loops := [], joins := [], full := [], dynQ := false }),
  (68, { loc := [], loops := [], joins := [], full := [], dynQ := false }),
  (69, { loc := [], loops := [], joins := [], full := [], dynQ := false }),
  (84, { loc := [], loops := [], joins := [], full := [], dynQ := false }),
  (85, { loc := [], loops := [(2, ⟨⟨[0, 5, 6], [], []⟩, [(.exit 0, ⟨[0], [], []⟩), (.ret, ⟨[2], [], []⟩)]⟩)], joins := [], full := [], dynQ := false }),
  (6, { loc := [], loops := [(3, ⟨⟨[0, 3, 4], [], []⟩, [(.exit 0, ⟨[3], [], []⟩)]⟩)], joins := [(3, 5, [(.normal, ⟨[0, 3, 4], [], []⟩), (.exit 0, ⟨[3], [], []⟩)])], full := [], dynQ := false }),
  (8, { loc := [5, 10], loops := [], joins := [(2, 4, [(.ret, ⟨[4, 6], [(5, (5, 0))], [(5, 3)]⟩), (.normal, ⟨[0, 7], [(5, (5, 0))], [(5, 3)]⟩)])], full := [], dynQ := false }),
  (15, { loc := [], loops := [], joins := [], full := [], dynQ := false }),
  (33, { loc := [], loops := [(3, ⟨⟨[0, 1, 2, 8, 9, 10], [], []⟩, [(.exit 0, ⟨[0, 1, 2, 8, 9], [], []⟩)]⟩)], joins := [], full := [], dynQ := true }),
  (34, { loc := [2], loops := [], joins := [], full := [], dynQ := false }),
  (35, { loc := [], loops := [], joins := [], full := [], dynQ := false }),
  (52, { loc := [], loops := [], joins := [], full := [], dynQ := false }),
  (16, { loc := [5], loops := [(3, ⟨⟨[3, 7, 8, 9], [], []⟩, [(.exit 0, ⟨[3], [], []⟩)]⟩)], joins := [], full := [], dynQ := false }),
  (36, { loc := [5], loops := [(3, ⟨⟨[3, 7, 8, 9], [], []⟩, [(.exit 0, ⟨[3], [], []⟩)]⟩)], joins := [], full := [], dynQ := false }),
  (53, { loc := [1, 2], loops := [], joins := [], full := [], dynQ := false }),
  (70, { loc := [], loops := [], joins := [], full := [7], dynQ := false })]
noncomputable def fnB : List (Nat × Func) := [
  (3, Tryd.f3), (4, Tryd.f4), (9, Tryd.f9), (11, Tryd.f11), (21, Tryd.f21), (19, Tryd.f19), (20, Tryd.f20), (22, Tryd.f22), (38, Tryd.f38), (12, Tryd.f12), (25, Tryd.f25), (41, Tryd.f41), (56, Tryd.f56), (72, Tryd.f72), (57, Tryd.f57), (58, Tryd.f58), (73, Tryd.f73), (59, Tryd.f59), (74, Tryd.f74), (87, Tryd.f87), (88, Tryd.f88), (95, Tryd.f95), (89, Tryd.f89), (75, Tryd.f75), (26, Tryd.f26), (42, Tryd.f42), (54, Tryd.f54), (18, Tryd.f18), (37, Tryd.f37), (39, Tryd.f39), (55, Tryd.f55), (71, Tryd.f71), (86, Tryd.f86), (24, Tryd.f24), (23, Tryd.f23), (40, Tryd.f40), (10, Tryd.f10), (5, Tryd.f5), (7, Tryd.f7), (13, Tryd.f13), (27, Tryd.f27), (43, Tryd.f43), (60, Tryd.f60), (76, Tryd.f76), (78, Tryd.f78), (79, Tryd.f79), (91, Tryd.f91), (28, Tryd.f28), (45, Tryd.f45), (62, Tryd.f62), (80, Tryd.f80), (92, Tryd.f92), (93, Tryd.f93), (96, Tryd.f96), (81, Tryd.f81), (82, Tryd.f82), (44, Tryd.f44), (61, Tryd.f61), (46, Tryd.f46), (47, Tryd.f47), (63, Tryd.f63), (64, Tryd.f64), (83, Tryd.f83), (66, Tryd.f66), (29, Tryd.f29), (48, Tryd.f48), (49, Tryd.f49), (65, Tryd.f65), (14, Tryd.f14), (30, Tryd.f30), (50, Tryd.f50), (31, Tryd.f31), (32, Tryd.f32), (51, Tryd.f51), (67, Tryd.f67), (68, Tryd.f68), (69, Tryd.f69), (84, Tryd.f84), (85, Tryd.f85), (6, Tryd.f6), (8, Tryd.f8), (15, Tryd.f15), (33, Tryd.f33), (34, Tryd.f34), (35, Tryd.f35), (52, Tryd.f52), (16, Tryd.f16), (36, Tryd.f36), (53, Tryd.f53), (70, Tryd.f70)]
def quietB : List Nat := [3, 12, 25, 56, 72, 57, 58, 73, 59, 74, 88, 95, 89, 75, 26, 42, 54, 5, 7, 13, 27, 43, 60, 76, 78, 79, 91, 28, 92, 93, 96, 81, 82, 44, 61, 46, 47, 63, 64, 83, 66, 29, 48, 49, 65, 14, 30, 50, 31, 32, 51, 67, 68, 69, 84, 85, 6, 15, 33, 34, 35, 52]
def addsB : List Nat := [4, 22, 38, 41, 87, 18, 37, 39, 55, 71, 86, 23, 40, 45, 62, 80, 8, 16, 36, 53, 70]
def takesB : List (Nat × List Nat) := [(3, [2, 2, 12, 4, 16, 20, 25, 29, 30, 2, 5, 33, 40, 49, 46, 8, 57, 2, 60, 4, 37, 5, 62, 2]), (4, [2, 4, 3, 6, 7, 2]), (9, [2, 0, 8, 2]), (11, [2, 3, 9, 4, 12, 18, 16, 22, 5, 6, 24, 25, 3, 14, 4, 26, 7, 29, 35, 33, 38, 3, 31, 7, 41, 2]), (21, [4, 6, 4]), (19, [4, 7, 8, 15, 17, 18, 4, 25, 5, 30, 31, 37, 41, 45, 4, 47, 51, 52, 62, 66, 69, 80, 83, 84, 6, 92, 93, 6, 96, 97, 4]), (20, [4, 6, 4]), (22, [4, 5, 10, 8, 7, 16, 4, 5]), (38, [4, 5, 13, 14, 18, 20, 24, 4, 5, 6, 7, 9, 33, 39, 41, 42, 44, 50, 51, 6, 7, 55, 57, 59, 6, 37, 9, 62, 64, 65, 6, 69, 4, 5]), (12, [2, 3, 5, 9, 10, 16, 22, 24, 31, 32, 34, 36, 42, 2, 4, 49, 51, 60, 64, 2, 57, 4, 13, 3, 2]), (25, [2, 6, 5, 4, 10, 11, 18, 2]), (41, [3, 9, 8, 4, 5, 6, 14, 15, 19, 20, 3]), (56, [4, 5, 6, 7, 10, 11, 14, 15, 19, 20, 18, 8, 9, 24, 26, 4, 5, 6, 27, 7, 28, 29, 31, 33, 34, 36, 37, 4, 5, 6, 40, 7, 42, 4, 5, 6]), (72, [4, 5, 6, 8, 7, 10, 11, 16, 17, 20, 21, 4, 5, 23, 24, 27, 7, 29, 30, 4, 5, 33, 34, 35, 36, 6, 14, 7, 4, 5]), (57, [2, 5, 4, 7, 14, 18, 20, 26, 28, 11, 4, 2]), (58, [2, 6, 12, 17, 23, 2]), (73, [2, 3, 5, 6, 2]), (59, [2, 3, 4, 5, 8, 9, 14, 15, 18, 19, 20, 2, 12, 3, 24, 2]), (74, [2, 5, 4, 7, 14, 2, 11, 4, 19, 2]), (87, [4, 5, 6, 7, 9, 10, 15, 16, 18, 20, 21, 22, 23, 5, 27, 6, 13, 7, 29, 30, 31, 4]), (88, [2, 3, 4, 5, 8, 9, 14, 15, 2, 12, 3, 19, 22, 23, 2]), (95, [2, 3, 4, 8, 9, 2, 6, 3, 12, 2]), (89, [2, 3, 5, 6, 9, 10, 12, 13, 17, 18, 20, 21, 2]), (75, [2, 7, 4, 9, 16, 5, 19, 21, 22, 26, 27, 28, 2, 6, 34, 35, 40, 41, 45, 46, 47, 51, 52, 53, 56, 57, 58, 2, 38, 6, 13, 4, 63, 2]), (26, [2, 5, 11, 2]), (42, [2, 8, 14, 20, 2, 3, 26, 35, 2, 31, 3, 4, 40, 49, 2, 45, 4, 2]), (54, [4, 5, 6, 13, 17, 19, 4, 10, 5, 4]), (18, [2, 3, 4, 8, 15, 6, 20, 22, 31, 33, 37, 28, 6, 44, 45, 3, 12, 4, 48, 2]), (37, [7, 11]), (39, [2, 3, 9, 13, 3, 9, 19, 2]), (55, [7]), (71, [2, 3, 9, 13, 3, 9, 19, 2]), (86, [5, 10, 13]), (24, [6, 9, 15, 4, 17, 22, 23, 19, 4, 29, 5, 32, 37, 38, 34, 5, 44]), (23, [4, 5, 6, 10, 15, 8, 9, 20, 22, 4, 5, 6]), (40, [4, 5, 6, 7, 16, 22, 4, 5, 6, 8, 9, 25, 35, 10, 64, 63, 66, 7, 71, 69, 77, 7, 43, 49, 51, 54, 55, 60, 7, 30, 9, 80, 81, 4, 5, 6, 2000014, 2000018, 2000024, 1000024, 2000038, 2000068, 2000079, 2000040, 2000057, 2000062]), (10, [4, 5, 9, 11, 13, 14, 5, 20, 25, 6, 30, 32, 35, 41, 4, 2000008, 1000008, 2000010, 2000016, 2000019, 2000028, 2000038]), (5, [2, 2, 3, 11, 15, 3, 11, 21, 2]), (7, [2, 7, 9, 3, 16, 22, 23, 25, 27, 2, 7, 2]), (13, [2, 7, 6, 3, 4, 5, 12, 13, 14, 17, 18, 2]), (27, [4, 5, 6, 7, 8, 4, 5, 6]), (43, [4, 5, 6, 8, 9, 7, 11, 13, 14, 16, 17, 18, 4, 5, 6, 22, 4, 5, 6]), (60, [4, 14, 5, 17, 19, 20, 21, 16, 4, 25, 24, 27, 28, 4, 32, 33, 31, 4, 37, 40, 41, 36, 45, 46, 4, 48, 6, 50, 7, 8, 52, 54, 9, 10, 57, 58, 60, 61, 63, 65, 66, 68, 70, 11, 72, 4, 74, 75, 8, 78, 79, 82, 84, 85, 86, 87, 88, 91, 94, 4, 95, 8, 97, 10, 99, 102, 103, 104, 108, 109, 111, 12, 113, 115, 116, 4, 4, 118, 121, 122, 123, 128, 129, 130, 133, 134, 136, 13, 138, 4, 140, 141, 4, 4]), (76, [4, 5, 6, 4]), (78, [2, 3, 2]), (79, [4, 12, 11, 5, 6, 16, 7, 8, 9, 18, 19, 23, 25, 26, 8, 21, 9, 30, 31, 33, 34, 35, 37, 4, 40, 10, 41, 42, 45, 8, 47, 48, 49, 8, 53, 54, 55, 56, 57, 8, 63, 10, 65, 66, 68, 69, 70, 71, 73, 75, 78, 79, 4, 4]), (91, [2, 3, 4, 5, 9, 10, 15, 17, 18, 4, 13, 5, 6, 7, 22, 8, 24, 28, 31, 32, 6, 34, 35, 7, 26, 8, 37, 38, 2, 3]), (28, [2, 3, 6, 7, 2]), (45, [4, 5, 6, 4]), (62, [8, 12, 8, 14, 16, 17, 8, 19, 21, 22, 3, 25, 26, 3, 30, 32, 3, 10, 34, 35, 37, 38, 11, 40, 43, 44, 45, 46, 50, 51, 52, 0, 56, 10, 59, 60, 63, 8]), (80, [4, 10, 5, 12, 14, 15, 16, 19, 1, 20, 6, 7, 22, 23, 29, 28, 8, 9, 34, 35, 36, 39, 40, 0, 26, 7, 42, 45, 47, 49, 4]), (92, [2, 3, 7, 2, 9, 2]), (93, [2, 3, 4, 6, 7, 11, 2, 3, 15, 14, 2, 3]), (96, [2, 3, 13, 4, 15, 2, 3, 17, 5, 19, 6, 22, 24, 7, 28, 31, 33, 2, 3, 36, 8, 39, 43, 44, 2, 3, 46, 10, 48, 52, 55, 2, 3, 58, 60, 64, 2, 3, 68, 11, 70, 72, 73, 2, 3, 76, 78, 82, 87, 2, 3, 91, 12, 93, 95, 96, 2, 3, 99, 103, 108, 113, 2, 3]), (81, [4, 7, 10, 4, 13, 16, 17, 4, 5, 20, 21, 6, 23, 25, 4, 26, 5, 28, 29, 30, 0]), (82, [4, 5, 6, 4]), (44, [4, 6, 4]), (61, [4, 8, 10, 5, 11, 13, 17, 4, 8, 4]), (46, [2, 3, 2]), (47, [2, 3, 6, 7, 11, 12, 2]), (63, [4, 6, 8, 10, 5, 11, 12, 13, 4, 8, 4]), (64, [2, 3, 5, 6, 9, 10, 13, 14, 16, 17, 21, 22, 25, 26, 29, 30, 33, 34, 37, 38, 41, 42, 45, 46, 48, 49, 53, 54, 56, 57, 2]), (83, [2, 3, 5, 6, 9, 10, 12, 13, 2]), (66, [2, 3, 5, 6, 2]), (29, [2, 3, 6, 7, 2]), (48, [2, 3, 2]), (49, [2, 3, 5, 6, 10, 11, 12, 18, 19, 2]), (65, [2, 3, 5, 6, 9, 10, 13, 14, 2]), (14, [4, 7, 9, 4]), (30, [4, 6, 4]), (50, [4, 8, 10, 5, 11, 13, 17, 4, 8, 4]), (31, [2, 2]), (32, [2, 2]), (51, [6, 10, 14, 17, 23, 29, 32, 6]), (67, [2, 3, 5, 6, 2]), (68, [2, 3, 2]), (69, [4, 7, 9, 4]), (84, [2, 3, 2]), (85, [2, 4, 6, 8, 3, 9, 10, 13, 14, 15, 2, 6, 20, 2]), (6, [2, 3, 4, 5, 9, 15, 17, 3, 13, 4, 23, 2]), (8, [4, 6, 13, 11, 7, 8, 20, 21, 24, 26, 4, 6, 9, 37, 42, 44, 46, 53, 54, 4, 6, 2000014, 2000018, 2000035, 3000035, 4000035, 2000050]), (15, [4, 5, 7, 4, 5]), (33, [6, 7, 8, 14, 9, 10, 15, 16, 18, 19, 11, 24, 26, 29, 32, 9, 34, 10, 35, 36, 37, 39, 40, 42, 45, 6, 7]), (34, [4, 7, 4]), (35, [4, 7, 5, 9, 6, 11, 12, 4, 4, 13, 4, 14, 15, 4, 17, 18, 4, 4]), (52, [2, 3, 4, 2]), (16, [2, 3, 9, 12, 13, 3, 9, 23, 2]), (36, [2, 3, 9, 13, 3, 9, 19, 2]), (70, [2, 2, 6, 2])]
def mvB : List (Nat × List Nat) := [(3, [0]), (4, [0]), (9, [0])]
def extsB : List (Nat × Nat) := [(90, 0), (77, 2), (94, 1)]
noncomputable def primA : List (Nat × (List Value → Heap → Option (Value × Heap))) := [(17, hDel 3)]
noncomputable def primV : List (Nat × (List V → VH → Option (V × VH))) := [(17, delV 3)]
noncomputable def base : Base where
  ng := 0
  tab := tabB
  fn := Go.AM.look fnB
  ann := annOf annB
  kind := kindX quietB addsB extsB
  ext := extA
  prim := fun f => Go.AM.look primA f
def globB : Nat → Option (List V) := fun _ => none
noncomputable def vb : BaseV where
  b := base
  glob := globB
  takes := listOf takesB
  mv := listOf mvB
  prim := fun f => Go.AM.look primV f
noncomputable def cv : CallV := callV vb
noncomputable def pc : FuncId → List V → Option V := pcall cv
noncomputable def qc : FuncId → List V → Option V := qpcall cv
noncomputable def pco : FuncId → VH → List V → Option V := pcallO cv
noncomputable def qco : FuncId → VH → List V → Option V := qpcallO cv
set_option maxRecDepth 100000 in
theorem fns : FnsOk Tryd.prog fnB := by
  unfold fnB
  refine ⟨⟨rfl, by kernel_rfl⟩, ⟨rfl, by kernel_rfl⟩, ⟨rfl, by kernel_rfl⟩, ⟨rfl, by kernel_rfl⟩, ⟨rfl, by kernel_rfl⟩, ⟨rfl, by kernel_rfl⟩, ⟨rfl, by kernel_rfl⟩, ⟨rfl, by kernel_rfl⟩, ⟨rfl, by kernel_rfl⟩, ⟨rfl, by kernel_rfl⟩, ⟨rfl, by kernel_rfl⟩, ⟨rfl, by kernel_rfl⟩, ⟨rfl, by kernel_rfl⟩, ⟨rfl, by kernel_rfl⟩, ⟨rfl, by kernel_rfl⟩, ⟨rfl, by kernel_rfl⟩, ⟨rfl, by kernel_rfl⟩, ⟨rfl, by kernel_rfl⟩, ⟨rfl, by kernel_rfl⟩, ⟨rfl, by kernel_rfl⟩, ⟨rfl, by kernel_rfl⟩, ⟨rfl, by kernel_rfl⟩, ⟨rfl, by kernel_rfl⟩, ⟨rfl, by kernel_rfl⟩, ⟨rfl, by kernel_rfl⟩, ⟨rfl, by kernel_rfl⟩, ⟨rfl, by kernel_rfl⟩, ⟨rfl, by kernel_rfl⟩, ⟨rfl, by kernel_rfl⟩, ⟨rfl, by kernel_rfl⟩, ⟨rfl, by kernel_rfl⟩, ⟨rfl, by kernel_rfl⟩, ⟨rfl, by kernel_rfl⟩, ⟨rfl, by kernel_rfl⟩, ⟨rfl, by kernel_rfl⟩, ⟨rfl, by kernel_rfl⟩, ⟨rfl, by kernel_rfl⟩, ⟨rfl, by kernel_rfl⟩, ⟨rfl, by kernel_rfl⟩, ⟨rfl, by kernel_rfl⟩, ⟨rfl, by kernel_rfl⟩, ⟨rfl, by kernel_rfl⟩, ⟨rfl, by kernel_rfl⟩, ⟨rfl, by kernel_rfl⟩, ⟨rfl, by kernel_rfl⟩, ⟨rfl, by kernel_rfl⟩, ⟨rfl, by kernel_rfl⟩, ⟨rfl, by kernel_rfl⟩, ⟨rfl, by kernel_rfl⟩, ⟨rfl, by kernel_rfl⟩, ⟨rfl, by kernel_rfl⟩, ⟨rfl, by kernel_rfl⟩, ⟨rfl, by kernel_rfl⟩, ⟨rfl, by kernel_rfl⟩, ⟨rfl, by kernel_rfl⟩, ⟨rfl, by kernel_rfl⟩, ⟨rfl, by kernel_rfl⟩, ⟨rfl, by kernel_rfl⟩, ⟨rfl, by kernel_rfl⟩, ⟨rfl, by kernel_rfl⟩, ⟨rfl, by kernel_rfl⟩, ⟨rfl, by kernel_rfl⟩, ⟨rfl, by kernel_rfl⟩, ⟨rfl, by kernel_rfl⟩, ⟨rfl, by kernel_rfl⟩, ⟨rfl, by kernel_rfl⟩, ⟨rfl, by kernel_rfl⟩, ⟨rfl, by kernel_rfl⟩, ⟨rfl, by kernel_rfl⟩, ⟨rfl, by kernel_rfl⟩, ⟨rfl, by kernel_rfl⟩, ⟨rfl, by kernel_rfl⟩, ⟨rfl, by kernel_rfl⟩, ⟨rfl, by kernel_rfl⟩, ⟨rfl, by kernel_rfl⟩, ⟨rfl, by kernel_rfl⟩, ⟨rfl, by kernel_rfl⟩, ⟨rfl, by kernel_rfl⟩, ⟨rfl, by kernel_rfl⟩, ⟨rfl, by kernel_rfl⟩, ⟨rfl, by kernel_rfl⟩, ⟨rfl, by kernel_rfl⟩, ⟨rfl, by kernel_rfl⟩, ⟨rfl, by kernel_rfl⟩, ⟨rfl, by kernel_rfl⟩, ⟨rfl, by kernel_rfl⟩, ⟨rfl, by kernel_rfl⟩, ⟨rfl, by kernel_rfl⟩, ⟨rfl, by kernel_rfl⟩, ⟨rfl, by kernel_rfl⟩, trivial⟩
theorem tabs : tabB? Tryd.prog tabB = true := by kernel_rfl
theorem exts : ExtFns Tryd.prog extsB := by
  unfold extsB
  exact ⟨fun args w => Go.run_callFunc_extern (fn := Tryd.f90) (e := Extern.BytealgIndexByte.indexByte) (by kernel_rfl) (by kernel_rfl) (by kernel_rfl) (by kernel_rfl) (by kernel_rfl) args w, trivial, fun args w => Go.run_callFunc_extern (fn := Tryd.f94) (e := Extern.BytealgCount.count) (by kernel_rfl) (by kernel_rfl) (by kernel_rfl) (by kernel_rfl) (by kernel_rfl) args w, trivial⟩
def ren17 : Go.Shelf.Ren := ⟨fun | 24 => 17 | n => n, fun | 0 => 0 | 3 => 3 | 4 => 4 | 9 => 32 | 24 => 27 | n => n, fun n => n⟩
theorem lay17 : DelLay Tryd.prog ren17 3 (.agg #[(.string (bs [])), (.slice none 0 0), (.slice none 0 0)]) where
  f24 := ⟨ "slices.Delete[[]loop.example/mailwire/impl.Mail,loop.example/mailwire/impl.Mail]", by decide, Tryd.func17.trans (congrArg some (by kernel_rfl))⟩
  z1 := by decide
  mixed := by kernel_rfl
  t0 := Tryd.underlying0
  a0 := Tryd.isAgg0
  z0 := Tryd.sizeOf0
  v0 := Tryd.zeroValue0
  t3 := Tryd.underlying3
  a3 := Tryd.isAgg3
  z3 := Tryd.sizeOf3
  v3 := Tryd.zeroValue3
  t4 := Tryd.underlying4
  a4 := Tryd.isAgg4
  z4 := Tryd.sizeOf4
  v4 := Tryd.zeroValue4
  t24 := Tryd.underlying27
  a24 := Tryd.isAgg27
  z24 := Tryd.sizeOf27
  v24 := Tryd.zeroValue27
  z9 := Tryd.sizeOf32
  v9 := Tryd.zeroValue32
  i9 := by kernel_rfl
  zs := rfl
  es0 := by decide
theorem primsA_ok : PrimsOk Tryd.prog 0 primA := ⟨fun args hp r hp' h => del_owes 0 lay17 h, trivial⟩
theorem base_ok : BaseOk Tryd.prog base where
  tab := tab_ok tabs
  fn := fns_ok fns
  ext := ext_ok exts
  prim := prims_ok (P := Tryd.prog) (ng := 0) primsA_ok
  mixed := by kernel_rfl
theorem primsV_ok : PrimsSim vb primV := ⟨fun args H r H' h => delV_sim (b := base) rfl h, trivial⟩
theorem vb_ok : BaseVOk vb where
  zero := tab_zero (tab_ok tabs)
  sl := tab_sl (tab_ok tabs)
  gd := fun g cs h => by cases h
  pos := tab_pos (by kernel_rfl)
  noprim := fun f h => look_keys (f := f) (l := primV) (l' := primA) rfl h
  prim := prims_sim primsV_ok
end Go.Proofs.YtikpckcdpmjpgaaDoor.Q
