/- The program's functions, types and marks, as the machines take them. -/
import Derived.Test.YtjobinbeggkliabDoorProg
import Derived.Test.YtjobinbeggkliabDoorFnExactSpeakMailK4
import Derived.KernelRfl
namespace Go.Proofs.YtjobinbeggkliabDoor.Q
open Go Go.AM Go.Proofs Go.Shelf
set_option linter.unusedVariables false
def id_laws_FnExactSpeakMail : Nat := 3
def id_laws_szMail : Nat := 5
def id_laws_szStringS : Nat := 17
def id_laws_toMail : Nat := 7
def id_laws_toStringS : Nat := 20
def id_spec_SpeakMail : Nat := 6
def id_spec_MailValid : Nat := 18
def id_spec_l10Draft : Nat := 29
def id_spec_l10Box : Nat := 35
def id_spec_l2Box : Nat := 42
def id_spec_l2Cut : Nat := 47
def id_spec_l1Read : Nat := 56
def id_spec_LowerText : Nat := 48
def id_spec_AddressValid : Nat := 49
def id_spec_l2Name : Nat := 57
def id_spec_TextValid : Nat := 19
def id_spec_l2Local : Nat := 58
def id_spec_l2Parts : Nat := 66
def id_spec_AtomValid : Nat := 67
def id_spec_l1Atom : Nat := 77
def id_spec_l1Letter : Nat := 68
def id_spec_l2Domain : Nat := 59
def id_impl_SpeakMail : Nat := 8
def id_impl_MailValid : Nat := 21
def id_impl_draftValid : Nat := 30
def id_impl_isFrom : Nat := 36
def id_impl_isPath : Nat := 38
def id_strings_Cut : Nat := 43
def id_internal_stringslite_Cut : Nat := 50
def id_internal_stringslite_Index : Nat := 60
def id_internal_stringslite_IndexByte : Nat := 69
def id_internal_bytealg_IndexByteString : Nat := 78
def id_internal_bytealg_IndexString : Nat := 70
def id_internal_bytealg_Cutover : Nat := 71
def id_internal_bytealg_IndexRabinKarp_string_ : Nat := 72
def id_internal_bytealg_hashStr_string_ : Nat := 79
def id_impl_isLocal : Nat := 44
def id_strings_Split : Nat := 51
def id_strings_genSplit : Nat := 61
def id_strings_explode : Nat := 73
def id_unicode_utf8_RuneCountInString : Nat := 80
def id_unicode_utf8_DecodeRuneInString : Nat := 81
def id_unicode_utf8_decodeRuneInStringSlow : Nat := 83
def id_strings_Count : Nat := 74
def id_internal_bytealg_CountString : Nat := 82
def id_strings_Index : Nat := 75
def id_slices_ContainsFunc___string_string_ : Nat := 23
def id_slices_IndexFunc___string_string_ : Nat := 32
def id_impl_isLocal_1 : Nat := 52
def id_impl_AtomValid : Nat := 53
def id_impl_allBytes : Nat := 62
def id_impl_isAtomByte : Nat := 63
def id_impl_isLetter : Nat := 76
def id_impl_isDigit : Nat := 65
def id_impl_isDomain : Nat := 45
def id_impl_isDomain_1 : Nat := 54
def id_impl_isLabel : Nat := 55
def id_impl_isLabel_1 : Nat := 64
def id_impl_draftValid_1 : Nat := 37
def id_impl_areTexts : Nat := 39
def id_impl_areTexts_1 : Nat := 46
def id_impl_TextValid : Nat := 25
def id_impl_stuffed : Nat := 22
def id_strings_HasPrefix : Nat := 31
def id_internal_stringslite_HasPrefix : Nat := 40
def id_impl_SpeakMail_1 : Nat := 24
def id_laws_eqStringS : Nat := 9
def id_laws_eqMail : Nat := 10
def id_laws_markMail : Nat := 11
def id_laws_markStringS : Nat := 12
def id_laws_markText : Nat := 26
def id_laws_heldStringS : Nat := 13
noncomputable def tabB : List (Nat × TI) := [
 (24, ⟨.struct [(0, 1, false), (1, 1, false), (2, 1, false)], true, 3, [(.string (bs [])), (.slice none 0 0), (.slice none 0 0)]⟩),
 (3, ⟨.int .i64, false, 1, [(.int .i64 0)]⟩),
 (28, ⟨.struct [(0, 1, false), (1, 1, false), (2, 1, false)], true, 3, [(.string (bs [])), (.slice none 0 0), (.slice none 0 0)]⟩),
 (22, ⟨.slice 9 1 16 [(.string (bs []))], false, 1, [(.slice none 0 0)]⟩),
 (4, ⟨.bool, false, 1, [(.bool false)]⟩),
 (9, ⟨.str, false, 1, [(.string (bs []))]⟩),
 (5, ⟨.int .u8, false, 1, [(.int .u8 0)]⟩),
 (52, ⟨.struct [(0, 1, false), (1, 1, false), (2, 1, false)], true, 3, [(.string (bs [])), (.string (bs [])), (.string (bs []))]⟩),
 (48, ⟨.slice 5 1 1 [(.int .u8 0)], false, 1, [(.slice none 0 0)]⟩),
 (38, ⟨.other, false, 1, [.nilFunc]⟩),
 (71, ⟨.int .u32, false, 1, [(.int .u32 0)]⟩),
 (21, ⟨.int .i32, false, 1, [(.int .i32 0)]⟩),
 (77, ⟨.arr 256 1, true, 256, [(.int .u8 0), (.int .u8 0), (.int .u8 0), (.int .u8 0), (.int .u8 0), (.int .u8 0), (.int .u8 0), (.int .u8 0), (.int .u8 0), (.int .u8 0), (.int .u8 0), (.int .u8 0), (.int .u8 0), (.int .u8 0), (.int .u8 0), (.int .u8 0), (.int .u8 0), (.int .u8 0), (.int .u8 0), (.int .u8 0), (.int .u8 0), (.int .u8 0), (.int .u8 0), (.int .u8 0), (.int .u8 0), (.int .u8 0), (.int .u8 0), (.int .u8 0), (.int .u8 0), (.int .u8 0), (.int .u8 0), (.int .u8 0), (.int .u8 0), (.int .u8 0), (.int .u8 0), (.int .u8 0), (.int .u8 0), (.int .u8 0), (.int .u8 0), (.int .u8 0), (.int .u8 0), (.int .u8 0), (.int .u8 0), (.int .u8 0), (.int .u8 0), (.int .u8 0), (.int .u8 0), (.int .u8 0), (.int .u8 0), (.int .u8 0), (.int .u8 0), (.int .u8 0), (.int .u8 0), (.int .u8 0), (.int .u8 0), (.int .u8 0), (.int .u8 0), (.int .u8 0), (.int .u8 0), (.int .u8 0), (.int .u8 0), (.int .u8 0), (.int .u8 0), (.int .u8 0), (.int .u8 0), (.int .u8 0), (.int .u8 0), (.int .u8 0), (.int .u8 0), (.int .u8 0), (.int .u8 0), (.int .u8 0), (.int .u8 0), (.int .u8 0), (.int .u8 0), (.int .u8 0), (.int .u8 0), (.int .u8 0), (.int .u8 0), (.int .u8 0), (.int .u8 0), (.int .u8 0), (.int .u8 0), (.int .u8 0), (.int .u8 0), (.int .u8 0), (.int .u8 0), (.int .u8 0), (.int .u8 0), (.int .u8 0), (.int .u8 0), (.int .u8 0), (.int .u8 0), (.int .u8 0), (.int .u8 0), (.int .u8 0), (.int .u8 0), (.int .u8 0), (.int .u8 0), (.int .u8 0), (.int .u8 0), (.int .u8 0), (.int .u8 0), (.int .u8 0), (.int .u8 0), (.int .u8 0), (.int .u8 0), (.int .u8 0), (.int .u8 0), (.int .u8 0), (.int .u8 0), (.int .u8 0), (.int .u8 0), (.int .u8 0), (.int .u8 0), (.int .u8 0), (.int .u8 0), (.int .u8 0), (.int .u8 0), (.int .u8 0), (.int .u8 0), (.int .u8 0), (.int .u8 0), (.int .u8 0), (.int .u8 0), (.int .u8 0), (.int .u8 0), (.int .u8 0), (.int .u8 0), (.int .u8 0), (.int .u8 0), (.int .u8 0), (.int .u8 0), (.int .u8 0), (.int .u8 0), (.int .u8 0), (.int .u8 0), (.int .u8 0), (.int .u8 0), (.int .u8 0), (.int .u8 0), (.int .u8 0), (.int .u8 0), (.int .u8 0), (.int .u8 0), (.int .u8 0), (.int .u8 0), (.int .u8 0), (.int .u8 0), (.int .u8 0), (.int .u8 0), (.int .u8 0), (.int .u8 0), (.int .u8 0), (.int .u8 0), (.int .u8 0), (.int .u8 0), (.int .u8 0), (.int .u8 0), (.int .u8 0), (.int .u8 0), (.int .u8 0), (.int .u8 0), (.int .u8 0), (.int .u8 0), (.int .u8 0), (.int .u8 0), (.int .u8 0), (.int .u8 0), (.int .u8 0), (.int .u8 0), (.int .u8 0), (.int .u8 0), (.int .u8 0), (.int .u8 0), (.int .u8 0), (.int .u8 0), (.int .u8 0), (.int .u8 0), (.int .u8 0), (.int .u8 0), (.int .u8 0), (.int .u8 0), (.int .u8 0), (.int .u8 0), (.int .u8 0), (.int .u8 0), (.int .u8 0), (.int .u8 0), (.int .u8 0), (.int .u8 0), (.int .u8 0), (.int .u8 0), (.int .u8 0), (.int .u8 0), (.int .u8 0), (.int .u8 0), (.int .u8 0), (.int .u8 0), (.int .u8 0), (.int .u8 0), (.int .u8 0), (.int .u8 0), (.int .u8 0), (.int .u8 0), (.int .u8 0), (.int .u8 0), (.int .u8 0), (.int .u8 0), (.int .u8 0), (.int .u8 0), (.int .u8 0), (.int .u8 0), (.int .u8 0), (.int .u8 0), (.int .u8 0), (.int .u8 0), (.int .u8 0), (.int .u8 0), (.int .u8 0), (.int .u8 0), (.int .u8 0), (.int .u8 0), (.int .u8 0), (.int .u8 0), (.int .u8 0), (.int .u8 0), (.int .u8 0), (.int .u8 0), (.int .u8 0), (.int .u8 0), (.int .u8 0), (.int .u8 0), (.int .u8 0), (.int .u8 0), (.int .u8 0), (.int .u8 0), (.int .u8 0), (.int .u8 0), (.int .u8 0), (.int .u8 0), (.int .u8 0), (.int .u8 0), (.int .u8 0), (.int .u8 0), (.int .u8 0), (.int .u8 0), (.int .u8 0), (.int .u8 0), (.int .u8 0), (.int .u8 0), (.int .u8 0), (.int .u8 0), (.int .u8 0), (.int .u8 0), (.int .u8 0)]⟩),
 (80, ⟨.arr 16 2, true, 32, [(.int .u8 0), (.int .u8 0), (.int .u8 0), (.int .u8 0), (.int .u8 0), (.int .u8 0), (.int .u8 0), (.int .u8 0), (.int .u8 0), (.int .u8 0), (.int .u8 0), (.int .u8 0), (.int .u8 0), (.int .u8 0), (.int .u8 0), (.int .u8 0), (.int .u8 0), (.int .u8 0), (.int .u8 0), (.int .u8 0), (.int .u8 0), (.int .u8 0), (.int .u8 0), (.int .u8 0), (.int .u8 0), (.int .u8 0), (.int .u8 0), (.int .u8 0), (.int .u8 0), (.int .u8 0), (.int .u8 0), (.int .u8 0)]⟩),
 (79, ⟨.struct [(0, 1, false), (1, 1, false)], true, 2, [(.int .u8 0), (.int .u8 0)]⟩),
 (65, ⟨.other, false, 1, [.nilFunc]⟩)]
noncomputable def annB : List (Nat × Ann) := [
 (3, { loc := [1, 6], loops := [], joins := [(25, 27, [(.ret, ⟨[2], [], []⟩), (.normal, ⟨[7, 10], [], []⟩)]), (14, 16, [(.ret, ⟨[2], [], []⟩), (.normal, ⟨[4, 5, 7], [(1, (1, 0))], [(1, 3)]⟩)]), (8, 10, [(.ret, ⟨[2], [], []⟩), (.normal, ⟨[4, 5, 7, 8], [(1, (1, 0)), (6, (6, 0))], [(1, 3), (6, 3)]⟩)])], full := [], dynQ := false }),
 (5, { loc := [2], loops := [], joins := [], full := [], dynQ := false }),
 (17, { loc := [], loops := [(5, ⟨⟨[0, 1, 5], [], []⟩, [(.exit 0, ⟨[1], [], []⟩), (.ret, ⟨[4], [], []⟩)]⟩)], joins := [], full := [], dynQ := false }),
 (7, { loc := [1, 2, 3], loops := [], joins := [], full := [], dynQ := false }),
 (20, { loc := [], loops := [(3, ⟨⟨[0, 3, 4], [], []⟩, [(.exit 0, ⟨[3], [], []⟩)]⟩)], joins := [], full := [], dynQ := false }),
 (6, { loc := [1], loops := [(10, ⟨⟨[4, 6], [(1, (1, 0))], [(1, 3)]⟩, [(.exit 2, ⟨[4], [], []⟩), (.ret, ⟨[2, 3], [], []⟩)]⟩), (5, ⟨⟨[4, 5], [(1, (1, 0))], [(1, 3)]⟩, [(.exit 0, ⟨[4], [(1, (1, 0))], [(1, 3)]⟩)]⟩)], joins := [(12, 11, [(.ret, ⟨[2, 3], [], []⟩), (.normal, ⟨[4, 6], [(1, (1, 0))], [(1, 3)]⟩)]), (13, 15, [(.normal, ⟨[4, 6, 7], [(1, (1, 0))], [(1, 3)]⟩)])], full := [], dynQ := false }),
 (18, { loc := [1], loops := [], joins := [], full := [], dynQ := false }),
 (29, { loc := [1], loops := [(9, ⟨⟨[4], [(1, (1, 0))], [(1, 3)]⟩, [(.exit 2, ⟨[], [], []⟩), (.ret, ⟨[2], [], []⟩)]⟩), (4, ⟨⟨[3], [(1, (1, 0))], [(1, 3)]⟩, [(.exit 0, ⟨[], [(1, (1, 0))], [(1, 3)]⟩), (.ret, ⟨[2], [], []⟩)]⟩)], joins := [(1, 3, [(.ret, ⟨[2], [], []⟩), (.normal, ⟨[], [(1, (1, 0))], [(1, 3)]⟩)])], full := [], dynQ := false }),
 (35, { loc := [3], loops := [], joins := [], full := [], dynQ := false }),
 (42, { loc := [2, 7], loops := [], joins := [], full := [], dynQ := false }),
 (47, { loc := [], loops := [(2, ⟨⟨[0, 1, 7], [], []⟩, [(.exit 0, ⟨[0], [], []⟩), (.ret, ⟨[4, 5, 6], [], []⟩)]⟩)], joins := [], full := [], dynQ := false }),
 (56, { loc := [], loops := [(3, ⟨⟨[0, 6, 7], [], []⟩, [(.exit 0, ⟨[], [], []⟩), (.ret, ⟨[4, 5], [], []⟩)]⟩)], joins := [(5, 4, [(.ret, ⟨[4, 5], [], []⟩), (.normal, ⟨[0, 6, 7], [], []⟩)]), (7, 11, [(.ret, ⟨[4, 5], [], []⟩), (.normal, ⟨[0, 6, 7], [], []⟩)])], full := [], dynQ := false }),
 (48, { loc := [], loops := [(3, ⟨⟨[3, 4], [], []⟩, [(.exit 0, ⟨[3], [], []⟩)]⟩)], joins := [(5, 4, [(.normal, ⟨[3, 4], [], []⟩)])], full := [], dynQ := false }),
 (49, { loc := [1], loops := [], joins := [], full := [], dynQ := false }),
 (57, { loc := [], loops := [], joins := [], full := [], dynQ := false }),
 (19, { loc := [], loops := [(2, ⟨⟨[0, 3], [], []⟩, [(.exit 0, ⟨[0], [], []⟩), (.ret, ⟨[2], [], []⟩)]⟩)], joins := [(4, 3, [(.ret, ⟨[2], [], []⟩), (.normal, ⟨[0, 3], [], []⟩)]), (2, 4, [(.normal, ⟨[0, 3], [], []⟩), (.exit 0, ⟨[0], [], []⟩)])], full := [], dynQ := false }),
 (58, { loc := [], loops := [(3, ⟨⟨[0, 3, 4], [], []⟩, [(.exit 0, ⟨[0], [], []⟩), (.ret, ⟨[2], [], []⟩)]⟩)], joins := [], full := [], dynQ := false }),
 (66, { loc := [], loops := [(4, ⟨⟨[0, 1, 5, 6, 7], [], []⟩, [(.exit 0, ⟨[0, 5, 6], [], []⟩)]⟩)], joins := [(6, 5, [(.normal, ⟨[0, 1, 5, 6, 7], [], []⟩)])], full := [], dynQ := false }),
 (67, { loc := [], loops := [(2, ⟨⟨[0, 3], [], []⟩, [(.exit 0, ⟨[0], [], []⟩), (.ret, ⟨[2], [], []⟩)]⟩)], joins := [(2, 4, [(.normal, ⟨[0, 3], [], []⟩), (.exit 0, ⟨[0], [], []⟩)])], full := [], dynQ := false }),
 (77, { loc := [], loops := [(2, ⟨⟨[0, 3], [], []⟩, [(.exit 0, ⟨[0], [], []⟩), (.ret, ⟨[2], [], []⟩)]⟩)], joins := [], full := [], dynQ := false }),
 (68, { loc := [], loops := [], joins := [], full := [], dynQ := false }),
 (59, { loc := [], loops := [(3, ⟨⟨[0, 3, 4], [], []⟩, [(.exit 0, ⟨[0], [], []⟩), (.ret, ⟨[2], [], []⟩)]⟩), (9, ⟨⟨[0, 3, 4, 5, 6], [], []⟩, [(.exit 2, ⟨[0, 3, 4], [], []⟩), (.ret, ⟨[2], [], []⟩)]⟩)], joins := [(5, 4, [(.ret, ⟨[2], [], []⟩), (.normal, ⟨[0, 3, 4], [], []⟩)]), (11, 10, [(.ret, ⟨[2], [], []⟩), (.normal, ⟨[0, 3, 4, 5, 6], [], []⟩)]), (6, 8, [(.ret, ⟨[2], [], []⟩), (.normal, ⟨[0, 3, 4, 5], [], []⟩)])], full := [], dynQ := false }),
 (8, { loc := [1], loops := [(11, ⟨⟨[4, 35, 36, 37], [], []⟩, [(.exit 2, ⟨[4], [], []⟩)]⟩), (5, ⟨⟨[4, 18, 19, 20], [(1, (1, 0))], [(1, 3)]⟩, [(.exit 0, ⟨[4], [(1, (1, 0))], [(1, 3)]⟩)]⟩)], joins := [], full := [], dynQ := false }),
 (21, { loc := [1], loops := [], joins := [], full := [], dynQ := false }),
 (30, { loc := [3], loops := [], joins := [], full := [], dynQ := false }),
 (36, { loc := [], loops := [], joins := [], full := [], dynQ := false }),
 (38, { loc := [], loops := [], joins := [], full := [], dynQ := false }),
 (43, { loc := [], loops := [], joins := [], full := [], dynQ := false }),
 (50, { loc := [], loops := [], joins := [], full := [], dynQ := false }),
 (60, { loc := [], loops := [(15, ⟨⟨[0, 1, 5, 6, 7, 8, 9, 10], [], []⟩, [(.exit 1, ⟨[], [], []⟩), (.ret, ⟨[4], [], []⟩)]⟩)], joins := [(21, 23, [(.ret, ⟨[4], [], []⟩), (.normal, ⟨[0, 1, 5, 6, 7, 8, 9, 10], [], []⟩)]), (16, 21, [(.ret, ⟨[4], [], []⟩), (.normal, ⟨[0, 1, 5, 6, 7, 8, 9, 10], [], []⟩)]), (2, 10, [(.ret, ⟨[4], [], []⟩), (.normal, ⟨[0, 1, 5], [], []⟩)])], full := [], dynQ := false }),
 (69, { loc := [], loops := [], joins := [], full := [], dynQ := false }),
 (71, { loc := [], loops := [], joins := [], full := [], dynQ := false }),
 (72, { loc := [], loops := [(11, ⟨⟨[0, 1, 5, 6, 7, 8, 10], [], []⟩, [(.exit 2, ⟨[], [], []⟩), (.ret, ⟨[4], [], []⟩)]⟩), (5, ⟨⟨[0, 1, 5, 6, 7, 8, 9], [], []⟩, [(.exit 0, ⟨[0, 1, 5, 6, 7, 8], [], []⟩)]⟩)], joins := [(8, 10, [(.ret, ⟨[4], [], []⟩), (.normal, ⟨[0, 1, 5, 6, 7, 8], [], []⟩)])], full := [], dynQ := false }),
 (79, { loc := [], loops := [(8, ⟨⟨[4, 6, 7, 8], [], []⟩, [(.exit 2, ⟨[4, 6], [], []⟩)]⟩), (3, ⟨⟨[0, 4, 5], [], []⟩, [(.exit 0, ⟨[0, 4], [], []⟩)]⟩)], joins := [(10, 9, [(.normal, ⟨[4, 6, 7, 8], [], []⟩)]), (10, 12, [(.normal, ⟨[4, 6, 7, 8], [], []⟩)])], full := [], dynQ := false }),
 (44, { loc := [], loops := [], joins := [], full := [], dynQ := false }),
 (51, { loc := [], loops := [], joins := [], full := [], dynQ := false }),
 (61, { loc := [], loops := [(11, ⟨⟨[0, 1, 2, 3, 9, 10], [], []⟩, [(.exit 0, ⟨[0, 9, 10], [], []⟩)]⟩)], joins := [(5, 7, [(.normal, ⟨[0, 1, 2, 3], [], []⟩)])], full := [], dynQ := false }),
 (73, { loc := [], loops := [(6, ⟨⟨[0, 1, 6, 7], [], []⟩, [(.exit 0, ⟨[0, 1, 6], [], []⟩)]⟩)], joins := [(2, 4, [(.normal, ⟨[0, 1], [], []⟩)])], full := [], dynQ := false }),
 (80, { loc := [], loops := [], joins := [], full := [], dynQ := false }),
 (81, { loc := [], loops := [], joins := [], full := [], dynQ := false }),
 (83, { loc := [9], loops := [], joins := [], full := [], dynQ := false }),
 (74, { loc := [], loops := [(6, ⟨⟨[0, 1, 5], [], []⟩, [(.ret, ⟨[4], [], []⟩)]⟩)], joins := [], full := [], dynQ := false }),
 (75, { loc := [], loops := [], joins := [], full := [], dynQ := false }),
 (23, { loc := [], loops := [], joins := [], full := [], dynQ := false }),
 (32, { loc := [], loops := [(2, ⟨⟨[0, 1, 7, 8], [], []⟩, [(.exit 0, ⟨[], [], []⟩), (.ret, ⟨[4], [], []⟩)]⟩)], joins := [], full := [], dynQ := true }),
 (52, { loc := [], loops := [], joins := [], full := [], dynQ := false }),
 (53, { loc := [], loops := [], joins := [], full := [], dynQ := false }),
 (62, { loc := [], loops := [(2, ⟨⟨[0, 1, 7, 8], [], []⟩, [(.exit 0, ⟨[], [], []⟩), (.ret, ⟨[4], [], []⟩)]⟩)], joins := [], full := [], dynQ := true }),
 (63, { loc := [], loops := [], joins := [], full := [], dynQ := false }),
 (76, { loc := [], loops := [], joins := [], full := [], dynQ := false }),
 (65, { loc := [], loops := [], joins := [], full := [], dynQ := false }),
 (45, { loc := [], loops := [], joins := [], full := [], dynQ := false }),
 (54, { loc := [], loops := [], joins := [], full := [], dynQ := false }),
 (55, { loc := [], loops := [], joins := [], full := [], dynQ := false }),
 (64, { loc := [], loops := [], joins := [], full := [], dynQ := false }),
 (37, { loc := [], loops := [], joins := [], full := [], dynQ := false }),
 (39, { loc := [], loops := [], joins := [], full := [], dynQ := false }),
 (46, { loc := [], loops := [], joins := [], full := [], dynQ := false }),
 (25, { loc := [], loops := [(2, ⟨⟨[0, 5, 6], [], []⟩, [(.exit 0, ⟨[0], [], []⟩), (.ret, ⟨[2], [], []⟩)]⟩)], joins := [], full := [], dynQ := false }),
 (22, { loc := [], loops := [], joins := [], full := [], dynQ := false }),
 (31, { loc := [], loops := [], joins := [], full := [], dynQ := false }),
 (40, { loc := [], loops := [], joins := [], full := [], dynQ := false }),
 (24, { loc := [], loops := [], joins := [], full := [], dynQ := false }),
 (9, { loc := [], loops := [(4, ⟨⟨[0, 1, 5], [], []⟩, [(.exit 0, ⟨[], [], []⟩), (.ret, ⟨[4], [], []⟩)]⟩)], joins := [], full := [], dynQ := false }),
 (10, { loc := [2, 3], loops := [], joins := [], full := [], dynQ := false }),
 (11, { loc := [2], loops := [], joins := [], full := [], dynQ := false }),
 (12, { loc := [], loops := [(2, ⟨⟨[0, 1, 5], [], []⟩, [(.exit 0, ⟨[1], [], []⟩)]⟩)], joins := [], full := [], dynQ := false }),
 (26, { loc := [], loops := [(4, ⟨⟨[0, 3], [], []⟩, [(.exit 0, ⟨[3], [], []⟩)]⟩)], joins := [], full := [], dynQ := false }),
 (13, { loc := [], loops := [(2, ⟨⟨[0, 1, 5], [], []⟩, [(.exit 0, ⟨[1], [], []⟩), (.ret, ⟨[4], [], []⟩)]⟩)], joins := [], full := [], dynQ := false })]
noncomputable def fnB : List (Nat × Func) := [
 (3, Tryd.f3), (5, Tryd.f5), (17, Tryd.f17), (7, Tryd.f7), (20, Tryd.f20), (6, Tryd.f6), (18, Tryd.f18), (29, Tryd.f29), (35, Tryd.f35), (42, Tryd.f42), (47, Tryd.f47), (56, Tryd.f56), (48, Tryd.f48), (49, Tryd.f49), (57, Tryd.f57), (19, Tryd.f19), (58, Tryd.f58), (66, Tryd.f66), (67, Tryd.f67), (77, Tryd.f77), (68, Tryd.f68), (59, Tryd.f59), (8, Tryd.f8), (21, Tryd.f21), (30, Tryd.f30), (36, Tryd.f36), (38, Tryd.f38), (43, Tryd.f43), (50, Tryd.f50), (60, Tryd.f60), (69, Tryd.f69), (71, Tryd.f71), (72, Tryd.f72), (79, Tryd.f79), (44, Tryd.f44), (51, Tryd.f51), (61, Tryd.f61), (73, Tryd.f73), (80, Tryd.f80), (81, Tryd.f81), (83, Tryd.f83), (74, Tryd.f74), (75, Tryd.f75), (23, Tryd.f23), (32, Tryd.f32), (52, Tryd.f52), (53, Tryd.f53), (62, Tryd.f62), (63, Tryd.f63), (76, Tryd.f76), (65, Tryd.f65), (45, Tryd.f45), (54, Tryd.f54), (55, Tryd.f55), (64, Tryd.f64), (37, Tryd.f37), (39, Tryd.f39), (46, Tryd.f46), (25, Tryd.f25), (22, Tryd.f22), (31, Tryd.f31), (40, Tryd.f40), (24, Tryd.f24), (9, Tryd.f9), (10, Tryd.f10), (11, Tryd.f11), (12, Tryd.f12), (26, Tryd.f26), (13, Tryd.f13)]
def quietB : List Nat := [3, 5, 17, 18, 29, 35, 47, 56, 48, 49, 57, 19, 58, 67, 77, 68, 59, 21, 30, 36, 38, 43, 50, 60, 69, 71, 72, 79, 44, 80, 81, 83, 74, 75, 23, 32, 52, 53, 62, 63, 76, 65, 45, 54, 55, 64, 37, 39, 46, 25, 22, 31, 40, 24, 9, 10, 26, 13]
def addsB : List Nat := [6, 42, 66, 8, 51, 61, 73]
def takesB : List (Nat × List Nat) := [(3, [2, 3, 15, 3, 17, 2, 19, 5, 27, 8, 36, 37, 38, 2, 2, 9, 47, 9, 49, 51, 57, 58, 59, 2, 10, 63, 10, 11, 66, 11, 68, 2, 70, 71, 2, 73, 13, 83, 84, 85, 2, 11, 89, 11, 91, 2, 93, 94, 2, 2, 2000016, 2000021, 2000022, 2000026, 2000029, 5000029, 3000029, 2000034, 2000043, 2000044, 2000048, 2000054, 2000064, 2000067, 2000075, 2000076, 5000076, 3000076, 2000081, 2000090]), (5, [4, 5, 1, 10, 4, 14, 1, 16, 4, 20, 1, 22, 4, 24, 4]), (17, [4, 6, 1, 10, 4, 5, 12, 18, 20, 1, 25, 4, 16, 5, 27, 4]), (7, [15]), (20, [2, 3, 4, 8, 15, 17, 12, 4, 21, 2]), (6, [2, 3, 2, 3, 4, 5, 17, 24, 27, 4, 22, 5, 34, 4, 6, 37, 46, 7, 49, 51, 52, 56, 7, 58, 2, 3, 62, 63, 4, 42, 6, 66, 2, 3]), (18, [2, 5, 11, 2]), (29, [2, 8, 14, 20, 2, 3, 26, 35, 2, 31, 3, 4, 40, 49, 2, 45, 4, 2]), (35, [2, 6, 5, 4, 10, 11, 18, 2]), (42, [3, 9, 8, 4, 5, 6, 14, 15, 19, 20, 3]), (47, [4, 5, 6, 7, 10, 11, 14, 15, 19, 20, 18, 8, 9, 24, 26, 4, 5, 6, 27, 7, 28, 29, 31, 33, 34, 36, 37, 4, 5, 6, 40, 7, 42, 4, 5, 6]), (56, [4, 5, 6, 8, 7, 10, 11, 16, 17, 20, 21, 4, 5, 23, 24, 27, 7, 29, 30, 4, 5, 33, 34, 35, 36, 6, 14, 7, 4, 5]), (48, [2, 5, 4, 7, 14, 18, 20, 26, 28, 11, 4, 2]), (49, [2, 6, 12, 17, 23, 2]), (57, [2, 3, 5, 6, 2]), (19, [2, 3, 4, 5, 8, 9, 14, 15, 18, 19, 20, 2, 12, 3, 24, 2]), (58, [2, 5, 4, 7, 14, 2, 11, 4, 19, 2]), (66, [4, 5, 6, 7, 9, 10, 15, 16, 18, 20, 21, 22, 23, 5, 27, 6, 13, 7, 29, 30, 31, 4]), (67, [2, 3, 4, 5, 8, 9, 14, 15, 2, 12, 3, 19, 22, 23, 2]), (77, [2, 3, 4, 8, 9, 2, 6, 3, 12, 2]), (68, [2, 3, 5, 6, 9, 10, 12, 13, 17, 18, 20, 21, 2]), (59, [2, 7, 4, 9, 16, 5, 19, 21, 22, 26, 27, 28, 2, 6, 34, 35, 40, 41, 45, 46, 47, 51, 52, 53, 56, 57, 58, 2, 38, 6, 13, 4, 63, 2]), (8, [2, 3, 2, 3, 4, 20, 6, 24, 25, 4, 20, 31, 4, 37, 8, 41, 42, 4, 37, 2, 3, 49, 2, 3]), (21, [2, 2]), (30, [6, 10, 14, 17, 23, 29, 32, 6]), (36, [2, 3, 5, 6, 2]), (38, [2, 7, 6, 3, 4, 5, 12, 13, 14, 17, 18, 2]), (43, [4, 5, 6, 7, 8, 4, 5, 6]), (50, [4, 5, 6, 8, 9, 7, 11, 13, 14, 16, 17, 18, 4, 5, 6, 22, 4, 5, 6]), (60, [4, 14, 5, 17, 19, 20, 21, 16, 4, 25, 24, 27, 28, 4, 32, 33, 31, 4, 37, 40, 41, 36, 45, 46, 4, 48, 6, 50, 7, 8, 52, 54, 9, 10, 57, 58, 60, 61, 63, 65, 66, 68, 70, 11, 72, 4, 74, 75, 8, 78, 79, 82, 84, 85, 86, 87, 88, 91, 94, 4, 95, 8, 97, 10, 99, 102, 103, 104, 108, 109, 111, 12, 113, 115, 116, 4, 4, 118, 121, 122, 123, 128, 129, 130, 133, 134, 136, 13, 138, 4, 140, 141, 4, 4]), (69, [4, 5, 6, 4]), (71, [2, 3, 2]), (72, [4, 12, 11, 5, 6, 16, 7, 8, 9, 18, 19, 23, 25, 26, 8, 21, 9, 30, 31, 33, 34, 35, 37, 4, 40, 10, 41, 42, 45, 8, 47, 48, 49, 8, 53, 54, 55, 56, 57, 8, 63, 10, 65, 66, 68, 69, 70, 71, 73, 75, 78, 79, 4, 4]), (79, [2, 3, 4, 5, 9, 10, 15, 17, 18, 4, 13, 5, 6, 7, 22, 8, 24, 28, 31, 32, 6, 34, 35, 7, 26, 8, 37, 38, 2, 3]), (44, [2, 3, 6, 7, 2]), (51, [4, 5, 6, 4]), (61, [8, 12, 8, 14, 16, 17, 8, 19, 21, 22, 3, 25, 26, 3, 30, 32, 3, 10, 34, 35, 37, 38, 11, 40, 43, 44, 45, 46, 50, 51, 52, 0, 56, 10, 59, 60, 63, 8]), (73, [4, 10, 5, 12, 14, 15, 16, 19, 1, 20, 6, 7, 22, 23, 29, 28, 8, 9, 34, 35, 36, 39, 40, 0, 26, 7, 42, 45, 47, 49, 4]), (80, [2, 3, 7, 2, 9, 2]), (81, [2, 3, 4, 6, 7, 11, 2, 3, 15, 14, 2, 3]), (83, [2, 3, 13, 4, 15, 2, 3, 17, 5, 19, 6, 22, 24, 7, 28, 31, 33, 2, 3, 36, 8, 39, 43, 44, 2, 3, 46, 10, 48, 52, 55, 2, 3, 58, 60, 64, 2, 3, 68, 11, 70, 72, 73, 2, 3, 76, 78, 82, 87, 2, 3, 91, 12, 93, 95, 96, 2, 3, 99, 103, 108, 113, 2, 3]), (74, [4, 7, 10, 4, 13, 16, 17, 4, 5, 20, 21, 6, 23, 25, 4, 26, 5, 28, 29, 30, 0]), (75, [4, 5, 6, 4]), (23, [4, 6, 4]), (32, [4, 8, 10, 5, 11, 13, 17, 4, 8, 4]), (52, [2, 3, 2]), (53, [2, 3, 6, 7, 11, 12, 2]), (62, [4, 6, 8, 10, 5, 11, 12, 13, 4, 8, 4]), (63, [2, 3, 5, 6, 9, 10, 13, 14, 16, 17, 21, 22, 25, 26, 29, 30, 33, 34, 37, 38, 41, 42, 45, 46, 48, 49, 53, 54, 56, 57, 2]), (76, [2, 3, 5, 6, 9, 10, 12, 13, 2]), (65, [2, 3, 5, 6, 2]), (45, [2, 3, 6, 7, 2]), (54, [2, 3, 2]), (55, [2, 3, 5, 6, 10, 11, 12, 18, 19, 2]), (64, [2, 3, 5, 6, 9, 10, 13, 14, 2]), (37, [2, 3, 2]), (39, [4, 7, 9, 4]), (46, [2, 3, 2]), (25, [2, 4, 6, 8, 3, 9, 10, 13, 14, 15, 2, 6, 20, 2]), (22, [2, 3, 5, 2, 7, 2]), (31, [4, 5, 6, 4]), (40, [4, 5, 7, 10, 11, 12, 15, 4]), (24, [2, 3, 2]), (9, [4, 4, 5, 11, 18, 22, 4, 15, 5, 4]), (10, [4, 4, 4, 4, 4]), (11, [4, 7, 1, 11, 1, 13, 4]), (12, [4, 5, 6, 13, 14, 17, 1, 10, 5, 19, 4]), (26, [2, 4, 2, 3, 6, 8, 14, 3, 16, 0, 18, 2]), (13, [4, 5, 6, 13, 16, 4, 19, 1, 10, 5, 21, 4])]
def mvB : List (Nat × List Nat) := []
def extsB : List (Nat × Nat) := [(78, 0), (70, 2), (82, 1)]
noncomputable def primA : List (Nat × (List Value -> Heap -> Option (Value × Heap))) := []
noncomputable def primV : List (Nat × (List V -> VH -> Option (V × VH))) := []
noncomputable def base : Base where
 ng := 0
 tab := tabB
 fn := Go.AM.look fnB
 ann := annOf annB
 kind := kindX quietB addsB extsB
 ext := extA
 prim := fun f => Go.AM.look primA f
def globB : Nat -> Option (List V) := fun _ => none
noncomputable def vb : BaseV where
 b := base
 glob := globB
 takes := listOf takesB
 mv := listOf mvB
 prim := fun f => Go.AM.look primV f
noncomputable def cv : CallV := callV vb
noncomputable def pc : FuncId -> List V -> Option V := pcall cv
noncomputable def qc : FuncId -> List V -> Option V := qpcall cv
noncomputable def pco : FuncId -> VH -> List V -> Option V := pcallO cv
noncomputable def pcu : FuncId -> VH -> List V -> Option V := pcallU cv
noncomputable def qco : FuncId -> VH -> List V -> Option V := qpcallO cv
set_option maxRecDepth 100000 in
theorem fns : FnsOk Tryd.prog fnB := by
 unfold fnB
 refine ⟨⟨rfl, by kernel_rfl⟩, ⟨rfl, by kernel_rfl⟩, ⟨rfl, by kernel_rfl⟩, ⟨rfl, by kernel_rfl⟩, ⟨rfl, by kernel_rfl⟩, ⟨rfl, by kernel_rfl⟩, ⟨rfl, by kernel_rfl⟩, ⟨rfl, by kernel_rfl⟩, ⟨rfl, by kernel_rfl⟩, ⟨rfl, by kernel_rfl⟩, ⟨rfl, by kernel_rfl⟩, ⟨rfl, by kernel_rfl⟩, ⟨rfl, by kernel_rfl⟩, ⟨rfl, by kernel_rfl⟩, ⟨rfl, by kernel_rfl⟩, ⟨rfl, by kernel_rfl⟩, ⟨rfl, by kernel_rfl⟩, ⟨rfl, by kernel_rfl⟩, ⟨rfl, by kernel_rfl⟩, ⟨rfl, by kernel_rfl⟩, ⟨rfl, by kernel_rfl⟩, ⟨rfl, by kernel_rfl⟩, ⟨rfl, by kernel_rfl⟩, ⟨rfl, by kernel_rfl⟩, ⟨rfl, by kernel_rfl⟩, ⟨rfl, by kernel_rfl⟩, ⟨rfl, by kernel_rfl⟩, ⟨rfl, by kernel_rfl⟩, ⟨rfl, by kernel_rfl⟩, ⟨rfl, by kernel_rfl⟩, ⟨rfl, by kernel_rfl⟩, ⟨rfl, by kernel_rfl⟩, ⟨rfl, by kernel_rfl⟩, ⟨rfl, by kernel_rfl⟩, ⟨rfl, by kernel_rfl⟩, ⟨rfl, by kernel_rfl⟩, ⟨rfl, by kernel_rfl⟩, ⟨rfl, by kernel_rfl⟩, ⟨rfl, by kernel_rfl⟩, ⟨rfl, by kernel_rfl⟩, ⟨rfl, by kernel_rfl⟩, ⟨rfl, by kernel_rfl⟩, ⟨rfl, by kernel_rfl⟩, ⟨rfl, by kernel_rfl⟩, ⟨rfl, by kernel_rfl⟩, ⟨rfl, by kernel_rfl⟩, ⟨rfl, by kernel_rfl⟩, ⟨rfl, by kernel_rfl⟩, ⟨rfl, by kernel_rfl⟩, ⟨rfl, by kernel_rfl⟩, ⟨rfl, by kernel_rfl⟩, ⟨rfl, by kernel_rfl⟩, ⟨rfl, by kernel_rfl⟩, ⟨rfl, by kernel_rfl⟩, ⟨rfl, by kernel_rfl⟩, ⟨rfl, by kernel_rfl⟩, ⟨rfl, by kernel_rfl⟩, ⟨rfl, by kernel_rfl⟩, ⟨rfl, by kernel_rfl⟩, ⟨rfl, by kernel_rfl⟩, ⟨rfl, by kernel_rfl⟩, ⟨rfl, by kernel_rfl⟩, ⟨rfl, by kernel_rfl⟩, ⟨rfl, by kernel_rfl⟩, ⟨rfl, by kernel_rfl⟩, ⟨rfl, by kernel_rfl⟩, ⟨rfl, by kernel_rfl⟩, ⟨rfl, by kernel_rfl⟩, ⟨rfl, by kernel_rfl⟩, trivial⟩
theorem tabs : tabB? Tryd.prog tabB = true := by kernel_rfl
theorem exts : ExtFns Tryd.prog extsB := by
 unfold extsB
 exact ⟨fun args w => Go.run_callFunc_extern (fn := Tryd.f78) (e := Extern.BytealgIndexByte.indexByte) (by kernel_rfl) (by kernel_rfl) (by kernel_rfl) (by kernel_rfl) (by kernel_rfl) args w, trivial, fun args w => Go.run_callFunc_extern (fn := Tryd.f82) (e := Extern.BytealgCount.count) (by kernel_rfl) (by kernel_rfl) (by kernel_rfl) (by kernel_rfl) (by kernel_rfl) args w, trivial⟩
theorem primsA_ok : PrimsOk Tryd.prog 0 primA := trivial
theorem base_ok : BaseOk Tryd.prog base where
 tab := tab_ok tabs
 fn := fns_ok fns
 ext := ext_ok exts
 prim := prims_ok (P := Tryd.prog) (ng := 0) primsA_ok
 mixed := by kernel_rfl
theorem primsV_ok : PrimsSim vb primV := trivial
theorem vb_ok : BaseVOk vb where
 zero := tab_zero (tab_ok tabs)
 sl := tab_sl (tab_ok tabs)
 gd := fun g cs h => by cases h
 pos := tab_pos (by kernel_rfl)
 noprim := fun f h => look_keys (f := f) (l := primV) (l' := primA) rfl h
 prim := prims_sim primsV_ok
end Go.Proofs.YtjobinbeggkliabDoor.Q
