/- The program's functions, types and marks, as the machines take them. -/
import Derived.Test.YtpmpggihngmnoaaGreatDoorProg
import Derived.Test.YtpmpggihngmnoaaGreatDoorFnScriptSayK4
import Derived.KernelRfl
namespace Go.Proofs.YtpmpggihngmnoaaGreatDoor.Q
open Go Go.AM Go.Proofs Go.Shelf
set_option linter.unusedVariables false
def id_laws_FnScriptSay : Nat := 8
def id_spec_DrawSpeakMail : Nat := 24
def id_spec_l13Open : Nat := 29
def id_spec_l10DrawMail : Nat := 31
def id_spec_l13Rd_of : Nat := 35
def id_spec_l13Rd_pick : Nat := 74
def id_spec_l13Rd_num : Nat := 34
def id_spec_l10WrongMail : Nat := 30
def id_spec_l10Mail : Nat := 45
def id_impl_SpeakMail : Nat := 25
def id_impl_MailValid : Nat := 16
def id_impl_draftValid : Nat := 50
def id_impl_isFrom : Nat := 98
def id_impl_isPath : Nat := 55
def id_strings_Cut : Nat := 107
def id_internal_stringslite_Cut : Nat := 140
def id_internal_stringslite_Index : Nat := 174
def id_internal_stringslite_IndexByte : Nat := 210
def id_internal_bytealg_IndexByteString : Nat := 235
def id_internal_bytealg_IndexString : Nat := 211
def id_internal_bytealg_Cutover : Nat := 212
def id_internal_bytealg_IndexRabinKarp_string_ : Nat := 213
def id_internal_bytealg_hashStr_string_ : Nat := 236
def id_impl_isLocal : Nat := 108
def id_strings_Split : Nat := 64
def id_strings_genSplit : Nat := 117
def id_strings_explode : Nat := 146
def id_unicode_utf8_RuneCountInString : Nat := 180
def id_unicode_utf8_DecodeRuneInString : Nat := 181
def id_unicode_utf8_decodeRuneInStringSlow : Nat := 218
def id_strings_Count : Nat := 147
def id_internal_bytealg_CountString : Nat := 182
def id_strings_Index : Nat := 148
def id_slices_ContainsFunc___string_string_ : Nat := 67
def id_slices_IndexFunc___string_string_ : Nat := 123
def id_impl_isLocal_1 : Nat := 141
def id_impl_AtomValid : Nat := 142
def id_impl_allBytes : Nat := 128
def id_impl_isAtomByte : Nat := 175
def id_impl_isLetter : Nat := 214
def id_impl_isDigit : Nat := 130
def id_impl_isDomain : Nat := 37
def id_impl_isDomain_1 : Nat := 80
def id_impl_isLabel : Nat := 81
def id_impl_isLabel_1 : Nat := 129
def id_impl_draftValid_1 : Nat := 99
def id_impl_areTexts : Nat := 100
def id_impl_areTexts_1 : Nat := 135
def id_impl_TextValid : Nat := 69
def id_impl_stuffed : Nat := 66
def id_strings_HasPrefix : Nat := 82
def id_internal_stringslite_HasPrefix : Nat := 131
def id_impl_SpeakMail_1 : Nat := 68
def id_spec_SpeakMail : Nat := 26
def id_spec_MailValid : Nat := 41
def id_spec_l10Draft : Nat := 87
def id_spec_l10Box : Nat := 113
def id_spec_l2Box : Nat := 144
def id_spec_l2Cut : Nat := 177
def id_spec_l1Read : Nat := 215
def id_spec_LowerText : Nat := 172
def id_spec_AddressValid : Nat := 178
def id_spec_l2Name : Nat := 216
def id_spec_TextValid : Nat := 70
def id_spec_l2Local : Nat := 217
def id_spec_l2Parts : Nat := 88
def id_spec_AtomValid : Nat := 237
def id_spec_l1Atom : Nat := 249
def id_spec_l1Letter : Nat := 89
def id_spec_l2Domain : Nat := 42
def id_laws_mwTexts : Nat := 14
def id_impl_SayLine : Nat := 27
def id_impl_SessionValid : Nat := 71
def id_impl_mailsValid : Nat := 106
def id_slices_ContainsFunc___impl_Mail_impl_Mail_ : Nat := 138
def id_slices_IndexFunc___impl_Mail_impl_Mail_ : Nat := 173
def id_impl_mailsValid_1 : Nat := 139
def id_impl_copySession : Nat := 72
def id_impl_copyMail : Nat := 39
def id_slices_Clone___string_string_ : Nat := 84
def id_impl_copyMails : Nat := 111
def id_impl_Session_say : Nat := 73
def id_impl_Session_sayData : Nat := 124
def id_strings_TrimPrefix : Nat := 168
def id_internal_stringslite_TrimPrefix : Nat := 207
def id_impl_Session_sayCommand : Nat := 125
def id_impl_outside : Nat := 169
def id_impl_quoted : Nat := 208
def id_impl_LowerText : Nat := 83
def id_impl_pathIn : Nat := 170
def id_impl_SameText : Nat := 156
def id_strings_CutSuffix : Nat := 195
def id_internal_stringslite_CutSuffix : Nat := 223
def id_internal_stringslite_HasSuffix : Nat := 241
def id_strings_CutPrefix : Nat := 209
def id_internal_stringslite_CutPrefix : Nat := 234
def id_impl_ReplyText : Nat := 28
def id_impl_RunScript : Nat := 21
def id_impl_newGate : Nat := 63
def id_impl_DateOf : Nat := 116
def id_impl_between : Nat := 76
def id_impl_isZone : Nat := 78
def id_impl_DaysOf : Nat := 77
def id_impl_DateValid : Nat := 36
def id_impl_Date_seconds : Nat := 79
def id_impl_daysBefore : Nat := 97
def id_impl_gate_line : Nat := 65
def id_impl_gate_wordLine : Nat := 118
def id_impl_gate_sayLine : Nat := 119
def id_impl_gate_pass : Nat := 149
def id_impl_CountHeld : Nat := 150
def id_impl_decimal : Nat := 49
def id_impl_AddBox : Nat := 18
def id_impl_gate_take : Nat := 120
def id_impl_ParseDate : Nat := 121
def id_impl_FormatDate : Nat := 13
def id_impl_WeekdayOf : Nat := 48
def id_impl_readLine : Nat := 122
noncomputable def tabB : List (Nat × TI) := [
 (22, ⟨.slice 5 1 1 [(.int .u8 0)], false, 1, [(.slice none 0 0)]⟩),
 (3, ⟨.int .i64, false, 1, [(.int .i64 0)]⟩),
 (25, ⟨.struct [(0, 1, false), (1, 1, false), (2, 1, false)], true, 3, [(.string (bs [])), (.slice none 0 0), (.slice none 0 0)]⟩),
 (23, ⟨.slice 9 1 16 [(.string (bs []))], false, 1, [(.slice none 0 0)]⟩),
 (4, ⟨.bool, false, 1, [(.bool false)]⟩),
 (52, ⟨.struct [(0, 1, false), (1, 1, false), (2, 3, true), (5, 1, false)], true, 6, [(.int .i64 0), (.string (bs [])), (.string (bs [])), (.slice none 0 0), (.slice none 0 0), (.slice none 0 0)]⟩),
 (9, ⟨.str, false, 1, [(.string (bs []))]⟩),
 (56, ⟨.other, false, 1, [(.pointer none)]⟩),
 (94, ⟨.struct [(0, 1, false), (1, 1, false)], true, 2, [(.slice none 0 0), (.int .i64 0)]⟩),
 (63, ⟨.slice 3 1 8 [(.int .i64 0)], false, 1, [(.slice none 0 0)]⟩),
 (5, ⟨.int .u8, false, 1, [(.int .u8 0)]⟩),
 (66, ⟨.other, false, 1, [.nilFunc]⟩),
 (204, ⟨.int .u32, false, 1, [(.int .u32 0)]⟩),
 (21, ⟨.int .i32, false, 1, [(.int .i32 0)]⟩),
 (207, ⟨.arr 256 1, true, 256, [(.int .u8 0), (.int .u8 0), (.int .u8 0), (.int .u8 0), (.int .u8 0), (.int .u8 0), (.int .u8 0), (.int .u8 0), (.int .u8 0), (.int .u8 0), (.int .u8 0), (.int .u8 0), (.int .u8 0), (.int .u8 0), (.int .u8 0), (.int .u8 0), (.int .u8 0), (.int .u8 0), (.int .u8 0), (.int .u8 0), (.int .u8 0), (.int .u8 0), (.int .u8 0), (.int .u8 0), (.int .u8 0), (.int .u8 0), (.int .u8 0), (.int .u8 0), (.int .u8 0), (.int .u8 0), (.int .u8 0), (.int .u8 0), (.int .u8 0), (.int .u8 0), (.int .u8 0), (.int .u8 0), (.int .u8 0), (.int .u8 0), (.int .u8 0), (.int .u8 0), (.int .u8 0), (.int .u8 0), (.int .u8 0), (.int .u8 0), (.int .u8 0), (.int .u8 0), (.int .u8 0), (.int .u8 0), (.int .u8 0), (.int .u8 0), (.int .u8 0), (.int .u8 0), (.int .u8 0), (.int .u8 0), (.int .u8 0), (.int .u8 0), (.int .u8 0), (.int .u8 0), (.int .u8 0), (.int .u8 0), (.int .u8 0), (.int .u8 0), (.int .u8 0), (.int .u8 0), (.int .u8 0), (.int .u8 0), (.int .u8 0), (.int .u8 0), (.int .u8 0), (.int .u8 0), (.int .u8 0), (.int .u8 0), (.int .u8 0), (.int .u8 0), (.int .u8 0), (.int .u8 0), (.int .u8 0), (.int .u8 0), (.int .u8 0), (.int .u8 0), (.int .u8 0), (.int .u8 0), (.int .u8 0), (.int .u8 0), (.int .u8 0), (.int .u8 0), (.int .u8 0), (.int .u8 0), (.int .u8 0), (.int .u8 0), (.int .u8 0), (.int .u8 0), (.int .u8 0), (.int .u8 0), (.int .u8 0), (.int .u8 0), (.int .u8 0), (.int .u8 0), (.int .u8 0), (.int .u8 0), (.int .u8 0), (.int .u8 0), (.int .u8 0), (.int .u8 0), (.int .u8 0), (.int .u8 0), (.int .u8 0), (.int .u8 0), (.int .u8 0), (.int .u8 0), (.int .u8 0), (.int .u8 0), (.int .u8 0), (.int .u8 0), (.int .u8 0), (.int .u8 0), (.int .u8 0), (.int .u8 0), (.int .u8 0), (.int .u8 0), (.int .u8 0), (.int .u8 0), (.int .u8 0), (.int .u8 0), (.int .u8 0), (.int .u8 0), (.int .u8 0), (.int .u8 0), (.int .u8 0), (.int .u8 0), (.int .u8 0), (.int .u8 0), (.int .u8 0), (.int .u8 0), (.int .u8 0), (.int .u8 0), (.int .u8 0), (.int .u8 0), (.int .u8 0), (.int .u8 0), (.int .u8 0), (.int .u8 0), (.int .u8 0), (.int .u8 0), (.int .u8 0), (.int .u8 0), (.int .u8 0), (.int .u8 0), (.int .u8 0), (.int .u8 0), (.int .u8 0), (.int .u8 0), (.int .u8 0), (.int .u8 0), (.int .u8 0), (.int .u8 0), (.int .u8 0), (.int .u8 0), (.int .u8 0), (.int .u8 0), (.int .u8 0), (.int .u8 0), (.int .u8 0), (.int .u8 0), (.int .u8 0), (.int .u8 0), (.int .u8 0), (.int .u8 0), (.int .u8 0), (.int .u8 0), (.int .u8 0), (.int .u8 0), (.int .u8 0), (.int .u8 0), (.int .u8 0), (.int .u8 0), (.int .u8 0), (.int .u8 0), (.int .u8 0), (.int .u8 0), (.int .u8 0), (.int .u8 0), (.int .u8 0), (.int .u8 0), (.int .u8 0), (.int .u8 0), (.int .u8 0), (.int .u8 0), (.int .u8 0), (.int .u8 0), (.int .u8 0), (.int .u8 0), (.int .u8 0), (.int .u8 0), (.int .u8 0), (.int .u8 0), (.int .u8 0), (.int .u8 0), (.int .u8 0), (.int .u8 0), (.int .u8 0), (.int .u8 0), (.int .u8 0), (.int .u8 0), (.int .u8 0), (.int .u8 0), (.int .u8 0), (.int .u8 0), (.int .u8 0), (.int .u8 0), (.int .u8 0), (.int .u8 0), (.int .u8 0), (.int .u8 0), (.int .u8 0), (.int .u8 0), (.int .u8 0), (.int .u8 0), (.int .u8 0), (.int .u8 0), (.int .u8 0), (.int .u8 0), (.int .u8 0), (.int .u8 0), (.int .u8 0), (.int .u8 0), (.int .u8 0), (.int .u8 0), (.int .u8 0), (.int .u8 0), (.int .u8 0), (.int .u8 0), (.int .u8 0), (.int .u8 0), (.int .u8 0), (.int .u8 0), (.int .u8 0), (.int .u8 0), (.int .u8 0), (.int .u8 0), (.int .u8 0), (.int .u8 0), (.int .u8 0), (.int .u8 0), (.int .u8 0), (.int .u8 0), (.int .u8 0), (.int .u8 0), (.int .u8 0), (.int .u8 0), (.int .u8 0), (.int .u8 0), (.int .u8 0), (.int .u8 0), (.int .u8 0), (.int .u8 0)]⟩),
 (210, ⟨.arr 16 2, true, 32, [(.int .u8 0), (.int .u8 0), (.int .u8 0), (.int .u8 0), (.int .u8 0), (.int .u8 0), (.int .u8 0), (.int .u8 0), (.int .u8 0), (.int .u8 0), (.int .u8 0), (.int .u8 0), (.int .u8 0), (.int .u8 0), (.int .u8 0), (.int .u8 0), (.int .u8 0), (.int .u8 0), (.int .u8 0), (.int .u8 0), (.int .u8 0), (.int .u8 0), (.int .u8 0), (.int .u8 0), (.int .u8 0), (.int .u8 0), (.int .u8 0), (.int .u8 0), (.int .u8 0), (.int .u8 0), (.int .u8 0), (.int .u8 0)]⟩),
 (209, ⟨.struct [(0, 1, false), (1, 1, false)], true, 2, [(.int .u8 0), (.int .u8 0)]⟩),
 (106, ⟨.other, false, 1, [.nilFunc]⟩),
 (136, ⟨.struct [(0, 1, false), (1, 1, false), (2, 1, false)], true, 3, [(.string (bs [])), (.string (bs [])), (.string (bs []))]⟩),
 (50, ⟨.slice 25 3 64 [(.string (bs [])), (.slice none 0 0), (.slice none 0 0)], false, 1, [(.slice none 0 0)]⟩),
 (38, ⟨.other, false, 1, [.nilFunc]⟩),
 (130, ⟨.other, false, 1, [(.pointer none)]⟩),
 (86, ⟨.struct [(0, 1, false), (1, 6, true), (7, 7, true)], true, 14, [(.slice none 0 0), (.int .i64 0), (.string (bs [])), (.string (bs [])), (.slice none 0 0), (.slice none 0 0), (.slice none 0 0), (.int .i64 0), (.int .i64 0), (.int .i64 0), (.int .i64 0), (.int .i64 0), (.int .i64 0), (.int .i64 0)]⟩),
 (27, ⟨.struct [(0, 1, false), (1, 1, false), (2, 1, false), (3, 1, false), (4, 1, false), (5, 1, false), (6, 1, false)], true, 7, [(.int .i64 0), (.int .i64 0), (.int .i64 0), (.int .i64 0), (.int .i64 0), (.int .i64 0), (.int .i64 0)]⟩),
 (125, ⟨.other, false, 1, [(.pointer none)]⟩),
 (39, ⟨.slice 80 2 40 [(.string (bs [])), (.slice none 0 0)], false, 1, [(.slice none 0 0)]⟩),
 (72, ⟨.arr 12 1, true, 12, [(.string (bs [])), (.string (bs [])), (.string (bs [])), (.string (bs [])), (.string (bs [])), (.string (bs [])), (.string (bs [])), (.string (bs [])), (.string (bs [])), (.string (bs [])), (.string (bs [])), (.string (bs []))]⟩),
 (109, ⟨.arr 7 1, true, 7, [(.string (bs [])), (.string (bs [])), (.string (bs [])), (.string (bs [])), (.string (bs [])), (.string (bs [])), (.string (bs []))]⟩),
 (80, ⟨.struct [(0, 1, false), (1, 1, false)], true, 2, [(.string (bs [])), (.slice none 0 0)]⟩)]
noncomputable def annB : List (Nat × Ann) := [
 (8, { loc := [3, 8], loops := [(13, ⟨⟨[9, 10, 11, 12], [(8, (8, 0))], [(8, 6)]⟩, [(.exit 0, ⟨[9, 10], [], []⟩), (.ret, ⟨[2], [], []⟩)]⟩)], joins := [(15, 14, [(.ret, ⟨[2], [], []⟩), (.normal, ⟨[9, 10, 11, 12], [(8, (8, 0))], [(8, 6)]⟩)]), (6, 8, [(.ret, ⟨[2], [], []⟩), (.normal, ⟨[4], [], []⟩)])], full := [55], dynQ := false }),
 (24, { loc := [2], loops := [], joins := [], full := [], dynQ := false }),
 (29, { loc := [], loops := [], joins := [(1, 3, [(.normal, ⟨[0], [], []⟩)])], full := [], dynQ := false }),
 (31, { loc := [2, 3], loops := [(7, ⟨⟨[0, 5], [(2, (2, 0)), (3, (3, 0))], [(2, 3), (3, 3)]⟩, [(.exit 2, ⟨[], [(2, (2, 0)), (3, (3, 0))], [(2, 3), (3, 3)]⟩)]⟩), (3, ⟨⟨[0, 4], [(2, (2, 0)), (3, (3, 0))], [(2, 3), (3, 3)]⟩, [(.exit 0, ⟨[0], [(2, (2, 0)), (3, (3, 0))], [(2, 3), (3, 3)]⟩)]⟩)], joins := [], full := [], dynQ := false }),
 (35, { loc := [], loops := [], joins := [], full := [], dynQ := false }),
 (74, { loc := [], loops := [], joins := [(2, 4, [(.ret, ⟨[4], [], []⟩), (.normal, ⟨[0, 1], [], []⟩)])], full := [], dynQ := false }),
 (34, { loc := [], loops := [], joins := [], full := [], dynQ := false }),
 (30, { loc := [3, 4, 5], loops := [], joins := [], full := [], dynQ := false }),
 (45, { loc := [1, 2], loops := [], joins := [], full := [8, 12], dynQ := false }),
 (25, { loc := [1], loops := [(11, ⟨⟨[4, 35, 36, 37], [], []⟩, [(.exit 2, ⟨[4], [], []⟩)]⟩), (5, ⟨⟨[4, 18, 19, 20], [(1, (1, 0))], [(1, 3)]⟩, [(.exit 0, ⟨[4], [(1, (1, 0))], [(1, 3)]⟩)]⟩)], joins := [], full := [], dynQ := false }),
 (16, { loc := [1], loops := [], joins := [], full := [], dynQ := false }),
 (50, { loc := [3], loops := [], joins := [], full := [], dynQ := false }),
 (98, { loc := [], loops := [], joins := [], full := [], dynQ := false }),
 (55, { loc := [], loops := [], joins := [], full := [], dynQ := false }),
 (107, { loc := [], loops := [], joins := [], full := [], dynQ := false }),
 (140, { loc := [], loops := [], joins := [], full := [], dynQ := false }),
 (174, { loc := [], loops := [(15, ⟨⟨[0, 1, 5, 6, 7, 8, 9, 10], [], []⟩, [(.exit 1, ⟨[], [], []⟩), (.ret, ⟨[4], [], []⟩)]⟩)], joins := [(21, 23, [(.ret, ⟨[4], [], []⟩), (.normal, ⟨[0, 1, 5, 6, 7, 8, 9, 10], [], []⟩)]), (16, 21, [(.ret, ⟨[4], [], []⟩), (.normal, ⟨[0, 1, 5, 6, 7, 8, 9, 10], [], []⟩)]), (2, 10, [(.ret, ⟨[4], [], []⟩), (.normal, ⟨[0, 1, 5], [], []⟩)])], full := [], dynQ := false }),
 (210, { loc := [], loops := [], joins := [], full := [], dynQ := false }),
 (212, { loc := [], loops := [], joins := [], full := [], dynQ := false }),
 (213, { loc := [], loops := [(11, ⟨⟨[0, 1, 5, 6, 7, 8, 10], [], []⟩, [(.exit 2, ⟨[], [], []⟩), (.ret, ⟨[4], [], []⟩)]⟩), (5, ⟨⟨[0, 1, 5, 6, 7, 8, 9], [], []⟩, [(.exit 0, ⟨[0, 1, 5, 6, 7, 8], [], []⟩)]⟩)], joins := [(8, 10, [(.ret, ⟨[4], [], []⟩), (.normal, ⟨[0, 1, 5, 6, 7, 8], [], []⟩)])], full := [], dynQ := false }),
 (236, { loc := [], loops := [(8, ⟨⟨[4, 6, 7, 8], [], []⟩, [(.exit 2, ⟨[4, 6], [], []⟩)]⟩), (3, ⟨⟨[0, 4, 5], [], []⟩, [(.exit 0, ⟨[0, 4], [], []⟩)]⟩)], joins := [(10, 9, [(.normal, ⟨[4, 6, 7, 8], [], []⟩)]), (10, 12, [(.normal, ⟨[4, 6, 7, 8], [], []⟩)])], full := [], dynQ := false }),
 (108, { loc := [], loops := [], joins := [], full := [], dynQ := false }),
 (64, { loc := [], loops := [], joins := [], full := [], dynQ := false }),
 (117, { loc := [], loops := [(11, ⟨⟨[0, 1, 2, 3, 9, 10], [], []⟩, [(.exit 0, ⟨[0, 9, 10], [], []⟩)]⟩)], joins := [(5, 7, [(.normal, ⟨[0, 1, 2, 3], [], []⟩)])], full := [], dynQ := false }),
 (146, { loc := [], loops := [(6, ⟨⟨[0, 1, 6, 7], [], []⟩, [(.exit 0, ⟨[0, 1, 6], [], []⟩)]⟩)], joins := [(2, 4, [(.normal, ⟨[0, 1], [], []⟩)])], full := [], dynQ := false }),
 (180, { loc := [], loops := [], joins := [], full := [], dynQ := false }),
 (181, { loc := [], loops := [], joins := [], full := [], dynQ := false }),
 (218, { loc := [9], loops := [], joins := [], full := [], dynQ := false }),
 (147, { loc := [], loops := [(6, ⟨⟨[0, 1, 5], [], []⟩, [(.ret, ⟨[4], [], []⟩)]⟩)], joins := [], full := [], dynQ := false }),
 (148, { loc := [], loops := [], joins := [], full := [], dynQ := false }),
 (67, { loc := [], loops := [], joins := [], full := [], dynQ := false }),
 (123, { loc := [], loops := [(2, ⟨⟨[0, 1, 7, 8], [], []⟩, [(.exit 0, ⟨[], [], []⟩), (.ret, ⟨[4], [], []⟩)]⟩)], joins := [], full := [], dynQ := true }),
 (141, { loc := [], loops := [], joins := [], full := [], dynQ := false }),
 (142, { loc := [], loops := [], joins := [], full := [], dynQ := false }),
 (128, { loc := [], loops := [(2, ⟨⟨[0, 1, 7, 8], [], []⟩, [(.exit 0, ⟨[], [], []⟩), (.ret, ⟨[4], [], []⟩)]⟩)], joins := [], full := [], dynQ := true }),
 (175, { loc := [], loops := [], joins := [], full := [], dynQ := false }),
 (214, { loc := [], loops := [], joins := [], full := [], dynQ := false }),
 (130, { loc := [], loops := [], joins := [], full := [], dynQ := false }),
 (37, { loc := [], loops := [], joins := [], full := [], dynQ := false }),
 (80, { loc := [], loops := [], joins := [], full := [], dynQ := false }),
 (81, { loc := [], loops := [], joins := [], full := [], dynQ := false }),
 (129, { loc := [], loops := [], joins := [], full := [], dynQ := false }),
 (99, { loc := [], loops := [], joins := [], full := [], dynQ := false }),
 (100, { loc := [], loops := [], joins := [], full := [], dynQ := false }),
 (135, { loc := [], loops := [], joins := [], full := [], dynQ := false }),
 (69, { loc := [], loops := [(2, ⟨⟨[0, 5, 6], [], []⟩, [(.exit 0, ⟨[0], [], []⟩), (.ret, ⟨[2], [], []⟩)]⟩)], joins := [], full := [], dynQ := false }),
 (66, { loc := [], loops := [], joins := [], full := [], dynQ := false }),
 (82, { loc := [], loops := [], joins := [], full := [], dynQ := false }),
 (131, { loc := [], loops := [], joins := [], full := [], dynQ := false }),
 (68, { loc := [], loops := [], joins := [], full := [], dynQ := false }),
 (26, { loc := [1], loops := [(10, ⟨⟨[4, 6], [(1, (1, 0))], [(1, 3)]⟩, [(.exit 2, ⟨[4], [], []⟩), (.ret, ⟨[2, 3], [], []⟩)]⟩), (5, ⟨⟨[4, 5], [(1, (1, 0))], [(1, 3)]⟩, [(.exit 0, ⟨[4], [(1, (1, 0))], [(1, 3)]⟩)]⟩)], joins := [(12, 11, [(.ret, ⟨[2, 3], [], []⟩), (.normal, ⟨[4, 6], [(1, (1, 0))], [(1, 3)]⟩)]), (13, 15, [(.normal, ⟨[4, 6, 7], [(1, (1, 0))], [(1, 3)]⟩)])], full := [], dynQ := false }),
 (41, { loc := [1], loops := [], joins := [], full := [], dynQ := false }),
 (87, { loc := [1], loops := [(9, ⟨⟨[4], [(1, (1, 0))], [(1, 3)]⟩, [(.exit 2, ⟨[], [], []⟩), (.ret, ⟨[2], [], []⟩)]⟩), (4, ⟨⟨[3], [(1, (1, 0))], [(1, 3)]⟩, [(.exit 0, ⟨[], [(1, (1, 0))], [(1, 3)]⟩), (.ret, ⟨[2], [], []⟩)]⟩)], joins := [(1, 3, [(.ret, ⟨[2], [], []⟩), (.normal, ⟨[], [(1, (1, 0))], [(1, 3)]⟩)])], full := [], dynQ := false }),
 (113, { loc := [3], loops := [], joins := [], full := [], dynQ := false }),
 (144, { loc := [2, 7], loops := [], joins := [], full := [], dynQ := false }),
 (177, { loc := [], loops := [(2, ⟨⟨[0, 1, 7], [], []⟩, [(.exit 0, ⟨[0], [], []⟩), (.ret, ⟨[4, 5, 6], [], []⟩)]⟩)], joins := [], full := [], dynQ := false }),
 (215, { loc := [], loops := [(3, ⟨⟨[0, 6, 7], [], []⟩, [(.exit 0, ⟨[], [], []⟩), (.ret, ⟨[4, 5], [], []⟩)]⟩)], joins := [(5, 4, [(.ret, ⟨[4, 5], [], []⟩), (.normal, ⟨[0, 6, 7], [], []⟩)]), (7, 11, [(.ret, ⟨[4, 5], [], []⟩), (.normal, ⟨[0, 6, 7], [], []⟩)])], full := [], dynQ := false }),
 (172, { loc := [], loops := [(3, ⟨⟨[3, 4], [], []⟩, [(.exit 0, ⟨[3], [], []⟩)]⟩)], joins := [(5, 4, [(.normal, ⟨[3, 4], [], []⟩)])], full := [], dynQ := false }),
 (178, { loc := [1], loops := [], joins := [], full := [], dynQ := false }),
 (216, { loc := [], loops := [], joins := [], full := [], dynQ := false }),
 (70, { loc := [], loops := [(2, ⟨⟨[0, 3], [], []⟩, [(.exit 0, ⟨[0], [], []⟩), (.ret, ⟨[2], [], []⟩)]⟩)], joins := [(4, 3, [(.ret, ⟨[2], [], []⟩), (.normal, ⟨[0, 3], [], []⟩)]), (2, 4, [(.normal, ⟨[0, 3], [], []⟩), (.exit 0, ⟨[0], [], []⟩)])], full := [], dynQ := false }),
 (217, { loc := [], loops := [(3, ⟨⟨[0, 3, 4], [], []⟩, [(.exit 0, ⟨[0], [], []⟩), (.ret, ⟨[2], [], []⟩)]⟩)], joins := [], full := [], dynQ := false }),
 (88, { loc := [], loops := [(4, ⟨⟨[0, 1, 5, 6, 7], [], []⟩, [(.exit 0, ⟨[0, 5, 6], [], []⟩)]⟩)], joins := [(6, 5, [(.normal, ⟨[0, 1, 5, 6, 7], [], []⟩)])], full := [], dynQ := false }),
 (237, { loc := [], loops := [(2, ⟨⟨[0, 3], [], []⟩, [(.exit 0, ⟨[0], [], []⟩), (.ret, ⟨[2], [], []⟩)]⟩)], joins := [(2, 4, [(.normal, ⟨[0, 3], [], []⟩), (.exit 0, ⟨[0], [], []⟩)])], full := [], dynQ := false }),
 (249, { loc := [], loops := [(2, ⟨⟨[0, 3], [], []⟩, [(.exit 0, ⟨[0], [], []⟩), (.ret, ⟨[2], [], []⟩)]⟩)], joins := [], full := [], dynQ := false }),
 (89, { loc := [], loops := [], joins := [], full := [], dynQ := false }),
 (42, { loc := [], loops := [(3, ⟨⟨[0, 3, 4], [], []⟩, [(.exit 0, ⟨[0], [], []⟩), (.ret, ⟨[2], [], []⟩)]⟩), (9, ⟨⟨[0, 3, 4, 5, 6], [], []⟩, [(.exit 2, ⟨[0, 3, 4], [], []⟩), (.ret, ⟨[2], [], []⟩)]⟩)], joins := [(5, 4, [(.ret, ⟨[2], [], []⟩), (.normal, ⟨[0, 3, 4], [], []⟩)]), (11, 10, [(.ret, ⟨[2], [], []⟩), (.normal, ⟨[0, 3, 4, 5, 6], [], []⟩)]), (6, 8, [(.ret, ⟨[2], [], []⟩), (.normal, ⟨[0, 3, 4, 5], [], []⟩)])], full := [], dynQ := false }),
 (14, { loc := [], loops := [(4, ⟨⟨[0, 1, 5], [], []⟩, [(.exit 0, ⟨[], [], []⟩), (.ret, ⟨[4], [], []⟩)]⟩)], joins := [], full := [], dynQ := false }),
 (27, { loc := [2, 4], loops := [], joins := [], full := [], dynQ := false }),
 (71, { loc := [1], loops := [], joins := [(3, 9, [(.ret, ⟨[2], [], []⟩), (.normal, ⟨[], [(1, (1, 0))], [(1, 6)]⟩)]), (1, 3, [(.ret, ⟨[2], [], []⟩), (.normal, ⟨[], [(1, (1, 0))], [(1, 6)]⟩)])], full := [], dynQ := false }),
 (106, { loc := [], loops := [], joins := [], full := [], dynQ := false }),
 (138, { loc := [], loops := [], joins := [], full := [], dynQ := false }),
 (173, { loc := [], loops := [(2, ⟨⟨[0, 1, 7, 8], [], []⟩, [(.exit 0, ⟨[], [], []⟩), (.ret, ⟨[4], [], []⟩)]⟩)], joins := [], full := [], dynQ := true }),
 (139, { loc := [1], loops := [], joins := [], full := [], dynQ := false }),
 (72, { loc := [1, 2], loops := [], joins := [], full := [], dynQ := false }),
 (39, { loc := [1, 2], loops := [], joins := [], full := [], dynQ := false }),
 (84, { loc := [], loops := [], joins := [], full := [7], dynQ := false }),
 (111, { loc := [5], loops := [(3, ⟨⟨[3, 7, 8, 9], [], []⟩, [(.exit 0, ⟨[3], [], []⟩)]⟩)], joins := [], full := [], dynQ := false }),
 (73, { loc := [], loops := [], joins := [(1, 5, [(.ret, ⟨[4, 5], [], []⟩), (.normal, ⟨[0, 1], [], []⟩)])], full := [], dynQ := false }),
 (124, { loc := [5], loops := [], joins := [], full := [], dynQ := false }),
 (168, { loc := [], loops := [], joins := [], full := [], dynQ := false }),
 (207, { loc := [], loops := [], joins := [], full := [], dynQ := false }),
 (125, { loc := [], loops := [], joins := [(22, 28, [(.ret, ⟨[4], [], []⟩), (.normal, ⟨[0, 12], [], []⟩)]), (8, 10, [(.ret, ⟨[4], [], []⟩), (.normal, ⟨[0, 9], [], []⟩)]), (2, 5, [(.normal, ⟨[0, 5, 6, 7], [], []⟩)])], full := [], dynQ := false }),
 (169, { loc := [], loops := [(2, ⟨⟨[0, 1, 5], [], []⟩, [(.exit 0, ⟨[], [], []⟩), (.ret, ⟨[4], [], []⟩)]⟩)], joins := [(4, 3, [(.ret, ⟨[4], [], []⟩), (.normal, ⟨[0, 1, 5], [], []⟩)])], full := [], dynQ := false }),
 (208, { loc := [], loops := [(3, ⟨⟨[0, 5, 6], [], []⟩, [(.exit 0, ⟨[], [], []⟩), (.ret, ⟨[2, 3, 4], [], []⟩)]⟩)], joins := [(5, 4, [(.ret, ⟨[2, 3, 4], [], []⟩), (.normal, ⟨[0, 5, 6], [], []⟩)]), (5, 11, [(.ret, ⟨[2, 3, 4], [], []⟩), (.normal, ⟨[0, 5, 6], [], []⟩)])], full := [], dynQ := false }),
 (83, { loc := [], loops := [(3, ⟨⟨[3, 8, 9, 10], [], []⟩, [(.exit 0, ⟨[3], [], []⟩)]⟩)], joins := [], full := [], dynQ := false }),
 (170, { loc := [], loops := [], joins := [(8, 10, [(.normal, ⟨[6], [], []⟩)]), (5, 7, [(.ret, ⟨[4, 5], [], []⟩), (.normal, ⟨[6], [], []⟩)]), (1, 3, [(.ret, ⟨[4, 5], [], []⟩), (.normal, ⟨[0, 1], [], []⟩)])], full := [], dynQ := false }),
 (156, { loc := [], loops := [], joins := [], full := [], dynQ := false }),
 (195, { loc := [], loops := [], joins := [], full := [], dynQ := false }),
 (223, { loc := [], loops := [], joins := [], full := [], dynQ := false }),
 (241, { loc := [], loops := [], joins := [], full := [], dynQ := false }),
 (209, { loc := [], loops := [], joins := [], full := [], dynQ := false }),
 (234, { loc := [], loops := [], joins := [], full := [], dynQ := false }),
 (28, { loc := [], loops := [], joins := [], full := [], dynQ := false }),
 (21, { loc := [], loops := [(5, ⟨⟨[3, 4, 12, 13, 14], [], []⟩, [(.exit 0, ⟨[4], [], []⟩), (.ret, ⟨[2], [], []⟩)]⟩)], joins := [(8, 10, [(.ret, ⟨[2], [], []⟩), (.normal, ⟨[3, 4, 6, 12, 13, 14], [], []⟩)])], full := [], dynQ := false }),
 (63, { loc := [0, 1], loops := [], joins := [], full := [], dynQ := false }),
 (116, { loc := [4, 9], loops := [(8, ⟨⟨[7], [(4, (4, 0)), (9, (9, 0))], [(4, 7), (9, 7)]⟩, [(.exit 0, ⟨[7], [(4, (4, 0)), (9, (9, 0))], [(4, 7), (9, 7)]⟩)]⟩)], joins := [(8, 9, [(.normal, ⟨[7], [(4, (4, 0)), (9, (9, 0))], [(4, 7), (9, 7)]⟩), (.exit 0, ⟨[7], [(4, (4, 0)), (9, (9, 0))], [(4, 7), (9, 7)]⟩)]), (1, 3, [(.ret, ⟨[5], [(4, (4, 0))], [(4, 7)]⟩), (.normal, ⟨[0, 1], [(4, (4, 0))], [(4, 7)]⟩)])], full := [], dynQ := false }),
 (76, { loc := [], loops := [], joins := [], full := [], dynQ := false }),
 (78, { loc := [], loops := [], joins := [], full := [], dynQ := false }),
 (77, { loc := [], loops := [], joins := [(12, 16, [(.normal, ⟨[0, 11, 20], [], []⟩)]), (4, 11, [(.normal, ⟨[0, 11, 12], [], []⟩)]), (1, 3, [(.ret, ⟨[4], [], []⟩), (.normal, ⟨[0, 1], [], []⟩)])], full := [], dynQ := false }),
 (36, { loc := [1], loops := [], joins := [], full := [], dynQ := false }),
 (79, { loc := [1], loops := [], joins := [], full := [], dynQ := false }),
 (97, { loc := [], loops := [(3, ⟨⟨[0, 1, 7, 8], [], []⟩, [(.exit 0, ⟨[7], [], []⟩)]⟩), (6, ⟨⟨[0, 1, 7, 8, 9], [], []⟩, [(.exit 2, ⟨[0, 1, 7, 8], [], []⟩)]⟩)], joins := [(6, 8, [(.normal, ⟨[0, 1, 7, 8, 9], [], []⟩), (.exit 2, ⟨[0, 1, 7, 8], [], []⟩)])], full := [], dynQ := false }),
 (65, { loc := [10], loops := [], joins := [], full := [], dynQ := false }),
 (118, { loc := [], loops := [], joins := [], full := [], dynQ := false }),
 (119, { loc := [5], loops := [], joins := [], full := [], dynQ := false }),
 (49, { loc := [], loops := [(2, ⟨⟨[0, 1, 5], [], []⟩, [(.exit 0, ⟨[5], [], []⟩)]⟩)], joins := [(2, 3, [(.normal, ⟨[0, 1, 5], [], []⟩), (.exit 0, ⟨[5], [], []⟩)])], full := [], dynQ := false }),
 (13, { loc := [1], loops := [], joins := [(4, 6, [(.normal, ⟨[3, 4], [(1, (1, 0))], [(1, 7)]⟩)])], full := [], dynQ := false }),
 (48, { loc := [1], loops := [], joins := [], full := [], dynQ := false })]
noncomputable def fnB : List (Nat × Func) := [
 (8, Tryz.f8), (24, Tryz.f24), (29, Tryz.f29), (31, Tryz.f31), (35, Tryz.f35), (74, Tryz.f74), (34, Tryz.f34), (30, Tryz.f30), (45, Tryz.f45), (25, Tryz.f25), (16, Tryz.f16), (50, Tryz.f50), (98, Tryz.f98), (55, Tryz.f55), (107, Tryz.f107), (140, Tryz.f140), (174, Tryz.f174), (210, Tryz.f210), (212, Tryz.f212), (213, Tryz.f213), (236, Tryz.f236), (108, Tryz.f108), (64, Tryz.f64), (117, Tryz.f117), (146, Tryz.f146), (180, Tryz.f180), (181, Tryz.f181), (218, Tryz.f218), (147, Tryz.f147), (148, Tryz.f148), (67, Tryz.f67), (123, Tryz.f123), (141, Tryz.f141), (142, Tryz.f142), (128, Tryz.f128), (175, Tryz.f175), (214, Tryz.f214), (130, Tryz.f130), (37, Tryz.f37), (80, Tryz.f80), (81, Tryz.f81), (129, Tryz.f129), (99, Tryz.f99), (100, Tryz.f100), (135, Tryz.f135), (69, Tryz.f69), (66, Tryz.f66), (82, Tryz.f82), (131, Tryz.f131), (68, Tryz.f68), (26, Tryz.f26), (41, Tryz.f41), (87, Tryz.f87), (113, Tryz.f113), (144, Tryz.f144), (177, Tryz.f177), (215, Tryz.f215), (172, Tryz.f172), (178, Tryz.f178), (216, Tryz.f216), (70, Tryz.f70), (217, Tryz.f217), (88, Tryz.f88), (237, Tryz.f237), (249, Tryz.f249), (89, Tryz.f89), (42, Tryz.f42), (14, Tryz.f14), (27, Tryz.f27), (71, Tryz.f71), (106, Tryz.f106), (138, Tryz.f138), (173, Tryz.f173), (139, Tryz.f139), (72, Tryz.f72), (39, Tryz.f39), (84, Tryz.f84), (111, Tryz.f111), (73, Tryz.f73), (124, Tryz.f124), (168, Tryz.f168), (207, Tryz.f207), (125, Tryz.f125), (169, Tryz.f169), (208, Tryz.f208), (83, Tryz.f83), (170, Tryz.f170), (156, Tryz.f156), (195, Tryz.f195), (223, Tryz.f223), (241, Tryz.f241), (209, Tryz.f209), (234, Tryz.f234), (28, Tryz.f28), (21, Tryz.f21), (63, Tryz.f63), (116, Tryz.f116), (76, Tryz.f76), (78, Tryz.f78), (77, Tryz.f77), (36, Tryz.f36), (79, Tryz.f79), (97, Tryz.f97), (65, Tryz.f65), (118, Tryz.f118), (119, Tryz.f119), (49, Tryz.f49), (13, Tryz.f13), (48, Tryz.f48)]
def quietB : List Nat := [8, 16, 50, 98, 55, 107, 140, 174, 210, 212, 213, 236, 108, 180, 181, 218, 147, 148, 67, 123, 141, 142, 128, 175, 214, 130, 37, 80, 81, 129, 99, 100, 135, 69, 66, 82, 131, 68, 41, 87, 113, 177, 215, 172, 178, 216, 70, 217, 237, 249, 89, 42, 14, 71, 106, 138, 173, 139, 168, 207, 169, 208, 83, 170, 156, 195, 223, 241, 209, 234, 28, 21, 76, 78, 77, 36, 79, 97, 150, 49, 13, 48, 122]
def addsB : List Nat := [45, 25, 64, 117, 146, 26, 144, 88, 27, 72, 39, 84, 111, 63, 116, 18, 121]
def takesB : List (Nat × List Nat) := [(8, [2, 2, 19, 21, 24, 4, 5, 26, 7, 35, 36, 37, 40, 41, 47, 48, 49, 2, 9, 10, 54, 12, 56, 65, 62, 69, 14, 15, 72, 2, 75, 78, 9, 83, 85, 10, 87, 88, 10, 60, 12, 92, 95, 2]), (24, [4, 3, 6, 7]), (29, [2, 0, 8, 2]), (31, [6, 9, 15, 4, 17, 22, 23, 19, 4, 29, 5, 32, 37, 38, 34, 5, 44]), (35, [4, 6, 4]), (74, [4, 7, 8, 15, 17, 18, 4, 25, 5, 30, 31, 37, 41, 45, 4, 47, 51, 52, 62, 66, 69, 80, 83, 84, 6, 92, 93, 6, 96, 97, 4]), (34, [4, 6, 4]), (30, [8, 10, 12, 16, 20, 23, 27]), (45, [7, 11]), (25, [2, 3, 2, 3, 4, 20, 6, 24, 25, 4, 20, 31, 4, 37, 8, 41, 42, 4, 37, 2, 3, 49, 2, 3]), (16, [2, 2]), (50, [6, 10, 14, 17, 23, 29, 32, 6]), (98, [2, 3, 5, 6, 2]), (55, [2, 7, 6, 3, 4, 5, 12, 13, 14, 17, 18, 2]), (107, [4, 5, 6, 7, 8, 4, 5, 6]), (140, [4, 5, 6, 8, 9, 7, 11, 13, 14, 16, 17, 18, 4, 5, 6, 22, 4, 5, 6]), (174, [4, 14, 5, 17, 19, 20, 21, 16, 4, 25, 24, 27, 28, 4, 32, 33, 31, 4, 37, 40, 41, 36, 45, 46, 4, 48, 6, 50, 7, 8, 52, 54, 9, 10, 57, 58, 60, 61, 63, 65, 66, 68, 70, 11, 72, 4, 74, 75, 8, 78, 79, 82, 84, 85, 86, 87, 88, 91, 94, 4, 95, 8, 97, 10, 99, 102, 103, 104, 108, 109, 111, 12, 113, 115, 116, 4, 4, 118, 121, 122, 123, 128, 129, 130, 133, 134, 136, 13, 138, 4, 140, 141, 4, 4]), (210, [4, 5, 6, 4]), (212, [2, 3, 2]), (213, [4, 12, 11, 5, 6, 16, 7, 8, 9, 18, 19, 23, 25, 26, 8, 21, 9, 30, 31, 33, 34, 35, 37, 4, 40, 10, 41, 42, 45, 8, 47, 48, 49, 8, 53, 54, 55, 56, 57, 8, 63, 10, 65, 66, 68, 69, 70, 71, 73, 75, 78, 79, 4, 4]), (236, [2, 3, 4, 5, 9, 10, 15, 17, 18, 4, 13, 5, 6, 7, 22, 8, 24, 28, 31, 32, 6, 34, 35, 7, 26, 8, 37, 38, 2, 3]), (108, [2, 3, 6, 7, 2]), (64, [4, 5, 6, 4]), (117, [8, 12, 8, 14, 16, 17, 8, 19, 21, 22, 3, 25, 26, 3, 30, 32, 3, 10, 34, 35, 37, 38, 11, 40, 43, 44, 45, 46, 50, 51, 52, 0, 56, 10, 59, 60, 63, 8]), (146, [4, 10, 5, 12, 14, 15, 16, 19, 1, 20, 6, 7, 22, 23, 29, 28, 8, 9, 34, 35, 36, 39, 40, 0, 26, 7, 42, 45, 47, 49, 4]), (180, [2, 3, 7, 2, 9, 2]), (181, [2, 3, 4, 6, 7, 11, 2, 3, 15, 14, 2, 3]), (218, [2, 3, 13, 4, 15, 2, 3, 17, 5, 19, 6, 22, 24, 7, 28, 31, 33, 2, 3, 36, 8, 39, 43, 44, 2, 3, 46, 10, 48, 52, 55, 2, 3, 58, 60, 64, 2, 3, 68, 11, 70, 72, 73, 2, 3, 76, 78, 82, 87, 2, 3, 91, 12, 93, 95, 96, 2, 3, 99, 103, 108, 113, 2, 3]), (147, [4, 7, 10, 4, 13, 16, 17, 4, 5, 20, 21, 6, 23, 25, 4, 26, 5, 28, 29, 30, 0]), (148, [4, 5, 6, 4]), (67, [4, 6, 4]), (123, [4, 8, 10, 5, 11, 13, 17, 4, 8, 4]), (141, [2, 3, 2]), (142, [2, 3, 6, 7, 11, 12, 2]), (128, [4, 6, 8, 10, 5, 11, 12, 13, 4, 8, 4]), (175, [2, 3, 5, 6, 9, 10, 13, 14, 16, 17, 21, 22, 25, 26, 29, 30, 33, 34, 37, 38, 41, 42, 45, 46, 48, 49, 53, 54, 56, 57, 2]), (214, [2, 3, 5, 6, 9, 10, 12, 13, 2]), (130, [2, 3, 5, 6, 2]), (37, [2, 3, 6, 7, 2]), (80, [2, 3, 2]), (81, [2, 3, 5, 6, 10, 11, 12, 18, 19, 2]), (129, [2, 3, 5, 6, 9, 10, 13, 14, 2]), (99, [2, 3, 2]), (100, [4, 7, 9, 4]), (135, [2, 3, 2]), (69, [2, 4, 6, 8, 3, 9, 10, 13, 14, 15, 2, 6, 20, 2]), (66, [2, 3, 5, 2, 7, 2]), (82, [4, 5, 6, 4]), (131, [4, 5, 7, 10, 11, 12, 15, 4]), (68, [2, 3, 2]), (26, [2, 3, 2, 3, 4, 5, 17, 24, 27, 4, 22, 5, 34, 4, 6, 37, 46, 7, 49, 51, 52, 56, 7, 58, 2, 3, 62, 63, 4, 42, 6, 66, 2, 3]), (41, [2, 5, 11, 2]), (87, [2, 8, 14, 20, 2, 3, 26, 35, 2, 31, 3, 4, 40, 49, 2, 45, 4, 2]), (113, [2, 6, 5, 4, 10, 11, 18, 2]), (144, [3, 9, 8, 4, 5, 6, 14, 15, 19, 20, 3]), (177, [4, 5, 6, 7, 10, 11, 14, 15, 19, 20, 18, 8, 9, 24, 26, 4, 5, 6, 27, 7, 28, 29, 31, 33, 34, 36, 37, 4, 5, 6, 40, 7, 42, 4, 5, 6]), (215, [4, 5, 6, 8, 7, 10, 11, 16, 17, 20, 21, 4, 5, 23, 24, 27, 7, 29, 30, 4, 5, 33, 34, 35, 36, 6, 14, 7, 4, 5]), (172, [2, 5, 4, 7, 14, 18, 20, 26, 28, 11, 4, 2]), (178, [2, 6, 12, 17, 23, 2]), (216, [2, 3, 5, 6, 2]), (70, [2, 3, 4, 5, 8, 9, 14, 15, 18, 19, 20, 2, 12, 3, 24, 2]), (217, [2, 5, 4, 7, 14, 2, 11, 4, 19, 2]), (88, [4, 5, 6, 7, 9, 10, 15, 16, 18, 20, 21, 22, 23, 5, 27, 6, 13, 7, 29, 30, 31, 4]), (237, [2, 3, 4, 5, 8, 9, 14, 15, 2, 12, 3, 19, 22, 23, 2]), (249, [2, 3, 4, 8, 9, 2, 6, 3, 12, 2]), (89, [2, 3, 5, 6, 9, 10, 12, 13, 17, 18, 20, 21, 2]), (42, [2, 7, 4, 9, 16, 5, 19, 21, 22, 26, 27, 28, 2, 6, 34, 35, 40, 41, 45, 46, 47, 51, 52, 53, 56, 57, 58, 2, 38, 6, 13, 4, 63, 2]), (14, [4, 4, 5, 11, 18, 22, 4, 15, 5, 4]), (27, [5, 6, 5, 6, 17, 16, 8, 9, 21, 5, 6, 24, 25, 5, 6]), (71, [2, 6, 11, 17, 23, 27, 2, 38, 34, 2, 56, 47, 2, 68, 62, 2, 77, 82, 87, 2]), (106, [4, 7, 9, 4]), (138, [4, 6, 4]), (173, [4, 8, 10, 5, 11, 13, 17, 4, 8, 4]), (139, [2, 2]), (84, [2, 2, 6, 2]), (111, [2, 3, 9, 13, 3, 9, 19, 2]), (73, [4, 5, 7, 12, 13, 6, 4, 5, 18, 17, 23, 24, 4, 5, 26, 27, 4, 5]), (124, [4, 6, 8, 15, 16, 20, 21, 4, 28, 31, 32, 33, 39, 4, 45, 44, 4, 51, 52, 55, 56, 4]), (168, [4, 5, 6, 4]), (207, [4, 5, 6, 8, 9, 4, 12, 4]), (125, [4, 14, 5, 6, 7, 15, 8, 17, 19, 20, 22, 23, 5, 6, 7, 26, 5, 29, 28, 31, 9, 33, 35, 36, 4, 40, 41, 42, 43, 4, 52, 51, 55, 54, 10, 11, 60, 59, 4, 63, 62, 4, 68, 69, 70, 4, 77, 76, 80, 79, 12, 13, 85, 87, 88, 84, 4, 92, 97, 98, 91, 4, 105, 104, 4, 112, 113, 114, 118, 119, 4, 128, 127, 4, 130, 129, 132, 4, 137, 4, 141, 140, 143, 147, 152, 4, 156, 155, 4, 159, 158, 161, 162, 4, 4]), (169, [4, 5, 9, 10, 15, 16, 18, 21, 22, 20, 6, 7, 8, 28, 4, 30, 31, 5, 35, 34, 37, 4, 13, 5, 4]), (208, [2, 3, 4, 5, 6, 8, 9, 15, 16, 14, 21, 2, 3, 4, 24, 25, 23, 28, 6, 30, 31, 2, 3, 4, 34, 35, 36, 5, 12, 6, 2, 3, 4]), (83, [2, 6, 10, 12, 4, 5, 15, 17, 18, 22, 10, 2]), (170, [4, 5, 12, 14, 17, 18, 19, 22, 4, 5, 27, 28, 26, 6, 7, 35, 34, 6, 8, 39, 41, 42, 4, 5, 46, 45, 9, 10, 11, 51, 52, 54, 6, 57, 58, 4, 5]), (156, [4, 5, 7, 4]), (195, [4, 5, 6, 7, 4, 5]), (223, [4, 5, 6, 7, 10, 4, 5, 11, 12, 14, 4, 5]), (241, [4, 5, 7, 10, 11, 12, 14, 18, 4]), (209, [4, 5, 6, 7, 4, 5]), (234, [4, 5, 6, 7, 10, 4, 5, 11, 12, 4, 5]), (28, [2, 3, 4, 2, 6, 2, 8, 2, 10, 2, 12, 2, 14, 2, 16, 2, 18, 2, 2]), (21, [2, 7, 2, 4, 11, 14, 16, 5, 6, 19, 21, 23, 24, 28, 2, 30, 31, 4, 14, 35, 2]), (63, [3, 2]), (116, [5, 10, 13, 14, 5, 19, 20, 6, 23, 5, 26, 28, 7, 8, 30, 32, 35, 37, 42, 43, 51, 7, 70, 5, 5]), (76, [6, 7, 8, 10, 11, 12, 6]), (78, [2, 3, 2]), (77, [4, 5, 7, 8, 4, 11, 12, 12, 12, 12, 12, 12, 12, 4, 20, 20, 20, 20, 4, 25, 27, 30, 31, 35, 36, 4, 4, 4]), (36, [2, 11, 16, 21, 26, 31, 2]), (79, [2, 2]), (97, [6, 10, 7, 8, 12, 13, 9, 17, 19, 20, 21, 23, 24, 25, 31, 32, 33, 7, 29, 9, 15, 8, 36, 6]), (65, [4, 15, 14, 5, 6, 7, 20, 22, 23, 4, 25, 26, 28, 29, 4, 31, 34, 38, 33, 40, 8, 9, 42, 4, 44, 45, 4, 48, 50, 51, 4, 53, 56, 55, 11, 60, 4, 62, 4, 70, 71, 69, 12, 13, 75, 4, 77, 4]), (118, [4, 5, 6, 8, 4, 10, 12, 16, 18, 21, 23, 4, 25, 27, 4, 35, 37, 4, 4, 4]), (119, [4, 9, 13, 8, 15, 6, 7, 18, 4, 20, 21, 24, 4, 26, 4]), (49, [4, 5, 6, 8, 9, 12, 14, 18, 5, 20, 0, 22, 1, 24, 4]), (13, [2, 2, 3, 4, 10, 12, 3, 4, 48, 50, 54, 2]), (48, [2, 2, 2])]
def mvB : List (Nat × List Nat) := [(8, [0]), (24, [0]), (29, [0])]
def extsB : List (Nat × Nat) := [(235, 0), (211, 2), (182, 1)]
noncomputable def primA : List (Nat × (List Value -> Heap -> Option (Value × Heap))) := []
noncomputable def primV : List (Nat × (List V -> VH -> Option (V × VH))) := []
noncomputable def base : Base where
 ng := 1
 tab := tabB
 fn := Go.AM.look fnB
 ann := annOf annB
 kind := kindX quietB addsB extsB
 ext := extA
 prim := fun f => Go.AM.look primA f
def monthsB : List (List UInt8) := [[74, 97, 110], [70, 101, 98], [77, 97, 114], [65, 112, 114], [77, 97, 121], [74, 117, 110], [74, 117, 108], [65, 117, 103], [83, 101, 112], [79, 99, 116], [78, 111, 118], [68, 101, 99]]
def globB : Nat -> Option (List V) := globT 0 monthsB
noncomputable def vb : BaseV where
 b := base
 glob := globB
 takes := listOf takesB
 mv := listOf mvB
 prim := fun f => Go.AM.look primV f
noncomputable def cv : CallV := callV vb
noncomputable def pc : FuncId -> List V -> Option V := pcall cv
noncomputable def qc : FuncId -> List V -> Option V := qpcall cv
noncomputable def pco : FuncId -> VH -> List V -> Option V := pcallO cv
noncomputable def pcu : FuncId -> VH -> List V -> Option V := pcallU cv
noncomputable def qco : FuncId -> VH -> List V -> Option V := qpcallO cv
set_option maxRecDepth 100000 in
theorem fns : FnsOk Tryz.prog fnB := by
 unfold fnB
 refine ⟨⟨rfl, by kernel_rfl⟩, ⟨rfl, by kernel_rfl⟩, ⟨rfl, by kernel_rfl⟩, ⟨rfl, by kernel_rfl⟩, ⟨rfl, by kernel_rfl⟩, ⟨rfl, by kernel_rfl⟩, ⟨rfl, by kernel_rfl⟩, ⟨rfl, by kernel_rfl⟩, ⟨rfl, by kernel_rfl⟩, ⟨rfl, by kernel_rfl⟩, ⟨rfl, by kernel_rfl⟩, ⟨rfl, by kernel_rfl⟩, ⟨rfl, by kernel_rfl⟩, ⟨rfl, by kernel_rfl⟩, ⟨rfl, by kernel_rfl⟩, ⟨rfl, by kernel_rfl⟩, ⟨rfl, by kernel_rfl⟩, ⟨rfl, by kernel_rfl⟩, ⟨rfl, by kernel_rfl⟩, ⟨rfl, by kernel_rfl⟩, ⟨rfl, by kernel_rfl⟩, ⟨rfl, by kernel_rfl⟩, ⟨rfl, by kernel_rfl⟩, ⟨rfl, by kernel_rfl⟩, ⟨rfl, by kernel_rfl⟩, ⟨rfl, by kernel_rfl⟩, ⟨rfl, by kernel_rfl⟩, ⟨rfl, by kernel_rfl⟩, ⟨rfl, by kernel_rfl⟩, ⟨rfl, by kernel_rfl⟩, ⟨rfl, by kernel_rfl⟩, ⟨rfl, by kernel_rfl⟩, ⟨rfl, by kernel_rfl⟩, ⟨rfl, by kernel_rfl⟩, ⟨rfl, by kernel_rfl⟩, ⟨rfl, by kernel_rfl⟩, ⟨rfl, by kernel_rfl⟩, ⟨rfl, by kernel_rfl⟩, ⟨rfl, by kernel_rfl⟩, ⟨rfl, by kernel_rfl⟩, ⟨rfl, by kernel_rfl⟩, ⟨rfl, by kernel_rfl⟩, ⟨rfl, by kernel_rfl⟩, ⟨rfl, by kernel_rfl⟩, ⟨rfl, by kernel_rfl⟩, ⟨rfl, by kernel_rfl⟩, ⟨rfl, by kernel_rfl⟩, ⟨rfl, by kernel_rfl⟩, ⟨rfl, by kernel_rfl⟩, ⟨rfl, by kernel_rfl⟩, ⟨rfl, by kernel_rfl⟩, ⟨rfl, by kernel_rfl⟩, ⟨rfl, by kernel_rfl⟩, ⟨rfl, by kernel_rfl⟩, ⟨rfl, by kernel_rfl⟩, ⟨rfl, by kernel_rfl⟩, ⟨rfl, by kernel_rfl⟩, ⟨rfl, by kernel_rfl⟩, ⟨rfl, by kernel_rfl⟩, ⟨rfl, by kernel_rfl⟩, ⟨rfl, by kernel_rfl⟩, ⟨rfl, by kernel_rfl⟩, ⟨rfl, by kernel_rfl⟩, ⟨rfl, by kernel_rfl⟩, ⟨rfl, by kernel_rfl⟩, ⟨rfl, by kernel_rfl⟩, ⟨rfl, by kernel_rfl⟩, ⟨rfl, by kernel_rfl⟩, ⟨rfl, by kernel_rfl⟩, ⟨rfl, by kernel_rfl⟩, ⟨rfl, by kernel_rfl⟩, ⟨rfl, by kernel_rfl⟩, ⟨rfl, by kernel_rfl⟩, ⟨rfl, by kernel_rfl⟩, ⟨rfl, by kernel_rfl⟩, ⟨rfl, by kernel_rfl⟩, ⟨rfl, by kernel_rfl⟩, ⟨rfl, by kernel_rfl⟩, ⟨rfl, by kernel_rfl⟩, ⟨rfl, by kernel_rfl⟩, ⟨rfl, by kernel_rfl⟩, ⟨rfl, by kernel_rfl⟩, ⟨rfl, by kernel_rfl⟩, ⟨rfl, by kernel_rfl⟩, ⟨rfl, by kernel_rfl⟩, ⟨rfl, by kernel_rfl⟩, ⟨rfl, by kernel_rfl⟩, ⟨rfl, by kernel_rfl⟩, ⟨rfl, by kernel_rfl⟩, ⟨rfl, by kernel_rfl⟩, ⟨rfl, by kernel_rfl⟩, ⟨rfl, by kernel_rfl⟩, ⟨rfl, by kernel_rfl⟩, ⟨rfl, by kernel_rfl⟩, ⟨rfl, by kernel_rfl⟩, ⟨rfl, by kernel_rfl⟩, ⟨rfl, by kernel_rfl⟩, ⟨rfl, by kernel_rfl⟩, ⟨rfl, by kernel_rfl⟩, ⟨rfl, by kernel_rfl⟩, ⟨rfl, by kernel_rfl⟩, ⟨rfl, by kernel_rfl⟩, ⟨rfl, by kernel_rfl⟩, ⟨rfl, by kernel_rfl⟩, ⟨rfl, by kernel_rfl⟩, ⟨rfl, by kernel_rfl⟩, ⟨rfl, by kernel_rfl⟩, ⟨rfl, by kernel_rfl⟩, ⟨rfl, by kernel_rfl⟩, trivial⟩
theorem tabs : tabB? Tryz.prog tabB = true := by kernel_rfl
theorem exts : ExtFns Tryz.prog extsB := by
 unfold extsB
 exact ⟨fun args w => Go.run_callFunc_extern (fn := Tryz.f235) (e := Extern.BytealgIndexByte.indexByte) (by kernel_rfl) (by kernel_rfl) (by kernel_rfl) (by kernel_rfl) (by kernel_rfl) args w, trivial, fun args w => Go.run_callFunc_extern (fn := Tryz.f182) (e := Extern.BytealgCount.count) (by kernel_rfl) (by kernel_rfl) (by kernel_rfl) (by kernel_rfl) (by kernel_rfl) args w, trivial⟩
theorem primsA_ok : PrimsOk Tryz.prog 1 primA := trivial
theorem base_ok : BaseOk Tryz.prog base where
 tab := tab_ok tabs
 fn := fns_ok fns
 ext := ext_ok exts
 prim := prims_ok (P := Tryz.prog) (ng := 1) primsA_ok
 mixed := by kernel_rfl
theorem primsV_ok : PrimsSim vb primV := trivial
theorem vb_ok : BaseVOk vb where
 zero := tab_zero (tab_ok tabs)
 sl := tab_sl (tab_ok tabs)
 gd := fun g cs h => by exact globT_data h
 pos := tab_pos (by kernel_rfl)
 noprim := fun f h => look_keys (f := f) (l := primV) (l' := primA) rfl h
 prim := prims_sim primsV_ok
end Go.Proofs.YtpmpggihngmnoaaGreatDoor.Q
