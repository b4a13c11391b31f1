/- The program's functions, types and marks, as the machines take them. -/
import Derived.Test.YtncekccimhohgaaGreatDoorProg
import Derived.Test.YtncekccimhohgaaGreatDoorFnScriptClearK4
import Derived.KernelRfl
namespace Go.Proofs.YtncekccimhohgaaGreatDoor.Q
open Go Go.AM Go.Proofs Go.Shelf
set_option linter.unusedVariables false
def id_laws_FnScriptClear : Nat := 5
def id_spec_DrawFormatDate : Nat := 15
def id_spec_DrawDateValid : Nat := 39
def id_spec_l13Open : Nat := 25
def id_spec_l4Draw : Nat := 90
def id_spec_l13Rd_num : Nat := 74
def id_spec_l13Rd_pick : Nat := 48
def id_spec_DateOf : Nat := 155
def id_spec_l4Zone : Nat := 157
def id_spec_DaysOf : Nat := 156
def id_spec_l4Leap : Nat := 158
def id_spec_l4Wrong : Nat := 89
def id_impl_FormatDate : Nat := 16
def id_impl_DateValid : Nat := 40
def id_impl_DaysOf : Nat := 92
def id_impl_between : Nat := 91
def id_impl_isZone : Nat := 93
def id_impl_Date_seconds : Nat := 94
def id_impl_daysBefore : Nat := 95
def id_impl_WeekdayOf : Nat := 41
def id_impl_decimal : Nat := 42
def id_spec_FormatDate : Nat := 17
def id_spec_DateValid : Nat := 43
def id_spec_l4Fields : Nat := 96
def id_spec_l4Seconds : Nat := 97
def id_spec_WeekdayOf : Nat := 44
def id_spec_l13Dec : Nat := 45
def id_spec_l4Months : Nat := 46
def id_spec_l4Two : Nat := 47
def id_impl_RunScript : Nat := 14
def id_impl_newGate : Nat := 36
def id_impl_DateOf : Nat := 80
def id_strings_Split : Nat := 37
def id_strings_genSplit : Nat := 81
def id_strings_explode : Nat := 130
def id_unicode_utf8_RuneCountInString : Nat := 179
def id_unicode_utf8_DecodeRuneInString : Nat := 162
def id_unicode_utf8_decodeRuneInStringSlow : Nat := 202
def id_strings_Count : Nat := 131
def id_internal_bytealg_CountString : Nat := 180
def id_strings_Index : Nat := 132
def id_internal_stringslite_Index : Nat := 181
def id_internal_stringslite_IndexByte : Nat := 208
def id_internal_bytealg_IndexByteString : Nat := 229
def id_internal_bytealg_IndexString : Nat := 209
def id_internal_bytealg_Cutover : Nat := 210
def id_internal_bytealg_IndexRabinKarp_string_ : Nat := 211
def id_internal_bytealg_hashStr_string_ : Nat := 230
def id_impl_gate_line : Nat := 38
def id_strings_Cut : Nat := 82
def id_internal_stringslite_Cut : Nat := 133
def id_impl_gate_wordLine : Nat := 83
def id_impl_gate_sayLine : Nat := 84
def id_impl_SayLine : Nat := 136
def id_impl_SessionValid : Nat := 185
def id_impl_draftValid : Nat := 75
def id_impl_isFrom : Nat := 124
def id_impl_isPath : Nat := 126
def id_impl_isLocal : Nat := 118
def id_slices_ContainsFunc___string_string_ : Nat := 30
def id_slices_IndexFunc___string_string_ : Nat := 77
def id_impl_isLocal_1 : Nat := 172
def id_impl_AtomValid : Nat := 120
def id_impl_allBytes : Nat := 175
def id_impl_isAtomByte : Nat := 107
def id_impl_isLetter : Nat := 165
def id_impl_isDigit : Nat := 166
def id_impl_isDomain : Nat := 119
def id_impl_isDomain_1 : Nat := 173
def id_impl_isLabel : Nat := 174
def id_impl_isLabel_1 : Nat := 207
def id_impl_draftValid_1 : Nat := 125
def id_impl_areTexts : Nat := 127
def id_impl_areTexts_1 : Nat := 178
def id_impl_TextValid : Nat := 32
def id_impl_mailsValid : Nat := 191
def id_slices_ContainsFunc___impl_Mail_impl_Mail_ : Nat := 219
def id_slices_IndexFunc___impl_Mail_impl_Mail_ : Nat := 236
def id_impl_mailsValid_1 : Nat := 220
def id_impl_MailValid : Nat := 28
def id_impl_copySession : Nat := 186
def id_impl_copyMail : Nat := 212
def id_slices_Clone___string_string_ : Nat := 214
def id_impl_copyMails : Nat := 194
def id_impl_Session_say : Nat := 187
def id_impl_Session_sayData : Nat := 216
def id_strings_TrimPrefix : Nat := 234
def id_internal_stringslite_TrimPrefix : Nat := 242
def id_internal_stringslite_HasPrefix : Nat := 128
def id_impl_Session_sayCommand : Nat := 217
def id_impl_outside : Nat := 54
def id_impl_quoted : Nat := 106
def id_impl_LowerText : Nat := 79
def id_impl_pathIn : Nat := 235
def id_impl_SameText : Nat := 147
def id_strings_CutSuffix : Nat := 57
def id_internal_stringslite_CutSuffix : Nat := 108
def id_internal_stringslite_HasSuffix : Nat := 167
def id_strings_CutPrefix : Nat := 243
def id_internal_stringslite_CutPrefix : Nat := 246
def id_impl_ReplyText : Nat := 137
def id_impl_gate_pass : Nat := 134
def id_impl_CountHeld : Nat := 135
def id_impl_AddBox : Nat := 85
def id_impl_boxPlace : Nat := 138
def id_slices_BinarySearchFunc___impl_Box_impl_Box_string_ : Nat := 188
def id_impl_boxPlace_1 : Nat := 189
def id_cmp_Compare_string_ : Nat := 190
def id_cmp_isNaN_string_ : Nat := 218
def id_impl_BoxesValid : Nat := 139
def id_impl_copyBoxes : Nat := 141
def id_slices_Insert___impl_Box_impl_Box_ : Nat := 140
def id_impl_gate_take : Nat := 86
def id_impl_ParseDate : Nat := 87
def id_slices_DeleteFunc___string_string_ : Nat := 143
def id_impl_ParseDate_1 : Nat := 144
def id_impl_digits : Nat := 145
def id_impl_ParseDate_2 : Nat := 146
def id_impl_parseTime : Nat := 148
def id_impl_parseZone : Nat := 149
def id_strings_Trim : Nat := 53
def id_strings_trimRightByte : Nat := 100
def id_strings_trimLeftByte : Nat := 99
def id_strings_makeASCIISet : Nat := 101
def id_strings_trimRightASCII : Nat := 103
def id_strings_trimLeftASCII : Nat := 102
def id_strings_trimRightUnicode : Nat := 105
def id_strings_trimLeftUnicode : Nat := 104
def id_impl_readLine : Nat := 88
noncomputable def tabB : List (Nat × TI) := [
 (22, ⟨.slice 5 1 1 [(.int .u8 0)], false, 1, [(.slice none 0 0)]⟩),
 (3, ⟨.int .i64, false, 1, [(.int .i64 0)]⟩),
 (35, ⟨.struct [(0, 1, false), (1, 1, false), (2, 1, false), (3, 1, false), (4, 1, false), (5, 1, false), (6, 1, false)], true, 7, [(.int .i64 0), (.int .i64 0), (.int .i64 0), (.int .i64 0), (.int .i64 0), (.int .i64 0), (.int .i64 0)]⟩),
 (9, ⟨.str, false, 1, [(.string (bs []))]⟩),
 (46, ⟨.other, false, 1, [(.pointer none)]⟩),
 (82, ⟨.struct [(0, 1, false), (1, 1, false)], true, 2, [(.slice none 0 0), (.int .i64 0)]⟩),
 (85, ⟨.slice 3 1 8 [(.int .i64 0)], false, 1, [(.slice none 0 0)]⟩),
 (5, ⟨.int .u8, false, 1, [(.int .u8 0)]⟩),
 (64, ⟨.arr 12 1, true, 12, [(.string (bs [])), (.string (bs [])), (.string (bs [])), (.string (bs [])), (.string (bs [])), (.string (bs [])), (.string (bs [])), (.string (bs [])), (.string (bs [])), (.string (bs [])), (.string (bs [])), (.string (bs []))]⟩),
 (103, ⟨.arr 7 1, true, 7, [(.string (bs [])), (.string (bs [])), (.string (bs [])), (.string (bs [])), (.string (bs [])), (.string (bs [])), (.string (bs []))]⟩),
 (23, ⟨.slice 9 1 16 [(.string (bs []))], false, 1, [(.slice none 0 0)]⟩),
 (59, ⟨.struct [(0, 1, false), (1, 6, true), (7, 7, true)], true, 14, [(.slice none 0 0), (.int .i64 0), (.string (bs [])), (.string (bs [])), (.slice none 0 0), (.slice none 0 0), (.slice none 0 0), (.int .i64 0), (.int .i64 0), (.int .i64 0), (.int .i64 0), (.int .i64 0), (.int .i64 0), (.int .i64 0)]⟩),
 (21, ⟨.int .i32, false, 1, [(.int .i32 0)]⟩),
 (196, ⟨.arr 256 1, true, 256, [(.int .u8 0), (.int .u8 0), (.int .u8 0), (.int .u8 0), (.int .u8 0), (.int .u8 0), (.int .u8 0), (.int .u8 0), (.int .u8 0), (.int .u8 0), (.int .u8 0), (.int .u8 0), (.int .u8 0), (.int .u8 0), (.int .u8 0), (.int .u8 0), (.int .u8 0), (.int .u8 0), (.int .u8 0), (.int .u8 0), (.int .u8 0), (.int .u8 0), (.int .u8 0), (.int .u8 0), (.int .u8 0), (.int .u8 0), (.int .u8 0), (.int .u8 0), (.int .u8 0), (.int .u8 0), (.int .u8 0), (.int .u8 0), (.int .u8 0), (.int .u8 0), (.int .u8 0), (.int .u8 0), (.int .u8 0), (.int .u8 0), (.int .u8 0), (.int .u8 0), (.int .u8 0), (.int .u8 0), (.int .u8 0), (.int .u8 0), (.int .u8 0), (.int .u8 0), (.int .u8 0), (.int .u8 0), (.int .u8 0), (.int .u8 0), (.int .u8 0), (.int .u8 0), (.int .u8 0), (.int .u8 0), (.int .u8 0), (.int .u8 0), (.int .u8 0), (.int .u8 0), (.int .u8 0), (.int .u8 0), (.int .u8 0), (.int .u8 0), (.int .u8 0), (.int .u8 0), (.int .u8 0), (.int .u8 0), (.int .u8 0), (.int .u8 0), (.int .u8 0), (.int .u8 0), (.int .u8 0), (.int .u8 0), (.int .u8 0), (.int .u8 0), (.int .u8 0), (.int .u8 0), (.int .u8 0), (.int .u8 0), (.int .u8 0), (.int .u8 0), (.int .u8 0), (.int .u8 0), (.int .u8 0), (.int .u8 0), (.int .u8 0), (.int .u8 0), (.int .u8 0), (.int .u8 0), (.int .u8 0), (.int .u8 0), (.int .u8 0), (.int .u8 0), (.int .u8 0), (.int .u8 0), (.int .u8 0), (.int .u8 0), (.int .u8 0), (.int .u8 0), (.int .u8 0), (.int .u8 0), (.int .u8 0), (.int .u8 0), (.int .u8 0), (.int .u8 0), (.int .u8 0), (.int .u8 0), (.int .u8 0), (.int .u8 0), (.int .u8 0), (.int .u8 0), (.int .u8 0), (.int .u8 0), (.int .u8 0), (.int .u8 0), (.int .u8 0), (.int .u8 0), (.int .u8 0), (.int .u8 0), (.int .u8 0), (.int .u8 0), (.int .u8 0), (.int .u8 0), (.int .u8 0), (.int .u8 0), (.int .u8 0), (.int .u8 0), (.int .u8 0), (.int .u8 0), (.int .u8 0), (.int .u8 0), (.int .u8 0), (.int .u8 0), (.int .u8 0), (.int .u8 0), (.int .u8 0), (.int .u8 0), (.int .u8 0), (.int .u8 0), (.int .u8 0), (.int .u8 0), (.int .u8 0), (.int .u8 0), (.int .u8 0), (.int .u8 0), (.int .u8 0), (.int .u8 0), (.int .u8 0), (.int .u8 0), (.int .u8 0), (.int .u8 0), (.int .u8 0), (.int .u8 0), (.int .u8 0), (.int .u8 0), (.int .u8 0), (.int .u8 0), (.int .u8 0), (.int .u8 0), (.int .u8 0), (.int .u8 0), (.int .u8 0), (.int .u8 0), (.int .u8 0), (.int .u8 0), (.int .u8 0), (.int .u8 0), (.int .u8 0), (.int .u8 0), (.int .u8 0), (.int .u8 0), (.int .u8 0), (.int .u8 0), (.int .u8 0), (.int .u8 0), (.int .u8 0), (.int .u8 0), (.int .u8 0), (.int .u8 0), (.int .u8 0), (.int .u8 0), (.int .u8 0), (.int .u8 0), (.int .u8 0), (.int .u8 0), (.int .u8 0), (.int .u8 0), (.int .u8 0), (.int .u8 0), (.int .u8 0), (.int .u8 0), (.int .u8 0), (.int .u8 0), (.int .u8 0), (.int .u8 0), (.int .u8 0), (.int .u8 0), (.int .u8 0), (.int .u8 0), (.int .u8 0), (.int .u8 0), (.int .u8 0), (.int .u8 0), (.int .u8 0), (.int .u8 0), (.int .u8 0), (.int .u8 0), (.int .u8 0), (.int .u8 0), (.int .u8 0), (.int .u8 0), (.int .u8 0), (.int .u8 0), (.int .u8 0), (.int .u8 0), (.int .u8 0), (.int .u8 0), (.int .u8 0), (.int .u8 0), (.int .u8 0), (.int .u8 0), (.int .u8 0), (.int .u8 0), (.int .u8 0), (.int .u8 0), (.int .u8 0), (.int .u8 0), (.int .u8 0), (.int .u8 0), (.int .u8 0), (.int .u8 0), (.int .u8 0), (.int .u8 0), (.int .u8 0), (.int .u8 0), (.int .u8 0), (.int .u8 0), (.int .u8 0), (.int .u8 0), (.int .u8 0), (.int .u8 0), (.int .u8 0), (.int .u8 0), (.int .u8 0), (.int .u8 0), (.int .u8 0), (.int .u8 0), (.int .u8 0), (.int .u8 0), (.int .u8 0), (.int .u8 0), (.int .u8 0), (.int .u8 0), (.int .u8 0), (.int .u8 0), (.int .u8 0), (.int .u8 0)]⟩),
 (199, ⟨.arr 16 2, true, 32, [(.int .u8 0), (.int .u8 0), (.int .u8 0), (.int .u8 0), (.int .u8 0), (.int .u8 0), (.int .u8 0), (.int .u8 0), (.int .u8 0), (.int .u8 0), (.int .u8 0), (.int .u8 0), (.int .u8 0), (.int .u8 0), (.int .u8 0), (.int .u8 0), (.int .u8 0), (.int .u8 0), (.int .u8 0), (.int .u8 0), (.int .u8 0), (.int .u8 0), (.int .u8 0), (.int .u8 0), (.int .u8 0), (.int .u8 0), (.int .u8 0), (.int .u8 0), (.int .u8 0), (.int .u8 0), (.int .u8 0), (.int .u8 0)]⟩),
 (198, ⟨.struct [(0, 1, false), (1, 1, false)], true, 2, [(.int .u8 0), (.int .u8 0)]⟩),
 (201, ⟨.int .u32, false, 1, [(.int .u32 0)]⟩),
 (92, ⟨.other, false, 1, [(.pointer none)]⟩),
 (54, ⟨.slice 138 2 40 [(.string (bs [])), (.slice none 0 0)], false, 1, [(.slice none 0 0)]⟩),
 (57, ⟨.struct [(0, 1, false), (1, 1, false), (2, 3, true), (5, 1, false)], true, 6, [(.int .i64 0), (.string (bs [])), (.string (bs [])), (.slice none 0 0), (.slice none 0 0), (.slice none 0 0)]⟩),
 (55, ⟨.slice 25 3 64 [(.string (bs [])), (.slice none 0 0), (.slice none 0 0)], false, 1, [(.slice none 0 0)]⟩),
 (25, ⟨.struct [(0, 1, false), (1, 1, false), (2, 1, false)], true, 3, [(.string (bs [])), (.slice none 0 0), (.slice none 0 0)]⟩),
 (4, ⟨.bool, false, 1, [(.bool false)]⟩),
 (52, ⟨.other, false, 1, [.nilFunc]⟩),
 (115, ⟨.other, false, 1, [.nilFunc]⟩),
 (50, ⟨.other, false, 1, [.nilFunc]⟩),
 (190, ⟨.other, false, 1, [(.pointer none)]⟩),
 (138, ⟨.struct [(0, 1, false), (1, 1, false)], true, 2, [(.string (bs [])), (.slice none 0 0)]⟩),
 (172, ⟨.other, false, 1, [.nilFunc]⟩),
 (186, ⟨.int .u64, false, 1, [(.int .u64 0)]⟩),
 (144, ⟨.arr 3 1, true, 3, [(.int .i64 0), (.int .i64 0), (.int .i64 0)]⟩),
 (108, ⟨.arr 256 1, true, 256, [(.bool false), (.bool false), (.bool false), (.bool false), (.bool false), (.bool false), (.bool false), (.bool false), (.bool false), (.bool false), (.bool false), (.bool false), (.bool false), (.bool false), (.bool false), (.bool false), (.bool false), (.bool false), (.bool false), (.bool false), (.bool false), (.bool false), (.bool false), (.bool false), (.bool false), (.bool false), (.bool false), (.bool false), (.bool false), (.bool false), (.bool false), (.bool false), (.bool false), (.bool false), (.bool false), (.bool false), (.bool false), (.bool false), (.bool false), (.bool false), (.bool false), (.bool false), (.bool false), (.bool false), (.bool false), (.bool false), (.bool false), (.bool false), (.bool false), (.bool false), (.bool false), (.bool false), (.bool false), (.bool false), (.bool false), (.bool false), (.bool false), (.bool false), (.bool false), (.bool false), (.bool false), (.bool false), (.bool false), (.bool false), (.bool false), (.bool false), (.bool false), (.bool false), (.bool false), (.bool false), (.bool false), (.bool false), (.bool false), (.bool false), (.bool false), (.bool false), (.bool false), (.bool false), (.bool false), (.bool false), (.bool false), (.bool false), (.bool false), (.bool false), (.bool false), (.bool false), (.bool false), (.bool false), (.bool false), (.bool false), (.bool false), (.bool false), (.bool false), (.bool false), (.bool false), (.bool false), (.bool false), (.bool false), (.bool false), (.bool false), (.bool false), (.bool false), (.bool false), (.bool false), (.bool false), (.bool false), (.bool false), (.bool false), (.bool false), (.bool false), (.bool false), (.bool false), (.bool false), (.bool false), (.bool false), (.bool false), (.bool false), (.bool false), (.bool false), (.bool false), (.bool false), (.bool false), (.bool false), (.bool false), (.bool false), (.bool false), (.bool false), (.bool false), (.bool false), (.bool false), (.bool false), (.bool false), (.bool false), (.bool false), (.bool false), (.bool false), (.bool false), (.bool false), (.bool false), (.bool false), (.bool false), (.bool false), (.bool false), (.bool false), (.bool false), (.bool false), (.bool false), (.bool false), (.bool false), (.bool false), (.bool false), (.bool false), (.bool false), (.bool false), (.bool false), (.bool false), (.bool false), (.bool false), (.bool false), (.bool false), (.bool false), (.bool false), (.bool false), (.bool false), (.bool false), (.bool false), (.bool false), (.bool false), (.bool false), (.bool false), (.bool false), (.bool false), (.bool false), (.bool false), (.bool false), (.bool false), (.bool false), (.bool false), (.bool false), (.bool false), (.bool false), (.bool false), (.bool false), (.bool false), (.bool false), (.bool false), (.bool false), (.bool false), (.bool false), (.bool false), (.bool false), (.bool false), (.bool false), (.bool false), (.bool false), (.bool false), (.bool false), (.bool false), (.bool false), (.bool false), (.bool false), (.bool false), (.bool false), (.bool false), (.bool false), (.bool false), (.bool false), (.bool false), (.bool false), (.bool false), (.bool false), (.bool false), (.bool false), (.bool false), (.bool false), (.bool false), (.bool false), (.bool false), (.bool false), (.bool false), (.bool false), (.bool false), (.bool false), (.bool false), (.bool false), (.bool false), (.bool false), (.bool false), (.bool false), (.bool false), (.bool false), (.bool false), (.bool false), (.bool false), (.bool false), (.bool false), (.bool false), (.bool false), (.bool false), (.bool false), (.bool false), (.bool false), (.bool false), (.bool false), (.bool false), (.bool false), (.bool false), (.bool false), (.bool false), (.bool false), (.bool false), (.bool false), (.bool false), (.bool false), (.bool false), (.bool false)]⟩),
 (112, ⟨.other, false, 1, [(.pointer none)]⟩)]
noncomputable def annB : List (Nat × Ann) := [
 (5, { loc := [3], loops := [], joins := [(5, 7, [(.ret, ⟨[2], [], []⟩), (.normal, ⟨[4], [], []⟩)])], full := [], dynQ := false }),
 (15, { loc := [2], loops := [], joins := [], full := [], dynQ := false }),
 (39, { loc := [2], loops := [], joins := [], full := [], dynQ := false }),
 (25, { loc := [], loops := [], joins := [(1, 3, [(.normal, ⟨[0], [], []⟩)])], full := [], dynQ := false }),
 (90, { loc := [2, 3], loops := [], joins := [], full := [], dynQ := false }),
 (74, { loc := [], loops := [], joins := [], full := [], dynQ := false }),
 (48, { loc := [], loops := [], joins := [(2, 4, [(.ret, ⟨[4], [], []⟩), (.normal, ⟨[0, 1], [], []⟩)])], full := [], dynQ := false }),
 (155, { loc := [4, 9], loops := [(9, ⟨⟨[7], [(4, (4, 0)), (9, (9, 0))], [(4, 7), (9, 7)]⟩, [(.exit 0, ⟨[7], [(4, (4, 0)), (9, (9, 0))], [(4, 7), (9, 7)]⟩)]⟩)], joins := [(4, 6, [(.ret, ⟨[5], [(4, (4, 0))], [(4, 7)]⟩), (.normal, ⟨[1, 6], [(4, (4, 0))], [(4, 7)]⟩)]), (1, 3, [(.ret, ⟨[5], [(4, (4, 0))], [(4, 7)]⟩), (.normal, ⟨[0, 1], [(4, (4, 0))], [(4, 7)]⟩)])], full := [], dynQ := false }),
 (157, { loc := [], loops := [], joins := [], full := [], dynQ := false }),
 (156, { loc := [], loops := [], joins := [(4, 6, [(.ret, ⟨[4], [], []⟩), (.normal, ⟨[1, 5], [], []⟩)]), (1, 3, [(.ret, ⟨[4], [], []⟩), (.normal, ⟨[0, 1], [], []⟩)])], full := [], dynQ := false }),
 (158, { loc := [], loops := [], joins := [], full := [], dynQ := false }),
 (89, { loc := [3, 4], loops := [], joins := [], full := [], dynQ := false }),
 (16, { loc := [1], loops := [], joins := [(4, 6, [(.normal, ⟨[3, 4], [(1, (1, 0))], [(1, 7)]⟩)])], full := [], dynQ := false }),
 (40, { loc := [1], loops := [], joins := [], full := [], dynQ := false }),
 (92, { loc := [], loops := [], joins := [(12, 16, [(.normal, ⟨[0, 11, 20], [], []⟩)]), (4, 11, [(.normal, ⟨[0, 11, 12], [], []⟩)]), (1, 3, [(.ret, ⟨[4], [], []⟩), (.normal, ⟨[0, 1], [], []⟩)])], full := [], dynQ := false }),
 (91, { loc := [], loops := [], joins := [], full := [], dynQ := false }),
 (93, { loc := [], loops := [], joins := [], full := [], dynQ := false }),
 (94, { loc := [1], loops := [], joins := [], full := [], dynQ := false }),
 (95, { loc := [], loops := [(3, ⟨⟨[0, 1, 7, 8], [], []⟩, [(.exit 0, ⟨[7], [], []⟩)]⟩), (6, ⟨⟨[0, 1, 7, 8, 9], [], []⟩, [(.exit 2, ⟨[0, 1, 7, 8], [], []⟩)]⟩)], joins := [(6, 8, [(.normal, ⟨[0, 1, 7, 8, 9], [], []⟩), (.exit 2, ⟨[0, 1, 7, 8], [], []⟩)])], full := [], dynQ := false }),
 (41, { loc := [1], loops := [], joins := [], full := [], dynQ := false }),
 (42, { loc := [], loops := [(2, ⟨⟨[0, 1, 5], [], []⟩, [(.exit 0, ⟨[5], [], []⟩)]⟩)], joins := [(2, 3, [(.normal, ⟨[0, 1, 5], [], []⟩), (.exit 0, ⟨[5], [], []⟩)])], full := [], dynQ := false }),
 (17, { loc := [1], loops := [], joins := [(5, 8, [(.normal, ⟨[3, 4], [(1, (1, 0))], [(1, 7)]⟩)])], full := [], dynQ := false }),
 (43, { loc := [1], loops := [], joins := [], full := [], dynQ := false }),
 (96, { loc := [1], loops := [], joins := [], full := [], dynQ := false }),
 (97, { loc := [1], loops := [(9, ⟨⟨[3, 5], [(1, (1, 0))], [(1, 7)]⟩, [(.exit 2, ⟨[3], [(1, (1, 0))], [(1, 7)]⟩)]⟩), (3, ⟨⟨[3, 4], [(1, (1, 0))], [(1, 7)]⟩, [(.exit 0, ⟨[3], [(1, (1, 0))], [(1, 7)]⟩)]⟩)], joins := [(5, 4, [(.normal, ⟨[3, 4], [(1, (1, 0))], [(1, 7)]⟩)])], full := [], dynQ := false }),
 (44, { loc := [1], loops := [], joins := [], full := [], dynQ := false }),
 (45, { loc := [], loops := [(6, ⟨⟨[0, 3], [], []⟩, [(.exit 0, ⟨[0, 3], [], []⟩)]⟩)], joins := [], full := [], dynQ := false }),
 (46, { loc := [], loops := [], joins := [], full := [], dynQ := false }),
 (47, { loc := [], loops := [], joins := [], full := [], dynQ := false }),
 (14, { loc := [], loops := [(5, ⟨⟨[3, 4, 12, 13, 14], [], []⟩, [(.exit 0, ⟨[4], [], []⟩), (.ret, ⟨[2], [], []⟩)]⟩)], joins := [(8, 10, [(.ret, ⟨[2], [], []⟩), (.normal, ⟨[3, 4, 6, 12, 13, 14], [], []⟩)])], full := [], dynQ := false }),
 (36, { loc := [0, 1], loops := [], joins := [], full := [], dynQ := false }),
 (80, { loc := [4, 9], loops := [(8, ⟨⟨[7], [(4, (4, 0)), (9, (9, 0))], [(4, 7), (9, 7)]⟩, [(.exit 0, ⟨[7], [(4, (4, 0)), (9, (9, 0))], [(4, 7), (9, 7)]⟩)]⟩)], joins := [(8, 9, [(.normal, ⟨[7], [(4, (4, 0)), (9, (9, 0))], [(4, 7), (9, 7)]⟩), (.exit 0, ⟨[7], [(4, (4, 0)), (9, (9, 0))], [(4, 7), (9, 7)]⟩)]), (1, 3, [(.ret, ⟨[5], [(4, (4, 0))], [(4, 7)]⟩), (.normal, ⟨[0, 1], [(4, (4, 0))], [(4, 7)]⟩)])], full := [], dynQ := false }),
 (37, { loc := [], loops := [], joins := [], full := [], dynQ := false }),
 (81, { loc := [], loops := [(11, ⟨⟨[0, 1, 2, 3, 9, 10], [], []⟩, [(.exit 0, ⟨[0, 9, 10], [], []⟩)]⟩)], joins := [(5, 7, [(.normal, ⟨[0, 1, 2, 3], [], []⟩)])], full := [], dynQ := false }),
 (130, { loc := [], loops := [(6, ⟨⟨[0, 1, 6, 7], [], []⟩, [(.exit 0, ⟨[0, 1, 6], [], []⟩)]⟩)], joins := [(2, 4, [(.normal, ⟨[0, 1], [], []⟩)])], full := [], dynQ := false }),
 (179, { loc := [], loops := [], joins := [], full := [], dynQ := false }),
 (162, { loc := [], loops := [], joins := [], full := [], dynQ := false }),
 (202, { loc := [9], loops := [], joins := [], full := [], dynQ := false }),
 (131, { loc := [], loops := [(6, ⟨⟨[0, 1, 5], [], []⟩, [(.ret, ⟨[4], [], []⟩)]⟩)], joins := [], full := [], dynQ := false }),
 (132, { loc := [], loops := [], joins := [], full := [], dynQ := false }),
 (181, { loc := [], loops := [(15, ⟨⟨[0, 1, 5, 6, 7, 8, 9, 10], [], []⟩, [(.exit 1, ⟨[], [], []⟩), (.ret, ⟨[4], [], []⟩)]⟩)], joins := [(21, 23, [(.ret, ⟨[4], [], []⟩), (.normal, ⟨[0, 1, 5, 6, 7, 8, 9, 10], [], []⟩)]), (16, 21, [(.ret, ⟨[4], [], []⟩), (.normal, ⟨[0, 1, 5, 6, 7, 8, 9, 10], [], []⟩)]), (2, 10, [(.ret, ⟨[4], [], []⟩), (.normal, ⟨[0, 1, 5], [], []⟩)])], full := [], dynQ := false }),
 (208, { loc := [], loops := [], joins := [], full := [], dynQ := false }),
 (210, { loc := [], loops := [], joins := [], full := [], dynQ := false }),
 (211, { loc := [], loops := [(11, ⟨⟨[0, 1, 5, 6, 7, 8, 10], [], []⟩, [(.exit 2, ⟨[], [], []⟩), (.ret, ⟨[4], [], []⟩)]⟩), (5, ⟨⟨[0, 1, 5, 6, 7, 8, 9], [], []⟩, [(.exit 0, ⟨[0, 1, 5, 6, 7, 8], [], []⟩)]⟩)], joins := [(8, 10, [(.ret, ⟨[4], [], []⟩), (.normal, ⟨[0, 1, 5, 6, 7, 8], [], []⟩)])], full := [], dynQ := false }),
 (230, { loc := [], loops := [(8, ⟨⟨[4, 6, 7, 8], [], []⟩, [(.exit 2, ⟨[4, 6], [], []⟩)]⟩), (3, ⟨⟨[0, 4, 5], [], []⟩, [(.exit 0, ⟨[0, 4], [], []⟩)]⟩)], joins := [(10, 9, [(.normal, ⟨[4, 6, 7, 8], [], []⟩)]), (10, 12, [(.normal, ⟨[4, 6, 7, 8], [], []⟩)])], full := [], dynQ := false }),
 (38, { loc := [10], loops := [], joins := [], full := [], dynQ := false }),
 (82, { loc := [], loops := [], joins := [], full := [], dynQ := false }),
 (133, { loc := [], loops := [], joins := [], full := [], dynQ := false }),
 (83, { loc := [], loops := [], joins := [], full := [], dynQ := false }),
 (84, { loc := [5], loops := [], joins := [], full := [], dynQ := false }),
 (136, { loc := [2, 4], loops := [], joins := [], full := [], dynQ := false }),
 (185, { loc := [1], loops := [], joins := [(3, 9, [(.ret, ⟨[2], [], []⟩), (.normal, ⟨[], [(1, (1, 0))], [(1, 6)]⟩)]), (1, 3, [(.ret, ⟨[2], [], []⟩), (.normal, ⟨[], [(1, (1, 0))], [(1, 6)]⟩)])], full := [], dynQ := false }),
 (75, { loc := [3], loops := [], joins := [], full := [], dynQ := false }),
 (124, { loc := [], loops := [], joins := [], full := [], dynQ := false }),
 (126, { loc := [], loops := [], joins := [], full := [], dynQ := false }),
 (118, { loc := [], loops := [], joins := [], full := [], dynQ := false }),
 (30, { loc := [], loops := [], joins := [], full := [], dynQ := false }),
 (77, { loc := [], loops := [(2, ⟨⟨[0, 1, 7, 8], [], []⟩, [(.exit 0, ⟨[], [], []⟩), (.ret, ⟨[4], [], []⟩)]⟩)], joins := [], full := [], dynQ := true }),
 (172, { loc := [], loops := [], joins := [], full := [], dynQ := false }),
 (120, { loc := [], loops := [], joins := [], full := [], dynQ := false }),
 (175, { loc := [], loops := [(2, ⟨⟨[0, 1, 7, 8], [], []⟩, [(.exit 0, ⟨[], [], []⟩), (.ret, ⟨[4], [], []⟩)]⟩)], joins := [], full := [], dynQ := true }),
 (107, { loc := [], loops := [], joins := [], full := [], dynQ := false }),
 (165, { loc := [], loops := [], joins := [], full := [], dynQ := false }),
 (166, { loc := [], loops := [], joins := [], full := [], dynQ := false }),
 (119, { loc := [], loops := [], joins := [], full := [], dynQ := false }),
 (173, { loc := [], loops := [], joins := [], full := [], dynQ := false }),
 (174, { loc := [], loops := [], joins := [], full := [], dynQ := false }),
 (207, { loc := [], loops := [], joins := [], full := [], dynQ := false }),
 (125, { loc := [], loops := [], joins := [], full := [], dynQ := false }),
 (127, { loc := [], loops := [], joins := [], full := [], dynQ := false }),
 (178, { loc := [], loops := [], joins := [], full := [], dynQ := false }),
 (32, { loc := [], loops := [(2, ⟨⟨[0, 5, 6], [], []⟩, [(.exit 0, ⟨[0], [], []⟩), (.ret, ⟨[2], [], []⟩)]⟩)], joins := [], full := [], dynQ := false }),
 (191, { loc := [], loops := [], joins := [], full := [], dynQ := false }),
 (219, { loc := [], loops := [], joins := [], full := [], dynQ := false }),
 (236, { loc := [], loops := [(2, ⟨⟨[0, 1, 7, 8], [], []⟩, [(.exit 0, ⟨[], [], []⟩), (.ret, ⟨[4], [], []⟩)]⟩)], joins := [], full := [], dynQ := true }),
 (220, { loc := [1], loops := [], joins := [], full := [], dynQ := false }),
 (28, { loc := [1], loops := [], joins := [], full := [], dynQ := false }),
 (186, { loc := [1, 2], loops := [], joins := [], full := [], dynQ := false }),
 (212, { loc := [1, 2], loops := [], joins := [], full := [], dynQ := false }),
 (214, { loc := [], loops := [], joins := [], full := [7], dynQ := false }),
 (194, { loc := [5], loops := [(3, ⟨⟨[3, 7, 8, 9], [], []⟩, [(.exit 0, ⟨[3], [], []⟩)]⟩)], joins := [], full := [], dynQ := false }),
 (187, { loc := [], loops := [], joins := [(1, 5, [(.ret, ⟨[4, 5], [], []⟩), (.normal, ⟨[0, 1], [], []⟩)])], full := [], dynQ := false }),
 (216, { loc := [5], loops := [], joins := [], full := [], dynQ := false }),
 (234, { loc := [], loops := [], joins := [], full := [], dynQ := false }),
 (242, { loc := [], loops := [], joins := [], full := [], dynQ := false }),
 (128, { loc := [], loops := [], joins := [], full := [], dynQ := false }),
 (217, { loc := [], loops := [], joins := [(22, 28, [(.ret, ⟨[4], [], []⟩), (.normal, ⟨[0, 12], [], []⟩)]), (8, 10, [(.ret, ⟨[4], [], []⟩), (.normal, ⟨[0, 9], [], []⟩)]), (2, 5, [(.normal, ⟨[0, 5, 6, 7], [], []⟩)])], full := [], dynQ := false }),
 (54, { loc := [], loops := [(2, ⟨⟨[0, 1, 5], [], []⟩, [(.exit 0, ⟨[], [], []⟩), (.ret, ⟨[4], [], []⟩)]⟩)], joins := [(4, 3, [(.ret, ⟨[4], [], []⟩), (.normal, ⟨[0, 1, 5], [], []⟩)])], full := [], dynQ := false }),
 (106, { loc := [], loops := [(3, ⟨⟨[0, 5, 6], [], []⟩, [(.exit 0, ⟨[], [], []⟩), (.ret, ⟨[2, 3, 4], [], []⟩)]⟩)], joins := [(5, 4, [(.ret, ⟨[2, 3, 4], [], []⟩), (.normal, ⟨[0, 5, 6], [], []⟩)]), (5, 11, [(.ret, ⟨[2, 3, 4], [], []⟩), (.normal, ⟨[0, 5, 6], [], []⟩)])], full := [], dynQ := false }),
 (79, { loc := [], loops := [(3, ⟨⟨[3, 8, 9, 10], [], []⟩, [(.exit 0, ⟨[3], [], []⟩)]⟩)], joins := [], full := [], dynQ := false }),
 (235, { loc := [], loops := [], joins := [(8, 10, [(.normal, ⟨[6], [], []⟩)]), (5, 7, [(.ret, ⟨[4, 5], [], []⟩), (.normal, ⟨[6], [], []⟩)]), (1, 3, [(.ret, ⟨[4, 5], [], []⟩), (.normal, ⟨[0, 1], [], []⟩)])], full := [], dynQ := false }),
 (147, { loc := [], loops := [], joins := [], full := [], dynQ := false }),
 (57, { loc := [], loops := [], joins := [], full := [], dynQ := false }),
 (108, { loc := [], loops := [], joins := [], full := [], dynQ := false }),
 (167, { loc := [], loops := [], joins := [], full := [], dynQ := false }),
 (243, { loc := [], loops := [], joins := [], full := [], dynQ := false }),
 (246, { loc := [], loops := [], joins := [], full := [], dynQ := false }),
 (137, { loc := [], loops := [], joins := [], full := [], dynQ := false }),
 (85, { loc := [], loops := [], joins := [(2, 4, [(.ret, ⟨[4, 5], [], []⟩), (.normal, ⟨[0, 1, 6], [], []⟩)])], full := [], dynQ := false }),
 (138, { loc := [], loops := [], joins := [], full := [], dynQ := false }),
 (188, { loc := [], loops := [(3, ⟨⟨[0, 1, 2, 8, 9, 10], [], []⟩, [(.exit 0, ⟨[0, 1, 2, 8, 9], [], []⟩)]⟩)], joins := [], full := [], dynQ := true }),
 (189, { loc := [2], loops := [], joins := [], full := [], dynQ := false }),
 (190, { loc := [], loops := [], joins := [], full := [], dynQ := false }),
 (218, { loc := [], loops := [], joins := [], full := [], dynQ := false }),
 (139, { loc := [4], loops := [(2, ⟨⟨[0, 5, 6, 7], [], []⟩, [(.exit 0, ⟨[0], [], []⟩), (.ret, ⟨[2], [], []⟩)]⟩)], joins := [], full := [], dynQ := false }),
 (141, { loc := [5], loops := [(3, ⟨⟨[3, 7, 8, 9], [], []⟩, [(.exit 0, ⟨[3], [], []⟩)]⟩)], joins := [], full := [], dynQ := false }),
 (87, { loc := [2, 17], loops := [], joins := [(15, 17, [(.ret, ⟨[3], [(2, (2, 0))], [(2, 7)]⟩), (.normal, ⟨[], [(2, (2, 0)), (17, (17, 0))], [(2, 7), (17, 7)]⟩)]), (4, 6, [(.normal, ⟨[4, 5, 6], [(2, (2, 0))], [(2, 7)]⟩)])], full := [], dynQ := false }),
 (144, { loc := [], loops := [], joins := [], full := [], dynQ := false }),
 (145, { loc := [], loops := [(5, ⟨⟨[0, 8, 22, 23], [], []⟩, [(.exit 0, ⟨[8], [], []⟩)]⟩)], joins := [(1, 3, [(.ret, ⟨[6, 7], [], []⟩), (.normal, ⟨[0], [], []⟩)])], full := [], dynQ := false }),
 (146, { loc := [], loops := [], joins := [], full := [], dynQ := false }),
 (148, { loc := [2], loops := [(5, ⟨⟨[4, 18, 19, 20], [(2, (2, 0))], [(2, 3)]⟩, [(.exit 0, ⟨[4], [(2, (2, 0))], [(2, 3)]⟩), (.ret, ⟨[3], [(2, (2, 0))], [(2, 3)]⟩)]⟩)], joins := [], full := [], dynQ := false }),
 (149, { loc := [], loops := [], joins := [(8, 10, [(.normal, ⟨[5, 6, 7, 8], [], []⟩)]), (3, 5, [(.ret, ⟨[2, 3], [], []⟩), (.normal, ⟨[0], [], []⟩)]), (1, 3, [(.ret, ⟨[2, 3], [], []⟩), (.normal, ⟨[0], [], []⟩)])], full := [], dynQ := false }),
 (53, { loc := [], loops := [], joins := [(3, 5, [(.ret, ⟨[4], [], []⟩), (.normal, ⟨[0, 1], [], []⟩)]), (1, 3, [(.ret, ⟨[4], [], []⟩), (.normal, ⟨[0, 1], [], []⟩)])], full := [], dynQ := false }),
 (100, { loc := [], loops := [(1, ⟨⟨[0, 1], [], []⟩, [(.exit 0, ⟨[0], [], []⟩)]⟩)], joins := [(1, 2, [(.normal, ⟨[0, 1], [], []⟩), (.exit 0, ⟨[0], [], []⟩)])], full := [], dynQ := false }),
 (99, { loc := [], loops := [(1, ⟨⟨[0, 1], [], []⟩, [(.exit 0, ⟨[0], [], []⟩)]⟩)], joins := [(1, 2, [(.normal, ⟨[0, 1], [], []⟩), (.exit 0, ⟨[0], [], []⟩)])], full := [], dynQ := false })]
noncomputable def fnB : List (Nat × Func) := [
 (5, Tryz.f5), (15, Tryz.f15), (39, Tryz.f39), (25, Tryz.f25), (90, Tryz.f90), (74, Tryz.f74), (48, Tryz.f48), (155, Tryz.f155), (157, Tryz.f157), (156, Tryz.f156), (158, Tryz.f158), (89, Tryz.f89), (16, Tryz.f16), (40, Tryz.f40), (92, Tryz.f92), (91, Tryz.f91), (93, Tryz.f93), (94, Tryz.f94), (95, Tryz.f95), (41, Tryz.f41), (42, Tryz.f42), (17, Tryz.f17), (43, Tryz.f43), (96, Tryz.f96), (97, Tryz.f97), (44, Tryz.f44), (45, Tryz.f45), (46, Tryz.f46), (47, Tryz.f47), (14, Tryz.f14), (36, Tryz.f36), (80, Tryz.f80), (37, Tryz.f37), (81, Tryz.f81), (130, Tryz.f130), (179, Tryz.f179), (162, Tryz.f162), (202, Tryz.f202), (131, Tryz.f131), (132, Tryz.f132), (181, Tryz.f181), (208, Tryz.f208), (210, Tryz.f210), (211, Tryz.f211), (230, Tryz.f230), (38, Tryz.f38), (82, Tryz.f82), (133, Tryz.f133), (83, Tryz.f83), (84, Tryz.f84), (136, Tryz.f136), (185, Tryz.f185), (75, Tryz.f75), (124, Tryz.f124), (126, Tryz.f126), (118, Tryz.f118), (30, Tryz.f30), (77, Tryz.f77), (172, Tryz.f172), (120, Tryz.f120), (175, Tryz.f175), (107, Tryz.f107), (165, Tryz.f165), (166, Tryz.f166), (119, Tryz.f119), (173, Tryz.f173), (174, Tryz.f174), (207, Tryz.f207), (125, Tryz.f125), (127, Tryz.f127), (178, Tryz.f178), (32, Tryz.f32), (191, Tryz.f191), (219, Tryz.f219), (236, Tryz.f236), (220, Tryz.f220), (28, Tryz.f28), (186, Tryz.f186), (212, Tryz.f212), (214, Tryz.f214), (194, Tryz.f194), (187, Tryz.f187), (216, Tryz.f216), (234, Tryz.f234), (242, Tryz.f242), (128, Tryz.f128), (217, Tryz.f217), (54, Tryz.f54), (106, Tryz.f106), (79, Tryz.f79), (235, Tryz.f235), (147, Tryz.f147), (57, Tryz.f57), (108, Tryz.f108), (167, Tryz.f167), (243, Tryz.f243), (246, Tryz.f246), (137, Tryz.f137), (85, Tryz.f85), (138, Tryz.f138), (188, Tryz.f188), (189, Tryz.f189), (190, Tryz.f190), (218, Tryz.f218), (139, Tryz.f139), (141, Tryz.f141), (87, Tryz.f87), (144, Tryz.f144), (145, Tryz.f145), (146, Tryz.f146), (148, Tryz.f148), (149, Tryz.f149), (53, Tryz.f53), (100, Tryz.f100), (99, Tryz.f99)]
def quietB : List Nat := [5, 157, 156, 158, 16, 40, 92, 91, 93, 94, 95, 41, 42, 17, 43, 96, 97, 44, 45, 47, 14, 179, 162, 202, 131, 132, 181, 208, 210, 211, 230, 82, 133, 185, 75, 124, 126, 118, 30, 77, 172, 120, 175, 107, 165, 166, 119, 173, 174, 207, 125, 127, 178, 32, 191, 219, 236, 220, 28, 234, 242, 128, 54, 106, 79, 235, 147, 57, 108, 167, 243, 246, 137, 135, 138, 188, 189, 190, 218, 139, 144, 145, 149, 53, 100, 99, 105, 104, 88]
def addsB : List Nat := [155, 46, 36, 80, 37, 81, 130, 136, 186, 212, 214, 194, 85, 141, 87, 148, 101]
def takesB : List (Nat × List Nat) := [(5, [2, 2, 9, 4, 13, 17, 18, 21, 2, 25, 5, 29, 30, 2]), (15, [3]), (39, [4, 3, 6, 7, 8]), (25, [2, 0, 8, 2]), (90, [6, 9, 12, 5, 4]), (74, [4, 6, 4]), (48, [4, 7, 8, 15, 17, 18, 4, 25, 5, 30, 31, 37, 41, 45, 4, 47, 51, 52, 62, 66, 69, 80, 83, 84, 6, 92, 93, 6, 96, 97, 4]), (155, [5, 10, 12, 13, 16, 17, 5, 22, 23, 6, 26, 28, 29, 5, 33, 7, 35, 8, 37, 39, 42, 44, 46, 53, 7, 72, 5]), (157, [2, 3, 5, 6, 2]), (156, [4, 6, 8, 9, 12, 13, 16, 17, 4, 21, 23, 24, 4, 28, 4]), (158, [2, 3, 6, 7, 10, 11, 2]), (89, [5, 7, 9, 13, 15, 19, 21, 25, 27, 31, 33, 37, 39]), (16, [2, 2, 3, 4, 10, 12, 3, 4, 48, 50, 54, 2]), (40, [2, 11, 16, 21, 26, 31, 2]), (92, [4, 5, 7, 8, 4, 11, 12, 12, 12, 12, 12, 12, 12, 4, 20, 20, 20, 20, 4, 25, 27, 30, 31, 35, 36, 4, 4, 4]), (91, [6, 7, 8, 10, 11, 12, 6]), (93, [2, 3, 2]), (94, [2, 2]), (95, [6, 10, 7, 8, 12, 13, 9, 17, 19, 20, 21, 23, 24, 25, 31, 32, 33, 7, 29, 9, 15, 8, 36, 6]), (41, [2, 2, 2]), (42, [4, 5, 6, 8, 9, 12, 14, 18, 5, 20, 0, 22, 1, 24, 4]), (17, [2, 2, 3, 4, 10, 3, 12, 4, 50, 52, 56, 2]), (43, [2, 2, 3, 9, 11, 12, 2]), (96, [2, 6, 16, 21, 26, 31, 36, 41, 46, 2]), (97, [2, 3, 4, 9, 15, 3, 17, 19, 3, 13, 4, 5, 21, 27, 30, 3, 25, 5, 33, 2]), (44, [2, 2, 2]), (45, [2, 4, 2, 6, 8, 2, 3, 12, 14, 20, 3, 22, 0, 24, 29, 2]), (46, [0, 0]), (47, [2, 3, 6, 2]), (14, [2, 7, 2, 4, 11, 14, 16, 5, 6, 19, 21, 23, 24, 28, 2, 30, 31, 4, 14, 35, 2]), (36, [3, 2]), (80, [5, 10, 13, 14, 5, 19, 20, 6, 23, 5, 26, 28, 7, 8, 30, 32, 35, 37, 42, 43, 51, 7, 70, 5, 5]), (37, [4, 5, 6, 4, 2000007, 6000007]), (81, [8, 12, 8, 14, 16, 17, 8, 19, 21, 22, 3, 25, 26, 3, 30, 32, 3, 10, 34, 35, 37, 38, 11, 40, 43, 44, 45, 46, 50, 51, 52, 0, 56, 10, 59, 60, 63, 8]), (130, [4, 10, 5, 12, 14, 15, 16, 19, 1, 20, 6, 7, 22, 23, 29, 28, 8, 9, 34, 35, 36, 39, 40, 0, 26, 7, 42, 45, 47, 49, 4]), (179, [2, 3, 7, 2, 9, 2]), (162, [2, 3, 4, 6, 7, 11, 2, 3, 15, 14, 2, 3]), (202, [2, 3, 13, 4, 15, 2, 3, 17, 5, 19, 6, 22, 24, 7, 28, 31, 33, 2, 3, 36, 8, 39, 43, 44, 2, 3, 46, 10, 48, 52, 55, 2, 3, 58, 60, 64, 2, 3, 68, 11, 70, 72, 73, 2, 3, 76, 78, 82, 87, 2, 3, 91, 12, 93, 95, 96, 2, 3, 99, 103, 108, 113, 2, 3]), (131, [4, 7, 10, 4, 13, 16, 17, 4, 5, 20, 21, 6, 23, 25, 4, 26, 5, 28, 29, 30, 0]), (132, [4, 5, 6, 4]), (181, [4, 14, 5, 17, 19, 20, 21, 16, 4, 25, 24, 27, 28, 4, 32, 33, 31, 4, 37, 40, 41, 36, 45, 46, 4, 48, 6, 50, 7, 8, 52, 54, 9, 10, 57, 58, 60, 61, 63, 65, 66, 68, 70, 11, 72, 4, 74, 75, 8, 78, 79, 82, 84, 85, 86, 87, 88, 91, 94, 4, 95, 8, 97, 10, 99, 102, 103, 104, 108, 109, 111, 12, 113, 115, 116, 4, 4, 118, 121, 122, 123, 128, 129, 130, 133, 134, 136, 13, 138, 4, 140, 141, 4, 4]), (208, [4, 5, 6, 4]), (210, [2, 3, 2]), (211, [4, 12, 11, 5, 6, 16, 7, 8, 9, 18, 19, 23, 25, 26, 8, 21, 9, 30, 31, 33, 34, 35, 37, 4, 40, 10, 41, 42, 45, 8, 47, 48, 49, 8, 53, 54, 55, 56, 57, 8, 63, 10, 65, 66, 68, 69, 70, 71, 73, 75, 78, 79, 4, 4]), (230, [2, 3, 4, 5, 9, 10, 15, 17, 18, 4, 13, 5, 6, 7, 22, 8, 24, 28, 31, 32, 6, 34, 35, 7, 26, 8, 37, 38, 2, 3]), (38, [4, 15, 14, 5, 6, 7, 20, 22, 23, 4, 25, 26, 28, 29, 4, 31, 34, 38, 33, 40, 8, 9, 42, 4, 44, 45, 4, 48, 50, 51, 4, 53, 56, 55, 11, 60, 4, 62, 4, 70, 71, 69, 12, 13, 75, 4, 77, 4]), (82, [4, 5, 6, 7, 8, 4, 5, 6]), (133, [4, 5, 6, 8, 9, 7, 11, 13, 14, 16, 17, 18, 4, 5, 6, 22, 4, 5, 6]), (83, [4, 5, 6, 8, 4, 10, 12, 16, 18, 21, 23, 4, 25, 27, 4, 35, 37, 4, 4, 4]), (84, [4, 9, 13, 8, 15, 6, 7, 18, 4, 20, 21, 24, 4, 26, 4]), (136, [5, 6, 5, 6, 17, 16, 8, 9, 21, 5, 6, 24, 25, 5, 6]), (185, [2, 6, 11, 17, 23, 27, 2, 38, 34, 2, 56, 47, 2, 68, 62, 2, 77, 82, 87, 2]), (75, [6, 10, 14, 17, 23, 29, 32, 6]), (124, [2, 3, 5, 6, 2]), (126, [2, 7, 6, 3, 4, 5, 12, 13, 14, 17, 18, 2]), (118, [2, 3, 6, 7, 2]), (30, [4, 6, 4]), (77, [4, 8, 10, 5, 11, 13, 17, 4, 8, 4]), (172, [2, 3, 2]), (120, [2, 3, 6, 7, 11, 12, 2]), (175, [4, 6, 8, 10, 5, 11, 12, 13, 4, 8, 4]), (107, [2, 3, 5, 6, 9, 10, 13, 14, 16, 17, 21, 22, 25, 26, 29, 30, 33, 34, 37, 38, 41, 42, 45, 46, 48, 49, 53, 54, 56, 57, 2]), (165, [2, 3, 5, 6, 9, 10, 12, 13, 2]), (166, [2, 3, 5, 6, 2]), (119, [2, 3, 6, 7, 2]), (173, [2, 3, 2]), (174, [2, 3, 5, 6, 10, 11, 12, 18, 19, 2]), (207, [2, 3, 5, 6, 9, 10, 13, 14, 2]), (125, [2, 3, 2]), (127, [4, 7, 9, 4]), (178, [2, 3, 2]), (32, [2, 4, 6, 8, 3, 9, 10, 13, 14, 15, 2, 6, 20, 2]), (191, [4, 7, 9, 4]), (219, [4, 6, 4]), (236, [4, 8, 10, 5, 11, 13, 17, 4, 8, 4]), (220, [2, 2]), (28, [2, 2]), (214, [2, 2, 6, 2]), (194, [2, 3, 9, 13, 3, 9, 19, 2]), (187, [4, 5, 7, 12, 13, 6, 4, 5, 18, 17, 23, 24, 4, 5, 26, 27, 4, 5]), (216, [4, 6, 8, 15, 16, 20, 21, 4, 28, 31, 32, 33, 39, 4, 45, 44, 4, 51, 52, 55, 56, 4]), (234, [4, 5, 6, 4]), (242, [4, 5, 6, 8, 9, 4, 12, 4]), (128, [4, 5, 7, 10, 11, 12, 15, 4]), (217, [4, 14, 5, 6, 7, 15, 8, 17, 19, 20, 22, 23, 5, 6, 7, 26, 5, 29, 28, 31, 9, 33, 35, 36, 4, 40, 41, 42, 43, 4, 52, 51, 55, 54, 10, 11, 60, 59, 4, 63, 62, 4, 68, 69, 70, 4, 77, 76, 80, 79, 12, 13, 85, 87, 88, 84, 4, 92, 97, 98, 91, 4, 105, 104, 4, 112, 113, 114, 118, 119, 4, 128, 127, 4, 130, 129, 132, 4, 137, 4, 141, 140, 143, 147, 152, 4, 156, 155, 4, 159, 158, 161, 162, 4, 4]), (54, [4, 5, 9, 10, 15, 16, 18, 21, 22, 20, 6, 7, 8, 28, 4, 30, 31, 5, 35, 34, 37, 4, 13, 5, 4]), (106, [2, 3, 4, 5, 6, 8, 9, 15, 16, 14, 21, 2, 3, 4, 24, 25, 23, 28, 6, 30, 31, 2, 3, 4, 34, 35, 36, 5, 12, 6, 2, 3, 4]), (79, [2, 6, 10, 12, 4, 5, 15, 17, 18, 22, 10, 2]), (235, [4, 5, 12, 14, 17, 18, 19, 22, 4, 5, 27, 28, 26, 6, 7, 35, 34, 6, 8, 39, 41, 42, 4, 5, 46, 45, 9, 10, 11, 51, 52, 54, 6, 57, 58, 4, 5]), (147, [4, 5, 7, 4]), (57, [4, 5, 6, 7, 4, 5]), (108, [4, 5, 6, 7, 10, 4, 5, 11, 12, 14, 4, 5]), (167, [4, 5, 7, 10, 11, 12, 14, 18, 4]), (243, [4, 5, 6, 7, 4, 5]), (246, [4, 5, 6, 7, 10, 4, 5, 11, 12, 4, 5]), (137, [2, 3, 4, 2, 6, 2, 8, 2, 10, 2, 12, 2, 14, 2, 16, 2, 18, 2, 2]), (85, [4, 5, 10, 8, 6, 7, 17, 18, 22, 23, 25, 4, 5, 32, 33, 4, 5, 2000011, 2000015, 2000019, 2000031, 1000031, 2000036]), (138, [4, 5, 7, 4, 5]), (188, [6, 7, 8, 14, 9, 10, 15, 16, 18, 19, 11, 24, 26, 29, 32, 9, 34, 10, 35, 36, 37, 39, 40, 42, 45, 6, 7]), (189, [4, 7, 4]), (190, [4, 7, 5, 9, 6, 11, 12, 4, 4, 13, 4, 14, 15, 4, 17, 18, 4, 4]), (218, [2, 3, 4, 2]), (139, [2, 7, 9, 3, 16, 22, 23, 25, 27, 2, 7, 2]), (141, [2, 3, 9, 12, 13, 3, 9, 23, 2]), (87, [3, 18, 3, 23, 22, 4, 5, 6, 28, 30, 5, 31, 3, 38, 8, 9, 10, 49, 11, 12, 56, 14, 63, 15, 16, 70, 71, 72, 79, 81, 83, 84, 87, 88, 91, 92, 95, 100, 101, 102, 103, 3, 3, 2000032, 6000032, 2000047, 7000047]), (144, [2, 3, 2]), (145, [6, 7, 10, 12, 13, 16, 17, 6, 7, 8, 21, 23, 25, 9, 26, 28, 29, 8, 23, 35, 6, 7]), (146, [3, 4, 3]), (148, [3, 11, 3, 20, 22, 6, 7, 26, 25, 8, 9, 30, 3, 33, 34, 20, 3]), (149, [2, 3, 9, 11, 12, 2, 3, 15, 18, 19, 22, 23, 2, 3, 29, 28, 4, 5, 35, 34, 6, 7, 40, 42, 8, 44, 47, 8, 49, 50, 51, 52, 54, 55, 2, 3]), (53, [4, 7, 9, 10, 13, 4, 14, 17, 18, 22, 23, 26, 4, 30, 29, 6, 34, 35, 4, 38, 39, 41, 4]), (100, [4, 5, 8, 9, 10, 14, 17, 18, 0, 22, 4]), (99, [4, 5, 8, 9, 11, 14, 0, 16, 4])]
def mvB : List (Nat × List Nat) := [(5, [0]), (15, [0]), (39, [0]), (25, [0]), (140, [0, 2])]
def extsB : List (Nat × Nat) := [(180, 1), (229, 0), (209, 2)]
noncomputable def primA : List (Nat × (List Value -> Heap -> Option (Value × Heap))) := [(140, hIns 2 40), (143, hDelF 144)]
noncomputable def primV : List (Nat × (List V -> VH -> Option (V × VH))) := [(140, insV 2 40), (143, delfV 144)]
noncomputable def base : Base where
 ng := 1
 tab := tabB
 fn := Go.AM.look fnB
 ann := annOf annB
 kind := kindX quietB addsB extsB
 ext := extA
 prim := fun f => Go.AM.look primA f
def monthsB : List (List UInt8) := [[74, 97, 110], [70, 101, 98], [77, 97, 114], [65, 112, 114], [77, 97, 121], [74, 117, 110], [74, 117, 108], [65, 117, 103], [83, 101, 112], [79, 99, 116], [78, 111, 118], [68, 101, 99]]
def globB : Nat -> Option (List V) := globT 0 monthsB
noncomputable def vb : BaseV where
 b := base
 glob := globB
 takes := listOf takesB
 mv := listOf mvB
 prim := fun f => Go.AM.look primV f
noncomputable def cv : CallV := callV vb
noncomputable def pc : FuncId -> List V -> Option V := pcall cv
noncomputable def qc : FuncId -> List V -> Option V := qpcall cv
noncomputable def pco : FuncId -> VH -> List V -> Option V := pcallO cv
noncomputable def pcu : FuncId -> VH -> List V -> Option V := pcallU cv
noncomputable def pcg : FuncId -> VH -> List V -> Option (V × VH) := pcallG cv
noncomputable def qcd : FuncId -> VH -> List V -> Option V := qpcallD cv
noncomputable def qco : FuncId -> VH -> List V -> Option V := qpcallO cv
set_option maxRecDepth 100000 in
theorem fns : FnsOk Tryz.prog fnB := by
 unfold fnB
 refine ⟨⟨rfl, by kernel_rfl⟩, ⟨rfl, by kernel_rfl⟩, ⟨rfl, by kernel_rfl⟩, ⟨rfl, by kernel_rfl⟩, ⟨rfl, by kernel_rfl⟩, ⟨rfl, by kernel_rfl⟩, ⟨rfl, by kernel_rfl⟩, ⟨rfl, by kernel_rfl⟩, ⟨rfl, by kernel_rfl⟩, ⟨rfl, by kernel_rfl⟩, ⟨rfl, by kernel_rfl⟩, ⟨rfl, by kernel_rfl⟩, ⟨rfl, by kernel_rfl⟩, ⟨rfl, by kernel_rfl⟩, ⟨rfl, by kernel_rfl⟩, ⟨rfl, by kernel_rfl⟩, ⟨rfl, by kernel_rfl⟩, ⟨rfl, by kernel_rfl⟩, ⟨rfl, by kernel_rfl⟩, ⟨rfl, by kernel_rfl⟩, ⟨rfl, by kernel_rfl⟩, ⟨rfl, by kernel_rfl⟩, ⟨rfl, by kernel_rfl⟩, ⟨rfl, by kernel_rfl⟩, ⟨rfl, by kernel_rfl⟩, ⟨rfl, by kernel_rfl⟩, ⟨rfl, by kernel_rfl⟩, ⟨rfl, by kernel_rfl⟩, ⟨rfl, by kernel_rfl⟩, ⟨rfl, by kernel_rfl⟩, ⟨rfl, by kernel_rfl⟩, ⟨rfl, by kernel_rfl⟩, ⟨rfl, by kernel_rfl⟩, ⟨rfl, by kernel_rfl⟩, ⟨rfl, by kernel_rfl⟩, ⟨rfl, by kernel_rfl⟩, ⟨rfl, by kernel_rfl⟩, ⟨rfl, by kernel_rfl⟩, ⟨rfl, by kernel_rfl⟩, ⟨rfl, by kernel_rfl⟩, ⟨rfl, by kernel_rfl⟩, ⟨rfl, by kernel_rfl⟩, ⟨rfl, by kernel_rfl⟩, ⟨rfl, by kernel_rfl⟩, ⟨rfl, by kernel_rfl⟩, ⟨rfl, by kernel_rfl⟩, ⟨rfl, by kernel_rfl⟩, ⟨rfl, by kernel_rfl⟩, ⟨rfl, by kernel_rfl⟩, ⟨rfl, by kernel_rfl⟩, ⟨rfl, by kernel_rfl⟩, ⟨rfl, by kernel_rfl⟩, ⟨rfl, by kernel_rfl⟩, ⟨rfl, by kernel_rfl⟩, ⟨rfl, by kernel_rfl⟩, ⟨rfl, by kernel_rfl⟩, ⟨rfl, by kernel_rfl⟩, ⟨rfl, by kernel_rfl⟩, ⟨rfl, by kernel_rfl⟩, ⟨rfl, by kernel_rfl⟩, ⟨rfl, by kernel_rfl⟩, ⟨rfl, by kernel_rfl⟩, ⟨rfl, by kernel_rfl⟩, ⟨rfl, by kernel_rfl⟩, ⟨rfl, by kernel_rfl⟩, ⟨rfl, by kernel_rfl⟩, ⟨rfl, by kernel_rfl⟩, ⟨rfl, by kernel_rfl⟩, ⟨rfl, by kernel_rfl⟩, ⟨rfl, by kernel_rfl⟩, ⟨rfl, by kernel_rfl⟩, ⟨rfl, by kernel_rfl⟩, ⟨rfl, by kernel_rfl⟩, ⟨rfl, by kernel_rfl⟩, ⟨rfl, by kernel_rfl⟩, ⟨rfl, by kernel_rfl⟩, ⟨rfl, by kernel_rfl⟩, ⟨rfl, by kernel_rfl⟩, ⟨rfl, by kernel_rfl⟩, ⟨rfl, by kernel_rfl⟩, ⟨rfl, by kernel_rfl⟩, ⟨rfl, by kernel_rfl⟩, ⟨rfl, by kernel_rfl⟩, ⟨rfl, by kernel_rfl⟩, ⟨rfl, by kernel_rfl⟩, ⟨rfl, by kernel_rfl⟩, ⟨rfl, by kernel_rfl⟩, ⟨rfl, by kernel_rfl⟩, ⟨rfl, by kernel_rfl⟩, ⟨rfl, by kernel_rfl⟩, ⟨rfl, by kernel_rfl⟩, ⟨rfl, by kernel_rfl⟩, ⟨rfl, by kernel_rfl⟩, ⟨rfl, by kernel_rfl⟩, ⟨rfl, by kernel_rfl⟩, ⟨rfl, by kernel_rfl⟩, ⟨rfl, by kernel_rfl⟩, ⟨rfl, by kernel_rfl⟩, ⟨rfl, by kernel_rfl⟩, ⟨rfl, by kernel_rfl⟩, ⟨rfl, by kernel_rfl⟩, ⟨rfl, by kernel_rfl⟩, ⟨rfl, by kernel_rfl⟩, ⟨rfl, by kernel_rfl⟩, ⟨rfl, by kernel_rfl⟩, ⟨rfl, by kernel_rfl⟩, ⟨rfl, by kernel_rfl⟩, ⟨rfl, by kernel_rfl⟩, ⟨rfl, by kernel_rfl⟩, ⟨rfl, by kernel_rfl⟩, ⟨rfl, by kernel_rfl⟩, ⟨rfl, by kernel_rfl⟩, ⟨rfl, by kernel_rfl⟩, ⟨rfl, by kernel_rfl⟩, ⟨rfl, by kernel_rfl⟩, trivial⟩
theorem tabs : tabB? Tryz.prog tabB = true := by kernel_rfl
theorem exts : ExtFns Tryz.prog extsB := by
 unfold extsB
 exact ⟨fun args w => Go.run_callFunc_extern (fn := Tryz.f180) (e := Extern.BytealgCount.count) (by kernel_rfl) (by kernel_rfl) (by kernel_rfl) (by kernel_rfl) (by kernel_rfl) args w, fun args w => Go.run_callFunc_extern (fn := Tryz.f229) (e := Extern.BytealgIndexByte.indexByte) (by kernel_rfl) (by kernel_rfl) (by kernel_rfl) (by kernel_rfl) (by kernel_rfl) args w, trivial, trivial⟩
def ren140 : Go.Shelf.Ren := ⟨fun | 22 => 140 | 29 => 192 | 30 => 193 | n => n, fun | 0 => 0 | 3 => 3 | 4 => 4 | 9 => 138 | 24 => 54 | n => n, fun n => n⟩
theorem lay140 : InsLay Tryz.prog ren140 2 40 (.agg #[(.string (bs [])), (.slice none 0 0)]) where
 f22 := ⟨ "slices.Insert[[]loop.example/mailwire/impl.Box,loop.example/mailwire/impl.Box]", by decide, Tryz.func140.trans (congrArg some (by kernel_rfl))⟩
 ov := fun args w => Go.run_callFunc_extern (fn := Tryz.f192) Tryz.func192 (by kernel_rfl) (by kernel_rfl) (by kernel_rfl) (e := Extern.SlicesOverlaps.overlaps #[54, 54] #[4]) (by kernel_rfl) args w
 eb0 := by decide
 mixed := by kernel_rfl
 t0 := Tryz.underlying0
 a0 := Tryz.isAgg0
 z0 := Tryz.sizeOf0
 v0 := Tryz.zeroValue0
 t3 := Tryz.underlying3
 a3 := Tryz.isAgg3
 z3 := Tryz.sizeOf3
 v3 := Tryz.zeroValue3
 t4 := Tryz.underlying4
 a4 := Tryz.isAgg4
 z4 := Tryz.sizeOf4
 v4 := Tryz.zeroValue4
 t24 := Tryz.underlying54
 a24 := Tryz.isAgg54
 z24 := Tryz.sizeOf54
 v24 := Tryz.zeroValue54
 z9 := Tryz.sizeOf138
 v9 := Tryz.zeroValue138
 i9 := by kernel_rfl
 zs := rfl
 es0 := by decide
def ren143 : Go.Shelf.Ren := ⟨fun | 6 => 77 | 10 => 143 | n => n, fun | 0 => 0 | 3 => 3 | 4 => 4 | 22 => 23 | 23 => 9 | 25 => 52 | n => n, fun n => n⟩
theorem lay143 : DfLay Tryz.prog ren143 144 where
 L := {
 mixed := by kernel_rfl
 f6 := ⟨ "slices.IndexFunc[[]string,string]", by decide, Tryz.func77.trans (congrArg some (by kernel_rfl))⟩
 f10 := ⟨ "slices.DeleteFunc[[]string,string]", by decide, Tryz.func143.trans (congrArg some (by kernel_rfl))⟩
 t0 := Tryz.underlying0
 a0 := Tryz.isAgg0
 z0 := Tryz.sizeOf0
 v0 := Tryz.zeroValue0
 t3 := Tryz.underlying3
 a3 := Tryz.isAgg3
 z3 := Tryz.sizeOf3
 v3 := Tryz.zeroValue3
 t4 := Tryz.underlying4
 a4 := Tryz.isAgg4
 z4 := Tryz.sizeOf4
 v4 := Tryz.zeroValue4
 t22 := Tryz.underlying23
 a22 := Tryz.isAgg23
 z22 := Tryz.sizeOf23
 v22 := Tryz.zeroValue23
 a23 := Tryz.isAgg9
 z23 := Tryz.sizeOf9
 t25 := Tryz.underlying52
 a25 := Tryz.isAgg52
 z25 := Tryz.sizeOf52
 v25 := Tryz.zeroValue52
 }
 v23 := Tryz.zeroValue9
 eg := fun args w => enters_of Tryz.func144 (by kernel_rfl) rfl args w
 pg := fun s W => by
  show Calls Tryz.prog 144 #[.string s] W _
  go_enter Tryz.func144, Tryz.ntmps144
  go_wp2
  all_goals (go_ret; exact ⟨by simp_all [bs_empty], 0, rfl⟩)
theorem primsA_ok : PrimsOk Tryz.prog 1 primA := ⟨fun args hp r hp' h => ins_owes 1 lay140 h, fun args hp r hp' h => delf_owes 1 lay143 h, trivial⟩
theorem base_ok : BaseOk Tryz.prog base where
 tab := tab_ok tabs
 fn := fns_ok fns
 ext := ext_ok exts
 prim := prims_ok (P := Tryz.prog) (ng := 1) primsA_ok
 mixed := by kernel_rfl
theorem primsV_ok : PrimsSim vb primV := ⟨fun args H r H' h => insV_sim (b := base) rfl h, fun args H r H' h => delfV_sim (b := base) rfl h, trivial⟩
theorem vb_ok : BaseVOk vb where
 zero := tab_zero (tab_ok tabs)
 sl := tab_sl (tab_ok tabs)
 gd := fun g cs h => by exact globT_data h
 pos := tab_pos (by kernel_rfl)
 noprim := fun f h => look_keys (f := f) (l := primV) (l' := primA) rfl h
 prim := prims_sim primsV_ok
end Go.Proofs.YtncekccimhohgaaGreatDoor.Q
