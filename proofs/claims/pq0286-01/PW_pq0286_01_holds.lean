import PyProof.Rows.All
import Wide.All
import OpenK.AllK
import Wide.FinOn
import PySem.Challenge.RW_pq0286_01
set_option Elab.async false
set_option maxRecDepth 100000
set_option linter.unusedVariables false
section
open PySem PySem.W PyProof.Rows
set_option maxHeartbeats 4000000
namespace Mine
abbrev pw : Program := PySem.Challenge.pw_pq0286_01
def Wrap (_ : Program) : Type := Program
abbrev getIt {p : Program} : Wrap p := p
-- each name of the program, its figures
theorem z0 : Str.ofString "_law_draw" = ⟨#[95, 108, 97, 119, 95, 100, 114, 97, 119]⟩ := rfl
theorem z1 : Str.ofString "deck" = ⟨#[100, 101, 99, 107]⟩ := rfl
theorem z2 : Str.ofString "many" = ⟨#[109, 97, 110, 121]⟩ := rfl
theorem z3 : Str.ofString "pop" = ⟨#[112, 111, 112]⟩ := rfl
theorem z4 : Str.ofString "_law_stands" = ⟨#[95, 108, 97, 119, 95, 115, 116, 97, 110, 100, 115]⟩ := rfl
theorem z5 : Str.ofString "tree" = ⟨#[116, 114, 101, 101]⟩ := rfl
theorem z6 : Str.ofString "found" = ⟨#[102, 111, 117, 110, 100]⟩ := rfl
theorem z7 : Str.ofString "own" = ⟨#[111, 119, 110]⟩ := rfl
theorem z8 : Str.ofString "listed" = ⟨#[108, 105, 115, 116, 101, 100]⟩ := rfl
theorem z9 : Str.ofString "/d" = ⟨#[47, 100]⟩ := rfl
theorem z10 : Str.ofString "append" = ⟨#[97, 112, 112, 101, 110, 100]⟩ := rfl
theorem z11 : Str.ofString "is_directory" = ⟨#[105, 115, 95, 100, 105, 114, 101, 99, 116, 111, 114, 121]⟩ := rfl
theorem z12 : Str.ofString "/d/" = ⟨#[47, 100, 47]⟩ := rfl
theorem z13 : Str.ofString "read" = ⟨#[114, 101, 97, 100]⟩ := rfl
theorem z14 : Str.ofString "_law_saved" = ⟨#[95, 108, 97, 119, 95, 115, 97, 118, 101, 100]⟩ := rfl
theorem z15 : Str.ofString "codes" = ⟨#[99, 111, 100, 101, 115]⟩ := rfl
theorem z16 : Str.ofString "manner" = ⟨#[109, 97, 110, 110, 101, 114]⟩ := rfl
theorem z17 : Str.ofString "is_backed_up" = ⟨#[105, 115, 95, 98, 97, 99, 107, 101, 100, 95, 117, 112]⟩ := rfl
theorem z18 : Str.ofString "write_file" = ⟨#[119, 114, 105, 116, 101, 95, 102, 105, 108, 101]⟩ := rfl
theorem z19 : Str.ofString "/d/f" = ⟨#[47, 100, 47, 102]⟩ := rfl
theorem z20 : Str.ofString "LispSignal" = ⟨#[76, 105, 115, 112, 83, 105, 103, 110, 97, 108]⟩ := rfl
theorem z21 : Str.ofString "error" = ⟨#[101, 114, 114, 111, 114]⟩ := rfl
theorem z22 : Str.ofString "symbol" = ⟨#[115, 121, 109, 98, 111, 108]⟩ := rfl
theorem z23 : Str.ofString "_law_backup" = ⟨#[95, 108, 97, 119, 95, 98, 97, 99, 107, 117, 112]⟩ := rfl
theorem z24 : Str.ofString "way" = ⟨#[119, 97, 121]⟩ := rfl
theorem z25 : Str.ofString "stands" = ⟨#[115, 116, 97, 110, 100, 115]⟩ := rfl
theorem z26 : Str.ofString "numbers" = ⟨#[110, 117, 109, 98, 101, 114, 115]⟩ := rfl
theorem z27 : Str.ofString "AS_BEFORE" = ⟨#[65, 83, 95, 66, 69, 70, 79, 82, 69]⟩ := rfl
theorem z28 : Str.ofString "NUMBERED" = ⟨#[78, 85, 77, 66, 69, 82, 69, 68]⟩ := rfl
theorem z29 : Str.ofString "SINGLE" = ⟨#[83, 73, 78, 71, 76, 69]⟩ := rfl
theorem z30 : Str.ofString "NEVER" = ⟨#[78, 69, 86, 69, 82]⟩ := rfl
theorem z31 : Str.ofString "get" = ⟨#[103, 101, 116]⟩ := rfl
theorem z32 : Str.ofString "f" = ⟨#[102]⟩ := rfl
theorem z33 : Str.ofString "" = ⟨#[]⟩ := rfl
theorem z34 : Str.ofString "f~" = ⟨#[102, 126]⟩ := rfl
theorem z35 : Str.ofString "f.~" = ⟨#[102, 46, 126]⟩ := rfl
theorem z36 : Str.ofString "str" = ⟨#[115, 116, 114]⟩ := rfl
theorem z37 : Str.ofString "max" = ⟨#[109, 97, 120]⟩ := rfl
theorem z38 : Str.ofString "~" = ⟨#[126]⟩ := rfl
theorem z39 : Str.ofString "law" = ⟨#[108, 97, 119]⟩ := rfl
theorem z40 : Str.ofString "script" = ⟨#[115, 99, 114, 105, 112, 116]⟩ := rfl
theorem z41 : Str.ofString "abs" = ⟨#[97, 98, 115]⟩ := rfl
theorem z42 : Str.ofString "cell" = ⟨#[99, 101, 108, 108]⟩ := rfl
theorem z43 : Str.ofString ".0" = ⟨#[46, 48]⟩ := rfl
theorem z44 : Str.ofString "FileTree" = ⟨#[70, 105, 108, 101, 84, 114, 101, 101]⟩ := rfl
theorem z45 : Str.ofString "make_directory" = ⟨#[109, 97, 107, 101, 95, 100, 105, 114, 101, 99, 116, 111, 114, 121]⟩ := rfl
theorem z46 : Str.ofString "write" = ⟨#[119, 114, 105, 116, 101]⟩ := rfl
theorem z47 : Str.ofString "is_protected" = ⟨#[105, 115, 95, 112, 114, 111, 116, 101, 99, 116, 101, 100]⟩ := rfl
theorem z48 : Str.ofString "lap" = ⟨#[108, 97, 112]⟩ := rfl
theorem z49 : Str.ofString "range" = ⟨#[114, 97, 110, 103, 101]⟩ := rfl
theorem z50 : Str.ofString "name" = ⟨#[110, 97, 109, 101]⟩ := rfl
theorem z51 : Str.ofString "single" = ⟨#[115, 105, 110, 103, 108, 101]⟩ := rfl
theorem z52 : Str.ofString "sorted" = ⟨#[115, 111, 114, 116, 101, 100]⟩ := rfl
theorem z53 : Str.ofString "Manner" = ⟨#[77, 97, 110, 110, 101, 114]⟩ := rfl
theorem z54 : Str.ofString "set_writable" = ⟨#[115, 101, 116, 95, 119, 114, 105, 116, 97, 98, 108, 101]⟩ := rfl
theorem z55 : Str.ofString "before" = ⟨#[98, 101, 102, 111, 114, 101]⟩ := rfl
theorem z56 : Str.ofString "clock" = ⟨#[99, 108, 111, 99, 107]⟩ := rfl
theorem z57 : Str.ofString "file-error" = ⟨#[102, 105, 108, 101, 45, 101, 114, 114, 111, 114]⟩ := rfl
theorem z58 : Str.ofString "may_write" = ⟨#[109, 97, 121, 95, 119, 114, 105, 116, 101]⟩ := rfl
theorem z59 : Str.ofString "is_made" = ⟨#[105, 115, 95, 109, 97, 100, 101]⟩ := rfl
theorem z60 : Str.ofString "every" = ⟨#[101, 118, 101, 114, 121]⟩ := rfl
theorem z61 : Str.ofString "number" = ⟨#[110, 117, 109, 98, 101, 114]⟩ := rfl
theorem z62 : Str.ofString "at" = ⟨#[97, 116]⟩ := rfl
theorem z63 : Str.ofString "len" = ⟨#[108, 101, 110]⟩ := rfl
theorem z64 : Str.ofString "is_kept_here" = ⟨#[105, 115, 95, 107, 101, 112, 116, 95, 104, 101, 114, 101]⟩ := rfl
theorem z65 : Str.ofString "oldest" = ⟨#[111, 108, 100, 101, 115, 116]⟩ := rfl
theorem z66 : Str.ofString "newest" = ⟨#[110, 101, 119, 101, 115, 116]⟩ := rfl
theorem z67 : Str.ofString "isinstance" = ⟨#[105, 115, 105, 110, 115, 116, 97, 110, 99, 101]⟩ := rfl
theorem z68 : Str.ofString "bool" = ⟨#[98, 111, 111, 108]⟩ := rfl
theorem z69 : Str.ofString "fast" = ⟨#[102, 97, 115, 116]⟩ := rfl
theorem z70 : Str.ofString "Entry" = ⟨#[69, 110, 116, 114, 121]⟩ := rfl
theorem z71 : Str.ofString "__init__" = ⟨#[95, 95, 105, 110, 105, 116, 95, 95]⟩ := rfl
theorem z72 : Str.ofString "self" = ⟨#[115, 101, 108, 102]⟩ := rfl
theorem z73 : Str.ofString "sort" = ⟨#[115, 111, 114, 116]⟩ := rfl
theorem z74 : Str.ofString "content" = ⟨#[99, 111, 110, 116, 101, 110, 116]⟩ := rfl
theorem z75 : Str.ofString "stamp" = ⟨#[115, 116, 97, 109, 112]⟩ := rfl
theorem z76 : Str.ofString "is_writable" = ⟨#[105, 115, 95, 119, 114, 105, 116, 97, 98, 108, 101]⟩ := rfl
theorem z77 : Str.ofString "left" = ⟨#[108, 101, 102, 116]⟩ := rfl
theorem z78 : Str.ofString "entries" = ⟨#[101, 110, 116, 114, 105, 101, 115]⟩ := rfl
theorem z79 : Str.ofString "/" = ⟨#[47]⟩ := rfl
theorem z80 : Str.ofString "DIRECTORY" = ⟨#[68, 73, 82, 69, 67, 84, 79, 82, 89]⟩ := rfl
theorem z81 : Str.ofString "step" = ⟨#[115, 116, 101, 112]⟩ := rfl
theorem z82 : Str.ofString "Ended" = ⟨#[69, 110, 100, 101, 100]⟩ := rfl
theorem z83 : Str.ofString "true_name" = ⟨#[116, 114, 117, 101, 95, 110, 97, 109, 101]⟩ := rfl
theorem z84 : Str.ofString "turn" = ⟨#[116, 117, 114, 110]⟩ := rfl
theorem z85 : Str.ofString "MOST_LINKS" = ⟨#[77, 79, 83, 84, 95, 76, 73, 78, 75, 83]⟩ := rfl
theorem z86 : Str.ofString "follow" = ⟨#[102, 111, 108, 108, 111, 119]⟩ := rfl
theorem z87 : Str.ofString "first_link" = ⟨#[102, 105, 114, 115, 116, 95, 108, 105, 110, 107]⟩ := rfl
theorem z88 : Str.ofString "target" = ⟨#[116, 97, 114, 103, 101, 116]⟩ := rfl
theorem z89 : Str.ofString "whole" = ⟨#[119, 104, 111, 108, 101]⟩ := rfl
theorem z90 : Str.ofString "directory_part" = ⟨#[100, 105, 114, 101, 99, 116, 111, 114, 121, 95, 112, 97, 114, 116]⟩ := rfl
theorem z91 : Str.ofString "join" = ⟨#[106, 111, 105, 110]⟩ := rfl
theorem z92 : Str.ofString "steps_of" = ⟨#[115, 116, 101, 112, 115, 95, 111, 102]⟩ := rfl
theorem z93 : Str.ofString "Too many links" = ⟨#[84, 111, 111, 32, 109, 97, 110, 121, 32, 108, 105, 110, 107, 115]⟩ := rfl
theorem z94 : Str.ofString "end" = ⟨#[101, 110, 100]⟩ := rfl
theorem z95 : Str.ofString "find" = ⟨#[102, 105, 110, 100]⟩ := rfl
theorem z96 : Str.ofString "LINK" = ⟨#[76, 73, 78, 75]⟩ := rfl
theorem z97 : Str.ofString "parent_true" = ⟨#[112, 97, 114, 101, 110, 116, 95, 116, 114, 117, 101]⟩ := rfl
theorem z98 : Str.ofString "above" = ⟨#[97, 98, 111, 118, 101]⟩ := rfl
theorem z99 : Str.ofString "parent_of" = ⟨#[112, 97, 114, 101, 110, 116, 95, 111, 102]⟩ := rfl
theorem z100 : Str.ofString "joined" = ⟨#[106, 111, 105, 110, 101, 100]⟩ := rfl
theorem z101 : Str.ofString "last_part" = ⟨#[108, 97, 115, 116, 95, 112, 97, 114, 116]⟩ := rfl
theorem z102 : Str.ofString "entry" = ⟨#[101, 110, 116, 114, 121]⟩ := rfl
theorem z103 : Str.ofString "is_there" = ⟨#[105, 115, 95, 116, 104, 101, 114, 101]⟩ := rfl
theorem z104 : Str.ofString "is_plain" = ⟨#[105, 115, 95, 112, 108, 97, 105, 110]⟩ := rfl
theorem z105 : Str.ofString "PLAIN" = ⟨#[80, 76, 65, 73, 78]⟩ := rfl
theorem z106 : Str.ofString "need_plain" = ⟨#[110, 101, 101, 100, 95, 112, 108, 97, 105, 110]⟩ := rfl
theorem z107 : Str.ofString "file-missing" = ⟨#[102, 105, 108, 101, 45, 109, 105, 115, 115, 105, 110, 103]⟩ := rfl
theorem z108 : Str.ofString "No such file or directory" = ⟨#[78, 111, 32, 115, 117, 99, 104, 32, 102, 105, 108, 101, 32, 111, 114, 32, 100, 105, 114, 101, 99, 116, 111, 114, 121]⟩ := rfl
theorem z109 : Str.ofString "Is a directory" = ⟨#[73, 115, 32, 97, 32, 100, 105, 114, 101, 99, 116, 111, 114, 121]⟩ := rfl
theorem z110 : Str.ofString "need_directory" = ⟨#[110, 101, 101, 100, 95, 100, 105, 114, 101, 99, 116, 111, 114, 121]⟩ := rfl
theorem z111 : Str.ofString "Not a directory" = ⟨#[78, 111, 116, 32, 97, 32, 100, 105, 114, 101, 99, 116, 111, 114, 121]⟩ := rfl
theorem z112 : Str.ofString "list" = ⟨#[108, 105, 115, 116]⟩ := rfl
theorem z113 : Str.ofString "link_text" = ⟨#[108, 105, 110, 107, 95, 116, 101, 120, 116]⟩ := rfl
theorem z114 : Str.ofString "head" = ⟨#[104, 101, 97, 100]⟩ := rfl
theorem z115 : Str.ofString "other" = ⟨#[111, 116, 104, 101, 114]⟩ := rfl
theorem z116 : Str.ofString "need_room" = ⟨#[110, 101, 101, 100, 95, 114, 111, 111, 109]⟩ := rfl
theorem z117 : Str.ofString "Permission denied" = ⟨#[80, 101, 114, 109, 105, 115, 115, 105, 111, 110, 32, 100, 101, 110, 105, 101, 100]⟩ := rfl
theorem z118 : Str.ofString "fill" = ⟨#[102, 105, 108, 108]⟩ := rfl
theorem z119 : Str.ofString "file-already-exists" = ⟨#[102, 105, 108, 101, 45, 97, 108, 114, 101, 97, 100, 121, 45, 101, 120, 105, 115, 116, 115]⟩ := rfl
theorem z120 : Str.ofString "File already exists" = ⟨#[70, 105, 108, 101, 32, 97, 108, 114, 101, 97, 100, 121, 32, 101, 120, 105, 115, 116, 115]⟩ := rfl
theorem z121 : Str.ofString "make_link" = ⟨#[109, 97, 107, 101, 95, 108, 105, 110, 107]⟩ := rfl
theorem z122 : Str.ofString "text" = ⟨#[116, 101, 120, 116]⟩ := rfl
theorem z123 : Str.ofString "_wall" = ⟨#[95, 119, 97, 108, 108]⟩ := rfl
theorem z124 : Str.ofString "delete" = ⟨#[100, 101, 108, 101, 116, 101]⟩ := rfl
theorem z125 : Str.ofString "remove_directory" = ⟨#[114, 101, 109, 111, 118, 101, 95, 100, 105, 114, 101, 99, 116, 111, 114, 121]⟩ := rfl
theorem z126 : Str.ofString "rename" = ⟨#[114, 101, 110, 97, 109, 101]⟩ := rfl
theorem z127 : Str.ofString "old" = ⟨#[111, 108, 100]⟩ := rfl
theorem z128 : Str.ofString "new" = ⟨#[110, 101, 119]⟩ := rfl
theorem z129 : Str.ofString "is_over" = ⟨#[105, 115, 95, 111, 118, 101, 114]⟩ := rfl
theorem z130 : Str.ofString "there" = ⟨#[116, 104, 101, 114, 101]⟩ := rfl
theorem z131 : Str.ofString "Invalid argument" = ⟨#[73, 110, 118, 97, 108, 105, 100, 32, 97, 114, 103, 117, 109, 101, 110, 116]⟩ := rfl
theorem z132 : Str.ofString "moved" = ⟨#[109, 111, 118, 101, 100]⟩ := rfl
theorem z133 : Str.ofString "copy" = ⟨#[99, 111, 112, 121]⟩ := rfl
theorem z134 : Str.ofString "flag" = ⟨#[102, 108, 97, 103]⟩ := rfl
theorem z135 : Str.ofString "directory" = ⟨#[100, 105, 114, 101, 99, 116, 111, 114, 121]⟩ := rfl
theorem z136 : Str.ofString "__name__" = ⟨#[95, 95, 110, 97, 109, 101, 95, 95]⟩ := rfl
theorem z137 : Str.ofString "law_pq0286_01" = ⟨#[108, 97, 119, 95, 112, 113, 48, 50, 56, 54, 95, 48, 49]⟩ := rfl
theorem z138 : Str.ofString "Exception" = ⟨#[69, 120, 99, 101, 112, 116, 105, 111, 110]⟩ := rfl
theorem z139 : Str.ofString "make_backup" = ⟨#[109, 97, 107, 101, 95, 98, 97, 99, 107, 117, 112]⟩ := rfl
theorem z140 : Str.ofString "extra" = ⟨#[101, 120, 116, 114, 97]⟩ := rfl
theorem z141 : Str.ofString "backup_plan" = ⟨#[98, 97, 99, 107, 117, 112, 95, 112, 108, 97, 110]⟩ := rfl
theorem z142 : Str.ofString "is_copying" = ⟨#[105, 115, 95, 99, 111, 112, 121, 105, 110, 103]⟩ := rfl
theorem z143 : Str.ofString "is_precious" = ⟨#[105, 115, 95, 112, 114, 101, 99, 105, 111, 117, 115]⟩ := rfl
theorem z144 : Str.ofString "spare_name" = ⟨#[115, 112, 97, 114, 101, 95, 110, 97, 109, 101]⟩ := rfl
theorem z145 : Str.ofString ".tmp" = ⟨#[46, 116, 109, 112]⟩ := rfl
theorem z146 : Str.ofString "write_precious" = ⟨#[119, 114, 105, 116, 101, 95, 112, 114, 101, 99, 105, 111, 117, 115]⟩ := rfl
theorem z147 : Str.ofString "spare" = ⟨#[115, 112, 97, 114, 101]⟩ := rfl
theorem z148 : Str.ofString "made" = ⟨#[109, 97, 100, 101]⟩ := rfl
theorem z149 : Str.ofString "backups" = ⟨#[98, 97, 99, 107, 117, 112, 115]⟩ := rfl
theorem z150 : Str.ofString "emacs.filetree" = ⟨#[101, 109, 97, 99, 115, 46, 102, 105, 108, 101, 116, 114, 101, 101]⟩ := rfl
theorem z151 : Str.ofString "wants_newline" = ⟨#[119, 97, 110, 116, 115, 95, 110, 101, 119, 108, 105, 110, 101]⟩ := rfl
theorem z152 : Str.ofString "numbers_there" = ⟨#[110, 117, 109, 98, 101, 114, 115, 95, 116, 104, 101, 114, 101]⟩ := rfl
theorem z153 : Str.ofString "backup_number" = ⟨#[98, 97, 99, 107, 117, 112, 95, 110, 117, 109, 98, 101, 114]⟩ := rfl
theorem z154 : Str.ofString "backup_name" = ⟨#[98, 97, 99, 107, 117, 112, 95, 110, 97, 109, 101]⟩ := rfl
theorem z155 : Str.ofString "last" = ⟨#[108, 97, 115, 116]⟩ := rfl
theorem z156 : Str.ofString "numbered_name" = ⟨#[110, 117, 109, 98, 101, 114, 101, 100, 95, 110, 97, 109, 101]⟩ := rfl
theorem z157 : Str.ofString ".~" = ⟨#[46, 126]⟩ := rfl
theorem z158 : Str.ofString "figures" = ⟨#[102, 105, 103, 117, 114, 101, 115]⟩ := rfl
theorem z159 : Str.ofString "0" = ⟨#[48]⟩ := rfl
theorem z160 : Str.ofString "sign" = ⟨#[115, 105, 103, 110]⟩ := rfl
theorem z161 : Str.ofString "DIGITS" = ⟨#[68, 73, 71, 73, 84, 83]⟩ := rfl
theorem z162 : Str.ofString "emacs.filesaving" = ⟨#[101, 109, 97, 99, 115, 46, 102, 105, 108, 101, 115, 97, 118, 105, 110, 103]⟩ := rfl
theorem z163 : Str.ofString "0123456789" = ⟨#[48, 49, 50, 51, 52, 53, 54, 55, 56, 57]⟩ := rfl
theorem z164 : Str.ofString "rfind" = ⟨#[114, 102, 105, 110, 100]⟩ := rfl
theorem z165 : Str.ofString "split" = ⟨#[115, 112, 108, 105, 116]⟩ := rfl
theorem z166 : Str.ofString ".." = ⟨#[46, 46]⟩ := rfl
theorem z167 : Str.ofString "." = ⟨#[46]⟩ := rfl
theorem z168 : Str.ofString "k" = ⟨#[107]⟩ := rfl
theorem z169 : Str.ofString "emacs.errors" = ⟨#[101, 109, 97, 99, 115, 46, 101, 114, 114, 111, 114, 115]⟩ := rfl
theorem z170 : Str.ofString "data" = ⟨#[100, 97, 116, 97]⟩ := rfl
theorem z171 : Str.ofString "emacs.filenames" = ⟨#[101, 109, 97, 99, 115, 46, 102, 105, 108, 101, 110, 97, 109, 101, 115]⟩ := rfl
theorem z172 : Str.ofString "/claim/cut.py" = ⟨#[47, 99, 108, 97, 105, 109, 47, 99, 117, 116, 46, 112, 121]⟩ := rfl
-- the program, each name turned into its figures
noncomputable def pwF : Program := (by delta PySem.Challenge.pw_pq0286_01; dsimp only [z0, z1, z2, z3, z4, z5, z6, z7, z8, z9, z10, z11, z12, z13, z14, z15, z16, z17, z18, z19, z20, z21, z22, z23, z24, z25, z26, z27, z28, z29, z30, z31, z32, z33, z34, z35, z36, z37, z38, z39, z40, z41, z42, z43, z44, z45, z46, z47, z48, z49, z50, z51, z52, z53, z54, z55, z56, z57, z58, z59, z60, z61, z62, z63, z64, z65, z66, z67, z68, z69, z70, z71, z72, z73, z74, z75, z76, z77, z78, z79, z80, z81, z82, z83, z84, z85, z86, z87, z88, z89, z90, z91, z92, z93, z94, z95, z96, z97, z98, z99, z100, z101, z102, z103, z104, z105, z106, z107, z108, z109, z110, z111, z112, z113, z114, z115, z116, z117, z118, z119, z120, z121, z122, z123, z124, z125, z126, z127, z128, z129, z130, z131, z132, z133, z134, z135, z136, z137, z138, z139, z140, z141, z142, z143, z144, z145, z146, z147, z148, z149, z150, z151, z152, z153, z154, z155, z156, z157, z158, z159, z160, z161, z162, z163, z164, z165, z166, z167, z168, z169, z170, z171, z172]; exact getIt : Wrap PySem.Challenge.pw_pq0286_01)
theorem pwF_eq : pw = pwF := by kernel_rfl
def mkT (l : List Obj) : Nat → Nat → Nat → BT
  | 0, _, _ => .nil
  | n + 1, a, b => match l[b]? with
    | some o => .node o (mkT l n (2 * a) (a + b)) (mkT l n (2 * a) (2 * a + b))
    | none => .nil
def pos0 : Pos := ⟨0, 0, 0, 0⟩
noncomputable def preObjs (P : Params) : List Obj :=
  [boot_o_0 P, boot_o_1 P, boot_o_2 P, boot_o_3 P, boot_o_4 P, boot_o_5 P, boot_o_6 P, boot_o_7 P, boot_o_8 P, boot_o_9 P, boot_o_10 P,
   { cls := .type "tuple", data := .seq #[] }, { cls := .none, data := .fields #[] },
   { cls := .type "code", data := .fields #[.str ⟨#[60, 109, 111, 100, 117, 108, 101, 62]⟩ 182, .str ⟨#[60, 109, 111, 100, 117, 108, 101, 62]⟩ 183, .str ⟨#[47, 99, 108, 97, 105, 109, 47, 99, 117, 116, 46, 112, 121]⟩ 184,
      .int 1 0, .int 0 0, .int 0 0, .int 0 0, .int 0 0, .ref 11, .bool false, .int 181 0, .ref 12, .none, .none, .none, .none, .int 185 0, .int 1 0, .str ⟨#[47, 99, 108, 97, 105, 109, 47, 99, 117, 116, 46, 112, 121]⟩ 186] },
   { cls := .type "frame", slots := #[some (.ref 13), some (.ref 3), some (.ref 3), none, some (.str ⟨#[95, 95, 109, 97, 105, 110, 95, 95]⟩ 164), none, some (.ref 0)] }]
def envOfP (p : Program) : Env := { scope := p.main.scope, locals := mainNs, globals := mainNs, cells := [], code := .ref 13, frame := some 14 }
def codeOfP (p : Program) : Code := .body (behindTheImports p) (envOfP p)
def life0 : Life := {}
def drawn0 : Drawn := {}
noncomputable def sT0 (w : World) (os : OsState) : SharedT := ⟨mkT (preObjs w.params) 8 1 0, 15, life0, #[], drawn0, 187, os⟩
abbrev ann0 : Option Value := some (.ref 6)
noncomputable def runF (w : World) (os : OsState) : Option (Flow × SharedT × Code × Pos) :=
  PySem.W.Fast.tw10110043849684766642 PySem.W.Fast.tw14364793385576792824 pwF w 11 ann0 1 2800 (sT0 w os) (piecesOf (behindTheImports pwF) (envOfP pwF) (codeOfP pwF) pos0 [topFrame pos0])
def en (P : Params) (s : Str) (t : Tok) (v : Value) : DictEntry := ⟨PyData.keyHash P s, .str s t, v⟩
def dobj (es : List DictEntry) (n : Nat) : Obj := { cls := .type "dict", data := .dict es.toArray n }
def noStmt : Stmt := .Pass pos0
noncomputable def stAt (i : Nat) : Stmt := (pwF.main.body.drop i).headD noStmt
def clsBody : Stmt → List Stmt
  | .ClassDef _ _ _ b .. => b
  | _ => []
noncomputable def stIn (i j : Nat) : Stmt := ((clsBody (stAt i)).drop j).headD noStmt
def fnName : Stmt → Str
  | .FunctionDef n .. => n
  | _ => ⟨#[]⟩
def fnParams : Stmt → Arguments
  | .FunctionDef _ a .. => a
  | _ => ⟨[], [], none, [], [], none, []⟩
def fnBody : Stmt → List Stmt
  | .FunctionDef _ _ b .. => b
  | _ => []
def fnScope : Stmt → Scope
  | .FunctionDef _ _ _ _ _ _ s .. => s
  | _ => ⟨.function, [], false, false, []⟩
def fobj (st : Stmt) (qual : Str) (pm cdv : Value) : Obj :=
  { cls := .type "function", data := .func (fnOf (fnName st) qual (fnParams st) (fnBody st) (fnScope st) .none .none .none pm none cdv .none) }
noncomputable def K (P : Params) : Frag :=
  [(nat_lit 3, dobj [en P ⟨#[95, 95, 110, 97, 109, 101, 95, 95]⟩ 165 (.str ⟨#[108, 97, 119, 95, 112, 113, 48, 50, 56, 54, 95, 48, 49]⟩ 746), en P ⟨#[95, 95, 100, 111, 99, 95, 95]⟩ 166 .none, en P ⟨#[95, 95, 112, 97, 99, 107, 97, 103, 101, 95, 95]⟩ 167 .none, en P ⟨#[95, 95, 108, 111, 97, 100, 101, 114, 95, 95]⟩ 168 (.builtin "__main__.__loader__#opaque"), en P ⟨#[95, 95, 115, 112, 101, 99, 95, 95]⟩ 169 .none, en P ⟨#[95, 95, 97, 110, 110, 111, 116, 97, 116, 105, 111, 110, 115, 95, 95]⟩ 170 (.ref 6), en P ⟨#[95, 95, 98, 117, 105, 108, 116, 105, 110, 115, 95, 95]⟩ 171 (.ref 4), en P ⟨#[95, 95, 102, 105, 108, 101, 95, 95]⟩ 173 (.str ⟨#[47, 99, 108, 97, 105, 109, 47, 99, 117, 116, 46, 112, 121]⟩ 172), en P ⟨#[95, 95, 99, 97, 99, 104, 101, 100, 95, 95]⟩ 174 .none, en P ⟨#[95, 119, 97, 108, 108]⟩ 193 (.ref 21), en P ⟨#[76, 105, 115, 112, 83, 105, 103, 110, 97, 108]⟩ 226 (.ref 38), en P ⟨#[68, 73, 71, 73, 84, 83]⟩ 230 (.str ⟨#[48, 49, 50, 51, 52, 53, 54, 55, 56, 57]⟩ 229), en P ⟨#[100, 105, 114, 101, 99, 116, 111, 114, 121, 95, 112, 97, 114, 116]⟩ 238 (.ref 48), en P ⟨#[108, 97, 115, 116, 95, 112, 97, 114, 116]⟩ 245 (.ref 55), en P ⟨#[115, 116, 101, 112, 115, 95, 111, 102]⟩ 254 (.ref 62), en P ⟨#[98, 97, 99, 107, 117, 112, 95, 110, 97, 109, 101]⟩ 261 (.ref 69), en P ⟨#[110, 117, 109, 98, 101, 114, 101, 100, 95, 110, 97, 109, 101]⟩ 269 (.ref 76), en P ⟨#[98, 97, 99, 107, 117, 112, 95, 110, 117, 109, 98, 101, 114]⟩ 281 (.ref 83), en P ⟨#[78, 69, 86, 69, 82]⟩ 285 (.int 0 284), en P ⟨#[83, 73, 78, 71, 76, 69]⟩ 287 (.int 1 286), en P ⟨#[78, 85, 77, 66, 69, 82, 69, 68]⟩ 289 (.int 2 288), en P ⟨#[65, 83, 95, 66, 69, 70, 79, 82, 69]⟩ 291 (.int 3 290), en P ⟨#[77, 97, 110, 110, 101, 114]⟩ 330 (.ref 100), en P ⟨#[110, 117, 109, 98, 101, 114, 115, 95, 116, 104, 101, 114, 101]⟩ 343 (.ref 111), en P ⟨#[98, 97, 99, 107, 117, 112, 95, 112, 108, 97, 110]⟩ 349 (.ref 116), en P ⟨#[109, 97, 107, 101, 95, 98, 97, 99, 107, 117, 112]⟩ 360 (.ref 123), en P ⟨#[115, 112, 97, 114, 101, 95, 110, 97, 109, 101]⟩ 370 (.ref 130), en P ⟨#[119, 114, 105, 116, 101, 95, 112, 114, 101, 99, 105, 111, 117, 115]⟩ 380 (.ref 137), en P ⟨#[119, 114, 105, 116, 101, 95, 102, 105, 108, 101]⟩ 395 (.ref 144), en P ⟨#[77, 79, 83, 84, 95, 76, 73, 78, 75, 83]⟩ 399 (.int 12 398), en P ⟨#[68, 73, 82, 69, 67, 84, 79, 82, 89]⟩ 401 (.int 0 400), en P ⟨#[80, 76, 65, 73, 78]⟩ 403 (.int 1 402), en P ⟨#[76, 73, 78, 75]⟩ 405 (.int 2 404), en P ⟨#[69, 110, 100, 101, 100]⟩ 425 (.ref 154), en P ⟨#[69, 110, 116, 114, 121]⟩ 459 (.ref 174), en P ⟨#[70, 105, 108, 101, 84, 114, 101, 101]⟩ 729 (.ref 375), en P ⟨#[112, 97, 114, 101, 110, 116, 95, 111, 102]⟩ 737 (.ref 386), en P ⟨#[106, 111, 105, 110, 101, 100]⟩ 745 (.ref 393), en P ⟨#[95, 108, 97, 119, 95, 100, 114, 97, 119]⟩ 755 (.ref 400), en P ⟨#[95, 108, 97, 119, 95, 115, 116, 97, 110, 100, 115]⟩ 764 (.ref 407), en P ⟨#[95, 108, 97, 119, 95, 115, 97, 118, 101, 100]⟩ 775 (.ref 414), en P ⟨#[95, 108, 97, 119, 95, 98, 97, 99, 107, 117, 112]⟩ 784 (.ref 421), en P ⟨#[108, 97, 119]⟩ 790 (.ref 426)] 43),
   (nat_lit 9, { cls := .type "code", data := .fields #[(.str ⟨#[60, 109, 111, 100, 117, 108, 101, 62]⟩ 176), (.str ⟨#[60, 109, 111, 100, 117, 108, 101, 62]⟩ 177), (.str ⟨#[47, 99, 108, 97, 105, 109, 47, 99, 117, 116, 46, 112, 121]⟩ 178), (.int 1 0), (.int 0 0), (.int 0 0), (.int 0 0), (.int 0 0), (.ref 7), (.bool false), (.int 175 0), (.ref 8), .none, .none, .none, .none, (.int 179 0), (.int 1 0), (.str ⟨#[47, 99, 108, 97, 105, 109, 47, 99, 117, 116, 46, 112, 121]⟩ 180)] }),
   (nat_lit 13, { cls := .type "code", data := .fields #[(.str ⟨#[60, 109, 111, 100, 117, 108, 101, 62]⟩ 182), (.str ⟨#[60, 109, 111, 100, 117, 108, 101, 62]⟩ 183), (.str ⟨#[47, 99, 108, 97, 105, 109, 47, 99, 117, 116, 46, 112, 121]⟩ 184), (.int 1 0), (.int 0 0), (.int 0 0), (.int 0 0), (.int 0 0), (.ref 11), (.bool false), (.int 181 0), (.ref 12), .none, .none, .none, .none, (.int 185 0), (.int 1 0), (.str ⟨#[47, 99, 108, 97, 105, 109, 47, 99, 117, 116, 46, 112, 121]⟩ 186)] }),
   (nat_lit 20, { cls := .type "code", data := .fields #[(.str ⟨#[95, 119, 97, 108, 108]⟩ 187), (.str ⟨#[95, 119, 97, 108, 108]⟩ 188), (.str ⟨#[47, 99, 108, 97, 105, 109, 47, 99, 117, 116, 46, 112, 121]⟩ 189), (.int 1 0), (.int 1 0), (.int 0 0), (.int 0 0), (.int 3 0), (.ref 15), (.bool true), (.int 181 0), (.ref 16), .none, (.ref 17), (.ref 18), (.ref 19), (.int 191 0), (.int 1 0), (.str ⟨#[47, 99, 108, 97, 105, 109, 47, 99, 117, 116, 46, 112, 121]⟩ 192)] }),
   (nat_lit 21, fobj (stAt 0) ⟨#[95, 119, 97, 108, 108]⟩ (.str ⟨#[95, 95, 109, 97, 105, 110, 95, 95]⟩ 164) (.ref 20)),
   (nat_lit 27, { cls := .type "code", data := .fields #[(.str ⟨#[76, 105, 115, 112, 83, 105, 103, 110, 97, 108]⟩ 198), (.str ⟨#[76, 105, 115, 112, 83, 105, 103, 110, 97, 108]⟩ 199), (.str ⟨#[47, 99, 108, 97, 105, 109, 47, 99, 117, 116, 46, 112, 121]⟩ 200), (.int 5 0), (.int 0 0), (.int 0 0), (.int 0 0), (.int 0 0), (.ref 25), (.bool false), (.int 181 0), (.ref 26), .none, .none, .none, .none, (.int 201 0), (.int 5 0), (.str ⟨#[47, 99, 108, 97, 105, 109, 47, 99, 117, 116, 46, 112, 121]⟩ 202)] }),
   (nat_lit 34, { cls := .type "code", data := .fields #[(.str ⟨#[95, 95, 105, 110, 105, 116, 95, 95]⟩ 208), (.str ⟨#[76, 105, 115, 112, 83, 105, 103, 110, 97, 108, 46, 95, 95, 105, 110, 105, 116, 95, 95]⟩ 209), (.str ⟨#[47, 99, 108, 97, 105, 109, 47, 99, 117, 116, 46, 112, 121]⟩ 210), (.int 7 0), (.int 3 0), (.int 0 0), (.int 0 0), (.int 3 0), (.ref 29), (.bool true), (.int 181 0), (.ref 30), .none, (.ref 31), (.ref 32), (.ref 33), (.int 214 0), (.int 7 0), (.str ⟨#[47, 99, 108, 97, 105, 109, 47, 99, 117, 116, 46, 112, 121]⟩ 215)] }),
   (nat_lit 35, fobj (stIn 2 0) ⟨#[76, 105, 115, 112, 83, 105, 103, 110, 97, 108, 46, 95, 95, 105, 110, 105, 116, 95, 95]⟩ (.str ⟨#[101, 109, 97, 99, 115, 46, 101, 114, 114, 111, 114, 115]⟩ 194) (.ref 34)),
   (nat_lit 38, { cls := .type "type", data := .cls { name := ⟨#[76, 105, 115, 112, 83, 105, 103, 110, 97, 108]⟩, bases := [(.type "Exception")], mro := [(.ref 38), (.type "Exception"), (.type "BaseException"), (.type "object")], ns := 37, qualname := ⟨#[76, 105, 115, 112, 83, 105, 103, 110, 97, 108]⟩ }, slots := #[some (.ref 22), none, some (.str ⟨#[76, 105, 115, 112, 83, 105, 103, 110, 97, 108]⟩ 196), some (.str ⟨#[76, 105, 115, 112, 83, 105, 103, 110, 97, 108]⟩ 204), some (.builtin "Exception.__new__"), some (.bool true)] }),
   (nat_lit 37, dobj [en P ⟨#[95, 95, 109, 111, 100, 117, 108, 101, 95, 95]⟩ 203 (.str ⟨#[101, 109, 97, 99, 115, 46, 101, 114, 114, 111, 114, 115]⟩ 194), en P ⟨#[95, 95, 102, 105, 114, 115, 116, 108, 105, 110, 101, 110, 111, 95, 95]⟩ 207 (.int 5 206), en P ⟨#[95, 95, 105, 110, 105, 116, 95, 95]⟩ 216 (.ref 35), en P ⟨#[95, 95, 115, 116, 97, 116, 105, 99, 95, 97, 116, 116, 114, 105, 98, 117, 116, 101, 115, 95, 95]⟩ 219 (.ref 36), en P ⟨#[95, 95, 119, 101, 97, 107, 114, 101, 102, 95, 95]⟩ 221 (.ref 39), en P ⟨#[95, 95, 100, 111, 99, 95, 95]⟩ 222 .none] 3),
   (nat_lit 47, { cls := .type "code", data := .fields #[(.str ⟨#[100, 105, 114, 101, 99, 116, 111, 114, 121, 95, 112, 97, 114, 116]⟩ 231), (.str ⟨#[100, 105, 114, 101, 99, 116, 111, 114, 121, 95, 112, 97, 114, 116]⟩ 232), (.str ⟨#[47, 99, 108, 97, 105, 109, 47, 99, 117, 116, 46, 112, 121]⟩ 233), (.int 12 0), (.int 1 0), (.int 0 0), (.int 0 0), (.int 3 0), (.ref 42), (.bool true), (.int 181 0), (.ref 43), .none, (.ref 44), (.ref 45), (.ref 46), (.int 236 0), (.int 12 0), (.str ⟨#[47, 99, 108, 97, 105, 109, 47, 99, 117, 116, 46, 112, 121]⟩ 237)] }),
   (nat_lit 48, fobj (stAt 5) ⟨#[100, 105, 114, 101, 99, 116, 111, 114, 121, 95, 112, 97, 114, 116]⟩ (.str ⟨#[101, 109, 97, 99, 115, 46, 102, 105, 108, 101, 110, 97, 109, 101, 115]⟩ 227) (.ref 47)),
   (nat_lit 54, { cls := .type "code", data := .fields #[(.str ⟨#[108, 97, 115, 116, 95, 112, 97, 114, 116]⟩ 239), (.str ⟨#[108, 97, 115, 116, 95, 112, 97, 114, 116]⟩ 240), (.str ⟨#[47, 99, 108, 97, 105, 109, 47, 99, 117, 116, 46, 112, 121]⟩ 241), (.int 15 0), (.int 1 0), (.int 0 0), (.int 0 0), (.int 3 0), (.ref 49), (.bool true), (.int 181 0), (.ref 50), .none, (.ref 51), (.ref 52), (.ref 53), (.int 243 0), (.int 15 0), (.str ⟨#[47, 99, 108, 97, 105, 109, 47, 99, 117, 116, 46, 112, 121]⟩ 244)] }),
   (nat_lit 55, fobj (stAt 6) ⟨#[108, 97, 115, 116, 95, 112, 97, 114, 116]⟩ (.str ⟨#[101, 109, 97, 99, 115, 46, 102, 105, 108, 101, 110, 97, 109, 101, 115]⟩ 227) (.ref 54)),
   (nat_lit 61, { cls := .type "code", data := .fields #[(.str ⟨#[115, 116, 101, 112, 115, 95, 111, 102]⟩ 246), (.str ⟨#[115, 116, 101, 112, 115, 95, 111, 102]⟩ 247), (.str ⟨#[47, 99, 108, 97, 105, 109, 47, 99, 117, 116, 46, 112, 121]⟩ 248), (.int 17 0), (.int 1 0), (.int 0 0), (.int 0 0), (.int 3 0), (.ref 56), (.bool true), (.int 181 0), (.ref 57), .none, (.ref 58), (.ref 59), (.ref 60), (.int 252 0), (.int 17 0), (.str ⟨#[47, 99, 108, 97, 105, 109, 47, 99, 117, 116, 46, 112, 121]⟩ 253)] }),
   (nat_lit 62, fobj (stAt 7) ⟨#[115, 116, 101, 112, 115, 95, 111, 102]⟩ (.str ⟨#[101, 109, 97, 99, 115, 46, 102, 105, 108, 101, 110, 97, 109, 101, 115]⟩ 227) (.ref 61)),
   (nat_lit 68, { cls := .type "code", data := .fields #[(.str ⟨#[98, 97, 99, 107, 117, 112, 95, 110, 97, 109, 101]⟩ 255), (.str ⟨#[98, 97, 99, 107, 117, 112, 95, 110, 97, 109, 101]⟩ 256), (.str ⟨#[47, 99, 108, 97, 105, 109, 47, 99, 117, 116, 46, 112, 121]⟩ 257), (.int 25 0), (.int 1 0), (.int 0 0), (.int 0 0), (.int 3 0), (.ref 63), (.bool true), (.int 181 0), (.ref 64), .none, (.ref 65), (.ref 66), (.ref 67), (.int 259 0), (.int 25 0), (.str ⟨#[47, 99, 108, 97, 105, 109, 47, 99, 117, 116, 46, 112, 121]⟩ 260)] }),
   (nat_lit 69, fobj (stAt 8) ⟨#[98, 97, 99, 107, 117, 112, 95, 110, 97, 109, 101]⟩ (.str ⟨#[101, 109, 97, 99, 115, 46, 102, 105, 108, 101, 110, 97, 109, 101, 115]⟩ 227) (.ref 68)),
   (nat_lit 75, { cls := .type "code", data := .fields #[(.str ⟨#[110, 117, 109, 98, 101, 114, 101, 100, 95, 110, 97, 109, 101]⟩ 262), (.str ⟨#[110, 117, 109, 98, 101, 114, 101, 100, 95, 110, 97, 109, 101]⟩ 263), (.str ⟨#[47, 99, 108, 97, 105, 109, 47, 99, 117, 116, 46, 112, 121]⟩ 264), (.int 27 0), (.int 2 0), (.int 0 0), (.int 0 0), (.int 3 0), (.ref 70), (.bool true), (.int 181 0), (.ref 71), .none, (.ref 72), (.ref 73), (.ref 74), (.int 267 0), (.int 27 0), (.str ⟨#[47, 99, 108, 97, 105, 109, 47, 99, 117, 116, 46, 112, 121]⟩ 268)] }),
   (nat_lit 76, fobj (stAt 9) ⟨#[110, 117, 109, 98, 101, 114, 101, 100, 95, 110, 97, 109, 101]⟩ (.str ⟨#[101, 109, 97, 99, 115, 46, 102, 105, 108, 101, 110, 97, 109, 101, 115]⟩ 227) (.ref 75)),
   (nat_lit 82, { cls := .type "code", data := .fields #[(.str ⟨#[98, 97, 99, 107, 117, 112, 95, 110, 117, 109, 98, 101, 114]⟩ 270), (.str ⟨#[98, 97, 99, 107, 117, 112, 95, 110, 117, 109, 98, 101, 114]⟩ 271), (.str ⟨#[47, 99, 108, 97, 105, 109, 47, 99, 117, 116, 46, 112, 121]⟩ 272), (.int 29 0), (.int 2 0), (.int 0 0), (.int 0 0), (.int 3 0), (.ref 77), (.bool true), (.int 181 0), (.ref 78), .none, (.ref 79), (.ref 80), (.ref 81), (.int 279 0), (.int 29 0), (.str ⟨#[47, 99, 108, 97, 105, 109, 47, 99, 117, 116, 46, 112, 121]⟩ 280)] }),
   (nat_lit 83, fobj (stAt 10) ⟨#[98, 97, 99, 107, 117, 112, 95, 110, 117, 109, 98, 101, 114]⟩ (.str ⟨#[101, 109, 97, 99, 115, 46, 102, 105, 108, 101, 110, 97, 109, 101, 115]⟩ 227) (.ref 82)),
   (nat_lit 89, { cls := .type "code", data := .fields #[(.str ⟨#[77, 97, 110, 110, 101, 114]⟩ 294), (.str ⟨#[77, 97, 110, 110, 101, 114]⟩ 295), (.str ⟨#[47, 99, 108, 97, 105, 109, 47, 99, 117, 116, 46, 112, 121]⟩ 296), (.int 47 0), (.int 0 0), (.int 0 0), (.int 0 0), (.int 0 0), (.ref 87), (.bool false), (.int 181 0), (.ref 88), .none, .none, .none, .none, (.int 297 0), (.int 47 0), (.str ⟨#[47, 99, 108, 97, 105, 109, 47, 99, 117, 116, 46, 112, 121]⟩ 298)] }),
   (nat_lit 96, { cls := .type "code", data := .fields #[(.str ⟨#[95, 95, 105, 110, 105, 116, 95, 95]⟩ 304), (.str ⟨#[77, 97, 110, 110, 101, 114, 46, 95, 95, 105, 110, 105, 116, 95, 95]⟩ 305), (.str ⟨#[47, 99, 108, 97, 105, 109, 47, 99, 117, 116, 46, 112, 121]⟩ 306), (.int 49 0), (.int 7 0), (.int 0 0), (.int 0 0), (.int 3 0), (.ref 91), (.bool true), (.int 181 0), (.ref 92), .none, (.ref 93), (.ref 94), (.ref 95), (.int 314 0), (.int 49 0), (.str ⟨#[47, 99, 108, 97, 105, 109, 47, 99, 117, 116, 46, 112, 121]⟩ 315)] }),
   (nat_lit 97, fobj (stIn 16 0) ⟨#[77, 97, 110, 110, 101, 114, 46, 95, 95, 105, 110, 105, 116, 95, 95]⟩ (.str ⟨#[101, 109, 97, 99, 115, 46, 102, 105, 108, 101, 115, 97, 118, 105, 110, 103]⟩ 282) (.ref 96)),
   (nat_lit 100, { cls := .type "type", data := .cls { name := ⟨#[77, 97, 110, 110, 101, 114]⟩, bases := [(.type "object")], mro := [(.ref 100), (.type "object")], ns := 99, qualname := ⟨#[77, 97, 110, 110, 101, 114]⟩ }, slots := #[none, none, some (.str ⟨#[77, 97, 110, 110, 101, 114]⟩ 292), some (.str ⟨#[77, 97, 110, 110, 101, 114]⟩ 300), some (.builtin "object.__new__"), some (.bool true)] }),
   (nat_lit 99, dobj [en P ⟨#[95, 95, 109, 111, 100, 117, 108, 101, 95, 95]⟩ 299 (.str ⟨#[101, 109, 97, 99, 115, 46, 102, 105, 108, 101, 115, 97, 118, 105, 110, 103]⟩ 282), en P ⟨#[95, 95, 102, 105, 114, 115, 116, 108, 105, 110, 101, 110, 111, 95, 95]⟩ 303 (.int 47 302), en P ⟨#[95, 95, 105, 110, 105, 116, 95, 95]⟩ 316 (.ref 97), en P ⟨#[95, 95, 115, 116, 97, 116, 105, 99, 95, 97, 116, 116, 114, 105, 98, 117, 116, 101, 115, 95, 95]⟩ 323 (.ref 98), en P ⟨#[95, 95, 100, 105, 99, 116, 95, 95]⟩ 325 (.ref 101), en P ⟨#[95, 95, 119, 101, 97, 107, 114, 101, 102, 95, 95]⟩ 327 (.ref 102), en P ⟨#[95, 95, 100, 111, 99, 95, 95]⟩ 328 .none] 4),
   (nat_lit 110, { cls := .type "code", data := .fields #[(.str ⟨#[110, 117, 109, 98, 101, 114, 115, 95, 116, 104, 101, 114, 101]⟩ 331), (.str ⟨#[110, 117, 109, 98, 101, 114, 115, 95, 116, 104, 101, 114, 101]⟩ 332), (.str ⟨#[47, 99, 108, 97, 105, 109, 47, 99, 117, 116, 46, 112, 121]⟩ 333), (.int 56 0), (.int 2 0), (.int 0 0), (.int 0 0), (.int 3 0), (.ref 105), (.bool true), (.int 181 0), (.ref 106), .none, (.ref 107), (.ref 108), (.ref 109), (.int 341 0), (.int 56 0), (.str ⟨#[47, 99, 108, 97, 105, 109, 47, 99, 117, 116, 46, 112, 121]⟩ 342)] }),
   (nat_lit 111, fobj (stAt 17) ⟨#[110, 117, 109, 98, 101, 114, 115, 95, 116, 104, 101, 114, 101]⟩ (.str ⟨#[101, 109, 97, 99, 115, 46, 102, 105, 108, 101, 115, 97, 118, 105, 110, 103]⟩ 282) (.ref 110)),
   (nat_lit 115, { cls := .type "code", data := .fields #[(.str ⟨#[98, 97, 99, 107, 117, 112, 95, 112, 108, 97, 110]⟩ 344), (.str ⟨#[98, 97, 99, 107, 117, 112, 95, 112, 108, 97, 110]⟩ 345), (.str ⟨#[47, 99, 108, 97, 105, 109, 47, 99, 117, 116, 46, 112, 121]⟩ 346), (.int 65 0), (.int 3 0), (.int 0 0), (.int 0 0), (.int 3 0), (.ref 112), (.bool true), (.int 181 0), (.ref 113), .none, .none, .none, (.ref 114), (.int 347 0), (.int 65 0), (.str ⟨#[47, 99, 108, 97, 105, 109, 47, 99, 117, 116, 46, 112, 121]⟩ 348)] }),
   (nat_lit 116, fobj (stAt 18) ⟨#[98, 97, 99, 107, 117, 112, 95, 112, 108, 97, 110]⟩ (.str ⟨#[101, 109, 97, 99, 115, 46, 102, 105, 108, 101, 115, 97, 118, 105, 110, 103]⟩ 282) (.ref 115)),
   (nat_lit 122, { cls := .type "code", data := .fields #[(.str ⟨#[109, 97, 107, 101, 95, 98, 97, 99, 107, 117, 112]⟩ 350), (.str ⟨#[109, 97, 107, 101, 95, 98, 97, 99, 107, 117, 112]⟩ 351), (.str ⟨#[47, 99, 108, 97, 105, 109, 47, 99, 117, 116, 46, 112, 121]⟩ 352), (.int 75 0), (.int 3 0), (.int 0 0), (.int 0 0), (.int 3 0), (.ref 117), (.bool true), (.int 181 0), (.ref 118), .none, (.ref 119), (.ref 120), (.ref 121), (.int 358 0), (.int 75 0), (.str ⟨#[47, 99, 108, 97, 105, 109, 47, 99, 117, 116, 46, 112, 121]⟩ 359)] }),
   (nat_lit 123, fobj (stAt 19) ⟨#[109, 97, 107, 101, 95, 98, 97, 99, 107, 117, 112]⟩ (.str ⟨#[101, 109, 97, 99, 115, 46, 102, 105, 108, 101, 115, 97, 118, 105, 110, 103]⟩ 282) (.ref 122)),
   (nat_lit 129, { cls := .type "code", data := .fields #[(.str ⟨#[115, 112, 97, 114, 101, 95, 110, 97, 109, 101]⟩ 361), (.str ⟨#[115, 112, 97, 114, 101, 95, 110, 97, 109, 101]⟩ 362), (.str ⟨#[47, 99, 108, 97, 105, 109, 47, 99, 117, 116, 46, 112, 121]⟩ 363), (.int 84 0), (.int 2 0), (.int 0 0), (.int 0 0), (.int 3 0), (.ref 124), (.bool true), (.int 181 0), (.ref 125), .none, (.ref 126), (.ref 127), (.ref 128), (.int 368 0), (.int 84 0), (.str ⟨#[47, 99, 108, 97, 105, 109, 47, 99, 117, 116, 46, 112, 121]⟩ 369)] }),
   (nat_lit 130, fobj (stAt 20) ⟨#[115, 112, 97, 114, 101, 95, 110, 97, 109, 101]⟩ (.str ⟨#[101, 109, 97, 99, 115, 46, 102, 105, 108, 101, 115, 97, 118, 105, 110, 103]⟩ 282) (.ref 129)),
   (nat_lit 136, { cls := .type "code", data := .fields #[(.str ⟨#[119, 114, 105, 116, 101, 95, 112, 114, 101, 99, 105, 111, 117, 115]⟩ 371), (.str ⟨#[119, 114, 105, 116, 101, 95, 112, 114, 101, 99, 105, 111, 117, 115]⟩ 372), (.str ⟨#[47, 99, 108, 97, 105, 109, 47, 99, 117, 116, 46, 112, 121]⟩ 373), (.int 90 0), (.int 3 0), (.int 0 0), (.int 0 0), (.int 3 0), (.ref 131), (.bool true), (.int 181 0), (.ref 132), .none, (.ref 133), (.ref 134), (.ref 135), (.int 378 0), (.int 90 0), (.str ⟨#[47, 99, 108, 97, 105, 109, 47, 99, 117, 116, 46, 112, 121]⟩ 379)] }),
   (nat_lit 137, fobj (stAt 21) ⟨#[119, 114, 105, 116, 101, 95, 112, 114, 101, 99, 105, 111, 117, 115]⟩ (.str ⟨#[101, 109, 97, 99, 115, 46, 102, 105, 108, 101, 115, 97, 118, 105, 110, 103]⟩ 282) (.ref 136)),
   (nat_lit 143, { cls := .type "code", data := .fields #[(.str ⟨#[119, 114, 105, 116, 101, 95, 102, 105, 108, 101]⟩ 381), (.str ⟨#[119, 114, 105, 116, 101, 95, 102, 105, 108, 101]⟩ 382), (.str ⟨#[47, 99, 108, 97, 105, 109, 47, 99, 117, 116, 46, 112, 121]⟩ 383), (.int 94 0), (.int 5 0), (.int 0 0), (.int 0 0), (.int 3 0), (.ref 138), (.bool true), (.int 181 0), (.ref 139), .none, (.ref 140), (.ref 141), (.ref 142), (.int 393 0), (.int 94 0), (.str ⟨#[47, 99, 108, 97, 105, 109, 47, 99, 117, 116, 46, 112, 121]⟩ 394)] }),
   (nat_lit 144, fobj (stAt 22) ⟨#[119, 114, 105, 116, 101, 95, 102, 105, 108, 101]⟩ (.str ⟨#[101, 109, 97, 99, 115, 46, 102, 105, 108, 101, 115, 97, 118, 105, 110, 103]⟩ 282) (.ref 143)),
   (nat_lit 150, { cls := .type "code", data := .fields #[(.str ⟨#[69, 110, 100, 101, 100]⟩ 408), (.str ⟨#[69, 110, 100, 101, 100]⟩ 409), (.str ⟨#[47, 99, 108, 97, 105, 109, 47, 99, 117, 116, 46, 112, 121]⟩ 410), (.int 114 0), (.int 0 0), (.int 0 0), (.int 0 0), (.int 0 0), (.ref 148), (.bool false), (.int 181 0), (.ref 149), .none, .none, .none, .none, (.int 411 0), (.int 114 0), (.str ⟨#[47, 99, 108, 97, 105, 109, 47, 99, 117, 116, 46, 112, 121]⟩ 412)] }),
   (nat_lit 154, { cls := .type "type", data := .cls { name := ⟨#[69, 110, 100, 101, 100]⟩, bases := [(.type "Exception")], mro := [(.ref 154), (.type "Exception"), (.type "BaseException"), (.type "object")], ns := 153, qualname := ⟨#[69, 110, 100, 101, 100]⟩ }, slots := #[some (.ref 145), none, some (.str ⟨#[69, 110, 100, 101, 100]⟩ 406), some (.str ⟨#[69, 110, 100, 101, 100]⟩ 414), some (.builtin "Exception.__new__"), some (.bool true)] }),
   (nat_lit 153, dobj [en P ⟨#[95, 95, 109, 111, 100, 117, 108, 101, 95, 95]⟩ 413 (.str ⟨#[101, 109, 97, 99, 115, 46, 102, 105, 108, 101, 116, 114, 101, 101]⟩ 396), en P ⟨#[95, 95, 102, 105, 114, 115, 116, 108, 105, 110, 101, 110, 111, 95, 95]⟩ 417 (.int 114 416), en P ⟨#[95, 95, 115, 116, 97, 116, 105, 99, 95, 97, 116, 116, 114, 105, 98, 117, 116, 101, 115, 95, 95]⟩ 418 (.ref 152), en P ⟨#[95, 95, 119, 101, 97, 107, 114, 101, 102, 95, 95]⟩ 420 (.ref 155), en P ⟨#[95, 95, 100, 111, 99, 95, 95]⟩ 421 .none] 3),
   (nat_lit 163, { cls := .type "code", data := .fields #[(.str ⟨#[69, 110, 116, 114, 121]⟩ 428), (.str ⟨#[69, 110, 116, 114, 121]⟩ 429), (.str ⟨#[47, 99, 108, 97, 105, 109, 47, 99, 117, 116, 46, 112, 121]⟩ 430), (.int 116 0), (.int 0 0), (.int 0 0), (.int 0 0), (.int 0 0), (.ref 161), (.bool false), (.int 181 0), (.ref 162), .none, .none, .none, .none, (.int 431 0), (.int 116 0), (.str ⟨#[47, 99, 108, 97, 105, 109, 47, 99, 117, 116, 46, 112, 121]⟩ 432)] }),
   (nat_lit 170, { cls := .type "code", data := .fields #[(.str ⟨#[95, 95, 105, 110, 105, 116, 95, 95]⟩ 438), (.str ⟨#[69, 110, 116, 114, 121, 46, 95, 95, 105, 110, 105, 116, 95, 95]⟩ 439), (.str ⟨#[47, 99, 108, 97, 105, 109, 47, 99, 117, 116, 46, 112, 121]⟩ 440), (.int 118 0), (.int 4 0), (.int 0 0), (.int 0 0), (.int 3 0), (.ref 165), (.bool true), (.int 181 0), (.ref 166), .none, (.ref 167), (.ref 168), (.ref 169), (.int 445 0), (.int 118 0), (.str ⟨#[47, 99, 108, 97, 105, 109, 47, 99, 117, 116, 46, 112, 121]⟩ 446)] }),
   (nat_lit 171, fobj (stIn 29 0) ⟨#[69, 110, 116, 114, 121, 46, 95, 95, 105, 110, 105, 116, 95, 95]⟩ (.str ⟨#[101, 109, 97, 99, 115, 46, 102, 105, 108, 101, 116, 114, 101, 101]⟩ 396) (.ref 170)),
   (nat_lit 174, { cls := .type "type", data := .cls { name := ⟨#[69, 110, 116, 114, 121]⟩, bases := [(.type "object")], mro := [(.ref 174), (.type "object")], ns := 173, qualname := ⟨#[69, 110, 116, 114, 121]⟩ }, slots := #[none, none, some (.str ⟨#[69, 110, 116, 114, 121]⟩ 426), some (.str ⟨#[69, 110, 116, 114, 121]⟩ 434), some (.builtin "object.__new__"), some (.bool true)] }),
   (nat_lit 173, dobj [en P ⟨#[95, 95, 109, 111, 100, 117, 108, 101, 95, 95]⟩ 433 (.str ⟨#[101, 109, 97, 99, 115, 46, 102, 105, 108, 101, 116, 114, 101, 101]⟩ 396), en P ⟨#[95, 95, 102, 105, 114, 115, 116, 108, 105, 110, 101, 110, 111, 95, 95]⟩ 437 (.int 116 436), en P ⟨#[95, 95, 105, 110, 105, 116, 95, 95]⟩ 447 (.ref 171), en P ⟨#[95, 95, 115, 116, 97, 116, 105, 99, 95, 97, 116, 116, 114, 105, 98, 117, 116, 101, 115, 95, 95]⟩ 452 (.ref 172), en P ⟨#[95, 95, 100, 105, 99, 116, 95, 95]⟩ 454 (.ref 175), en P ⟨#[95, 95, 119, 101, 97, 107, 114, 101, 102, 95, 95]⟩ 456 (.ref 176), en P ⟨#[95, 95, 100, 111, 99, 95, 95]⟩ 457 .none] 4),
   (nat_lit 184, { cls := .type "code", data := .fields #[(.str ⟨#[70, 105, 108, 101, 84, 114, 101, 101]⟩ 462), (.str ⟨#[70, 105, 108, 101, 84, 114, 101, 101]⟩ 463), (.str ⟨#[47, 99, 108, 97, 105, 109, 47, 99, 117, 116, 46, 112, 121]⟩ 464), (.int 123 0), (.int 0 0), (.int 0 0), (.int 0 0), (.int 0 0), (.ref 182), (.bool false), (.int 181 0), (.ref 183), .none, .none, .none, .none, (.int 465 0), (.int 123 0), (.str ⟨#[47, 99, 108, 97, 105, 109, 47, 99, 117, 116, 46, 112, 121]⟩ 466)] }),
   (nat_lit 191, { cls := .type "code", data := .fields #[(.str ⟨#[95, 95, 105, 110, 105, 116, 95, 95]⟩ 472), (.str ⟨#[70, 105, 108, 101, 84, 114, 101, 101, 46, 95, 95, 105, 110, 105, 116, 95, 95]⟩ 473), (.str ⟨#[47, 99, 108, 97, 105, 109, 47, 99, 117, 116, 46, 112, 121]⟩ 474), (.int 125 0), (.int 1 0), (.int 0 0), (.int 0 0), (.int 3 0), (.ref 186), (.bool true), (.int 181 0), (.ref 187), .none, (.ref 188), (.ref 189), (.ref 190), (.int 476 0), (.int 125 0), (.str ⟨#[47, 99, 108, 97, 105, 109, 47, 99, 117, 116, 46, 112, 121]⟩ 477)] }),
   (nat_lit 192, fobj (stIn 30 0) ⟨#[70, 105, 108, 101, 84, 114, 101, 101, 46, 95, 95, 105, 110, 105, 116, 95, 95]⟩ (.str ⟨#[101, 109, 97, 99, 115, 46, 102, 105, 108, 101, 116, 114, 101, 101]⟩ 396) (.ref 191)),
   (nat_lit 198, { cls := .type "code", data := .fields #[(.str ⟨#[115, 116, 101, 112]⟩ 479), (.str ⟨#[70, 105, 108, 101, 84, 114, 101, 101, 46, 115, 116, 101, 112]⟩ 480), (.str ⟨#[47, 99, 108, 97, 105, 109, 47, 99, 117, 116, 46, 112, 121]⟩ 481), (.int 130 0), (.int 1 0), (.int 0 0), (.int 0 0), (.int 3 0), (.ref 193), (.bool true), (.int 181 0), (.ref 194), .none, (.ref 195), (.ref 196), (.ref 197), (.int 483 0), (.int 130 0), (.str ⟨#[47, 99, 108, 97, 105, 109, 47, 99, 117, 116, 46, 112, 121]⟩ 484)] }),
   (nat_lit 199, fobj (stIn 30 1) ⟨#[70, 105, 108, 101, 84, 114, 101, 101, 46, 115, 116, 101, 112]⟩ (.str ⟨#[101, 109, 97, 99, 115, 46, 102, 105, 108, 101, 116, 114, 101, 101]⟩ 396) (.ref 198)),
   (nat_lit 205, { cls := .type "code", data := .fields #[(.str ⟨#[116, 114, 117, 101, 95, 110, 97, 109, 101]⟩ 486), (.str ⟨#[70, 105, 108, 101, 84, 114, 101, 101, 46, 116, 114, 117, 101, 95, 110, 97, 109, 101]⟩ 487), (.str ⟨#[47, 99, 108, 97, 105, 109, 47, 99, 117, 116, 46, 112, 121]⟩ 488), (.int 137 0), (.int 2 0), (.int 0 0), (.int 0 0), (.int 3 0), (.ref 200), (.bool true), (.int 181 0), (.ref 201), .none, (.ref 202), (.ref 203), (.ref 204), (.int 496 0), (.int 137 0), (.str ⟨#[47, 99, 108, 97, 105, 109, 47, 99, 117, 116, 46, 112, 121]⟩ 497)] }),
   (nat_lit 206, fobj (stIn 30 2) ⟨#[70, 105, 108, 101, 84, 114, 101, 101, 46, 116, 114, 117, 101, 95, 110, 97, 109, 101]⟩ (.str ⟨#[101, 109, 97, 99, 115, 46, 102, 105, 108, 101, 116, 114, 101, 101]⟩ 396) (.ref 205)),
   (nat_lit 212, { cls := .type "code", data := .fields #[(.str ⟨#[102, 105, 114, 115, 116, 95, 108, 105, 110, 107]⟩ 499), (.str ⟨#[70, 105, 108, 101, 84, 114, 101, 101, 46, 102, 105, 114, 115, 116, 95, 108, 105, 110, 107]⟩ 500), (.str ⟨#[47, 99, 108, 97, 105, 109, 47, 99, 117, 116, 46, 112, 121]⟩ 501), (.int 148 0), (.int 2 0), (.int 0 0), (.int 0 0), (.int 3 0), (.ref 207), (.bool true), (.int 181 0), (.ref 208), .none, (.ref 209), (.ref 210), (.ref 211), (.int 506 0), (.int 148 0), (.str ⟨#[47, 99, 108, 97, 105, 109, 47, 99, 117, 116, 46, 112, 121]⟩ 507)] }),
   (nat_lit 213, fobj (stIn 30 3) ⟨#[70, 105, 108, 101, 84, 114, 101, 101, 46, 102, 105, 114, 115, 116, 95, 108, 105, 110, 107]⟩ (.str ⟨#[101, 109, 97, 99, 115, 46, 102, 105, 108, 101, 116, 114, 101, 101]⟩ 396) (.ref 212)),
   (nat_lit 219, { cls := .type "code", data := .fields #[(.str ⟨#[112, 97, 114, 101, 110, 116, 95, 116, 114, 117, 101]⟩ 509), (.str ⟨#[70, 105, 108, 101, 84, 114, 101, 101, 46, 112, 97, 114, 101, 110, 116, 95, 116, 114, 117, 101]⟩ 510), (.str ⟨#[47, 99, 108, 97, 105, 109, 47, 99, 117, 116, 46, 112, 121]⟩ 511), (.int 158 0), (.int 2 0), (.int 0 0), (.int 0 0), (.int 3 0), (.ref 214), (.bool true), (.int 181 0), (.ref 215), .none, (.ref 216), (.ref 217), (.ref 218), (.int 515 0), (.int 158 0), (.str ⟨#[47, 99, 108, 97, 105, 109, 47, 99, 117, 116, 46, 112, 121]⟩ 516)] }),
   (nat_lit 220, fobj (stIn 30 4) ⟨#[70, 105, 108, 101, 84, 114, 101, 101, 46, 112, 97, 114, 101, 110, 116, 95, 116, 114, 117, 101]⟩ (.str ⟨#[101, 109, 97, 99, 115, 46, 102, 105, 108, 101, 116, 114, 101, 101]⟩ 396) (.ref 219)),
   (nat_lit 226, { cls := .type "code", data := .fields #[(.str ⟨#[101, 110, 116, 114, 121]⟩ 518), (.str ⟨#[70, 105, 108, 101, 84, 114, 101, 101, 46, 101, 110, 116, 114, 121]⟩ 519), (.str ⟨#[47, 99, 108, 97, 105, 109, 47, 99, 117, 116, 46, 112, 121]⟩ 520), (.int 164 0), (.int 2 0), (.int 0 0), (.int 0 0), (.int 3 0), (.ref 221), (.bool true), (.int 181 0), (.ref 222), .none, (.ref 223), (.ref 224), (.ref 225), (.int 523 0), (.int 164 0), (.str ⟨#[47, 99, 108, 97, 105, 109, 47, 99, 117, 116, 46, 112, 121]⟩ 524)] }),
   (nat_lit 227, fobj (stIn 30 5) ⟨#[70, 105, 108, 101, 84, 114, 101, 101, 46, 101, 110, 116, 114, 121]⟩ (.str ⟨#[101, 109, 97, 99, 115, 46, 102, 105, 108, 101, 116, 114, 101, 101]⟩ 396) (.ref 226)),
   (nat_lit 233, { cls := .type "code", data := .fields #[(.str ⟨#[105, 115, 95, 116, 104, 101, 114, 101]⟩ 526), (.str ⟨#[70, 105, 108, 101, 84, 114, 101, 101, 46, 105, 115, 95, 116, 104, 101, 114, 101]⟩ 527), (.str ⟨#[47, 99, 108, 97, 105, 109, 47, 99, 117, 116, 46, 112, 121]⟩ 528), (.int 167 0), (.int 2 0), (.int 0 0), (.int 0 0), (.int 3 0), (.ref 228), (.bool true), (.int 181 0), (.ref 229), .none, (.ref 230), (.ref 231), (.ref 232), (.int 531 0), (.int 167 0), (.str ⟨#[47, 99, 108, 97, 105, 109, 47, 99, 117, 116, 46, 112, 121]⟩ 532)] }),
   (nat_lit 234, fobj (stIn 30 6) ⟨#[70, 105, 108, 101, 84, 114, 101, 101, 46, 105, 115, 95, 116, 104, 101, 114, 101]⟩ (.str ⟨#[101, 109, 97, 99, 115, 46, 102, 105, 108, 101, 116, 114, 101, 101]⟩ 396) (.ref 233)),
   (nat_lit 240, { cls := .type "code", data := .fields #[(.str ⟨#[105, 115, 95, 100, 105, 114, 101, 99, 116, 111, 114, 121]⟩ 534), (.str ⟨#[70, 105, 108, 101, 84, 114, 101, 101, 46, 105, 115, 95, 100, 105, 114, 101, 99, 116, 111, 114, 121]⟩ 535), (.str ⟨#[47, 99, 108, 97, 105, 109, 47, 99, 117, 116, 46, 112, 121]⟩ 536), (.int 170 0), (.int 2 0), (.int 0 0), (.int 0 0), (.int 3 0), (.ref 235), (.bool true), (.int 181 0), (.ref 236), .none, (.ref 237), (.ref 238), (.ref 239), (.int 540 0), (.int 170 0), (.str ⟨#[47, 99, 108, 97, 105, 109, 47, 99, 117, 116, 46, 112, 121]⟩ 541)] }),
   (nat_lit 241, fobj (stIn 30 7) ⟨#[70, 105, 108, 101, 84, 114, 101, 101, 46, 105, 115, 95, 100, 105, 114, 101, 99, 116, 111, 114, 121]⟩ (.str ⟨#[101, 109, 97, 99, 115, 46, 102, 105, 108, 101, 116, 114, 101, 101]⟩ 396) (.ref 240)),
   (nat_lit 247, { cls := .type "code", data := .fields #[(.str ⟨#[105, 115, 95, 112, 108, 97, 105, 110]⟩ 543), (.str ⟨#[70, 105, 108, 101, 84, 114, 101, 101, 46, 105, 115, 95, 112, 108, 97, 105, 110]⟩ 544), (.str ⟨#[47, 99, 108, 97, 105, 109, 47, 99, 117, 116, 46, 112, 121]⟩ 545), (.int 174 0), (.int 2 0), (.int 0 0), (.int 0 0), (.int 3 0), (.ref 242), (.bool true), (.int 181 0), (.ref 243), .none, (.ref 244), (.ref 245), (.ref 246), (.int 549 0), (.int 174 0), (.str ⟨#[47, 99, 108, 97, 105, 109, 47, 99, 117, 116, 46, 112, 121]⟩ 550)] }),
   (nat_lit 248, fobj (stIn 30 8) ⟨#[70, 105, 108, 101, 84, 114, 101, 101, 46, 105, 115, 95, 112, 108, 97, 105, 110]⟩ (.str ⟨#[101, 109, 97, 99, 115, 46, 102, 105, 108, 101, 116, 114, 101, 101]⟩ 396) (.ref 247)),
   (nat_lit 254, { cls := .type "code", data := .fields #[(.str ⟨#[110, 101, 101, 100, 95, 112, 108, 97, 105, 110]⟩ 552), (.str ⟨#[70, 105, 108, 101, 84, 114, 101, 101, 46, 110, 101, 101, 100, 95, 112, 108, 97, 105, 110]⟩ 553), (.str ⟨#[47, 99, 108, 97, 105, 109, 47, 99, 117, 116, 46, 112, 121]⟩ 554), (.int 178 0), (.int 2 0), (.int 0 0), (.int 0 0), (.int 3 0), (.ref 249), (.bool true), (.int 181 0), (.ref 250), .none, (.ref 251), (.ref 252), (.ref 253), (.int 558 0), (.int 178 0), (.str ⟨#[47, 99, 108, 97, 105, 109, 47, 99, 117, 116, 46, 112, 121]⟩ 559)] }),
   (nat_lit 255, fobj (stIn 30 9) ⟨#[70, 105, 108, 101, 84, 114, 101, 101, 46, 110, 101, 101, 100, 95, 112, 108, 97, 105, 110]⟩ (.str ⟨#[101, 109, 97, 99, 115, 46, 102, 105, 108, 101, 116, 114, 101, 101]⟩ 396) (.ref 254)),
   (nat_lit 261, { cls := .type "code", data := .fields #[(.str ⟨#[110, 101, 101, 100, 95, 100, 105, 114, 101, 99, 116, 111, 114, 121]⟩ 561), (.str ⟨#[70, 105, 108, 101, 84, 114, 101, 101, 46, 110, 101, 101, 100, 95, 100, 105, 114, 101, 99, 116, 111, 114, 121]⟩ 562), (.str ⟨#[47, 99, 108, 97, 105, 109, 47, 99, 117, 116, 46, 112, 121]⟩ 563), (.int 186 0), (.int 2 0), (.int 0 0), (.int 0 0), (.int 3 0), (.ref 256), (.bool true), (.int 181 0), (.ref 257), .none, (.ref 258), (.ref 259), (.ref 260), (.int 567 0), (.int 186 0), (.str ⟨#[47, 99, 108, 97, 105, 109, 47, 99, 117, 116, 46, 112, 121]⟩ 568)] }),
   (nat_lit 262, fobj (stIn 30 10) ⟨#[70, 105, 108, 101, 84, 114, 101, 101, 46, 110, 101, 101, 100, 95, 100, 105, 114, 101, 99, 116, 111, 114, 121]⟩ (.str ⟨#[101, 109, 97, 99, 115, 46, 102, 105, 108, 101, 116, 114, 101, 101]⟩ 396) (.ref 261)),
   (nat_lit 268, { cls := .type "code", data := .fields #[(.str ⟨#[114, 101, 97, 100]⟩ 570), (.str ⟨#[70, 105, 108, 101, 84, 114, 101, 101, 46, 114, 101, 97, 100]⟩ 571), (.str ⟨#[47, 99, 108, 97, 105, 109, 47, 99, 117, 116, 46, 112, 121]⟩ 572), (.int 193 0), (.int 2 0), (.int 0 0), (.int 0 0), (.int 3 0), (.ref 263), (.bool true), (.int 181 0), (.ref 264), .none, (.ref 265), (.ref 266), (.ref 267), (.int 575 0), (.int 193 0), (.str ⟨#[47, 99, 108, 97, 105, 109, 47, 99, 117, 116, 46, 112, 121]⟩ 576)] }),
   (nat_lit 269, fobj (stIn 30 11) ⟨#[70, 105, 108, 101, 84, 114, 101, 101, 46, 114, 101, 97, 100]⟩ (.str ⟨#[101, 109, 97, 99, 115, 46, 102, 105, 108, 101, 116, 114, 101, 101]⟩ 396) (.ref 268)),
   (nat_lit 275, { cls := .type "code", data := .fields #[(.str ⟨#[115, 116, 97, 109, 112]⟩ 578), (.str ⟨#[70, 105, 108, 101, 84, 114, 101, 101, 46, 115, 116, 97, 109, 112]⟩ 579), (.str ⟨#[47, 99, 108, 97, 105, 109, 47, 99, 117, 116, 46, 112, 121]⟩ 580), (.int 196 0), (.int 2 0), (.int 0 0), (.int 0 0), (.int 3 0), (.ref 270), (.bool true), (.int 181 0), (.ref 271), .none, (.ref 272), (.ref 273), (.ref 274), (.int 584 0), (.int 196 0), (.str ⟨#[47, 99, 108, 97, 105, 109, 47, 99, 117, 116, 46, 112, 121]⟩ 585)] }),
   (nat_lit 276, fobj (stIn 30 12) ⟨#[70, 105, 108, 101, 84, 114, 101, 101, 46, 115, 116, 97, 109, 112]⟩ (.str ⟨#[101, 109, 97, 99, 115, 46, 102, 105, 108, 101, 116, 114, 101, 101]⟩ 396) (.ref 275)),
   (nat_lit 282, { cls := .type "code", data := .fields #[(.str ⟨#[109, 97, 121, 95, 119, 114, 105, 116, 101]⟩ 587), (.str ⟨#[70, 105, 108, 101, 84, 114, 101, 101, 46, 109, 97, 121, 95, 119, 114, 105, 116, 101]⟩ 588), (.str ⟨#[47, 99, 108, 97, 105, 109, 47, 99, 117, 116, 46, 112, 121]⟩ 589), (.int 200 0), (.int 2 0), (.int 0 0), (.int 0 0), (.int 3 0), (.ref 277), (.bool true), (.int 181 0), (.ref 278), .none, (.ref 279), (.ref 280), (.ref 281), (.int 594 0), (.int 200 0), (.str ⟨#[47, 99, 108, 97, 105, 109, 47, 99, 117, 116, 46, 112, 121]⟩ 595)] }),
   (nat_lit 283, fobj (stIn 30 13) ⟨#[70, 105, 108, 101, 84, 114, 101, 101, 46, 109, 97, 121, 95, 119, 114, 105, 116, 101]⟩ (.str ⟨#[101, 109, 97, 99, 115, 46, 102, 105, 108, 101, 116, 114, 101, 101]⟩ 396) (.ref 282)),
   (nat_lit 289, { cls := .type "code", data := .fields #[(.str ⟨#[108, 105, 110, 107, 95, 116, 101, 120, 116]⟩ 597), (.str ⟨#[70, 105, 108, 101, 84, 114, 101, 101, 46, 108, 105, 110, 107, 95, 116, 101, 120, 116]⟩ 598), (.str ⟨#[47, 99, 108, 97, 105, 109, 47, 99, 117, 116, 46, 112, 121]⟩ 599), (.int 207 0), (.int 2 0), (.int 0 0), (.int 0 0), (.int 3 0), (.ref 284), (.bool true), (.int 181 0), (.ref 285), .none, (.ref 286), (.ref 287), (.ref 288), (.int 603 0), (.int 207 0), (.str ⟨#[47, 99, 108, 97, 105, 109, 47, 99, 117, 116, 46, 112, 121]⟩ 604)] }),
   (nat_lit 290, fobj (stIn 30 14) ⟨#[70, 105, 108, 101, 84, 114, 101, 101, 46, 108, 105, 110, 107, 95, 116, 101, 120, 116]⟩ (.str ⟨#[101, 109, 97, 99, 115, 46, 102, 105, 108, 101, 116, 114, 101, 101]⟩ 396) (.ref 289)),
   (nat_lit 296, { cls := .type "code", data := .fields #[(.str ⟨#[108, 105, 115, 116, 101, 100]⟩ 606), (.str ⟨#[70, 105, 108, 101, 84, 114, 101, 101, 46, 108, 105, 115, 116, 101, 100]⟩ 607), (.str ⟨#[47, 99, 108, 97, 105, 109, 47, 99, 117, 116, 46, 112, 121]⟩ 608), (.int 211 0), (.int 2 0), (.int 0 0), (.int 0 0), (.int 3 0), (.ref 291), (.bool true), (.int 181 0), (.ref 292), .none, (.ref 293), (.ref 294), (.ref 295), (.int 615 0), (.int 211 0), (.str ⟨#[47, 99, 108, 97, 105, 109, 47, 99, 117, 116, 46, 112, 121]⟩ 616)] }),
   (nat_lit 297, fobj (stIn 30 15) ⟨#[70, 105, 108, 101, 84, 114, 101, 101, 46, 108, 105, 115, 116, 101, 100]⟩ (.str ⟨#[101, 109, 97, 99, 115, 46, 102, 105, 108, 101, 116, 114, 101, 101]⟩ 396) (.ref 296)),
   (nat_lit 303, { cls := .type "code", data := .fields #[(.str ⟨#[110, 101, 101, 100, 95, 114, 111, 111, 109]⟩ 618), (.str ⟨#[70, 105, 108, 101, 84, 114, 101, 101, 46, 110, 101, 101, 100, 95, 114, 111, 111, 109]⟩ 619), (.str ⟨#[47, 99, 108, 97, 105, 109, 47, 99, 117, 116, 46, 112, 121]⟩ 620), (.int 221 0), (.int 2 0), (.int 0 0), (.int 0 0), (.int 3 0), (.ref 298), (.bool true), (.int 181 0), (.ref 299), .none, (.ref 300), (.ref 301), (.ref 302), (.int 624 0), (.int 221 0), (.str ⟨#[47, 99, 108, 97, 105, 109, 47, 99, 117, 116, 46, 112, 121]⟩ 625)] }),
   (nat_lit 304, fobj (stIn 30 16) ⟨#[70, 105, 108, 101, 84, 114, 101, 101, 46, 110, 101, 101, 100, 95, 114, 111, 111, 109]⟩ (.str ⟨#[101, 109, 97, 99, 115, 46, 102, 105, 108, 101, 116, 114, 101, 101]⟩ 396) (.ref 303)),
   (nat_lit 310, { cls := .type "code", data := .fields #[(.str ⟨#[119, 114, 105, 116, 101]⟩ 627), (.str ⟨#[70, 105, 108, 101, 84, 114, 101, 101, 46, 119, 114, 105, 116, 101]⟩ 628), (.str ⟨#[47, 99, 108, 97, 105, 109, 47, 99, 117, 116, 46, 112, 121]⟩ 629), (.int 230 0), (.int 3 0), (.int 0 0), (.int 0 0), (.int 3 0), (.ref 305), (.bool true), (.int 181 0), (.ref 306), .none, (.ref 307), (.ref 308), (.ref 309), (.int 635 0), (.int 230 0), (.str ⟨#[47, 99, 108, 97, 105, 109, 47, 99, 117, 116, 46, 112, 121]⟩ 636)] }),
   (nat_lit 311, fobj (stIn 30 17) ⟨#[70, 105, 108, 101, 84, 114, 101, 101, 46, 119, 114, 105, 116, 101]⟩ (.str ⟨#[101, 109, 97, 99, 115, 46, 102, 105, 108, 101, 116, 114, 101, 101]⟩ 396) (.ref 310)),
   (nat_lit 317, { cls := .type "code", data := .fields #[(.str ⟨#[102, 105, 108, 108]⟩ 638), (.str ⟨#[70, 105, 108, 101, 84, 114, 101, 101, 46, 102, 105, 108, 108]⟩ 639), (.str ⟨#[47, 99, 108, 97, 105, 109, 47, 99, 117, 116, 46, 112, 121]⟩ 640), (.int 248 0), (.int 3 0), (.int 0 0), (.int 0 0), (.int 3 0), (.ref 312), (.bool true), (.int 181 0), (.ref 313), .none, (.ref 314), (.ref 315), (.ref 316), (.int 644 0), (.int 248 0), (.str ⟨#[47, 99, 108, 97, 105, 109, 47, 99, 117, 116, 46, 112, 121]⟩ 645)] }),
   (nat_lit 318, fobj (stIn 30 18) ⟨#[70, 105, 108, 101, 84, 114, 101, 101, 46, 102, 105, 108, 108]⟩ (.str ⟨#[101, 109, 97, 99, 115, 46, 102, 105, 108, 101, 116, 114, 101, 101]⟩ 396) (.ref 317)),
   (nat_lit 324, { cls := .type "code", data := .fields #[(.str ⟨#[97, 112, 112, 101, 110, 100]⟩ 647), (.str ⟨#[70, 105, 108, 101, 84, 114, 101, 101, 46, 97, 112, 112, 101, 110, 100]⟩ 648), (.str ⟨#[47, 99, 108, 97, 105, 109, 47, 99, 117, 116, 46, 112, 121]⟩ 649), (.int 253 0), (.int 3 0), (.int 0 0), (.int 0 0), (.int 3 0), (.ref 319), (.bool true), (.int 181 0), (.ref 320), .none, (.ref 321), (.ref 322), (.ref 323), (.int 653 0), (.int 253 0), (.str ⟨#[47, 99, 108, 97, 105, 109, 47, 99, 117, 116, 46, 112, 121]⟩ 654)] }),
   (nat_lit 325, fobj (stIn 30 19) ⟨#[70, 105, 108, 101, 84, 114, 101, 101, 46, 97, 112, 112, 101, 110, 100]⟩ (.str ⟨#[101, 109, 97, 99, 115, 46, 102, 105, 108, 101, 116, 114, 101, 101]⟩ 396) (.ref 324)),
   (nat_lit 331, { cls := .type "code", data := .fields #[(.str ⟨#[109, 97, 107, 101, 95, 100, 105, 114, 101, 99, 116, 111, 114, 121]⟩ 656), (.str ⟨#[70, 105, 108, 101, 84, 114, 101, 101, 46, 109, 97, 107, 101, 95, 100, 105, 114, 101, 99, 116, 111, 114, 121]⟩ 657), (.str ⟨#[47, 99, 108, 97, 105, 109, 47, 99, 117, 116, 46, 112, 121]⟩ 658), (.int 256 0), (.int 2 0), (.int 0 0), (.int 0 0), (.int 3 0), (.ref 326), (.bool true), (.int 181 0), (.ref 327), .none, (.ref 328), (.ref 329), (.ref 330), (.int 662 0), (.int 256 0), (.str ⟨#[47, 99, 108, 97, 105, 109, 47, 99, 117, 116, 46, 112, 121]⟩ 663)] }),
   (nat_lit 332, fobj (stIn 30 20) ⟨#[70, 105, 108, 101, 84, 114, 101, 101, 46, 109, 97, 107, 101, 95, 100, 105, 114, 101, 99, 116, 111, 114, 121]⟩ (.str ⟨#[101, 109, 97, 99, 115, 46, 102, 105, 108, 101, 116, 114, 101, 101]⟩ 396) (.ref 331)),
   (nat_lit 338, { cls := .type "code", data := .fields #[(.str ⟨#[109, 97, 107, 101, 95, 108, 105, 110, 107]⟩ 665), (.str ⟨#[70, 105, 108, 101, 84, 114, 101, 101, 46, 109, 97, 107, 101, 95, 108, 105, 110, 107]⟩ 666), (.str ⟨#[47, 99, 108, 97, 105, 109, 47, 99, 117, 116, 46, 112, 121]⟩ 667), (.int 264 0), (.int 3 0), (.int 0 0), (.int 0 0), (.int 3 0), (.ref 333), (.bool true), (.int 181 0), (.ref 334), .none, (.ref 335), (.ref 336), (.ref 337), (.int 671 0), (.int 264 0), (.str ⟨#[47, 99, 108, 97, 105, 109, 47, 99, 117, 116, 46, 112, 121]⟩ 672)] }),
   (nat_lit 339, fobj (stIn 30 21) ⟨#[70, 105, 108, 101, 84, 114, 101, 101, 46, 109, 97, 107, 101, 95, 108, 105, 110, 107]⟩ (.str ⟨#[101, 109, 97, 99, 115, 46, 102, 105, 108, 101, 116, 114, 101, 101]⟩ 396) (.ref 338)),
   (nat_lit 345, { cls := .type "code", data := .fields #[(.str ⟨#[100, 101, 108, 101, 116, 101]⟩ 674), (.str ⟨#[70, 105, 108, 101, 84, 114, 101, 101, 46, 100, 101, 108, 101, 116, 101]⟩ 675), (.str ⟨#[47, 99, 108, 97, 105, 109, 47, 99, 117, 116, 46, 112, 121]⟩ 676), (.int 267 0), (.int 2 0), (.int 0 0), (.int 0 0), (.int 3 0), (.ref 340), (.bool true), (.int 181 0), (.ref 341), .none, (.ref 342), (.ref 343), (.ref 344), (.int 681 0), (.int 267 0), (.str ⟨#[47, 99, 108, 97, 105, 109, 47, 99, 117, 116, 46, 112, 121]⟩ 682)] }),
   (nat_lit 346, fobj (stIn 30 22) ⟨#[70, 105, 108, 101, 84, 114, 101, 101, 46, 100, 101, 108, 101, 116, 101]⟩ (.str ⟨#[101, 109, 97, 99, 115, 46, 102, 105, 108, 101, 116, 114, 101, 101]⟩ 396) (.ref 345)),
   (nat_lit 352, { cls := .type "code", data := .fields #[(.str ⟨#[114, 101, 109, 111, 118, 101, 95, 100, 105, 114, 101, 99, 116, 111, 114, 121]⟩ 684), (.str ⟨#[70, 105, 108, 101, 84, 114, 101, 101, 46, 114, 101, 109, 111, 118, 101, 95, 100, 105, 114, 101, 99, 116, 111, 114, 121]⟩ 685), (.str ⟨#[47, 99, 108, 97, 105, 109, 47, 99, 117, 116, 46, 112, 121]⟩ 686), (.int 278 0), (.int 2 0), (.int 0 0), (.int 0 0), (.int 3 0), (.ref 347), (.bool true), (.int 181 0), (.ref 348), .none, (.ref 349), (.ref 350), (.ref 351), (.int 689 0), (.int 278 0), (.str ⟨#[47, 99, 108, 97, 105, 109, 47, 99, 117, 116, 46, 112, 121]⟩ 690)] }),
   (nat_lit 353, fobj (stIn 30 23) ⟨#[70, 105, 108, 101, 84, 114, 101, 101, 46, 114, 101, 109, 111, 118, 101, 95, 100, 105, 114, 101, 99, 116, 111, 114, 121]⟩ (.str ⟨#[101, 109, 97, 99, 115, 46, 102, 105, 108, 101, 116, 114, 101, 101]⟩ 396) (.ref 352)),
   (nat_lit 357, { cls := .type "code", data := .fields #[(.str ⟨#[114, 101, 110, 97, 109, 101]⟩ 692), (.str ⟨#[70, 105, 108, 101, 84, 114, 101, 101, 46, 114, 101, 110, 97, 109, 101]⟩ 693), (.str ⟨#[47, 99, 108, 97, 105, 109, 47, 99, 117, 116, 46, 112, 121]⟩ 694), (.int 281 0), (.int 4 0), (.int 0 0), (.int 0 0), (.int 3 0), (.ref 354), (.bool true), (.int 181 0), (.ref 355), .none, .none, .none, (.ref 356), (.int 695 0), (.int 281 0), (.str ⟨#[47, 99, 108, 97, 105, 109, 47, 99, 117, 116, 46, 112, 121]⟩ 696)] }),
   (nat_lit 358, fobj (stIn 30 24) ⟨#[70, 105, 108, 101, 84, 114, 101, 101, 46, 114, 101, 110, 97, 109, 101]⟩ (.str ⟨#[101, 109, 97, 99, 115, 46, 102, 105, 108, 101, 116, 114, 101, 101]⟩ 396) (.ref 357)),
   (nat_lit 364, { cls := .type "code", data := .fields #[(.str ⟨#[99, 111, 112, 121]⟩ 698), (.str ⟨#[70, 105, 108, 101, 84, 114, 101, 101, 46, 99, 111, 112, 121]⟩ 699), (.str ⟨#[47, 99, 108, 97, 105, 109, 47, 99, 117, 116, 46, 112, 121]⟩ 700), (.int 303 0), (.int 4 0), (.int 0 0), (.int 0 0), (.int 3 0), (.ref 359), (.bool true), (.int 181 0), (.ref 360), .none, (.ref 361), (.ref 362), (.ref 363), (.int 706 0), (.int 303 0), (.str ⟨#[47, 99, 108, 97, 105, 109, 47, 99, 117, 116, 46, 112, 121]⟩ 707)] }),
   (nat_lit 365, fobj (stIn 30 25) ⟨#[70, 105, 108, 101, 84, 114, 101, 101, 46, 99, 111, 112, 121]⟩ (.str ⟨#[101, 109, 97, 99, 115, 46, 102, 105, 108, 101, 116, 114, 101, 101]⟩ 396) (.ref 364)),
   (nat_lit 371, { cls := .type "code", data := .fields #[(.str ⟨#[115, 101, 116, 95, 119, 114, 105, 116, 97, 98, 108, 101]⟩ 709), (.str ⟨#[70, 105, 108, 101, 84, 114, 101, 101, 46, 115, 101, 116, 95, 119, 114, 105, 116, 97, 98, 108, 101]⟩ 710), (.str ⟨#[47, 99, 108, 97, 105, 109, 47, 99, 117, 116, 46, 112, 121]⟩ 711), (.int 309 0), (.int 3 0), (.int 0 0), (.int 0 0), (.int 3 0), (.ref 366), (.bool true), (.int 181 0), (.ref 367), .none, (.ref 368), (.ref 369), (.ref 370), (.int 716 0), (.int 309 0), (.str ⟨#[47, 99, 108, 97, 105, 109, 47, 99, 117, 116, 46, 112, 121]⟩ 717)] }),
   (nat_lit 372, fobj (stIn 30 26) ⟨#[70, 105, 108, 101, 84, 114, 101, 101, 46, 115, 101, 116, 95, 119, 114, 105, 116, 97, 98, 108, 101]⟩ (.str ⟨#[101, 109, 97, 99, 115, 46, 102, 105, 108, 101, 116, 114, 101, 101]⟩ 396) (.ref 371)),
   (nat_lit 375, { cls := .type "type", data := .cls { name := ⟨#[70, 105, 108, 101, 84, 114, 101, 101]⟩, bases := [(.type "object")], mro := [(.ref 375), (.type "object")], ns := 374, qualname := ⟨#[70, 105, 108, 101, 84, 114, 101, 101]⟩ }, slots := #[none, none, some (.str ⟨#[70, 105, 108, 101, 84, 114, 101, 101]⟩ 460), some (.str ⟨#[70, 105, 108, 101, 84, 114, 101, 101]⟩ 468), some (.builtin "object.__new__"), some (.bool true)] }),
   (nat_lit 374, dobj [en P ⟨#[95, 95, 109, 111, 100, 117, 108, 101, 95, 95]⟩ 467 (.str ⟨#[101, 109, 97, 99, 115, 46, 102, 105, 108, 101, 116, 114, 101, 101]⟩ 396), en P ⟨#[95, 95, 102, 105, 114, 115, 116, 108, 105, 110, 101, 110, 111, 95, 95]⟩ 471 (.int 123 470), en P ⟨#[95, 95, 105, 110, 105, 116, 95, 95]⟩ 478 (.ref 192), en P ⟨#[115, 116, 101, 112]⟩ 485 (.ref 199), en P ⟨#[116, 114, 117, 101, 95, 110, 97, 109, 101]⟩ 498 (.ref 206), en P ⟨#[102, 105, 114, 115, 116, 95, 108, 105, 110, 107]⟩ 508 (.ref 213), en P ⟨#[112, 97, 114, 101, 110, 116, 95, 116, 114, 117, 101]⟩ 517 (.ref 220), en P ⟨#[101, 110, 116, 114, 121]⟩ 525 (.ref 227), en P ⟨#[105, 115, 95, 116, 104, 101, 114, 101]⟩ 533 (.ref 234), en P ⟨#[105, 115, 95, 100, 105, 114, 101, 99, 116, 111, 114, 121]⟩ 542 (.ref 241), en P ⟨#[105, 115, 95, 112, 108, 97, 105, 110]⟩ 551 (.ref 248), en P ⟨#[110, 101, 101, 100, 95, 112, 108, 97, 105, 110]⟩ 560 (.ref 255), en P ⟨#[110, 101, 101, 100, 95, 100, 105, 114, 101, 99, 116, 111, 114, 121]⟩ 569 (.ref 262), en P ⟨#[114, 101, 97, 100]⟩ 577 (.ref 269), en P ⟨#[115, 116, 97, 109, 112]⟩ 586 (.ref 276), en P ⟨#[109, 97, 121, 95, 119, 114, 105, 116, 101]⟩ 596 (.ref 283), en P ⟨#[108, 105, 110, 107, 95, 116, 101, 120, 116]⟩ 605 (.ref 290), en P ⟨#[108, 105, 115, 116, 101, 100]⟩ 617 (.ref 297), en P ⟨#[110, 101, 101, 100, 95, 114, 111, 111, 109]⟩ 626 (.ref 304), en P ⟨#[119, 114, 105, 116, 101]⟩ 637 (.ref 311), en P ⟨#[102, 105, 108, 108]⟩ 646 (.ref 318), en P ⟨#[97, 112, 112, 101, 110, 100]⟩ 655 (.ref 325), en P ⟨#[109, 97, 107, 101, 95, 100, 105, 114, 101, 99, 116, 111, 114, 121]⟩ 664 (.ref 332), en P ⟨#[109, 97, 107, 101, 95, 108, 105, 110, 107]⟩ 673 (.ref 339), en P ⟨#[100, 101, 108, 101, 116, 101]⟩ 683 (.ref 346), en P ⟨#[114, 101, 109, 111, 118, 101, 95, 100, 105, 114, 101, 99, 116, 111, 114, 121]⟩ 691 (.ref 353), en P ⟨#[114, 101, 110, 97, 109, 101]⟩ 697 (.ref 358), en P ⟨#[99, 111, 112, 121]⟩ 708 (.ref 365), en P ⟨#[115, 101, 116, 95, 119, 114, 105, 116, 97, 98, 108, 101]⟩ 718 (.ref 372), en P ⟨#[95, 95, 115, 116, 97, 116, 105, 99, 95, 97, 116, 116, 114, 105, 98, 117, 116, 101, 115, 95, 95]⟩ 722 (.ref 373), en P ⟨#[95, 95, 100, 105, 99, 116, 95, 95]⟩ 724 (.ref 376), en P ⟨#[95, 95, 119, 101, 97, 107, 114, 101, 102, 95, 95]⟩ 726 (.ref 377), en P ⟨#[95, 95, 100, 111, 99, 95, 95]⟩ 727 .none] 4),
   (nat_lit 385, { cls := .type "code", data := .fields #[(.str ⟨#[112, 97, 114, 101, 110, 116, 95, 111, 102]⟩ 730), (.str ⟨#[112, 97, 114, 101, 110, 116, 95, 111, 102]⟩ 731), (.str ⟨#[47, 99, 108, 97, 105, 109, 47, 99, 117, 116, 46, 112, 121]⟩ 732), (.int 315 0), (.int 1 0), (.int 0 0), (.int 0 0), (.int 3 0), (.ref 380), (.bool true), (.int 181 0), (.ref 381), .none, (.ref 382), (.ref 383), (.ref 384), (.int 735 0), (.int 315 0), (.str ⟨#[47, 99, 108, 97, 105, 109, 47, 99, 117, 116, 46, 112, 121]⟩ 736)] }),
   (nat_lit 386, fobj (stAt 31) ⟨#[112, 97, 114, 101, 110, 116, 95, 111, 102]⟩ (.str ⟨#[101, 109, 97, 99, 115, 46, 102, 105, 108, 101, 116, 114, 101, 101]⟩ 396) (.ref 385)),
   (nat_lit 392, { cls := .type "code", data := .fields #[(.str ⟨#[106, 111, 105, 110, 101, 100]⟩ 738), (.str ⟨#[106, 111, 105, 110, 101, 100]⟩ 739), (.str ⟨#[47, 99, 108, 97, 105, 109, 47, 99, 117, 116, 46, 112, 121]⟩ 740), (.int 318 0), (.int 2 0), (.int 0 0), (.int 0 0), (.int 3 0), (.ref 387), (.bool true), (.int 181 0), (.ref 388), .none, (.ref 389), (.ref 390), (.ref 391), (.int 743 0), (.int 318 0), (.str ⟨#[47, 99, 108, 97, 105, 109, 47, 99, 117, 116, 46, 112, 121]⟩ 744)] }),
   (nat_lit 393, fobj (stAt 32) ⟨#[106, 111, 105, 110, 101, 100]⟩ (.str ⟨#[101, 109, 97, 99, 115, 46, 102, 105, 108, 101, 116, 114, 101, 101]⟩ 396) (.ref 392)),
   (nat_lit 399, { cls := .type "code", data := .fields #[(.str ⟨#[95, 108, 97, 119, 95, 100, 114, 97, 119]⟩ 748), (.str ⟨#[95, 108, 97, 119, 95, 100, 114, 97, 119]⟩ 749), (.str ⟨#[47, 99, 108, 97, 105, 109, 47, 99, 117, 116, 46, 112, 121]⟩ 750), (.int 321 0), (.int 2 0), (.int 0 0), (.int 0 0), (.int 3 0), (.ref 394), (.bool true), (.int 181 0), (.ref 395), .none, (.ref 396), (.ref 397), (.ref 398), (.int 753 0), (.int 321 0), (.str ⟨#[47, 99, 108, 97, 105, 109, 47, 99, 117, 116, 46, 112, 121]⟩ 754)] }),
   (nat_lit 400, fobj (stAt 34) ⟨#[95, 108, 97, 119, 95, 100, 114, 97, 119]⟩ (.str ⟨#[108, 97, 119, 95, 112, 113, 48, 50, 56, 54, 95, 48, 49]⟩ 746) (.ref 399)),
   (nat_lit 406, { cls := .type "code", data := .fields #[(.str ⟨#[95, 108, 97, 119, 95, 115, 116, 97, 110, 100, 115]⟩ 756), (.str ⟨#[95, 108, 97, 119, 95, 115, 116, 97, 110, 100, 115]⟩ 757), (.str ⟨#[47, 99, 108, 97, 105, 109, 47, 99, 117, 116, 46, 112, 121]⟩ 758), (.int 323 0), (.int 1 0), (.int 0 0), (.int 0 0), (.int 3 0), (.ref 401), (.bool true), (.int 181 0), (.ref 402), .none, (.ref 403), (.ref 404), (.ref 405), (.int 762 0), (.int 323 0), (.str ⟨#[47, 99, 108, 97, 105, 109, 47, 99, 117, 116, 46, 112, 121]⟩ 763)] }),
   (nat_lit 407, fobj (stAt 35) ⟨#[95, 108, 97, 119, 95, 115, 116, 97, 110, 100, 115]⟩ (.str ⟨#[108, 97, 119, 95, 112, 113, 48, 50, 56, 54, 95, 48, 49]⟩ 746) (.ref 406)),
   (nat_lit 413, { cls := .type "code", data := .fields #[(.str ⟨#[95, 108, 97, 119, 95, 115, 97, 118, 101, 100]⟩ 765), (.str ⟨#[95, 108, 97, 119, 95, 115, 97, 118, 101, 100]⟩ 766), (.str ⟨#[47, 99, 108, 97, 105, 109, 47, 99, 117, 116, 46, 112, 121]⟩ 767), (.int 328 0), (.int 4 0), (.int 0 0), (.int 0 0), (.int 3 0), (.ref 408), (.bool true), (.int 181 0), (.ref 409), .none, (.ref 410), (.ref 411), (.ref 412), (.int 773 0), (.int 328 0), (.str ⟨#[47, 99, 108, 97, 105, 109, 47, 99, 117, 116, 46, 112, 121]⟩ 774)] }),
   (nat_lit 414, fobj (stAt 36) ⟨#[95, 108, 97, 119, 95, 115, 97, 118, 101, 100]⟩ (.str ⟨#[108, 97, 119, 95, 112, 113, 48, 50, 56, 54, 95, 48, 49]⟩ 746) (.ref 413)),
   (nat_lit 420, { cls := .type "code", data := .fields #[(.str ⟨#[95, 108, 97, 119, 95, 98, 97, 99, 107, 117, 112]⟩ 776), (.str ⟨#[95, 108, 97, 119, 95, 98, 97, 99, 107, 117, 112]⟩ 777), (.str ⟨#[47, 99, 108, 97, 105, 109, 47, 99, 117, 116, 46, 112, 121]⟩ 778), (.int 333 0), (.int 3 0), (.int 0 0), (.int 0 0), (.int 3 0), (.ref 415), (.bool true), (.int 181 0), (.ref 416), .none, (.ref 417), (.ref 418), (.ref 419), (.int 782 0), (.int 333 0), (.str ⟨#[47, 99, 108, 97, 105, 109, 47, 99, 117, 116, 46, 112, 121]⟩ 783)] }),
   (nat_lit 421, fobj (stAt 37) ⟨#[95, 108, 97, 119, 95, 98, 97, 99, 107, 117, 112]⟩ (.str ⟨#[108, 97, 119, 95, 112, 113, 48, 50, 56, 54, 95, 48, 49]⟩ 746) (.ref 420)),
   (nat_lit 425, { cls := .type "code", data := .fields #[(.str ⟨#[108, 97, 119]⟩ 785), (.str ⟨#[108, 97, 119]⟩ 786), (.str ⟨#[47, 99, 108, 97, 105, 109, 47, 99, 117, 116, 46, 112, 121]⟩ 787), (.int 341 0), (.int 1 0), (.int 0 0), (.int 0 0), (.int 3 0), (.ref 422), (.bool true), (.int 181 0), (.ref 423), .none, .none, .none, (.ref 424), (.int 788 0), (.int 341 0), (.str ⟨#[47, 99, 108, 97, 105, 109, 47, 99, 117, 116, 46, 112, 121]⟩ 789)] }),
   (nat_lit 426, fobj (stAt 38) ⟨#[108, 97, 119]⟩ (.str ⟨#[108, 97, 119, 95, 112, 113, 48, 50, 56, 54, 95, 48, 49]⟩ 746) (.ref 425))]
noncomputable def asK : List Addr := [3, 9, 13, 20, 21, 27, 34, 35, 38, 37, 47, 48, 54, 55, 61, 62, 68, 69, 75, 76, 82, 83, 89, 96, 97, 100, 99, 110, 111, 115, 116, 122, 123, 129, 130, 136, 137, 143, 144, 150, 154, 153, 163, 170, 171, 174, 173, 184, 191, 192, 198, 199, 205, 206, 212, 213, 219, 220, 226, 227, 233, 234, 240, 241, 247, 248, 254, 255, 261, 262, 268, 269, 275, 276, 282, 283, 289, 290, 296, 297, 303, 304, 310, 311, 317, 318, 324, 325, 331, 332, 338, 339, 345, 346, 352, 353, 357, 358, 364, 365, 371, 372, 375, 374, 385, 386, 392, 393, 399, 400, 406, 407, 413, 414, 420, 421, 425, 426]
theorem asK_eq (P : Params) : asK = (K P).map (·.1) := by kernel_rfl
noncomputable abbrev H : Hook := kHook K asK asK_eq
def keep : List Nat := [0, 2, 4, 5, 6, 7, 8, 9, 10, 12, 13, 14, 15, 16, 17, 18, 19, 20, 21, 22, 24, 25, 26, 27, 28, 29, 30, 31, 32, 34, 35, 36, 37, 38]
noncomputable def lookF (w : World) (r : Flow × SharedT × Code × Pos) :=
  (r.1, r.2.2.1, (staticsOk (PySem.W.Fast.tw5923862056798008813 pwF.main.body) (boot_heap w.params) r.2.1.abs.heap && namesBound pwF r.2.1.abs.heap && gensDone r.2.1.abs && laidKept (boot_heap w.params) r.2.1.abs.heap),
    PySem.W.Fast.tw4187177175401517315 (view pwF keep) [] (PySem.W.Fast.tw5923862056798008813 pwF.main.body) (fun _ => true) true r.2.1.abs, asK.map r.2.1.abs.heap.get?)
theorem chk (w : World) (os : OsState) : (runF w os).map (lookF w) = some (.next, codeOfP pwF, true, openGood (view pwF keep) [], (K w.params).map fun p => some p.2) := by kernel_rfl
end Mine
end
section
open PySem PySem.W PyProof.Rows
set_option maxHeartbeats 4000000
namespace Mine
theorem runS_eq (w : World) (os : OsState) : segRunT treeTable pw w 11 ann0 1 2800 (sT0 w os) (piecesOf (behindTheImports pw) (envOfP pw) (codeOfP pw) pos0 [topFrame pos0]) = runF w os := by
  unfold runF
  rw [← PySem.W.Fast.te10110043849684766642, ← PySem.W.Fast.te14364793385576792824, ← pwF_eq]
theorem lookS (w : World) (os : OsState) : ∃ s' : SharedT, ∃ p' : Pos, segRunT treeTable pw w 11 ann0 1 2800 (sT0 w os) (piecesOf (behindTheImports pw) (envOfP pw) (codeOfP pw) pos0 [topFrame pos0]) = some (.next, s', codeOfP pw, p') ∧
    (staticsOk (importedModules pw.main.body) (boot_heap w.params) s'.abs.heap && namesBound pw s'.abs.heap && gensDone s'.abs && laidKept (boot_heap w.params) s'.abs.heap) = true ∧
    openSeen (view pw keep) [] (importedModules pw.main.body) (fun _ => true) true s'.abs = openGood (view pw keep) [] ∧ asK.map s'.abs.heap.get? = (K w.params).map fun p => some p.2 := by
  rw [runS_eq]
  obtain ⟨⟨f, s', c, p'⟩, e, e'⟩ := Option.map_eq_some_iff.mp (chk w os)
  unfold lookF at e'
  simp only [Prod.mk.injEq] at e'
  obtain ⟨e1, e2, e3, e4, e5⟩ := e'
  rw [← pwF_eq] at e2 e3 e4
  rw [← PySem.W.Fast.te5923862056798008813] at e3 e4
  rw [← PySem.W.Fast.te4187177175401517315] at e4
  subst e1 e2
  exact ⟨s', p', e, e3, e4, e5⟩
theorem preGo (w : World) (os : OsState) : topGo treeTable pw w 11 ann0 12 ⟨boot_heap w.params, Array.mk [], boot_drawn, boot_toks, os⟩ (topStub pw) =
    some ((sT0 w os).abs, ⟨denote treeTable (codeOfP pw), codeOfP pw, pos0, [topFrame pos0]⟩) := by
  rw [PySem.W.Fast.te15667345088766844465, PySem.W.Fast.te11892475500146522536, PySem.W.Fast.te14364793385576792824, show pw = pwF from pwF_eq]
  kernel_rfl
theorem blockGo (w : World) (os : OsState) : segRun treeTable pw w 11 ann0 1 1 (sT0 w os).abs (blockOf (behindTheImports pw) (envOfP pw) (codeOfP pw) pos0 [topFrame pos0]) = some (.next, (sT0 w os).abs, codeOfP pw, pos0) := by
  rw [PySem.W.Fast.te14374325043358763698, PySem.W.Fast.te14364793385576792824, show pw = pwF from pwF_eq]
  kernel_rfl
theorem endGo {p : Program} {w : World} {n : Nat} {a : Option Value} {s : Shared} {c : Code} {q q' : Pos} : topRun treeTable p w n a 2 s ⟨doneF .next, c, q, [topFrame q']⟩ = some s := by
  obtain ⟨h, g, d, t, os⟩ := s
  rfl
theorem sizes (P : Params) : ((boot_heap P).isNs mainGlobals && (Array.mk ([] : List GenState)).size == 0, (boot_heap P).objs.size, (boot_heap P).nsMap mainGlobals "__annotations__") = (true, 11, ann0) := by kernel_rfl
theorem opens (w : World) : (fencedOpening treeTable pw w 3000).map (fun s => (s.heap, s.gens, s.drawn, s.toks)) = some (boot_heap w.params, Array.mk [], boot_drawn, boot_toks) :=
  boot_open (by kernel_rfl) rfl (fun s => rfl) w
theorem topFrom_of {tb : String → Option Builtin} {p : Program} {w : World} {N n : Nat} {a : Option Value} {s₀ s₁ : Shared} (h1 : (s₀.heap.isNs mainGlobals && s₀.gens.size == 0) = true) (h2 : s₀.heap.objs.size = n) (h3 : s₀.heap.nsMap mainGlobals "__annotations__" = a)
    (h4 : topRun tb p w n a N s₀ (topStub p) = some s₁) (h5 : (staticsOk (importedModules p.main.body) s₀.heap s₁.heap && namesBound p s₁.heap && gensDone s₁ && laidKept s₀.heap s₁.heap) = true) : topFrom tb p w N s₀ = some s₁ := by
  subst h2 h3
  unfold topFrom
  rw [h1]
  dsimp only
  rw [h4, Option.bind_some, h5]
theorem left_of {p q : Program} {loose : List Str} {Xt : Shared → Bool} {α : Type} {Yf : Shared → α} {Ya : World → α} {N : Nat} {w : World} {s₀ s₁ : Shared} (h1 : fencedOpening treeTable p w N = some s₀) (h2 : topFrom treeTable p w N s₀ = some s₁)
    (h3 : openSeen q loose (importedModules p.main.body) Xt true s₁ = openGood q loose) (h4 : Yf s₁ = Ya w) : (openEnds treeTable p w N).map (fun s => (openSeen q loose (importedModules p.main.body) Xt true s, Yf s)) = some (openGood q loose, Ya w) := by
  unfold openEnds
  rw [h1, Option.bind_some, h2, Option.map_some, h3, h4]
theorem run_all {w : World} {os : OsState} {s' : SharedT} {p' : Pos} (r1 : segRunT treeTable pw w 11 ann0 1 2800 (sT0 w os) (piecesOf (behindTheImports pw) (envOfP pw) (codeOfP pw) pos0 [topFrame pos0]) = some (.next, s', codeOfP pw, p')) :
    topRun treeTable pw w 11 ann0 3000 ⟨boot_heap w.params, Array.mk [], boot_drawn, boot_toks, os⟩ (topStub pw) = some s'.abs := by
  have b : topRun treeTable pw w 11 ann0 (2800 + 2) (sT0 w os).abs (restOf (behindTheImports pw ++ []) (envOfP pw) (codeOfP pw) pos0 [topFrame pos0]) = some s'.abs := piece_app (segRun_of r1) (piece_nil endGo)
  rw [List.append_nil] at b
  have c := go_top (preGo w os) (piece_block (blockGo w os) b)
  exact topRun_mono 185 _ _ _ _ c
theorem left : LeftO pw (view pw keep) [] (fun _ => true) (Hook.obs H) (Hook.val H) 3000 := fun w => by
  obtain ⟨⟨h, gs, d, k, os⟩, e, e'⟩ := Option.map_eq_some_iff.mp (opens w)
  obtain ⟨rfl, rfl, rfl, rfl⟩ : h = boot_heap w.params ∧ gs = Array.mk [] ∧ d = boot_drawn ∧ k = boot_toks := by simpa using e'
  obtain ⟨s', p', r1, l1, l2, l3⟩ := lookS w os
  obtain ⟨z1, z2, z3⟩ : _ ∧ _ ∧ _ := by simpa only [Prod.mk.injEq] using sizes w.params
  exact left_of e (topFrom_of z1 z2 z3 (run_all r1) l1) l2 l3
end Mine
end
section
open PySem PySem.W PyProof.Rows PySem.Calls
set_option maxHeartbeats 1000000
namespace Mine
/-- a value, its identity left out -/
inductive V where
  | none
  | bool (b : Bool)
  | int (i : Int)
  | str (s : Str)
  | ref (a : Addr)
def VR : V → Value → Prop
  | .none, u => u = .none
  | .bool b, u => u = .bool b
  | .int i, u => ∃ t, u = .int i t
  | .str s, u => ∃ t, u = .str s t
  | .ref a, u => u = .ref a
def VRs : List V → List Value → Prop
  | [], [] => True
  | v :: vs, u :: us => VR v u ∧ VRs vs us
  | _, _ => False
theorem len0 {us : List Value} (h : us.length = 0) : us = [] := by cases us with | nil => rfl | cons _ _ => cases h
theorem lenS {us : List Value} {n : Nat} (h : us.length = n + 1) : ∃ u r, us = u :: r ∧ r.length = n := by cases us with | nil => cases h | cons u r => exact ⟨u, r, rfl, Nat.succ.inj h⟩
theorem len1 {us : List Value} (h : us.length = 1) : ∃ a, us = [a] := by obtain ⟨u, r, rfl, h'⟩ := lenS h; obtain rfl := len0 h'; exact ⟨u, rfl⟩
theorem len2 {us : List Value} (h : us.length = 2) : ∃ a b, us = [a, b] := by obtain ⟨u, r, rfl, h'⟩ := lenS h; obtain ⟨a, rfl⟩ := len1 h'; exact ⟨u, a, rfl⟩
theorem len3 {us : List Value} (h : us.length = 3) : ∃ a b c, us = [a, b, c] := by obtain ⟨u, r, rfl, h'⟩ := lenS h; obtain ⟨a, b, rfl⟩ := len2 h'; exact ⟨u, a, b, rfl⟩
theorem len4 {us : List Value} (h : us.length = 4) : ∃ a b c d, us = [a, b, c, d] := by obtain ⟨u, r, rfl, h'⟩ := lenS h; obtain ⟨a, b, c, rfl⟩ := len3 h'; exact ⟨u, a, b, c, rfl⟩
theorem len5 {us : List Value} (h : us.length = 5) : ∃ a b c d e, us = [a, b, c, d, e] := by obtain ⟨u, r, rfl, h'⟩ := lenS h; obtain ⟨a, b, c, d, rfl⟩ := len4 h'; exact ⟨u, a, b, c, d, rfl⟩
theorem len6 {us : List Value} (h : us.length = 6) : ∃ a b c d e f, us = [a, b, c, d, e, f] := by obtain ⟨u, r, rfl, h'⟩ := lenS h; obtain ⟨a, b, c, d, e, rfl⟩ := len5 h'; exact ⟨u, a, b, c, d, e, rfl⟩
theorem len7 {us : List Value} (h : us.length = 7) : ∃ a b c d e f g, us = [a, b, c, d, e, f, g] := by obtain ⟨u, r, rfl, h'⟩ := lenS h; obtain ⟨a, b, c, d, e, f, rfl⟩ := len6 h'; exact ⟨u, a, b, c, d, e, f, rfl⟩
theorem vrsS {a : V} {l : List V} {us : List Value} (h : VRs (a :: l) us) : ∃ u r, us = u :: r ∧ VR a u ∧ VRs l r := by cases us with | nil => exact False.elim h | cons u r => exact ⟨u, r, rfl, h.1, h.2⟩
theorem vrs0 {us : List Value} (h : VRs [] us) : us = [] := by cases us with | nil => rfl | cons u r => exact False.elim h
theorem vrs1 {a : V} {us : List Value} (h : VRs [a] us) : ∃ u, us = [u] ∧ VR a u := by obtain ⟨u, r, rfl, e, h'⟩ := vrsS h; obtain rfl := vrs0 h'; exact ⟨u, rfl, e⟩
theorem vrs2 {a b : V} {us : List Value} (h : VRs [a, b] us) : ∃ u w, us = [u, w] ∧ VR a u ∧ VR b w := by obtain ⟨u, r, rfl, e, h'⟩ := vrsS h; obtain ⟨w, rfl, f⟩ := vrs1 h'; exact ⟨u, w, rfl, e, f⟩
theorem vrs3 {a b c : V} {us : List Value} (h : VRs [a, b, c] us) : ∃ u v w, us = [u, v, w] ∧ VR a u ∧ VR b v ∧ VR c w := by obtain ⟨u, r, rfl, e, h'⟩ := vrsS h; obtain ⟨v, w, rfl, f⟩ := vrs2 h'; exact ⟨u, v, w, rfl, e, f⟩
theorem vrs4 {a b c d : V} {us : List Value} (h : VRs [a, b, c, d] us) : ∃ u v w x, us = [u, v, w, x] ∧ VR a u ∧ VR b v ∧ VR c w ∧ VR d x := by obtain ⟨u, r, rfl, e, h'⟩ := vrsS h; obtain ⟨v, w, x, rfl, f⟩ := vrs3 h'; exact ⟨u, v, w, x, rfl, e, f⟩
/-- an object of the call's own -/
inductive O where
  | list (vs : List V)
  | flist (vs : List V)
  | tup (vs : List V)
  | dict (kv : List (Str × V))
  | inst (C : Addr) (fs : List (Str × V))
  | raw (ob : Obj)
  | cell (v : Option V)
abbrev HL := Addr → Option O
def HL.set (H : HL) (a : Addr) (o : O) : HL := fun b => if b = a then some o else H b
theorem HL.set_self {H : HL} {a : Addr} {o : O} : H.set a o a = some o := if_pos rfl
theorem HL.set_ne {H : HL} {a b : Addr} {o : O} (h : b ≠ a) : H.set a o b = H b := if_neg h
def FR (w : World) : List (Str × V) → List DictEntry → Prop
  | [], [] => True
  | f :: fs, e :: es => (∃ t u, e = ⟨PyData.keyHash w.params f.1, .str f.1 t, u⟩ ∧ VR f.2 u) ∧ FR w fs es
  | _, _ => False
def KVR : List (Str × V) → List (Str × Value) → Prop
  | [], [] => True
  | f :: fs, e :: es => (f.1 = e.1 ∧ VR f.2 e.2) ∧ KVR fs es
  | _, _ => False
def OR (w : World) (δ : Addr → Addr) (news : List (Addr × Obj)) (a : Addr) : O → Prop
  | .list vs => ∃ its n, (a, listOf its n) ∈ news ∧ VRs vs its.toList
  | .flist vs => ∃ its n, (a, listOf its n) ∈ news ∧ VRs vs its.toList
  | .tup vs => ∃ its n, (a, ({ cls := .type "tuple", data := .seq its n } : Obj)) ∈ news ∧ VRs vs its.toList
  | .dict kv => ∃ o kvs, (a, o) ∈ news ∧ (a == sysModules) = false ∧ o.IsDictOf (PySem.strKind pw w) kvs ∧ KVR kv kvs
  | .inst C fs => ∃ es n sl, (a, (⟨.ref C, some (δ a), .plain, sl⟩ : Obj)) ∈ news ∧ (δ a, dictOf es n) ∈ news ∧ FR w fs es
  | .raw ob => (a, ob) ∈ news
  | .cell (some v) => ∃ u ob, (a, ob) ∈ news ∧ ob.data = .cell (some u) ∧ VR v u
  | .cell none => ∃ ob, (a, ob) ∈ news ∧ ob.data = .cell none
structure HR (w : World) (δ : Addr → Addr) (H : HL) (news : List (Addr × Obj)) : Prop where
  at_ : ∀ a o, H a = some o → OR w δ news a o
  inj : ∀ a b C D fs gs, H a = some (.inst C fs) → H b = some (.inst D gs) → δ a = δ b → a = b
  off : ∀ a C fs, H a = some (.inst C fs) → H (δ a) = none
def LR (ns : List Str) (vs : List (Option V)) (m : Str → Option Value) : Prop := ∀ (i : Nat) (n : Str) (v : V), ns[i]? = some n → vs[i]? = some (some v) → ∃ u, m n = some u ∧ VR v u
structure Good (w : World) (h : Heap) : Prop where
  K : (Mine.K w.params).In h
  top : ∃ mg mb, TopRead (view pw keep) [] mg mb h
theorem Good.keeps {w : World} {h h' : Heap} (G : Good w h) (k : ∀ b o, h.get? b = some o → h'.get? b = some o) : Good w h' :=
  ⟨G.K.keeps k, let ⟨mg, mb, T⟩ := G.top; ⟨mg, mb, T.keeps k⟩⟩
/-- a def's frame, and what stands around it -/
structure Cx where
  w : World
  h₀ : Heap
  L : Addr
  A : Around
  d : Nat
  os : OsState
  env : Env
  ns : List Str
  gs : List Str
structure Cx.Ok (X : Cx) : Prop where
  good : Good X.w X.h₀
  handled : X.A.handled = none
  depth : X.A.depth + X.d < recursionLimit
  units : X.A.units + 8 * X.d + 80 < cLine
  fn : X.env.scope.kind = .function
  locals : X.env.locals = X.L
  globals : X.env.globals = mainGlobals
  builtins : X.env.builtins = builtinsNs
  loc : ∀ n ∈ X.ns, X.env.kindOf n = some .local ∧ (n == ("__debug__" : Str)) = false
  glob : ∀ n ∈ X.gs, X.env.kindOf n = some .globalImplicit ∧ (n == ("__debug__" : Str)) = false
  nodup : X.ns.Nodup
structure Rel (X : Cx) (vs : List (Option V)) (H : HL) (s : Shared) : Prop where
  ex : ∃ m news δ, Fr X.h₀ X.L s.heap m ∧ News X.h₀ X.L s.heap news ∧ (news.map (·.1)).Nodup ∧ LR X.ns vs m ∧ HR X.w δ H news
  gens : s.gens = #[]
  os : s.os = X.os
abbrev Md (X : Cx) : Model := model pw X.w
/-- an expression's evaluation -/
def W (X : Cx) (vs : List (Option V)) (H : HL) (e : Expr) (P : V → HL → Prop) : Prop :=
  X.Ok → ∀ (s : Shared) (Q E : Value → Shared → Prop), Rel X vs H s → (∀ v u H' s', P v H' → VR v u → Rel X vs H' s' → Q u s') → wpAny (Md X) X.A (eval e X.env) Q E s
/-- a tree that gives back a value -/
def T (X : Cx) (vs : List (Option V)) (H : HL) (t : Sem Value) (P : V → HL → Prop) : Prop :=
  X.Ok → ∀ (s : Shared) (Q E : Value → Shared → Prop), Rel X vs H s → (∀ v u H' s', P v H' → VR v u → Rel X vs H' s' → Q u s') → wpAny (Md X) X.A t Q E s
/-- a test -/
def WT (X : Cx) (vs : List (Option V)) (H : HL) (e : Expr) (P : Bool → HL → Prop) : Prop :=
  X.Ok → ∀ (s : Shared) (Q : Bool → Shared → Prop) (E : Value → Shared → Prop), Rel X vs H s → (∀ b H' s', P b H' → Rel X vs H' s' → Q b s') → wpAny (Md X) X.A (isTrue e X.env (eval e X.env)) Q E s
/-- arguments, items -/
def WA (X : Cx) (vs : List (Option V)) (H : HL) (pos : Pos) (es : List Expr) (P : List V → HL → Prop) : Prop :=
  X.Ok → ∀ (s : Shared) (Q : List Value → Shared → Prop) (E : Value → Shared → Prop), Rel X vs H s → (∀ v u H' s', P v H' → VRs v u → Rel X vs H' s' → Q u s') → wpAny (Md X) X.A (spliced (backTo pos (starEach es X.env))) Q E s
inductive Fl where
  | next
  | brk
  | cont
  | ret (v : V)
def FlR : Fl → Flow → Prop
  | .next, f => f = .next
  | .brk, f => f = .brk
  | .cont, f => f = .cont
  | .ret v, f => ∃ u, f = .ret u ∧ VR v u
def S (X : Cx) (vs : List (Option V)) (H : HL) (st : Stmt) (P : Fl → List (Option V) → HL → Prop) : Prop :=
  X.Ok → ∀ (s : Shared) (Q : Flow → Shared → Prop) (E : Value → Shared → Prop), Rel X vs H s → (∀ f g vs' H' s', P f vs' H' → FlR f g → Rel X vs' H' s' → Q g s') → wpAny (Md X) X.A (exec st X.env) Q E s
def B (X : Cx) (vs : List (Option V)) (H : HL) (b : List Stmt) (P : Fl → List (Option V) → HL → Prop) : Prop :=
  X.Ok → ∀ (s : Shared) (Q : Flow → Shared → Prop) (E : Value → Shared → Prop), Rel X vs H s → (∀ f g vs' H' s', P f vs' H' → FlR f g → Rel X vs' H' s' → Q g s') → wpAny (Md X) X.A (execs b X.env) Q E s
/-- what a rule asks of the rest, each by a name of its own -/
abbrev BC (X : Cx) (rest : List Stmt) (P : Fl → List (Option V) → HL → Prop) : Fl → List (Option V) → HL → Prop := fun f vs1 H1 => match f with | .next => B X vs1 H1 rest P | f => P f vs1 H1
abbrev IT (X : Cx) (vs : List (Option V)) (b o : List Stmt) (P : Fl → List (Option V) → HL → Prop) : Bool → HL → Prop := fun c H1 => if c = true then B X vs H1 b P else B X vs H1 o P
abbrev IW (X : Cx) (vs : List (Option V)) (b o : Expr) (P : V → HL → Prop) : Bool → HL → Prop := fun c H1 => if c = true then W X vs H1 b P else W X vs H1 o P
abbrev NB (P : Bool → HL → Prop) : Bool → HL → Prop := fun b H1 => P (!b) H1
abbrev AN (X : Cx) (vs : List (Option V)) (rest : List Expr) (pos : Pos) (P : Bool → HL → Prop) : Bool → HL → Prop := fun c H1 => if c = true then WT X vs H1 (.BoolOp .And rest pos) P else P false H1
abbrev ORR (X : Cx) (vs : List (Option V)) (rest : List Expr) (pos : Pos) (P : Bool → HL → Prop) : Bool → HL → Prop := fun c H1 => if c = true then P true H1 else WT X vs H1 (.BoolOp .Or rest pos) P
abbrev CO (v : V) (P : List V → HL → Prop) : List V → HL → Prop := fun l H2 => P (v :: l) H2
abbrev AR (X : Cx) (vs : List (Option V)) (pos : Pos) (rest : List Expr) (P : List V → HL → Prop) : V → HL → Prop := fun v H1 => WA X vs H1 pos rest (CO v P)
abbrev RT (vs : List (Option V)) (P : Fl → List (Option V) → HL → Prop) : V → HL → Prop := fun v H1 => P (.ret v) vs H1
abbrev XP (vs : List (Option V)) (P : Fl → List (Option V) → HL → Prop) : V → HL → Prop := fun _ H1 => P .next vs H1
abbrev AS (vs : List (Option V)) (i : Nat) (P : Fl → List (Option V) → HL → Prop) : V → HL → Prop := fun v H1 => P .next (vs.set i (some v)) H1
inductive VL (P : Bool → HL → Prop) (v : V) (H1 : HL) : Prop
  | mk (b : Bool) (e : v = .bool b) (h : P b H1)
section
variable {X : Cx} {vs : List (Option V)} {H : HL} {s : Shared}
theorem Rel.toks (R : Rel X vs H s) (k : Nat) : Rel X vs H { s with toks := k } := ⟨R.ex, R.gens, R.os⟩
theorem Rel.less {H' : HL} (R : Rel X vs H s) (h : ∀ a o, H' a = some o → H a = some o) : Rel X vs H' s := by
  obtain ⟨m, news, δ, F, N, D, l, r⟩ := R.ex
  refine ⟨⟨m, news, δ, F, N, D, l, ⟨fun a o e => r.at_ a o (h a o e), fun a b C D fs gs ea eb => r.inj a b C D fs gs (h _ _ ea) (h _ _ eb), fun a C fs ea => ?_⟩⟩, R.gens, R.os⟩
  cases q : H' (δ a) with
  | none => rfl
  | some o => have := h _ _ q; rw [r.off a C fs (h _ _ ea)] at this; cases this
variable {P : V → HL → Prop}
theorem W.cNone {k : Nat} {pos : Pos} (h : P .none H) : W X vs H (.Constant .none k pos) P := fun _ s Q E R q => wpAny_Constant_none (q _ _ _ _ h rfl R)
theorem W.cBool {b : Bool} {k : Nat} {pos : Pos} (h : P (.bool b) H) : W X vs H (.Constant (.bool b) k pos) P := fun _ s Q E R q => wpAny_Constant_bool (q _ _ _ _ h rfl R)
theorem W.cInt {i : Int} {k : Nat} {pos : Pos} (h : P (.int i) H) : W X vs H (.Constant (.int i) k pos) P := fun _ s Q E R q => wpAny_Constant_int (q _ _ _ _ h ⟨_, rfl⟩ (R.toks _))
theorem W.cStr {x : Str} {k : Nat} {pos : Pos} (h : P (.str x) H) : W X vs H (.Constant (.str x) k pos) P := fun _ s Q E R q => Calls.Constant_str (q _ _ _ _ h ⟨_, rfl⟩ (R.toks _))
theorem Cx.kind_local (O : X.Ok) {n : Str} (h : n ∈ X.ns) : X.env.kindOf n = some .local := (O.loc n h).1
theorem W.var {n : Str} {pos : Pos} {v : V} (i : Nat) (hn : X.ns[i]? = some n) (hv : vs[i]? = some (some v)) (h : P v H) : W X vs H (.Name n pos) P := fun O s Q E R q => by
  obtain ⟨m, news, δ, F, N, D, l, r⟩ := R.ex
  obtain ⟨u, hu, vu⟩ := l i n v hn hv
  exact wpAny_Name (wpAny_loadName_local O.fn (Cx.kind_local O (List.mem_of_getElem? hn)) (by rw [O.locals]; exact F.ns) hu (q _ _ _ _ h vu R)) (O.loc n (List.mem_of_getElem? hn)).2
theorem W.glob {n : Str} {pos : Pos} {v : V} {u : Value} (i : Nat) (hi : X.gs[i]? = some n) (hn : nsIn (K X.w.params) mainGlobals n = some (some u)) (hv : VR v u) (h : P v H) : W X vs H (.Name n pos) P := fun O s Q E R q => by
  obtain ⟨m, news, δ, F, N, D, l, r⟩ := R.ex
  obtain ⟨mg, mb, TR⟩ := O.good.top
  exact nameG_K F O.good.K TR hn (q _ _ _ _ h hv R) O.globals O.fn (O.glob n (List.mem_of_getElem? hi)).1 (O.glob n (List.mem_of_getElem? hi)).2
theorem T.of {t : Sem Value} (h : T X vs H t P) : T X vs H t P := h
theorem W.binop {l r : Expr} {op : Operator} {pos : Pos} (h : W X vs H l fun a H1 => W X vs H1 r fun b H2 => ∀ u w, VR a u → VR b w → T X vs H2 (binaryOp op u w) P) : W X vs H (.BinOp l op r pos) P :=
  fun O s Q E R q => wpAny_BinOp (h O s _ _ R fun a u H1 s1 h1 va R1 => h1 O s1 _ _ R1 fun b w H2 s2 h2 vb R2 => h2 u w va vb O s2 _ _ R2 q)
theorem W.cmp {l r : Expr} {op : CmpOp} {pos : Pos} (h : W X vs H l fun a H1 => W X vs H1 r fun b H2 => ∀ u w, VR a u → VR b w → T X vs H2 (compareOp op u w) P) (hm : behindInMarks op r = false := by rfl) : W X vs H (.Compare l [op] [r] pos) P :=
  fun O s Q E R q => wpAny_Compare1 (h O s _ _ R fun a u H1 s1 h1 va R1 => h1 O s1 _ _ R1 fun b w H2 s2 h2 vb R2 => h2 u w va vb O s2 _ _ R2 q) hm
theorem W.ite {t b o : Expr} {pos : Pos} (h : WT X vs H t (IW X vs b o P)) : W X vs H (.IfExp t b o pos) P :=
  fun O s Q E R q => IfExp_ (h O s _ _ R fun c H1 s1 (h1 : if c = true then W X vs H1 b P else W X vs H1 o P) R1 => by
    cases c
    · rw [if_neg (by decide)] at h1 ⊢; exact h1 O s1 _ _ R1 q
    · rw [if_pos rfl] at h1 ⊢; exact h1 O s1 _ _ R1 q)
theorem WT.cmp {l r : Expr} {op : CmpOp} {pos : Pos} {P : Bool → HL → Prop} (h : W X vs H l fun a H1 => W X vs H1 r fun b H2 => ∀ u w, VR a u → VR b w → T X vs H2 (compareOp op u w) fun c H3 => ∃ b, c = .bool b ∧ P b H3) (hm : behindInMarks op r = false := by rfl) : WT X vs H (.Compare l [op] [r] pos) P :=
  fun O s Q E R q => wpAny_isTrue_Compare1 (h O s _ _ R fun a u H1 s1 h1 va R1 => h1 O s1 _ _ R1 fun b w H2 s2 h2 vb R2 => h2 u w va vb O s2 _ _ R2 fun c x H3 s3 h3 vc R3 => by
    obtain ⟨b, rfl, hb⟩ := h3
    obtain rfl : x = .bool b := vc
    exact wpAny_truthy_bool (q _ _ _ hb R3)) hm
theorem WT.not {e : Expr} {pos : Pos} {P : Bool → HL → Prop} (h : WT X vs H e (NB P)) : WT X vs H (.UnaryOp .Not e pos) P :=
  fun O s Q E R q => isTrue_not (h O s _ _ R fun b H1 s1 h1 R1 => q _ _ _ h1 R1)
theorem WT.andNil {pos : Pos} {P : Bool → HL → Prop} (h : P true H) : WT X vs H (.BoolOp .And [] pos) P := fun O s Q E R q => isTrue_and_nil (q _ _ _ h R)
theorem WT.orNil {pos : Pos} {P : Bool → HL → Prop} (h : P false H) : WT X vs H (.BoolOp .Or [] pos) P := fun O s Q E R q => isTrue_or_nil (q _ _ _ h R)
theorem WT.retag {e : Expr} {whole : Sem Value} {Q : Bool → Shared → Prop} {E : Value → Shared → Prop} {A : Around} {M : Model} {env : Env} {op : BoolOp} {l : List Expr} {pos : Pos} (_ : e = .BoolOp op l pos)
    (h : wpAny M A (isTrue (.BoolOp op l pos) env (eval (.BoolOp op l pos) env)) Q E s) : wpAny M A (isTrue (.BoolOp op l pos) env whole) Q E s := h
theorem WT.and {x : Expr} {rest : List Expr} {pos : Pos} {P : Bool → HL → Prop} (h : WT X vs H x (AN X vs rest pos P)) : WT X vs H (.BoolOp .And (x :: rest) pos) P :=
  fun O s Q E R q => isTrue_and (h O s _ _ R fun c H1 s1 (h1 : if c = true then WT X vs H1 (.BoolOp .And rest pos) P else P false H1) R1 => by
    cases c
    · rw [if_neg (by decide)] at h1 ⊢; exact q _ _ _ h1 R1
    · rw [if_pos rfl] at h1 ⊢; exact WT.retag rfl (h1 O s1 _ _ R1 q))
theorem WT.or {x : Expr} {rest : List Expr} {pos : Pos} {P : Bool → HL → Prop} (h : WT X vs H x (ORR X vs rest pos P)) : WT X vs H (.BoolOp .Or (x :: rest) pos) P :=
  fun O s Q E R q => isTrue_or (h O s _ _ R fun c H1 s1 (h1 : if c = true then P true H1 else WT X vs H1 (.BoolOp .Or rest pos) P) R1 => by
    cases c
    · rw [if_neg (by decide)] at h1 ⊢; exact WT.retag rfl (h1 O s1 _ _ R1 q)
    · rw [if_pos rfl] at h1 ⊢; exact q _ _ _ h1 R1)
/-- a test that is a value -/
theorem WT.val {e : Expr} {P : Bool → HL → Prop} (h : W X vs H e (VL P)) (he : ∀ env whole, isTrue e env whole = (do let v ← whole; standAt e.pos; holding [v] (truthy v)) := by intro _ _; rfl) : WT X vs H e P :=
  fun O s Q E R q => isTrue_plain (h O s _ _ R fun v u H1 s1 h1 vu R1 => by
    obtain ⟨b, rfl, hb⟩ := h1
    obtain rfl : u = .bool b := vu
    exact wpAny_truthy_bool (q _ _ _ hb R1)) (he _ _)
theorem WA.nil {pos : Pos} {P : List V → HL → Prop} (h : P [] H) : WA X vs H pos [] P := fun _ s Q E R q => spliced_none (q [] [] _ _ h trivial R)
theorem WA.cons {pos : Pos} {e : Expr} {rest : List Expr} {P : List V → HL → Prop} (h : W X vs H e (AR X vs pos rest P)) (he : ∀ env, starEach (e :: rest) env = (false, eval e env) :: starEach rest env := by intro _; rfl) : WA X vs H pos (e :: rest) P :=
  fun O s Q E R q => spliced_more (h O s _ _ R fun v u H1 s1 h1 vu R1 => h1 O s1 _ _ R1 fun l us H2 s2 h2 vl R2 => q _ _ _ _ h2 ⟨vu, vl⟩ R2) (he _)
variable {P : Fl → List (Option V) → HL → Prop}
theorem B.nil (h : P .next vs H) : B X vs H [] P := fun O s Q E R q => wpAny_execs_nil (q _ _ _ _ _ h rfl R)
theorem B.cons {st : Stmt} {rest : List Stmt} (h : S X vs H st (BC X rest P)) : B X vs H (st :: rest) P :=
  fun O s Q E R q => wpAny_execs_cons (h O s _ _ R fun f g vs1 H1 s1 h1 fg R1 => by
    cases f with
    | next => obtain rfl : g = .next := fg; exact h1 O s1 _ _ R1 q
    | brk => obtain rfl : g = .brk := fg; exact q _ _ _ _ _ h1 rfl R1
    | cont => obtain rfl : g = .cont := fg; exact q _ _ _ _ _ h1 rfl R1
    | ret v => obtain ⟨u, rfl, vu⟩ := fg; exact q _ _ _ _ _ h1 ⟨u, rfl, vu⟩ R1)
theorem S.ret {e : Expr} {pos : Pos} (h : W X vs H e (RT vs P)) : S X vs H (.Return (some e) pos) P :=
  fun O s Q E R q => wpAny_Return_some (h O s _ _ R fun v u H1 s1 h1 vu R1 => q _ _ _ _ _ h1 ⟨u, rfl, vu⟩ R1)
theorem S.retNone {pos : Pos} (h : P (.ret .none) vs H) : S X vs H (.Return none pos) P :=
  fun O s Q E R q => wpAny_Return_none (q _ _ _ _ _ h ⟨_, rfl, rfl⟩ R)
theorem S.ite {t : Expr} {b o : List Stmt} {pos : Pos} (h : WT X vs H t (IT X vs b o P)) : S X vs H (.If t b o pos) P :=
  fun O s Q E R q => wpAny_If (h O s _ _ R fun c H1 s1 (h1 : if c = true then B X vs H1 b P else B X vs H1 o P) R1 => by
    cases c
    · rw [if_neg (by decide)] at h1 ⊢; exact h1 O s1 _ _ R1 q
    · rw [if_pos rfl] at h1 ⊢; exact h1 O s1 _ _ R1 q)
theorem S.expr {e : Expr} {pos : Pos} (h : W X vs H e (XP vs P)) (hs : ∀ env, swapsWith e none pos.line env = pure false := by intro _; rfl) : S X vs H (.Expr e pos) P :=
  fun O s Q E R q => wpAny_Expr_any (h O s _ _ R fun v u H1 s1 h1 vu R1 => q _ _ _ _ _ h1 rfl R1) (by
    unfold interactive
    rw [O.fn]; rfl) (hs _)
theorem LR.set {ns : List Str} {m : Str → Option Value} {i : Nat} {n : Str} {v : V} {u : Value} (l : LR ns vs m) (hd : ns.Nodup) (hn : ns[i]? = some n) (hv : VR v u) : LR ns (vs.set i (some v)) (fun y => if y = n then some u else m y) := by
  intro j x v' hx hv'
  by_cases hij : j = i
  · subst hij
    rw [hn] at hx
    cases hx
    refine ⟨u, if_pos rfl, ?_⟩
    rw [List.getElem?_set] at hv'
    simp only [if_true] at hv'
    split at hv'
    · cases hv'; exact hv
    · cases hv'
  · rw [List.getElem?_set_ne (Ne.symm hij)] at hv'
    obtain ⟨u', e, r⟩ := l j x v' hx hv'
    refine ⟨u', ?_, r⟩
    show (if x = n then some u else m x) = some u'
    rw [if_neg]
    · exact e
    · rintro rfl
      exact hij ((List.getElem?_inj (List.getElem?_eq_some_iff.mp hx).1 hd).mp (hx.trans hn.symm))
theorem store {n : Str} {v : V} {u : Value} {i : Nat} {Q : Unit → Shared → Prop} {E : Value → Shared → Prop} (O : X.Ok) (R : Rel X vs H s) (hn : X.ns[i]? = some n) (hv : VR v u) (q : ∀ s', Rel X (vs.set i (some v)) H s' → Q () s') : wpAny (Md X) X.A (storeName X.env n u) Q E s := by
  obtain ⟨m, news, δ, F, N, D, l, r⟩ := R.ex
  exact wpAny_storeName_local (Cx.kind_local O (List.mem_of_getElem? hn)) (by rw [O.locals]; exact F.ns) (fun h' hn' hs => by
    rw [O.locals] at hn' hs
    exact q _ ⟨⟨_, news, δ, F.set hn' hs, N.set hs, D, l.set O.nodup hn hv, r⟩, R.gens, R.os⟩) (by rw [O.fn]; rfl)
theorem S.assign {n : Str} {e : Expr} {pos pos' : Pos} (i : Nat) (hn : X.ns[i]? = some n) (h : W X vs H e (AS vs i P)) (hs : ∀ env, swapsWith e (some (.Name n pos')) pos.line env = pure false := by intro _; rfl) : S X vs H (.Assign [.Name n pos'] e pos) P :=
  fun O s Q E R q => wpAny_Assign_Name (h O s _ _ R fun v u H1 s1 h1 vu R1 => store O R1 hn vu fun s' R' => q _ _ _ _ _ h1 rfl R') (hs _)
end
end Mine
end
section
open PySem PySem.W PyProof.Rows PySem.Calls
set_option maxHeartbeats 1000000
namespace Mine
/-- what a def does when it is called with these arguments where H stands -/
def Fn (k : Nat) (f : Addr) (args : List V) (H : HL) (P : V → HL → Prop) : Prop :=
  ∀ (X : Cx) (vs : List (Option V)), X.Ok → k ≤ X.d → ∀ (s : Shared) (us : List Value) (R : Result → Shared → Prop), Rel X vs H s → VRs args us →
    (∀ v u H' s', P v H' → VR v u → Rel X vs H' s' → R (.ok (.ret u)) s') → codeAny (Md X) X.A (.call (.ref f) ⟨us, []⟩) R s
theorem Fn.mono {k k' : Nat} {f : Addr} {args : List V} {H : HL} {P P' : V → HL → Prop} (h : Fn k f args H P) (hk : k ≤ k') (hp : ∀ v H', P v H' → P' v H') : Fn k' f args H P' :=
  fun X vs O hd s us R r vr q => h X vs O (Nat.le_trans hk hd) s us R r vr fun v u H' s' p => q v u H' s' (hp v H' p)
theorem lookup_of_mem {α : Type} : ∀ {l : List (Str × α)} {a : Str} {b : α}, (l.map (·.1)).Nodup → (a, b) ∈ l → l.lookup a = some b
  | x :: l, a, b, hn, hm => by
    rw [List.map_cons, List.nodup_cons] at hn
    rw [List.lookup_cons]
    rcases List.mem_cons.mp hm with e | hm
    · subst e
      rw [show (a == a) = true from beq_self_eq_true a]
    · have ne : (a == x.1) = false := by
        rw [beq_eq_false_iff_ne]
        rintro rfl
        exact hn.1 (List.mem_map.mpr ⟨_, hm, rfl⟩)
      rw [ne]
      exact lookup_of_mem hn.2 hm
theorem VRs.length : ∀ {vs : List V} {us : List Value}, VRs vs us → vs.length = us.length
  | [], [], _ => rfl
  | _ :: _, _ :: _, h => congrArg (· + 1) (VRs.length h.2)
theorem VRs.get : ∀ {vs : List V} {us : List Value} {i : Nat} {v : V}, VRs vs us → vs[i]? = some v → ∃ u, us[i]? = some u ∧ VR v u
  | _ :: _, u :: _, 0, _, h, e => ⟨u, rfl, by rw [List.getElem?_cons_zero] at e; exact Option.some.inj e ▸ h.1⟩
  | _ :: _, _ :: _, _ + 1, _, h, e => by
    rw [List.getElem?_cons_succ] at e ⊢
    exact VRs.get h.2 e
/-- a def as the text has it -/
structure Def (w : World) (f : Addr) (qual : Str) (params : Arguments) (body : List Stmt) (scope : Scope) (cdv : Value) : Prop where
  ob : ∃ oc od osl name pm, (K w.params).lookup f = some ⟨oc, od, .func (fnOf name qual params body scope .none .none .none pm none cdv .none), osl⟩
  code : codeIn (K w.params) cdv qual = true
  co : scope.isCoroutine = false
  gen : scope.isGenerator = false
  fn : scope.kind = .function
def startVs (args : List V) (n : Nat) : List (Option V) := args.map some ++ List.replicate (n - args.length) none
theorem startLR {ps ns : List Str} {args : List V} {us : List Value} (hn : ns.Nodup) (hp : ps = ns.take ps.length) (hl : args.length = ps.length) (vr : VRs args us) : LR ns (startVs args ns.length) (fun y => ((ps.zip us).reverse).lookup y) := by
  intro i n v hi hv
  unfold startVs at hv
  have hlt : i < args.length := by
    rcases Nat.lt_or_ge i args.length with h | h
    · exact h
    · rw [List.getElem?_append_right (by rw [List.length_map]; exact h)] at hv
      have := List.mem_of_getElem? hv
      rw [List.mem_replicate] at this
      cases this.2
  rw [List.getElem?_append_left (by rw [List.length_map]; exact hlt), List.getElem?_map] at hv
  cases e : args[i]? with
  | none => rw [e] at hv; cases hv
  | some v' =>
    rw [e] at hv
    cases hv
    obtain ⟨u, hu, r⟩ := vr.get e
    refine ⟨u, ?_, r⟩
    have hpi : ps[i]? = some n := by
      rw [hp, List.getElem?_take, if_pos (by omega)]
      exact hi
    have hz : (n, u) ∈ ps.zip us := List.mem_of_getElem? (i := i) (by rw [List.getElem?_zip_eq_some]; exact ⟨hpi, hu⟩)
    refine lookup_of_mem ?_ (List.mem_reverse.mpr hz)
    rw [List.map_reverse, (List.reverse_perm _).nodup_iff]
    have : (ps.zip us).map (·.1) = ps := List.map_fst_zip (by rw [← hl, vr.length]; exact Nat.le_refl _)
    show ((ps.zip us).map (·.1)).Nodup
    rw [this, hp]
    exact List.Nodup.sublist (List.take_sublist _ _) hn
theorem HR.mono {w : World} {δ : Addr → Addr} {H : HL} {news : List (Addr × Obj)} (r : HR w δ H news) : HR w δ H news := r
def locOk (scope : Scope) (ns gs : List Str) : Bool := ns.all (fun n => scope.names.lookup n == some .local && !(n == ("__debug__" : Str))) && gs.all (fun n => scope.names.lookup n == some .globalImplicit && !(n == ("__debug__" : Str))) && decide ns.Nodup && scope.names.all (fun x => x.2 != .cell)
abbrev FB (P : V → HL → Prop) : Fl → List (Option V) → HL → Prop := fun fl _ H' => match fl with | .ret v => P v H' | .next => P .none H' | _ => False
theorem Fn.body {k : Nat} {f : Addr} {qual : Str} {params : Arguments} {body : List Stmt} {scope : Scope} {cdv : Value} {ps ns gs : List Str} {args : List V} {H : HL} {P : V → HL → Prop} (C : World → Heap → Addr → Around → Nat → OsState → Cx)
    (hC : ∀ w h₀ L A d os, C w h₀ L A d os = { w := w, h₀ := h₀, L := L, A := A, d := d, os := os, env := envOf qual scope L f cdv, ns := ns, gs := gs }) (D : ∀ w, Def w f qual params body scope cdv)
    (hbind : ∀ s name pm us, us.length = args.length → BindsTo s (fnOf name qual params body scope .none .none .none pm none cdv .none) ⟨us, []⟩ (ps.zip us)) (ok : locOk scope ns gs = true) (hp : ps = ns.take ps.length) (hl : args.length = ps.length)
    (h : ∀ w h₀ L A os, B (C w h₀ L A k os) (startVs args ns.length) H body (FB P)) : Fn (k + 1) f args H P := by
  intro X vs O hd s us R r vr q
  simp only [locOk, Bool.and_eq_true, List.all_eq_true, beq_iff_eq, Bool.not_eq_true', decide_eq_true_eq, bne_iff_ne] at ok
  obtain ⟨⟨⟨hloc, hglob⟩, hn⟩, hcell⟩ := ok
  obtain ⟨m, news, δ, F, N, ND, l, hr⟩ := r.ex
  obtain ⟨oc, od, osl, name, pm, ho⟩ := (D X.w).ob
  have Ks := O.good.K.keeps F.keep
  obtain ⟨mg, mb, TR⟩ := O.good.top
  refine codeAny_call_def (fd := fnOf name qual params body scope .none .none .none pm none cdv .none) (body := body) (binds := ps.zip us) (Nat.lt_of_le_of_lt (Nat.le_add_right _ _) O.depth) (Ks _ _ ho) rfl (TR.nolimit.keeps F.keep) (codeRec_of Ks (D X.w).code) rfl (hbind _ _ _ _ (vr.length.symm)) hcell
    (fun x hx => ?_) (fun h₁ hns hk₁ => ?_) (D X.w).co (D X.w).gen (D X.w).fn
  · have : x.1 ∈ ps := (List.of_mem_zip hx).1
    rw [hp] at this
    exact (hloc _ (List.mem_of_mem_take this)).1
  have nm : ∀ b o, X.h₀.get? b = some o → b ∉ news.map (·.1) := fun b o e q => by
    obtain ⟨p, hp, rfl⟩ := List.mem_map.mp q
    rw [(N p hp).2.2] at e; cases e
  have st : ∀ b o, X.h₀.get? b = some o → (hideAll s.heap (news.map (·.1))).get? b = some o := fun b o e => hideAll_get _ (F.keep b o e) (nm b o e)
  obtain ⟨oL, es, ep, hL, hLd, hLk, hLf⟩ := F.ns
  have nL : X.L ∉ news.map (·.1) := fun q => by
    obtain ⟨p, hp, e⟩ := List.mem_map.mp q
    exact (N p hp).2.1 e
  have hLg := hideAll_get (news.map (·.1)) hL nL
  let X' : Cx := { w := X.w, h₀ := hideAll s.heap (news.map (·.1)), L := s.heap.objs.size, A := X.A.deeper (callEnv (fnOf name qual params body scope .none .none .none pm none cdv .none) s.heap.objs.size f), d := k, os := s.os, env := envOf qual scope s.heap.objs.size f cdv, ns := ns, gs := gs }
  have O' : X'.Ok := ⟨O.good.keeps st, O.handled, by
      show (X.A.deeper _).depth + k < recursionLimit
      rw [depth_deeper]; have := O.depth; omega, by
      show (X.A.deeper _).units + 8 * k + 80 < cLine
      rw [units_deeper]; have := O.units; omega, (D X.w).fn, rfl, rfl, rfl, hloc, hglob, hn⟩
  have R' : Rel X' (startVs args ns.length) H { s with heap := h₁, toks := s.toks + (ps.zip us).length } := by
    refine ⟨⟨_, news, δ, ⟨hns, fun b o e => hk₁ b o (of_hideAll _ e), Nat.le_of_eq (hideAll_size _ _)⟩, fun p hp => ⟨hk₁ _ _ (N p hp).1, Nat.ne_of_lt (Heap.lt_size (N p hp).1), hideAll_none _ (List.mem_map_of_mem hp)⟩, ND, startLR hn hp hl vr, hr⟩, r.gens, rfl⟩
  have hB := h X.w (hideAll s.heap (news.map (·.1))) s.heap.objs.size (X.A.deeper (callEnv (fnOf name qual params body scope .none .none .none pm none cdv .none) s.heap.objs.size f)) s.os
  rw [hC] at hB
  refine hB O' _ _ _ R' fun fl g vs' H' s' hP hf R'' => ?_
  obtain ⟨m', news', δ', F', N', ND', l', hr'⟩ := R''.ex
  have back : Rel X vs H' s' := by
    refine ⟨⟨m, news', δ', ⟨⟨oL, es, ep, F'.keep X.L oL hLg, hLd, hLk, hLf⟩, fun b o e => F'.keep b o (st b o e), F.above⟩, fun p hp => ⟨(N' p hp).1, fun q => ?_, ?_⟩, ND', l, hr'⟩, R''.gens, R''.os.trans r.os⟩
    · have := (N' p hp).2.2; rw [q] at this; rw [show X'.h₀.get? X.L = some oL from hLg] at this; cases this
    · cases q : X.h₀.get? p.1 with
      | none => rfl
      | some o => have := (N' p hp).2.2; rw [show X'.h₀.get? p.1 = some o from st _ _ q] at this; cases this
  cases fl with
  | next => obtain rfl : g = .next := hf; exact q _ _ _ _ hP rfl back
  | ret v => obtain ⟨u, rfl, vu⟩ := hf; exact q _ _ _ _ hP vu back
  | brk => exact hP.elim
  | cont => exact hP.elim
end Mine
end
section
open PySem PySem.W PyProof.Rows PySem.Calls
set_option maxHeartbeats 1000000
namespace Mine
def getF (n : Str) : List (Str × V) → Option V
  | [] => none
  | f :: r => if f.1 == n then some f.2 else getF n r
def putF (n : Str) (v : V) : List (Str × V) → List (Str × V)
  | [] => [(n, v)]
  | f :: r => if f.1 == n then (f.1, v) :: r else f :: putF n v r
theorem FR.nil {w : World} {es : List DictEntry} (h : FR w [] es) : es = [] := by cases es with | nil => rfl | cons _ _ => exact False.elim h
theorem FR.cons {w : World} {f : Str × V} {fs : List (Str × V)} {es : List DictEntry} (h : FR w (f :: fs) es) : ∃ t u r, es = ⟨PyData.keyHash w.params f.1, .str f.1 t, u⟩ :: r ∧ VR f.2 u ∧ FR w fs r := by
  cases es with
  | nil => exact False.elim h
  | cons e r => obtain ⟨⟨t, u, e, v⟩, h⟩ := h; exact ⟨t, u, r, by rw [e], v, h⟩
theorem FR.length {w : World} {fs : List (Str × V)} : ∀ {es : List DictEntry}, FR w fs es → fs.length = es.length := by
  induction fs with
  | nil => intro es h; rw [h.nil]; rfl
  | cons f fs ih => intro es h; obtain ⟨t, u, r, e, _, h⟩ := h.cons; rw [e, List.length_cons, List.length_cons, ih h]
theorem FR.noRef {w : World} {fs : List (Str × V)} : ∀ {es : List DictEntry}, FR w fs es → es.any (·.refKey) = false := by
  induction fs with
  | nil => intro es h; rw [h.nil]; rfl
  | cons f fs ih => intro es h; obtain ⟨t, u, r, e, _, h⟩ := h.cons; rw [e, List.any_cons, ih h]; rfl
theorem getL_cons (n s : Str) (t : Tok) (u : Value) (h : Int) (es : List DictEntry) : getL n (⟨h, .str s t, u⟩ :: es) = if (s == n) = true then some (some u) else getL n es := by
  unfold getL
  rw [List.find?_cons, List.any_cons]
  show (match (match (s == n) with | true => some (DictEntry.mk h (.str s t) u) | false => es.find? (·.key.isStr n)) with | some e => some (some (DictEntry.val e)) | none => if (false || es.any (·.refKey)) = true then none else some none) = _
  cases (s == n) <;> rfl
theorem FR.get {w : World} {n : Str} {v : V} {fs : List (Str × V)} : ∀ {es : List DictEntry}, FR w fs es → getF n fs = some v → ∃ u, getL n es = some (some u) ∧ VR v u := by
  induction fs with
  | nil => intro es h g; cases g
  | cons f fs ih =>
    intro es h g
    obtain ⟨t, u, es, rfl, r, h⟩ := h.cons
    unfold getF at g
    rw [getL_cons]
    cases q : f.1 == n with
    | true => rw [q] at g; cases g; exact ⟨u, rfl, r⟩
    | false => rw [q] at g; exact ih h g
theorem FR.getNone {w : World} {n : Str} {fs : List (Str × V)} : ∀ {es : List DictEntry}, FR w fs es → getF n fs = none → getL n es = some none := by
  induction fs with
  | nil => intro es h g; rw [h.nil]; rfl
  | cons f fs ih =>
    intro es h g
    obtain ⟨t, u, es, rfl, r, h⟩ := h.cons
    unfold getF at g
    rw [getL_cons]
    cases q : f.1 == n with
    | true => rw [q] at g; cases g
    | false => rw [q] at g; exact ih h g
theorem FR.put {w : World} {n : Str} {v : V} {u : Value} {t : Tok} (hv : VR v u) {fs : List (Str × V)} : ∀ {es : List DictEntry}, FR w fs es → FR w (putF n v fs) (putL n (PyData.keyHash w.params n) (.str n t) u es) := by
  induction fs with
  | nil => intro es h; rw [h.nil]; exact ⟨⟨t, u, rfl, hv⟩, trivial⟩
  | cons f fs ih =>
    intro es h
    obtain ⟨t', u', es, rfl, r, h⟩ := h.cons
    unfold putF putL
    show FR w _ (if (f.1 == n) = true then _ else _)
    cases q : f.1 == n with
    | true => exact ⟨⟨t', u, rfl, hv⟩, h⟩
    | false => exact ⟨⟨t', u', rfl, r⟩, ih h⟩
theorem putF_length {n : Str} {v : V} : ∀ fs : List (Str × V), (putF n v fs).length ≤ fs.length + 1
  | [] => Nat.le_refl _
  | f :: r => by
    unfold putF
    split
    · exact Nat.le_succ _
    · exact Nat.succ_le_succ (putF_length r)
structure IsField (w : World) (C : Addr) (n : Str) : Prop where
  plain : plainGet (K w.params) C n = true
  hasDict : hasDictIn (K w.params) C = true
  none : findIn (K w.params) (.ref C) n = some none
structure IsStore (w : World) (C : Addr) (n : Str) : Prop where
  set : findIn (K w.params) (.ref C) "__setattr__" = some (some (.builtin "object.__setattr__"))
  over : plainOver (K w.params) C = true
  taker : takerIn (K w.params) C n = some none
  hasDict : hasDictIn (K w.params) C = true
structure IsMeth (w : World) (C : Addr) (n : Str) (f : Addr) : Prop where
  plain : plainGet (K w.params) C n = true
  find : findIn (K w.params) (.ref C) n = some (some (.ref f))
  fn : isFn (K w.params) (.ref f) = true
  keep : keepIn (K w.params) (.ref f) = true
section
variable {X : Cx} {vs : List (Option V)} {H : HL} {s : Shared} {P : V → HL → Prop}
theorem upd_of_mem {news : List (Addr × Obj)} {d : Addr} {o : Obj} (o' : Obj) (hn : (news.map (·.1)).Nodup) (hm : (d, o) ∈ news) : ∃ pre post, news = pre ++ (d, o) :: post ∧ Upd d o o' news (pre ++ (d, o') :: post) ∧ (∀ p ∈ pre, p.1 ≠ d) ∧ ∀ p ∈ post, p.1 ≠ d := by
  obtain ⟨pre, post, rfl⟩ := List.append_of_mem hm
  rw [List.map_append, List.map_cons, List.nodup_append] at hn
  obtain ⟨h1, h2, h3⟩ := hn
  have a : ∀ p ∈ pre, p.1 ≠ d := fun p hp => h3 p.1 (List.mem_map_of_mem hp) d (.head _)
  have b : ∀ p ∈ post, p.1 ≠ d := fun p hp e => (List.nodup_cons.mp h2).1 (List.mem_map.mpr ⟨p, hp, e⟩)
  refine ⟨pre, post, rfl, ?_, a, b⟩
  clear h1 h2 h3 hm
  induction pre with
  | nil => exact .head b
  | cons p r ih => exact .tail (a p (.head _)) (ih fun q hq => a q (.tail _ hq))
theorem mem_upd {pre post : List (Addr × Obj)} {d b : Addr} {o o' ob : Obj} (hm : (b, ob) ∈ pre ++ (d, o) :: post) (hne : b ≠ d) : (b, ob) ∈ pre ++ (d, o') :: post := by
  rcases List.mem_append.mp hm with h | h
  · exact List.mem_append.mpr (.inl h)
  · rcases List.mem_cons.mp h with h | h
    · cases h; exact absurd rfl hne
    · exact List.mem_append.mpr (.inr (.tail _ h))
/-- the cells of one object are turned, all others stand -/
theorem OR.turned {w : World} {δ : Addr → Addr} {pre post : List (Addr × Obj)} {d b : Addr} {o o' : Obj} {ob : O} (h : OR w δ (pre ++ (d, o) :: post) b ob) (h1 : b ≠ d) (h2 : ∀ C fs, ob = .inst C fs → δ b ≠ d) : OR w δ (pre ++ (d, o') :: post) b ob := by
  cases ob with
  | list vs => obtain ⟨its, n, m, r⟩ := h; exact ⟨its, n, mem_upd m h1, r⟩
  | flist vs => obtain ⟨its, n, m, r⟩ := h; exact ⟨its, n, mem_upd m h1, r⟩
  | tup vs => obtain ⟨its, n, m, r⟩ := h; exact ⟨its, n, mem_upd m h1, r⟩
  | dict kv => obtain ⟨x, kvs, m, r⟩ := h; exact ⟨x, kvs, mem_upd m h1, r⟩
  | inst C fs => obtain ⟨es, n, sl, m1, m2, r⟩ := h; exact ⟨es, n, sl, mem_upd m1 h1, mem_upd m2 (h2 C fs rfl), r⟩
  | raw ob => exact mem_upd (show _ ∈ _ from h) h1
  | cell v => cases v with
    | none => obtain ⟨x, m, r⟩ := h; exact ⟨x, mem_upd m h1, r⟩
    | some v => obtain ⟨u, x, m, r⟩ := h; exact ⟨u, x, mem_upd m h1, r⟩
theorem OR.more {w : World} {δ : Addr → Addr} {news news' : List (Addr × Obj)} {b : Addr} {ob : O} (h : OR w δ news b ob) (hs : ∀ p ∈ news, p ∈ news') : OR w δ news' b ob := by
  cases ob with
  | list vs => obtain ⟨its, n, m, r⟩ := h; exact ⟨its, n, hs _ m, r⟩
  | flist vs => obtain ⟨its, n, m, r⟩ := h; exact ⟨its, n, hs _ m, r⟩
  | tup vs => obtain ⟨its, n, m, r⟩ := h; exact ⟨its, n, hs _ m, r⟩
  | dict kv => obtain ⟨x, kvs, m, r⟩ := h; exact ⟨x, kvs, hs _ m, r⟩
  | inst C fs => obtain ⟨es, n, sl, m1, m2, r⟩ := h; exact ⟨es, n, sl, hs _ m1, hs _ m2, r⟩
  | raw ob => exact hs _ h
  | cell v => cases v with
    | none => obtain ⟨x, m, r⟩ := h; exact ⟨x, hs _ m, r⟩
    | some v => obtain ⟨u, x, m, r⟩ := h; exact ⟨u, x, hs _ m, r⟩
theorem OR.at_ {w : World} {δ : Addr → Addr} {news : List (Addr × Obj)} {b : Addr} {ob : O} (h : OR w δ news b ob) : ∃ o, (b, o) ∈ news := by
  cases ob with
  | list vs => obtain ⟨its, n, m, r⟩ := h; exact ⟨_, m⟩
  | flist vs => obtain ⟨its, n, m, r⟩ := h; exact ⟨_, m⟩
  | tup vs => obtain ⟨its, n, m, r⟩ := h; exact ⟨_, m⟩
  | dict kv => obtain ⟨x, kvs, m, r⟩ := h; exact ⟨_, m⟩
  | inst C fs => obtain ⟨es, n, sl, m1, m2, r⟩ := h; exact ⟨_, m1⟩
  | raw ob => exact ⟨_, h⟩
  | cell v => cases v with
    | none => obtain ⟨x, m, r⟩ := h; exact ⟨_, m⟩
    | some v => obtain ⟨u, x, m, r⟩ := h; exact ⟨_, m⟩
theorem nodup_upd {pre post : List (Addr × Obj)} {d : Addr} {o o' : Obj} (h : ((pre ++ (d, o) :: post).map (·.1)).Nodup) : ((pre ++ (d, o') :: post).map (·.1)).Nodup := by
  rw [List.map_append, List.map_cons] at h ⊢; exact h
/-- an object's own cell is turned -/
theorem HR.turn {w : World} {δ : Addr → Addr} {pre post : List (Addr × Obj)} {a : Addr} {o o' : Obj} {ob : O} (r : HR w δ H (pre ++ (a, o) :: post)) (ha : ∃ x, H a = some x) (h : OR w δ (pre ++ (a, o') :: post) a ob)
    (hi : ∀ C fs, ob = .inst C fs → ∃ C' fs', H a = some (.inst C' fs')) : HR w δ (H.set a ob) (pre ++ (a, o') :: post) := by
  obtain ⟨x, hx⟩ := ha
  have nd : ∀ b C fs, H b = some (.inst C fs) → δ b ≠ a := fun b C fs hb e => by have := r.off b C fs hb; rw [e, hx] at this; cases this
  refine ⟨fun b y hb => ?_, fun b c C D fs gs hb hc e => ?_, fun b C fs hb => ?_⟩
  · by_cases e : b = a
    · subst e; rw [HL.set_self] at hb; cases hb; exact h
    · rw [HL.set_ne e] at hb
      exact (r.at_ b y hb).turned e fun C fs q => nd b C fs (q ▸ hb)
  · have ib : ∃ C fs, H b = some (.inst C fs) := by
      by_cases eb : b = a
      · subst eb; rw [HL.set_self] at hb; exact hi C fs (Option.some.inj hb)
      · rw [HL.set_ne eb] at hb; exact ⟨_, _, hb⟩
    have ic : ∃ C fs, H c = some (.inst C fs) := by
      by_cases ec : c = a
      · subst ec; rw [HL.set_self] at hc; exact hi D gs (Option.some.inj hc)
      · rw [HL.set_ne ec] at hc; exact ⟨_, _, hc⟩
    obtain ⟨_, _, ib⟩ := ib
    obtain ⟨_, _, ic⟩ := ic
    exact r.inj _ _ _ _ _ _ ib ic e
  · have ib : ∃ C fs, H b = some (.inst C fs) := by
      by_cases eb : b = a
      · subst eb; rw [HL.set_self] at hb; exact hi C fs (Option.some.inj hb)
      · rw [HL.set_ne eb] at hb; exact ⟨_, _, hb⟩
    obtain ⟨_, _, ib⟩ := ib
    rw [HL.set_ne (nd b _ _ ib)]
    exact r.off _ _ _ ib
/-- an object's dict is turned -/
theorem HR.turnD {w : World} {δ : Addr → Addr} {pre post : List (Addr × Obj)} {a C : Addr} {fs fs' : List (Str × V)} {o o' : Obj} (r : HR w δ H (pre ++ (δ a, o) :: post)) (ha : H a = some (.inst C fs)) (h : OR w δ (pre ++ (δ a, o') :: post) a (.inst C fs')) :
    HR w δ (H.set a (.inst C fs')) (pre ++ (δ a, o') :: post) := by
  have ib : ∀ b D gs, (H.set a (.inst C fs')) b = some (.inst D gs) → ∃ D gs, H b = some (.inst D gs) := fun b D gs hb => by
    by_cases eb : b = a
    · subst eb; exact ⟨_, _, ha⟩
    · rw [HL.set_ne eb] at hb; exact ⟨_, _, hb⟩
  refine ⟨fun b y hb => ?_, fun b c C D fs gs hb hc e => ?_, fun b C fs hb => ?_⟩
  · by_cases e : b = a
    · subst e; rw [HL.set_self] at hb; cases hb; exact h
    · rw [HL.set_ne e] at hb
      refine (r.at_ b y hb).turned (fun q => ?_) fun C fs q p => e (r.inj _ _ _ _ _ _ (q ▸ hb) ha p)
      have := r.off a _ _ ha
      rw [← q, hb] at this; cases this
  · obtain ⟨_, _, i1⟩ := ib _ _ _ hb
    obtain ⟨_, _, i2⟩ := ib _ _ _ hc
    exact r.inj _ _ _ _ _ _ i1 i2 e
  · obtain ⟨_, _, i1⟩ := ib _ _ _ hb
    rw [HL.set_ne]
    · exact r.off _ _ _ i1
    · intro q
      have := r.off _ _ _ i1
      rw [q, ha] at this; cases this
theorem T.attr {a C : Addr} {fs : List (Str × V)} {n : Str} {v : V} {expr : Bool} (ha : H a = some (.inst C fs)) (hf : IsField X.w C n) (hv : getF n fs = some v) (h : P v H) : T X vs H (getAttr (.ref a) n expr) P := fun O s Q E R q => by
  obtain ⟨m, news, δ, F, N, D, l, r⟩ := R.ex
  obtain ⟨es, k, sl, m1, m2, fr⟩ := r.at_ a _ ha
  obtain ⟨u, hu, vu⟩ := fr.get hv
  exact get_own F O.good.K (InstAt.of_news N m1 m2) hf.plain hf.hasDict hf.none rfl hu (by cases v <;> (first | (obtain rfl := vu; rfl) | (obtain ⟨_, rfl⟩ := vu; rfl))) (q _ _ _ _ h vu (R.toks _))
theorem setAttr_ {a C : Addr} {fs : List (Str × V)} {n : Str} {v : V} {u : Value} {Q : Unit → Shared → Prop} {E : Value → Shared → Prop} (O : X.Ok) (R : Rel X vs H s) (ha : H a = some (.inst C fs)) (hf : IsStore X.w C n) (hl : fs.length ≤ 100) (hv : VR v u)
    (q : ∀ s', Rel X vs (H.set a (.inst C (putF n v fs))) s' → Q () s') : wpAny (Md X) X.A (setAttr (.ref a) n u) Q E s := by
  obtain ⟨m, news, δ, F, N, D, l, r⟩ := R.ex
  obtain ⟨es, k, sl, m1, m2, fr⟩ := r.at_ a _ ha
  obtain ⟨pre, post, rfl, U, p1, p2⟩ := upd_of_mem (dictOf (putL n (PyData.keyHash X.w.params n) (.str n (s.toks + 1)) u es) (putN n es k)) D m2
  have fr' := FR.put (n := n) (t := s.toks + 1) hv fr
  refine set_dict F O.good.K N (InstAt.of_news N m1 m2) rfl hf.set hf.over hf.taker hf.hasDict (by
      cases g : getF n fs with
      | some v => obtain ⟨u, hu, _⟩ := fr.get g; rw [hu]; rfl
      | none => rw [fr.getNone g]; rfl) rfl U (by rw [← fr'.length]; exact Nat.le_trans (putF_length fs) (by omega)) fun h' F' N' => q _ ⟨⟨m, _, δ, F', N', nodup_upd D, l, ?_⟩, R.gens, R.os⟩
  exact r.turnD ha ⟨_, putN n es k, sl, mem_upd m1 (fun e => by have := r.off a _ _ ha; rw [← e, ha] at this; cases this), List.mem_append.mpr (.inr (.head _)), fr'⟩
inductive AT (X : Cx) (n : Str) (P : V → HL → Prop) (v : V) (H1 : HL) : Prop
  | mk (a C : Addr) (fs : List (Str × V)) (u : V) (e : v = .ref a) (ha : H1 a = some (.inst C fs)) (hf : IsField X.w C n) (hg : getF n fs = some u) (h : P u H1)
inductive SAT (X : Cx) (vs : List (Option V)) (n : Str) (v : V) (P : Fl → List (Option V) → HL → Prop) (w : V) (H2 : HL) : Prop
  | mk (a C : Addr) (fs : List (Str × V)) (e : w = .ref a) (ha : H2 a = some (.inst C fs)) (hf : IsStore X.w C n) (hl : fs.length ≤ 100) (h : P .next vs (H2.set a (.inst C (putF n v fs))))
abbrev SA1 (X : Cx) (vs : List (Option V)) (n : Str) (o : Expr) (P : Fl → List (Option V) → HL → Prop) : V → HL → Prop := fun v H1 => W X vs H1 o (SAT X vs n v P)
theorem W.attr {e : Expr} {n : Str} {pos : Pos} (h : W X vs H e (AT X n P))
    (he : ∀ env, eval (e.Attribute n pos) env = (do let o ← eval e env; standAt pos.atName; let r ← holding [o] (getAttr o n true); letTemporaryGo e o r; pure r) := by intro _; rfl) : W X vs H (e.Attribute n pos) P := fun O s Q E R q =>
  Attribute_any_ (h O s _ _ R fun v u H1 s1 h1 vu R1 => by
    obtain ⟨a, C, fs, x, rfl, ha, hf, hx, hp⟩ := h1
    obtain rfl : u = .ref a := vu
    exact T.attr ha hf hx hp O s1 _ _ R1 q) (he _)
theorem S.setAttr {o e : Expr} {n : Str} {pos pos' : Pos} {P : Fl → List (Option V) → HL → Prop} (h : W X vs H e (SA1 X vs n o P))
    (hs : ∀ env, swapsWith e (some (o.Attribute n pos')) pos.line env = pure false := by intro _; rfl) : S X vs H (.Assign [o.Attribute n pos'] e pos) P := fun O s Q E R q =>
  plainObj_wpAny_Assign_Attribute (h O s _ _ R fun v u H1 s1 h1 vu R1 => h1 O s1 _ _ R1 fun w x H2 s2 h2 wx R2 => by
    obtain ⟨a, C, fs, rfl, ha, hf, hl, hp⟩ := h2
    obtain rfl : x = .ref a := wx
    exact setAttr_ O R2 ha hf hl vu fun s' R' => q _ _ _ _ _ hp rfl R') (hs _)
/-- a call's own part: the callee is there, its arguments are read -/
theorem callFn {k : Nat} {f : Addr} {args : List V} {us : List Value} {Q E : Value → Shared → Prop} (O : X.Ok) (R : Rel X vs H s) (hk : k ≤ X.d) (vr : VRs args us) (h : Fn k f args H P) (q : ∀ v u H' s', P v H' → VR v u → Rel X vs H' s' → Q u s') : wpAny (Md X) X.A (call (.ref f) us) Q E s :=
  wpAny_call (h X vs O hk s us _ R vr fun v u H' s' p vu R' => q v u H' s' p vu R')
theorem callArgs {f : Addr} {pos : Pos} {first : List Value} {args : List Expr} {Q E : Value → Shared → Prop} (O : X.Ok) (R : Rel X vs H s) (hk : keepIn (K X.w.params) (.ref f) = true) (hp : ∀ env, (backTo pos (starEach args env)).any (·.1) = false ∧ ∀ e r, args = e :: r → starEach (e :: r) env = (false, eval e env) :: starEach r env ∧ (backTo pos (starEach r env)).any (·.1) = false)
    (h : WA X vs H pos args fun l H1 => ∀ us s1, VRs l us → Rel X vs H1 s1 → wpAny (Md X) X.A (call (.ref f) (first ++ us)) Q E s1) : wpAny (Md X) X.A (callWith pos (.ref f) first (backTo pos (starEach args X.env)) []) Q E s := by
  have Kin : ∀ {s1 : Shared} {H1 : HL}, Rel X vs H1 s1 → (K X.w.params).In s1.heap := fun R1 => by
    obtain ⟨m, news, δ, F, N, D, l, r⟩ := R1.ex
    exact O.good.K.keeps F.keep
  cases args with
  | nil => exact callWith_K0 (Kin R) hk (h O s (fun us s1 => wpAny (Md X) X.A (call (.ref f) (first ++ us)) Q E s1) E R (fun l us H1 s1 hl vr R1 => hl us s1 vr R1) |> fun z => by
      have := h O s (fun us s1 => us = [] → wpAny (Md X) X.A (call (.ref f) (first ++ us)) Q E s1) E R (fun l us H1 s1 hl vr R1 _ => hl us s1 vr R1)
      exact (fun Γ p hΓ => by
        have := this Γ p hΓ
        exact this rfl Γ p hΓ))
  | cons e rest =>
    obtain ⟨h1, h2⟩ := (hp X.env).2 e rest rfl
    exact callWith_K (h₀ := X.h₀) O.good.K hk (h O s _ _ R fun l us H1 s1 hl vr R1 => ⟨Kin R1, hl us s1 vr R1⟩) h1 h2
end
end Mine
end
section
open PySem PySem.W PyProof.Rows PySem.Calls
set_option maxHeartbeats 1000000
namespace Mine
section
variable {X : Cx} {vs : List (Option V)} {H : HL} {s : Shared} {P : V → HL → Prop}
structure GFn (w : World) (n : Str) (f : Addr) : Prop where
  ns : nsIn (K w.params) mainGlobals n = some (some (.ref f))
  keep : keepIn (K w.params) (.ref f) = true
def plainArgs (pos : Pos) (args : List Expr) : Prop := ∀ env, (backTo pos (starEach args env)).any (·.1) = false ∧ ∀ e r, args = e :: r → starEach (e :: r) env = (false, eval e env) :: starEach r env ∧ (backTo pos (starEach r env)).any (·.1) = false
/-- a method of an own class -/
abbrev FnA (k : Nat) (f a : Addr) (P : V → HL → Prop) : List V → HL → Prop := fun l H2 => Fn k f (.ref a :: l) H2 P
abbrev FnL (k : Nat) (f : Addr) (P : V → HL → Prop) : List V → HL → Prop := fun l H2 => Fn k f l H2 P
inductive MC (X : Cx) (vs : List (Option V)) (n : Str) (pos : Pos) (args : List Expr) (P : V → HL → Prop) (v : V) (H1 : HL) : Prop
  | mk (a C : Addr) (fs : List (Str × V)) (f : Addr) (k : Nat) (e : v = .ref a) (ha : H1 a = some (.inst C fs)) (hm : IsMeth X.w C n f) (hg : getF n fs = Option.none) (hk : k ≤ X.d) (h : WA X vs H1 pos args (FnA k f a P))
theorem W.mcall {o : Expr} {n : Str} {apos pos : Pos} {args : List Expr} (h : W X vs H o (MC X vs n pos args P))
    {pl : Env → Sem Bool} (he : ∀ env, eval ((o.Attribute n apos).Call args [] pos) env = (do let ov ← eval o env; standAt apos.atName; let __x ← holding [ov] (getMethod ov n (pl env)); match __x with | (f, first) => callWith pos f first (backTo pos (starEach args env)) []) := by intro _; with_unfolding_all rfl)
    (hp : plainArgs pos args := by (intro _; refine ⟨by rfl, fun _ _ h => ?_⟩; first | (cases h; done) | (cases h; exact ⟨rfl, rfl⟩))) : W X vs H ((o.Attribute n apos).Call args [] pos) P := fun O s Q E R q =>
  MethodCall_ (pl := pl X.env) (h O s _ _ R fun v u H1 s1 h1 vu R1 => by
    obtain ⟨a, C, fs, f, k, rfl, ha, hm, hn, hk, hA⟩ := h1
    obtain rfl : u = .ref a := vu
    obtain ⟨m, news, δ, F, N, D, l, r⟩ := R1.ex
    obtain ⟨es, kk, sl, m1, m2, fr⟩ := r.at_ a _ ha
    exact method_inst F O.good.K (InstAt.of_news N m1 m2) hm.plain hm.find hm.fn (fr.getNone hn) (callArgs O R1 hm.keep hp fun O' s2 Q2 E2 R2 q2 => hA O' s2 Q2 E2 R2 fun l us H2 s3 hF vr R3 => q2 l us H2 s3 (fun us' s4 vr' R4 => callFn O R4 hk (show VRs (.ref a :: l) (.ref a :: us') from ⟨rfl, vr'⟩) hF q) vr R3)) (he _)
/-- a def of the top -/
theorem W.call {n : Str} {npos pos : Pos} {args : List Expr} {f : Addr} {k : Nat} (i : Nat) (hi : X.gs[i]? = some n) (hn : GFn X.w n f) (hk : k ≤ X.d)
    (h : WA X vs H pos args (FnL k f P)) (hp : plainArgs pos args := by (intro _; refine ⟨by rfl, fun _ _ h => ?_⟩; first | (cases h; done) | (cases h; exact ⟨rfl, rfl⟩))) : W X vs H ((Expr.Name n npos).Call args [] pos) P := fun O s Q E R q => by
  refine Call_ ?_
  refine W.glob (v := .ref f) (P := fun v H1 => v = .ref f ∧ H1 = H) i hi hn.ns rfl ⟨rfl, rfl⟩ O s _ E R fun v u H1 s1 h1 vu R1 => ?_
  obtain ⟨rfl, rfl⟩ := h1
  obtain rfl : u = .ref f := vu
  exact callArgs O R1 hn.keep hp fun O' s2 Q2 E2 R2 q2 => h O' s2 Q2 E2 R2 fun l us H2 s3 hF vr R3 => q2 l us H2 s3 (fun us' s4 vr' R4 => callFn O R4 hk vr' hF q) vr R3
theorem HR.alloc {w : World} {δ : Addr → Addr} {news : List (Addr × Obj)} {a : Addr} {o : Obj} {ob : O} (r : HR w δ H news) (hf : ∀ p ∈ news, p.1 ≠ a) (h : OR w δ ((a, o) :: news) a ob) (hi : ∀ C fs, ob ≠ .inst C fs) : HR w δ (H.set a ob) ((a, o) :: news) := by
  have na : H a = none := by
    cases q : H a with
    | none => rfl
    | some x => obtain ⟨o', m⟩ := (r.at_ a x q).at_; exact absurd rfl (hf _ m)
  have ib : ∀ b C fs, (H.set a ob) b = some (.inst C fs) → H b = some (.inst C fs) := fun b C fs hb => by
    by_cases e : b = a
    · subst e; rw [HL.set_self] at hb; exact absurd (Option.some.inj hb) (hi C fs)
    · rwa [HL.set_ne e] at hb
  refine ⟨fun b y hb => ?_, fun b c C D fs gs hb hc e => r.inj _ _ _ _ _ _ (ib _ _ _ hb) (ib _ _ _ hc) e, fun b C fs hb => ?_⟩
  · by_cases e : b = a
    · subst e; rw [HL.set_self] at hb; cases hb; exact h
    · rw [HL.set_ne e] at hb; exact (r.at_ b y hb).more fun p hp => .tail _ hp
  · have := ib _ _ _ hb
    rw [HL.set_ne]
    · exact r.off _ _ _ this
    · intro q
      obtain ⟨es, n, sl, m1, m2, fr⟩ := r.at_ b _ this
      exact hf _ m2 q
/-- an object is fresh where none of the call's own stands -/
theorem Rel.fresh {m : Str → Option Value} {news : List (Addr × Obj)} {δ : Addr → Addr} (r : HR X.w δ H news) {a : Addr} (hf : ∀ p ∈ news, p.1 < a) : H a = none := by
  cases q : H a with
  | none => rfl
  | some x => obtain ⟨o', m⟩ := (r.at_ a x q).at_; exact absurd (hf _ m) (Nat.lt_irrefl _)
structure IsMade (w : World) (C : Addr) (f : Addr) : Prop where
  made : makesIn (K w.params) C = true
  init : findIn (K w.params) (.ref C) "__init__" = some (some (.ref f))
  fn : isFn (K w.params) (.ref f) = true
  keep : keepIn (K w.params) (.ref C) = true
theorem newInst {C fI : Addr} {k : Nat} {args : List V} {us : List Value} {Q E : Value → Shared → Prop} (O : X.Ok) (R : Rel X vs H s) (hm : IsMade X.w C fI) (hk : k + 1 ≤ X.d) (vr : VRs args us)
    (h : ∀ x, H x = none → Fn k fI (.ref x :: args) (H.set x (.inst C [])) fun v H' => v = .none ∧ P (.ref x) H') (q : ∀ v u H' s', P v H' → VR v u → Rel X vs H' s' → Q u s') : wpAny (Md X) X.A (PySem.call (.ref C) us) Q E s := by
  obtain ⟨m, news, δ, F, N, D, l, r⟩ := R.ex
  refine call_cls F O.good.K N hm.made hm.init hm.fn fun x dx h' F' N' l1 l2 => ?_
  have fx : ∀ p ∈ news, p.1 ≠ x := fun p hp e => absurd (Nat.lt_trans (l1 p hp) l2) (e ▸ Nat.lt_irrefl _)
  have fd : ∀ p ∈ news, p.1 ≠ dx := fun p hp e => absurd (l1 p hp) (e ▸ Nat.lt_irrefl _)
  have hx : H x = none := Rel.fresh (m := m) r fun p hp => Nat.lt_trans (l1 p hp) l2
  have hdx : H dx = none := Rel.fresh (m := m) r l1
  have nxd : dx ≠ x := Nat.ne_of_lt l2
  let δ' : Addr → Addr := fun b => if b = x then dx else δ b
  have dsame : ∀ b, b ≠ x → δ' b = δ b := fun b e => if_neg e
  have dx' : δ' x = dx := if_pos rfl
  let X' : Cx := { X with A := X.A.under (.builtin "type.__call__" ⟨.ref C :: us, []⟩), d := X.d - 1 }
  have O' : X'.Ok := ⟨O.good, O.handled, by
      show (X.A.under _).depth + (X.d - 1) < recursionLimit
      rw [depth_under_make]; have := O.depth; omega, by
      show (X.A.under (.builtin "type.__call__" ⟨.ref C :: us, []⟩)).units + 8 * (X.d - 1) + 80 < cLine
      have : (X.A.under (.builtin "type.__call__" ⟨.ref C :: us, []⟩)).units ≤ X.A.units + 4 := by
        show X.A.units + Code.cUnits _ ≤ X.A.units + 4
        exact Nat.add_le_add_left (show (Code.builtin "type.__call__" ⟨.ref C :: us, []⟩).cUnits ≤ 4 from Nat.le_of_ble_eq_true rfl) _
      have := O.units; omega, O.fn, O.locals, O.globals, O.builtins, O.loc, O.glob, O.nodup⟩
  have old : ∀ b C' fs, (H.set x (.inst C [])) b = some (.inst C' fs) → b ≠ x → H b = some (.inst C' fs) := fun b C' fs hb e => by rwa [HL.set_ne e] at hb
  have R' : Rel X' vs (H.set x (.inst C [])) { s with heap := h' } := by
    refine ⟨⟨m, _, δ', F', N', ?_, l, ?_⟩, R.gens, R.os⟩
    · rw [List.map_cons, List.map_cons, List.nodup_cons, List.nodup_cons]
      refine ⟨fun hm => ?_, fun hm => ?_, D⟩
      · rcases List.mem_cons.mp hm with e | hm
        · exact nxd e.symm
        · obtain ⟨p, hp, e⟩ := List.mem_map.mp hm; exact fx p hp e
      · obtain ⟨p, hp, e⟩ := List.mem_map.mp hm; exact fd p hp e
    · refine ⟨fun b y hb => ?_, fun b c C' D' fs gs hb hc e => ?_, fun b C' fs hb => ?_⟩
      · by_cases e : b = x
        · subst e; rw [HL.set_self] at hb; cases hb
          exact ⟨[], 0, _, by rw [dx']; exact .head _, by rw [dx']; exact .tail _ (.head _), trivial⟩
        · rw [HL.set_ne e] at hb
          have z := (r.at_ b y hb).more (news' := (x, instObj C dx) :: (dx, dictOf [] 0) :: news) fun p hp => .tail _ (.tail _ hp)
          cases y with
          | inst C' fs => obtain ⟨es, n, sl, m1, m2, fr⟩ := z; exact ⟨es, n, sl, by rw [dsame b e]; exact m1, by rw [dsame b e]; exact m2, fr⟩
          | list vs => exact z
          | flist vs => exact z
          | tup vs => exact z
          | dict kv => exact z
          | raw ob => exact z
          | cell v => cases v <;> exact z
      · have dn : ∀ b C' fs, (H.set x (.inst C [])) b = some (.inst C' fs) → b ≠ x → δ b ≠ dx := fun b C' fs hb e q => by
          obtain ⟨es, n, sl, m1, m2, fr⟩ := r.at_ b _ (old _ _ _ hb e)
          exact fd _ m2 q
        by_cases eb : b = x
        · by_cases ec : c = x
          · rw [eb, ec]
          · rw [eb, dx', dsame c ec] at e; exact absurd e.symm (dn _ _ _ hc ec)
        · by_cases ec : c = x
          · rw [ec, dx', dsame b eb] at e; exact absurd e (dn _ _ _ hb eb)
          · rw [dsame b eb, dsame c ec] at e; exact r.inj _ _ _ _ _ _ (old _ _ _ hb eb) (old _ _ _ hc ec) e
      · by_cases e : b = x
        · subst e; rw [dx', HL.set_ne nxd]; exact hdx
        · rw [dsame b e]
          have ob := old _ _ _ hb e
          rw [HL.set_ne]
          · exact r.off _ _ _ ob
          · intro q
            obtain ⟨es, n, sl, m1, m2, fr⟩ := r.at_ b _ ob
            exact fx _ m2 q
  refine h x hx X' vs O' (by show k ≤ X.d - 1; omega) _ _ _ R' (show VRs (.ref x :: args) (.ref x :: us) from ⟨rfl, vr⟩) fun v u H' s' hP vu R'' => ?_
  obtain ⟨rfl, hP⟩ := hP
  exact ⟨vu, q _ _ _ _ hP rfl ⟨R''.ex, R''.gens, R''.os⟩⟩
theorem W.new {n : Str} {npos pos : Pos} {args : List Expr} {C fI : Addr} {k : Nat} (i : Nat) (hi : X.gs[i]? = some n) (hn : nsIn (K X.w.params) mainGlobals n = some (some (.ref C))) (hm : IsMade X.w C fI) (hk : k + 1 ≤ X.d)
    (h : WA X vs H pos args fun l H2 => ∀ x, H2 x = Option.none → Fn k fI (.ref x :: l) (H2.set x (.inst C [])) fun v H' => v = .none ∧ P (.ref x) H') (hp : plainArgs pos args := by (intro _; refine ⟨by rfl, fun _ _ h => ?_⟩; first | (cases h; done) | (cases h; exact ⟨rfl, rfl⟩))) : W X vs H ((Expr.Name n npos).Call args [] pos) P := fun O s Q E R q => by
  refine Call_ ?_
  refine W.glob (v := .ref C) (P := fun v H1 => v = .ref C ∧ H1 = H) i hi hn rfl ⟨rfl, rfl⟩ O s _ E R fun v u H1 s1 h1 vu R1 => ?_
  obtain ⟨rfl, rfl⟩ := h1
  obtain rfl : u = .ref C := vu
  exact callArgs O R1 hm.keep hp fun O' s2 Q2 E2 R2 q2 => h O' s2 Q2 E2 R2 fun l us H2 s3 hF vr R3 => q2 l us H2 s3 (fun us' s4 vr' R4 => newInst O R4 hm hk vr' hF q) vr R3
end
end Mine
end
section
open PySem PySem.W PyProof.Rows PySem.Calls
set_option maxHeartbeats 1000000
namespace Mine
def V.isNone : V → Bool
  | .none => true
  | _ => false
def cmpI (a b : Int) : CmpOp → Option Bool
  | .Eq => some (a == b)
  | .NotEq => some (a != b)
  | .Lt => some (decide (a < b))
  | .LtE => some (decide (a ≤ b))
  | .Gt => some (decide (b < a))
  | .GtE => some (decide (b ≤ a))
  | _ => none
def cmpS (a b : Str) : CmpOp → Option Bool
  | .Eq => some (a == b)
  | .NotEq => some (a != b)
  | .In => some (!(Builtin.Str.occurrences b a 0 b.length 1).isEmpty)
  | _ => none
def cmpB (a b : Bool) : CmpOp → Option Bool
  | .Eq => some (a == b)
  | .NotEq => some (a != b)
  | _ => none
def cmpN (c d : Bool) : CmpOp → Option Bool
  | .Is => some c
  | .IsNot => some d
  | _ => none
def cmpV (op : CmpOp) (a b : V) : Option Bool :=
  match a with
  | .int a => (match b with | .int b => cmpI a b op | _ => none)
  | .str a => (match b with | .str b => cmpS a b op | _ => none)
  | .bool a => (match b with | .bool b => cmpB a b op | _ => none)
  | .none => (match b with | .none => cmpN true false op | _ => none)
  | .ref _ => (match b with | .none => cmpN false true op | _ => none)
def binV : Operator → V → V → Option V
  | .Add, .int a, .int b => some (.int (a + b))
  | .Sub, .int a, .int b => some (.int (a - b))
  | _, _, _ => none
abbrev sFind : Str := ⟨#[102, 105, 110, 100]⟩
abbrev sRfind : Str := ⟨#[114, 102, 105, 110, 100]⟩
theorem sFind_eq : sFind = Str.ofString "find" := by kernel_rfl
theorem sRfind_eq : sRfind = Str.ofString "rfind" := by kernel_rfl
section
variable {X : Cx} {vs : List (Option V)} {H : HL} {s : Shared} {P : V → HL → Prop}
theorem T.cmpI {op : CmpOp} {a b : Int} {u w : Value} {r : Bool} (e : cmpI a b op = some r) (ha : VR (.int a) u) (hb : VR (.int b) w) (h : P (.bool r) H) : T X vs H (compareOp op u w) P := fun O s Q E R q => by
  obtain ⟨_, rfl⟩ := ha
  obtain ⟨_, rfl⟩ := hb
  cases op with
  | Eq => cases e; exact eq_int (q _ _ _ _ h rfl R)
  | NotEq => cases e; exact ne_int (q _ _ _ _ h rfl R)
  | Lt => cases e; exact lt_int (q _ _ _ _ h rfl R)
  | LtE => cases e; exact le_int (q _ _ _ _ h rfl R)
  | Gt => cases e; exact gt_int (q _ _ _ _ h rfl R)
  | GtE => cases e; exact ge_int (q _ _ _ _ h rfl R)
  | _ => cases e
theorem T.cmpS {op : CmpOp} {a b : Str} {u w : Value} {r : Bool} (e : cmpS a b op = some r) (ha : VR (.str a) u) (hb : VR (.str b) w) (h : P (.bool r) H) : T X vs H (compareOp op u w) P := fun O s Q E R q => by
  obtain ⟨_, rfl⟩ := ha
  obtain ⟨_, rfl⟩ := hb
  cases op with
  | Eq => cases e; exact eq_str (q _ _ _ _ h rfl R)
  | NotEq => cases e; exact ne_str (q _ _ _ _ h rfl R)
  | In => cases e; exact in_str (q _ _ _ _ h rfl R)
  | _ => cases e
theorem T.cmpB {op : CmpOp} {a b : Bool} {u w : Value} {r : Bool} (e : cmpB a b op = some r) (ha : VR (.bool a) u) (hb : VR (.bool b) w) (h : P (.bool r) H) : T X vs H (compareOp op u w) P := fun O s Q E R q => by
  obtain rfl := ha
  obtain rfl := hb
  cases op with
  | Eq => cases e; exact eq_bool (q _ _ _ _ h rfl R)
  | NotEq => cases e; exact ne_bool (q _ _ _ _ h rfl R)
  | _ => cases e
theorem T.cmpV {op : CmpOp} {a b : V} {u w : Value} {r : Bool} (e : cmpV op a b = some r) (ha : VR a u) (hb : VR b w) (h : P (.bool r) H) : T X vs H (compareOp op u w) P := by
  cases a with
  | int a => cases b with
    | int b => exact T.cmpI e ha hb h
    | _ => cases e
  | str a => cases b with
    | str b => exact T.cmpS e ha hb h
    | _ => cases e
  | bool a => cases b with
    | bool b => exact T.cmpB e ha hb h
    | _ => cases e
  | none => cases b with
    | none =>
      obtain rfl := ha
      obtain rfl := hb
      cases op with
      | Is => cases e; exact fun O s Q E R q => wpAny_is_plain rfl (q _ _ _ _ h rfl R)
      | IsNot => cases e; exact fun O s Q E R q => wpAny_isNot_plain rfl (q _ _ _ _ h rfl R)
      | _ => cases e
    | _ => cases e
  | ref a => cases b with
    | none =>
      obtain rfl := ha
      obtain rfl := hb
      cases op with
      | Is => cases e; exact fun O s Q E R q => wpAny_is_other rfl (fun e => by cases e) (q _ _ _ _ h rfl R)
      | IsNot => cases e; exact fun O s Q E R q => wpAny_isNot_other rfl (fun e => by cases e) (q _ _ _ _ h rfl R)
      | _ => cases e
    | _ => cases e
inductive CVE (op : CmpOp) (a : V) (P : Bool → HL → Prop) (b : V) (H2 : HL) : Prop
  | mk (c : Bool) (e : Mine.cmpV op a b = some c) (h : P c H2)
abbrev CV1 (X : Cx) (vs : List (Option V)) (r : Expr) (op : CmpOp) (P : Bool → HL → Prop) : V → HL → Prop := fun a H1 => W X vs H1 r (CVE op a P)
abbrev PB (P : V → HL → Prop) : Bool → HL → Prop := fun c H => P (.bool c) H
inductive BVE (op : Operator) (a : V) (P : V → HL → Prop) (b : V) (H2 : HL) : Prop
  | mk (v : V) (e : Mine.binV op a b = some v) (h : P v H2)
abbrev BV1 (X : Cx) (vs : List (Option V)) (r : Expr) (op : Operator) (P : V → HL → Prop) : V → HL → Prop := fun a H1 => W X vs H1 r (BVE op a P)
inductive ADE (a : V) (P : V → HL → Prop) (b : V) (H2 : HL) : Prop
  | mk (x y : Str) (e : a = .str x) (e' : b = .str y) (hl : x.length + y.length ≤ 10000) (h : P (.str (x ++ y)) H2)
abbrev AD1 (X : Cx) (vs : List (Option V)) (r : Expr) (P : V → HL → Prop) : V → HL → Prop := fun a H1 => W X vs H1 r (ADE a P)
theorem W.cmpv {l r : Expr} {op : CmpOp} {pos : Pos} (h : W X vs H l (CV1 X vs r op (PB P))) (hm : behindInMarks op r = false := by rfl) : W X vs H (.Compare l [op] [r] pos) P :=
  W.cmp (fun O s Q E R q => h O s _ E R fun a u H1 s1 h1 va R1 => q a u H1 s1 (fun O s2 Q2 E2 R2 q2 => h1 O s2 _ E2 R2 fun b w H2 s3 h2 vb R3 => q2 b w H2 s3 (fun u w hu hw => by
    obtain ⟨c, e, hp⟩ := h2
    exact T.cmpV e hu hw hp) vb R3) va R1) hm
theorem WT.cmpv {l r : Expr} {op : CmpOp} {pos : Pos} {P : Bool → HL → Prop} (h : W X vs H l (CV1 X vs r op P)) (hm : behindInMarks op r = false := by rfl) : WT X vs H (.Compare l [op] [r] pos) P :=
  WT.cmp (fun O s Q E R q => h O s _ E R fun a u H1 s1 h1 va R1 => q a u H1 s1 (fun O s2 Q2 E2 R2 q2 => h1 O s2 _ E2 R2 fun b w H2 s3 h2 vb R3 => q2 b w H2 s3 (fun u w hu hw => by
    obtain ⟨c, e, hp⟩ := h2
    exact T.cmpV e hu hw ⟨c, rfl, hp⟩) vb R3) va R1) hm
theorem W.addStr {l r : Expr} {pos : Pos} (h : W X vs H l (AD1 X vs r P)) : W X vs H (.BinOp l .Add r pos) P :=
  fun O s Q E R q => wpAny_BinOp (h O s _ _ R fun a u H1 s1 h1 va R1 => h1 O s1 _ _ R1 fun b w H2 s2 h2 vb R2 => by
    obtain ⟨x, y, rfl, rfl, hl, hp⟩ := h2
    obtain ⟨t, rfl⟩ := va
    obtain ⟨t', rfl⟩ := vb
    exact add_str (fun t' tk => q _ _ _ _ hp ⟨_, rfl⟩ (R2.toks _)) (by rw [sizeLine_eq]; omega))
theorem W.binv {l r : Expr} {op : Operator} {pos : Pos} (h : W X vs H l (BV1 X vs r op P)) : W X vs H (.BinOp l op r pos) P :=
  fun O s Q E R q => wpAny_BinOp (h O s _ _ R fun a u H1 s1 h1 va R1 => h1 O s1 _ _ R1 fun b w H2 s2 h2 vb R2 => by
    obtain ⟨v, e, hp⟩ := h2
    unfold binV at e
    split at e <;> cases e
    · obtain ⟨t, rfl⟩ := va
      obtain ⟨t', rfl⟩ := vb
      exact add_int (q _ _ _ _ hp ⟨_, rfl⟩ (R2.toks _))
    · obtain ⟨t, rfl⟩ := va
      obtain ⟨t', rfl⟩ := vb
      exact sub_int (q _ _ _ _ hp ⟨_, rfl⟩ (R2.toks _)))
theorem W.mod {l r : Expr} {pos : Pos} (h : W X vs H l fun a H1 => W X vs H1 r fun b H2 => ∃ i j, a = .int i ∧ b = .int j ∧ j ≠ 0 ∧ P (.int (i.fmod j)) H2) : W X vs H (.BinOp l .Mod r pos) P :=
  fun O s Q E R q => wpAny_BinOp (h O s _ _ R fun a u H1 s1 h1 va R1 => h1 O s1 _ _ R1 fun b w H2 s2 h2 vb R2 => by
    obtain ⟨x, y, rfl, rfl, hl, hp⟩ := h2
    obtain ⟨t, rfl⟩ := va
    obtain ⟨t', rfl⟩ := vb
    exact mod_int' hl (q _ _ _ _ hp ⟨_, rfl⟩ (R2.toks _)))
theorem W.mul {l r : Expr} {pos : Pos} (h : W X vs H l fun a H1 => W X vs H1 r fun b H2 => ∃ i j, a = .int i ∧ b = .int j ∧ IntMulOk i j ∧ P (.int (i * j)) H2) : W X vs H (.BinOp l .Mult r pos) P :=
  fun O s Q E R q => wpAny_BinOp (h O s _ _ R fun a u H1 s1 h1 va R1 => h1 O s1 _ _ R1 fun b w H2 s2 h2 vb R2 => by
    obtain ⟨x, y, rfl, rfl, hl, hp⟩ := h2
    obtain ⟨t, rfl⟩ := va
    obtain ⟨t', rfl⟩ := vb
    exact mul_int (q _ _ _ _ hp ⟨_, rfl⟩ (R2.toks _)) hl)
inductive NG (P : V → HL → Prop) (v : V) (H1 : HL) : Prop
  | mk (i : Int) (e : v = .int i) (h : P (.int (-i)) H1)
theorem W.neg {e : Expr} {pos : Pos} (h : W X vs H e (NG P)) : W X vs H (.UnaryOp .USub e pos) P :=
  fun O s Q E R q => UnaryOp_ (h O s _ _ R fun a u H1 s1 h1 va R1 => by
    obtain ⟨i, rfl, hp⟩ := h1
    obtain ⟨t, rfl⟩ := va
    exact neg_int (q _ _ _ _ hp ⟨_, rfl⟩ (R1.toks _)))
/-- a slice of a text -/
def Bnd (X : Cx) (vs : List (Option V)) (H : HL) : Option Expr → (Option Int → HL → Prop) → Prop
  | none, P => P none H
  | some e, P => W X vs H e fun v H1 => ∃ i, v = .int i ∧ P (some i) H1
abbrev SL2 (x : Str) (i : Option Int) (P : V → HL → Prop) : Option Int → HL → Prop := fun j H3 => P (.str (Txt.slice x i j)) H3
abbrev SL1 (X : Cx) (vs : List (Option V)) (up : Option Expr) (x : Str) (P : V → HL → Prop) : Option Int → HL → Prop := fun i H2 => Bnd X vs H2 up (SL2 x i P)
inductive SLS (X : Cx) (vs : List (Option V)) (lo up : Option Expr) (P : V → HL → Prop) (v : V) (H1 : HL) : Prop
  | mk (x : Str) (e : v = .str x) (hl : x.length ≤ 10000) (h : Bnd X vs H1 lo (SL1 X vs up x P))
theorem W.sliceStr {e : Expr} {lo up : Option Expr} {p pos : Pos} (h : W X vs H e (SLS X vs lo up P))
    (ht : ∀ (o r : Value), letTemporaryGo e o r = pure () := by intro _ _; rfl) : W X vs H (.Subscript e (.Slice lo up none p) pos) P := fun O s Q E R q => by
  refine Subscript_ (h O s _ _ R fun v u H1 s1 h1 vu R1 => ?_)
  obtain ⟨x, rfl, hl, hb⟩ := h1
  obtain ⟨t, rfl⟩ := vu
  have hz : x.length ≤ sizeLine := by rw [sizeLine_eq]; omega
  have part : ∀ (o : Option Expr) (s : Shared) (H : HL) (Q' : Value → Shared → Prop) (P' : Option Int → HL → Prop), Bnd X vs H o P' → Rel X vs H s → (∀ i H' s', P' i H' → Rel X vs H' s' → ∀ t, Q' (match i with | Option.none => Value.none | some i => .int i t) s') → wpAny (Md X) X.A (evalPart o X.env) Q' E s := by
    intro o s H Q' P' hb R q'
    cases o with
    | none => exact wpAny_evalPart_none (q' none _ _ hb R 0)
    | some e => exact wpAny_evalPart_some (hb O s _ _ R fun v u H1 s1 h1 vu R1 => by
        obtain ⟨i, rfl, hp⟩ := h1
        obtain ⟨t, rfl⟩ := vu
        exact q' (some i) H1 s1 hp R1 t)
  refine wpAny_Slice (part lo s1 H1 _ _ hb R1 fun i H2 s2 h2 R2 ti => part up s2 H2 _ _ h2 R2 fun j H3 s3 h3 R3 tj => ?_)
  refine wpAny_evalPart_none ?_
  obtain ⟨m, news, δ, F, N, D, l, r⟩ := R3.ex
  obtain ⟨hp, g, d, k, os⟩ := s3
  have fin : ∀ (h' : Heap) (t' : Tok) (k' : Nat), Fr X.h₀ X.L h' m → News X.h₀ X.L h' news → Q (.str (Txt.slice x i j) t') ⟨h', g, d, k', os⟩ := fun h' t' k' F' N' => q _ _ _ _ h3 ⟨_, rfl⟩ ⟨⟨m, news, δ, F', N', D, l, r⟩, R3.gens, R3.os⟩
  cases i <;> cases j
  · exact slice_strN_nn (s := ⟨_, _, _, _, _⟩) (ht := fun r => ht _ r) (hsz := hz) F N fin
  · exact slice_strN_ns (s := ⟨_, _, _, _, _⟩) (ht := fun r => ht _ r) (hsz := hz) F N fin
  · exact slice_strN_sn (s := ⟨_, _, _, _, _⟩) (ht := fun r => ht _ r) (hsz := hz) F N fin
  · exact slice_strN_ss (s := ⟨_, _, _, _, _⟩) (ht := fun r => ht _ r) (hsz := hz) F N fin
theorem W.find1 {o e : Expr} {apos pos : Pos} (h : W X vs H o fun v H1 => ∃ x, v = .str x ∧ W X vs H1 e fun w H2 => ∃ y, w = .str y ∧ P (.int (Txt.find x y)) H2)
    {pl : Env → Sem Bool} (he : ∀ env, eval ((o.Attribute sFind apos).Call [e] [] pos) env = (do let ov ← eval o env; standAt apos.atName; let __x ← holding [ov] (getMethod ov sFind (pl env)); match __x with | (f, first) => callWith pos f first (backTo pos (starEach [e] env)) []) := by intro _; with_unfolding_all rfl)
    (h1 : ∀ env, starEach [e] env = (false, eval e env) :: starEach [] env := by intro _; rfl) : W X vs H ((o.Attribute sFind apos).Call [e] [] pos) P := fun O s Q E R q =>
  MethodCall_ (pl := pl X.env) (h O s _ _ R fun v u H1 s1 hh vu R1 => by
    obtain ⟨x, rfl, hW⟩ := hh
    obtain ⟨t, rfl⟩ := vu
    rw [sFind_eq]; exact GM.find (callWith_method1 (spliced_more (hW O s1 _ _ R1 fun w u H2 s2 h2 wu R2 => by
      obtain ⟨y, rfl, hp⟩ := h2
      obtain ⟨t', rfl⟩ := wu
      exact spliced_none (SC.find (q _ _ _ _ hp ⟨_, rfl⟩ (R2.toks _)))) (h1 _)) (h1 _) rfl)) (he _)
theorem W.rfind1 {o e : Expr} {apos pos : Pos} (h : W X vs H o fun v H1 => ∃ x, v = .str x ∧ W X vs H1 e fun w H2 => ∃ y, w = .str y ∧ P (.int (Txt.rfind x y)) H2)
    {pl : Env → Sem Bool} (he : ∀ env, eval ((o.Attribute sRfind apos).Call [e] [] pos) env = (do let ov ← eval o env; standAt apos.atName; let __x ← holding [ov] (getMethod ov sRfind (pl env)); match __x with | (f, first) => callWith pos f first (backTo pos (starEach [e] env)) []) := by intro _; with_unfolding_all rfl)
    (h1 : ∀ env, starEach [e] env = (false, eval e env) :: starEach [] env := by intro _; rfl) : W X vs H ((o.Attribute sRfind apos).Call [e] [] pos) P := fun O s Q E R q =>
  MethodCall_ (pl := pl X.env) (h O s _ _ R fun v u H1 s1 hh vu R1 => by
    obtain ⟨x, rfl, hW⟩ := hh
    obtain ⟨t, rfl⟩ := vu
    rw [sRfind_eq]; exact GM.rfind (callWith_method1 (spliced_more (hW O s1 _ _ R1 fun w u H2 s2 h2 wu R2 => by
      obtain ⟨y, rfl, hp⟩ := h2
      obtain ⟨t', rfl⟩ := wu
      exact spliced_none (SC.rfind (q _ _ _ _ hp ⟨_, rfl⟩ (R2.toks _)))) (h1 _)) (h1 _) rfl)) (he _)
theorem W.find2 {o e f : Expr} {apos pos : Pos} (h : W X vs H o fun v H1 => ∃ x, v = .str x ∧ W X vs H1 e fun w H2 => ∃ y, w = .str y ∧ W X vs H2 f fun z H3 => ∃ i, z = .int i ∧ P (.int (Txt.find3 x y i)) H3)
    {pl : Env → Sem Bool} (he : ∀ env, eval ((o.Attribute sFind apos).Call [e, f] [] pos) env = (do let ov ← eval o env; standAt apos.atName; let __x ← holding [ov] (getMethod ov sFind (pl env)); match __x with | (f', first) => callWith pos f' first (backTo pos (starEach [e, f] env)) []) := by intro _; with_unfolding_all rfl)
    (h1 : ∀ env, starEach [e, f] env = (false, eval e env) :: starEach [f] env := by intro _; rfl) (h2 : ∀ env, starEach [f] env = (false, eval f env) :: starEach [] env := by intro _; rfl) : W X vs H ((o.Attribute sFind apos).Call [e, f] [] pos) P := fun O s Q E R q =>
  MethodCall_ (pl := pl X.env) (h O s _ _ R fun v u H1 s1 hh vu R1 => by
    obtain ⟨x, rfl, hW⟩ := hh
    obtain ⟨t, rfl⟩ := vu
    rw [sFind_eq]; exact GM.find (callWith_method1 (spliced_more (hW O s1 _ _ R1 fun w u H2 s2 hh2 wu R2 => by
      obtain ⟨y, rfl, hW2⟩ := hh2
      obtain ⟨t', rfl⟩ := wu
      exact spliced_more (hW2 O s2 _ _ R2 fun z u H3 s3 hh3 zu R3 => by
        obtain ⟨i, rfl, hp⟩ := hh3
        obtain ⟨t'', rfl⟩ := zu
        exact spliced_none (SC.find3 (q _ _ _ _ hp ⟨_, rfl⟩ (R3.toks _)))) (h2 _)) (h1 _)) (h1 _) (by rw [h2]; rfl))) (he _)
end
end Mine
end
section
open PySem PySem.W PyProof.Rows PySem.Calls
set_option maxHeartbeats 1000000
namespace Mine
def dget (n : Str) : List (Str × V) → Option V
  | [] => none
  | f :: r => if f.1 = n then some f.2 else dget n r
def dput (n : Str) (v : V) (l : List (Str × V)) : List (Str × V) := if l.any (fun f => decide (f.1 = n)) then l.map (fun f => if f.1 = n then (f.1, v) else f) else l ++ [(n, v)]
def ddel (n : Str) (l : List (Str × V)) : List (Str × V) := l.filter fun f => decide (f.1 ≠ n)
theorem KVR.length : ∀ {l : List (Str × V)} {r : List (Str × Value)}, KVR l r → l.length = r.length
  | [], [], _ => rfl
  | _ :: _, _ :: _, h => congrArg (· + 1) (KVR.length h.2)
theorem KVR.get {n : Str} : ∀ {l : List (Str × V)} {r : List (Str × Value)}, KVR l r → match dget n l with | some v => ∃ u, valueAt r n = some u ∧ VR v u | none => valueAt r n = none
  | [], [], _ => rfl
  | f :: l, e :: r, ⟨⟨h1, h2⟩, h⟩ => by
    have ih := KVR.get (n := n) h
    unfold dget valueAt
    by_cases q : f.1 = n
    · rw [if_pos q]
      rw [List.find?_cons]
      rw [show (decide (e.1 = n)) = true from decide_eq_true (h1 ▸ q)]
      exact ⟨_, rfl, h2⟩
    · rw [if_neg q, List.find?_cons, show (decide (e.1 = n)) = false from decide_eq_false (h1 ▸ q)]
      exact ih
theorem KVR.any {n : Str} : ∀ {l : List (Str × V)} {r : List (Str × Value)}, KVR l r → l.any (fun f => decide (f.1 = n)) = r.any (fun f => decide (f.1 = n))
  | [], [], _ => rfl
  | f :: l, e :: r, ⟨⟨h1, h2⟩, h⟩ => by rw [List.any_cons, List.any_cons, KVR.any h, h1]
theorem KVR.map {n : Str} {v : V} {u : Value} (hv : VR v u) : ∀ {l : List (Str × V)} {r : List (Str × Value)}, KVR l r → KVR (l.map (fun f => if f.1 = n then (f.1, v) else f)) (r.map (fun f => if f.1 = n then (f.1, u) else f))
  | [], [], _ => trivial
  | f :: l, e :: r, ⟨⟨h1, h2⟩, h⟩ => by
    refine ⟨?_, KVR.map hv h⟩
    show (if f.1 = n then (f.1, v) else f).1 = (if e.1 = n then (e.1, u) else e).1 ∧ VR (if f.1 = n then (f.1, v) else f).2 (if e.1 = n then (e.1, u) else e).2
    by_cases q : f.1 = n
    · rw [if_pos q, if_pos (h1 ▸ q)]; exact ⟨h1, hv⟩
    · rw [if_neg q, if_neg (h1 ▸ q)]; exact ⟨h1, h2⟩
theorem KVR.app {n : Str} {v : V} {u : Value} (hv : VR v u) : ∀ {l : List (Str × V)} {r : List (Str × Value)}, KVR l r → KVR (l ++ [(n, v)]) (r ++ [(n, u)])
  | [], [], _ => ⟨⟨rfl, hv⟩, trivial⟩
  | f :: l, e :: r, ⟨h1, h⟩ => ⟨h1, KVR.app hv h⟩
theorem KVR.put {n : Str} {v : V} {u : Value} (hv : VR v u) {l : List (Str × V)} {r : List (Str × Value)} (h : KVR l r) : KVR (dput n v l) (stored r n u) := by
  unfold dput stored
  rw [h.any (n := n)]
  split
  · exact h.map hv
  · exact h.app hv
theorem KVR.del {n : Str} : ∀ {l : List (Str × V)} {r : List (Str × Value)}, KVR l r → KVR (ddel n l) (without r n)
  | [], [], _ => trivial
  | f :: l, e :: r, ⟨⟨h1, h2⟩, h⟩ => by
    have ih := KVR.del (n := n) h
    unfold ddel without at *
    rw [List.filter_cons, List.filter_cons]
    by_cases q : f.1 ≠ n
    · rw [if_pos (decide_eq_true q), if_pos (decide_eq_true (h1 ▸ q))]; exact ⟨⟨h1, h2⟩, ih⟩
    · rw [if_neg (by simpa using q), if_neg (by have : ¬ e.1 ≠ n := h1 ▸ q; simpa using this)]; exact ih
section
variable {X : Cx} {vs : List (Option V)} {H : HL} {s : Shared} {P : V → HL → Prop}
/-- an object of the call's own is turned in its own cell -/
theorem Rel.own {m : Str → Option Value} {news : List (Addr × Obj)} {δ : Addr → Addr} {a : Addr} {o o' : Obj} {ob' : O} {h' : Heap} {k : Nat} (R : Rel X vs H s) (F : Fr X.h₀ X.L s.heap m) (N : News X.h₀ X.L s.heap news) (D : (news.map (·.1)).Nodup) (l : LR X.ns vs m) (r : HR X.w δ H news)
    (hm : (a, o) ∈ news) (hs : Heap.SameBut a s.heap h') (ho : h'.get? a = some o') (hx : ∃ x, H a = some x) (hOR : ∀ news', (a, o') ∈ news' → OR X.w δ news' a ob') (hi : ∀ C fs, ob' ≠ .inst C fs) : Rel X vs (H.set a ob') { s with heap := h', toks := k } := by
  obtain ⟨pre, post, rfl, _, p1, p2⟩ := upd_of_mem o' D hm
  have z := N _ hm
  exact ⟨⟨m, _, δ, F.change hs z.2.1 z.2.2, news_set N p1 p2 hs ho, nodup_upd D, l, r.turn hx (hOR _ (List.mem_append.mpr (.inr (.head _)))) fun C fs q => absurd q (hi C fs)⟩, R.gens, R.os⟩
/-- an object is made -/
theorem Rel.make {m : Str → Option Value} {news : List (Addr × Obj)} {δ : Addr → Addr} {a : Addr} {o : Obj} {ob : O} {h' : Heap} {k : Nat} (R : Rel X vs H s) (F : Fr X.h₀ X.L h' m) (N : News X.h₀ X.L h' ((a, o) :: news)) (D : (news.map (·.1)).Nodup) (l : LR X.ns vs m) (r : HR X.w δ H news)
    (hf : ∀ p ∈ news, p.1 < a) (hOR : ∀ news', (a, o) ∈ news' → OR X.w δ news' a ob) (hi : ∀ C fs, ob ≠ .inst C fs) : H a = none ∧ Rel X vs (H.set a ob) { s with heap := h', toks := k } := by
  have ne : ∀ p ∈ news, p.1 ≠ a := fun p hp => Nat.ne_of_lt (hf p hp)
  refine ⟨Rel.fresh (m := m) r hf, ⟨⟨m, _, δ, F, N, ?_, l, r.alloc ne (hOR _ (.head _)) hi⟩, R.gens, R.os⟩⟩
  rw [List.map_cons, List.nodup_cons]
  exact ⟨fun h => by obtain ⟨p, hp, e⟩ := List.mem_map.mp h; exact ne p hp e, D⟩
theorem VRs.append {l r : List V} : ∀ {us ws : List Value}, VRs l us → VRs r ws → VRs (l ++ r) (us ++ ws) := by
  induction l with
  | nil => intro us ws h h'; cases us <;> first | exact h' | exact h.elim
  | cons v l ih => intro us ws h h'; cases us with | nil => exact h.elim | cons u us => exact ⟨h.1, ih h.2 h'⟩
abbrev sAppend : Str := ⟨#[97, 112, 112, 101, 110, 100]⟩
abbrev sPop : Str := ⟨#[112, 111, 112]⟩
abbrev sGet : Str := ⟨#[103, 101, 116]⟩
theorem sAppend_eq : sAppend = Str.ofString "append" := by kernel_rfl
theorem sPop_eq : sPop = Str.ofString "pop" := by kernel_rfl
theorem sGet_eq : sGet = Str.ofString "get" := by kernel_rfl
/-- a list display -/
abbrev LI (P : V → HL → Prop) : List V → HL → Prop := fun l H1 => l.length ≤ 1000 ∧ ∀ a, H1 a = Option.none → P (.ref a) (H1.set a (.list l))
abbrev TU (P : V → HL → Prop) : List V → HL → Prop := fun l H1 => l.length ≤ 1000 ∧ ∀ a, H1 a = Option.none → P (.ref a) (H1.set a (.tup l))
theorem W.list {es : List Expr} {pos : Pos} (h : WA X vs H pos es (LI P)) : W X vs H (.List es pos) P := fun O s Q E R q =>
  List_ (h O s _ _ R fun l us H1 s1 hl vr R1 => by
    obtain ⟨m, news, δ, F, N, D, lr, r⟩ := R1.ex
    refine newList_K F N (fun a h' F' N' hf => ?_) (by rw [← vr.length, sizeLine_eq]; omega)
    obtain ⟨fr, R2⟩ := R1.make (k := s1.toks) F' N' D lr r hf (ob := .list l) (fun news' hm => ⟨_, _, hm, vr⟩) (fun _ _ h => by cases h)
    exact q _ _ _ _ (hl.2 a fr) rfl R2)
theorem W.tuple {es : List Expr} {k : Nat} {pos : Pos} (h : WA X vs H pos es (TU P)) : W X vs H (.Tuple es k pos) P := fun O s Q E R q =>
  Tuple_ (h O s _ _ R fun l us H1 s1 hl vr R1 => by
    obtain ⟨m, news, δ, F, N, D, lr, r⟩ := R1.ex
    refine newTuple_N F N (fun h' F' N' => ?_) (by rw [← vr.length, sizeLine_eq]; omega)
    obtain ⟨fr, R2⟩ := R1.make (k := s1.toks) F' N' D lr r (fun p hp => Heap.lt_size (N p hp).1) (ob := .tup l) (fun news' hm => ⟨_, _, hm, vr⟩) (fun _ _ h => by cases h)
    exact q _ _ _ _ (hl.2 _ fr) rfl R2)
theorem W.dict0 {pos : Pos} (h : ∀ a, H a = Option.none → P (.ref a) (H.set a (.dict []))) : W X vs H (.Dict [] [] pos) P := fun O s Q E R q => by
  obtain ⟨m, news, δ, F, N, D, lr, r⟩ := R.ex
  obtain ⟨mg, mb, TR⟩ := O.good.top
  refine newDict_K F N TR.nolimit fun a h' o F' N' hf hs hd _ _ _ => ?_
  obtain ⟨fr, R2⟩ := R.make (k := s.toks) F' N' D lr r hf (ob := .dict []) (fun news' hm => ⟨o, [], hm, hs, hd, trivial⟩) (fun _ _ h => by cases h)
  exact q _ _ _ _ (h a fr) rfl R2
theorem isDict {m : Str → Option Value} {news : List (Addr × Obj)} {δ : Addr → Addr} {d : Addr} {kv : List (Str × V)} (N : News X.h₀ X.L s.heap news) (r : HR X.w δ H news) (hd : H d = some (.dict kv)) :
    ∃ o kvs, (d, o) ∈ news ∧ (d == sysModules) = false ∧ o.IsDictOf (PySem.strKind pw X.w) kvs ∧ KVR kv kvs ∧ Heap.DictOf (PySem.strKind pw X.w) s.heap d kvs := by
  obtain ⟨o, kvs, m1, h1, h2, h3⟩ := r.at_ d _ hd
  exact ⟨o, kvs, m1, h1, h2, h3, Heap.dictOf_iff.mpr ⟨o, (N _ m1).1, h2⟩⟩
inductive APE (a : Addr) (P : V → HL → Prop) (w : V) (H2 : HL) : Prop
  | mk (l2 : List V) (ha : H2 a = some (.list l2)) (hl : l2.length ≤ 1000) (h : P .none (H2.set a (.list (l2 ++ [w]))))
inductive APD (X : Cx) (vs : List (Option V)) (e : Expr) (P : V → HL → Prop) (v : V) (H1 : HL) : Prop
  | mk (a : Addr) (l : List V) (e' : v = .ref a) (ha : H1 a = some (.list l)) (h : W X vs H1 e (APE a P))
theorem W.append {o e : Expr} {apos pos : Pos} (h : W X vs H o (APD X vs e P))
    {pl : Env → Sem Bool} (he : ∀ env, eval ((o.Attribute sAppend apos).Call [e] [] pos) env = (do let ov ← eval o env; standAt apos.atName; let __x ← holding [ov] (getMethod ov sAppend (pl env)); match __x with | (f, first) => callWith pos f first (backTo pos (starEach [e] env)) []) := by intro _; with_unfolding_all rfl)
    (h1 : ∀ env, starEach [e] env = (false, eval e env) :: starEach [] env := by intro _; rfl) : W X vs H ((o.Attribute sAppend apos).Call [e] [] pos) P := fun O s Q E R q =>
  MethodCall_ (pl := pl X.env) (h O s _ _ R fun v u H1 s1 hh vu R1 => by
    obtain ⟨a, l, rfl, ha, hW⟩ := hh
    obtain rfl : u = .ref a := vu
    obtain ⟨m, news, δ, F, N, D, lr, r⟩ := R1.ex
    obtain ⟨its, n, m1, vr⟩ := r.at_ a _ ha
    rw [sAppend_eq]
    exact getMethod_append_N N m1 (callWith_method1 (spliced_more (hW O s1 _ _ R1 fun w u H2 s2 h2 wu R2 => by
      obtain ⟨l2, ha2, hl2, hp⟩ := h2
      obtain ⟨m, news, δ, F, N, D, lr, r⟩ := R2.ex
      obtain ⟨its, n, m1, vr⟩ := r.at_ a _ ha2
      refine spliced_none (append_at (hsz := by have := vr.length; have e : its.toList.length = its.size := Array.length_toList; rw [sizeLine_eq]; omega) (N _ m1).1 fun h' hs ho => q _ _ _ _ hp rfl (R2.own (k := s2.toks) F N D lr r m1 hs ho ⟨_, ha2⟩ (fun news' hm => ⟨_, _, hm, ?_⟩) fun _ _ h => by cases h))
      rw [Array.toList_push]
      exact vr.append ⟨wu, trivial⟩) (h1 _)) (h1 _) rfl)) (he _)
theorem W.pop0 {o : Expr} {apos pos cp : Pos} {ck : Nat} (h : W X vs H o fun v H1 => ∃ a x l, v = .ref a ∧ H1 a = some (.list (x :: l)) ∧ l.length ≤ 1000 ∧ P x (H1.set a (.list l)))
    {pl : Env → Sem Bool} (he : ∀ env, eval ((o.Attribute sPop apos).Call [.Constant (.int 0) ck cp] [] pos) env = (do let ov ← eval o env; standAt apos.atName; let __x ← holding [ov] (getMethod ov sPop (pl env)); match __x with | (f, first) => callWith pos f first (backTo pos (starEach [.Constant (.int 0) ck cp] env)) []) := by intro _; with_unfolding_all rfl) :
    W X vs H ((o.Attribute sPop apos).Call [.Constant (.int 0) ck cp] [] pos) P := fun O s Q E R q =>
  MethodCall_ (pl := pl X.env) (h O s _ _ R fun v u H1 s1 hh vu R1 => by
    obtain ⟨a, x, l, rfl, ha, hl, hp⟩ := hh
    obtain rfl : u = .ref a := vu
    obtain ⟨m, news, δ, F, N, D, lr, r⟩ := R1.ex
    obtain ⟨its, n, m1, vr⟩ := r.at_ a _ ha
    rw [sPop_eq]
    refine kl_method N m1 PySem.F.slot_list_pop PySem.F.type_list_pop (callWith_method1 (spliced_more (wpAny_Constant_int (spliced_none ?_)) rfl) rfl rfl)
    cases e : its.toList with
    | nil => rw [e] at vr; exact vr.elim
    | cons y ys =>
      rw [e] at vr
      obtain ⟨vx, vr⟩ := vr
      obtain ⟨pre, post, rfl, U, p1, p2⟩ := upd_of_mem (listOf ys.toArray (n + 1)) D m1
      refine kl_popAt (p := []) (q := ys) (y := y) (k := 0) F N rfl (by
        have : its.size = ys.length + 1 := by rw [← Array.length_toList, e]; rfl
        rw [this]; unfold seqIndex?; simp) (by rw [e]; rfl) U (by rw [e, List.length_cons, ← vr.length, sizeLine_eq]; omega) fun h' F' N' => q _ _ _ _ hp vx ⟨⟨m, _, δ, F', N', nodup_upd D, lr, r.turn ⟨_, ha⟩ ⟨_, _, List.mem_append.mpr (.inr (.head _)), by simpa using vr⟩ (fun _ _ h => by cases h)⟩, R1.gens, R1.os⟩) (he _)
inductive DG3 (d : Addr) (n : Str) (P : V → HL → Prop) (z : V) (H3 : HL) : Prop
  | mk (kv' : List (Str × V)) (hd : H3 d = some (.dict kv')) (h : P ((Mine.dget n kv').getD z) H3)
inductive DG2 (X : Cx) (vs : List (Option V)) (f : Expr) (d : Addr) (P : V → HL → Prop) (w : V) (H2 : HL) : Prop
  | mk (n : Str) (e : w = .str n) (h : W X vs H2 f (DG3 d n P))
inductive DG1 (X : Cx) (vs : List (Option V)) (e f : Expr) (P : V → HL → Prop) (v : V) (H1 : HL) : Prop
  | mk (d : Addr) (kv : List (Str × V)) (e' : v = .ref d) (hd : H1 d = some (.dict kv)) (h : W X vs H1 e (DG2 X vs f d P))
theorem W.dget {o e f : Expr} {apos pos : Pos} (h : W X vs H o (DG1 X vs e f P))
    {pl : Env → Sem Bool} (he : ∀ env, eval ((o.Attribute sGet apos).Call [e, f] [] pos) env = (do let ov ← eval o env; standAt apos.atName; let __x ← holding [ov] (getMethod ov sGet (pl env)); match __x with | (f', first) => callWith pos f' first (backTo pos (starEach [e, f] env)) []) := by intro _; with_unfolding_all rfl)
    (h1 : ∀ env, starEach [e, f] env = (false, eval e env) :: starEach [f] env := by intro _; rfl) (h2 : ∀ env, starEach [f] env = (false, eval f env) :: starEach [] env := by intro _; rfl) : W X vs H ((o.Attribute sGet apos).Call [e, f] [] pos) P := fun O s Q E R q =>
  MethodCall_ (pl := pl X.env) (h O s _ _ R fun v u H1 s1 hh vu R1 => by
    obtain ⟨d, kv, rfl, hd, hW⟩ := hh
    obtain rfl : u = .ref d := vu
    obtain ⟨m, news, δ, F, N, D, lr, r⟩ := R1.ex
    obtain ⟨ob, kvs, m1, hs, ho, kr, hD⟩ := isDict (m := m) N r hd
    rw [sGet_eq]
    refine getMethod_builtin hD.typeIs PySem.F.plainAttrs_dict PySem.F.slot_dict_get PySem.F.type_dict_get (fun a e => by cases e; exact ⟨ob, (N _ m1).1, let ⟨_, _, x, _⟩ := ho; x.2.1⟩) (callWith_method1 (spliced_more (hW O s1 _ _ R1 fun w u H2 s2 hh2 wu R2 => ?_) (h1 _)) (h1 _) (by rw [h2]; rfl))
    obtain ⟨n, rfl, hW2⟩ := hh2
    obtain ⟨t', rfl⟩ := wu
    refine spliced_more (hW2 O s2 _ _ R2 fun z u H3 s3 hh3 zu R3 => ?_) (h2 _)
    obtain ⟨kv', hd3, hp⟩ := hh3
    obtain ⟨m, news, δ, F, N, D, lr, r⟩ := R3.ex
    obtain ⟨ob, kvs, m1, hs, ho, kr, hD⟩ := isDict (m := m) N r hd3
    refine spliced_none (call_meetsIn PySem.F.slot_dict_get hD.typeIs PySem.F.entry_dict_get (PySem.F.args_dict_get_3 _ _ _) (meets_dict_get_default (PySem.strKind pw X.w) d (strKind_is pw X.w n t') hs _) ⟨_, hD.mapOf, q _ _ _ _ hp ?_ (R3.toks _)⟩)
    have g := kr.get (n := n)
    cases e : Mine.dget n kv' with
    | some v => rw [e] at g; obtain ⟨u', e', vu⟩ := g; rw [e']; exact vu
    | none => rw [e] at g; rw [show valueAt kvs n = none from g]; exact zu) (he _)
theorem W.dpop {o e : Expr} {apos pos : Pos} (h : W X vs H o fun v H1 => ∃ d kv, v = .ref d ∧ H1 d = some (.dict kv) ∧ W X vs H1 e fun w H2 => ∃ n kv' u, w = .str n ∧ H2 d = some (.dict kv') ∧ kv'.length ≤ 1000 ∧ Mine.dget n kv' = some u ∧ P u (H2.set d (.dict (ddel n kv'))))
    {pl : Env → Sem Bool} (he : ∀ env, eval ((o.Attribute sPop apos).Call [e] [] pos) env = (do let ov ← eval o env; standAt apos.atName; let __x ← holding [ov] (getMethod ov sPop (pl env)); match __x with | (f', first) => callWith pos f' first (backTo pos (starEach [e] env)) []) := by intro _; with_unfolding_all rfl)
    (h1 : ∀ env, starEach [e] env = (false, eval e env) :: starEach [] env := by intro _; rfl) : W X vs H ((o.Attribute sPop apos).Call [e] [] pos) P := fun O s Q E R q =>
  MethodCall_ (pl := pl X.env) (h O s _ _ R fun v u H1 s1 hh vu R1 => by
    obtain ⟨d, kv, rfl, hd, hW⟩ := hh
    obtain rfl : u = .ref d := vu
    obtain ⟨m, news, δ, F, N, D, lr, r⟩ := R1.ex
    obtain ⟨ob, kvs, m1, hs, ho, kr, hD⟩ := isDict (m := m) N r hd
    rw [sPop_eq]
    refine getMethod_builtin hD.typeIs PySem.F.plainAttrs_dict PySem.F.slot_dict_pop PySem.F.type_dict_pop (fun a e => by cases e; exact ⟨ob, (N _ m1).1, let ⟨_, _, x, _⟩ := ho; x.2.1⟩) (callWith_method1 (spliced_more (hW O s1 _ _ R1 fun w u H2 s2 hh2 wu R2 => ?_) (h1 _)) (h1 _) rfl)
    obtain ⟨n, kv', u', rfl, hd2, hl, hg, hp⟩ := hh2
    obtain ⟨t', rfl⟩ := wu
    obtain ⟨m, news, δ, F, N, D, lr, r⟩ := R2.ex
    obtain ⟨ob, kvs, m1, hs, ho, kr, hD⟩ := isDict (m := m) N r hd2
    have g := kr.get (n := n)
    rw [hg] at g
    obtain ⟨u'', e', vu⟩ := g
    refine spliced_none (call_meetsIn PySem.F.slot_dict_pop hD.typeIs PySem.F.entry_dict_pop (PySem.F.args_dict_pop_2 _ _) (meets_dict_pop_there (PySem.strKind pw X.w) d (strKind_is pw X.w n t') [] (.inl rfl) rfl) ⟨kvs, u'', hD, by rw [← kr.length, sizeLine_eq]; omega, e', fun h' hD' hsb => ?_⟩)
    obtain ⟨o', ho', hd'⟩ := Heap.dictOf_iff.mp hD'
    exact q _ _ _ _ hp vu (R2.own F N D lr r m1 hsb ho' ⟨_, hd2⟩ (fun news' hm => ⟨o', _, hm, hs, hd', kr.del⟩) fun _ _ h => by cases h)) (he _)
/-- d[k], a dict -/
inductive DI (v : V) (P : V → HL → Prop) (w : V) (H2 : HL) : Prop
  | mk (d : Addr) (n : Str) (kv : List (Str × V)) (u : V) (e : v = .ref d) (e' : w = .str n) (hd : H2 d = some (.dict kv)) (hg : Mine.dget n kv = some u) (h : P u H2)
abbrev DI1 (X : Cx) (vs : List (Option V)) (e : Expr) (P : V → HL → Prop) : V → HL → Prop := fun v H1 => W X vs H1 e (DI v P)
theorem W.ditem {o e : Expr} {pos : Pos} (h : W X vs H o (DI1 X vs e P))
    (hs : ∀ d n t, subscripted e false (.ref d) (.str n t) = operate [.ref d, .str n t] (getItem (.ref d) (.str n t)) := by intro _ _ _; with_unfolding_all rfl) : W X vs H (.Subscript o e pos) P := fun O s Q E R q =>
  Subscript_ (h O s _ _ R fun v u H1 s1 h1 vu R1 => h1 O s1 _ _ R1 fun w x H2 s2 h2 wx R2 => by
    obtain ⟨d, n, kv, u', rfl, rfl, hd, hg, hp⟩ := h2
    obtain rfl : u = .ref d := vu
    obtain ⟨t, rfl⟩ := wx
    obtain ⟨m, news, δ, F, N, D, lr, r⟩ := R2.ex
    obtain ⟨ob, kvs, m1, hsm, ho, kr, hD⟩ := isDict (m := m) N r hd
    have g := kr.get (n := n)
    rw [hg] at g
    obtain ⟨u'', e', vu'⟩ := g
    exact tail_any hD.typeIs slot_dict_getitem.lookup (wpAny_getItem_of (strKind_is pw X.w n t) hD.mapOf e' (q _ _ _ _ hp vu' (R2.toks _))) (hs _ _ _))
inductive SI3 (vs : List (Option V)) (v w : V) (P : Fl → List (Option V) → HL → Prop) (z : V) (H3 : HL) : Prop
  | mk (d : Addr) (n : Str) (kv : List (Str × V)) (e : w = .ref d) (e' : z = .str n) (hd : H3 d = some (.dict kv)) (hl : kv.length ≤ 1000) (h : P .next vs (H3.set d (.dict (dput n v kv))))
abbrev SI2 (X : Cx) (vs : List (Option V)) (i : Expr) (v : V) (P : Fl → List (Option V) → HL → Prop) : V → HL → Prop := fun w H2 => W X vs H2 i (SI3 vs v w P)
abbrev SI1 (X : Cx) (vs : List (Option V)) (o i : Expr) (P : Fl → List (Option V) → HL → Prop) : V → HL → Prop := fun v H1 => W X vs H1 o (SI2 X vs i v P)
theorem S.setItem {o i e : Expr} {pos pos' : Pos} {P : Fl → List (Option V) → HL → Prop} (h : W X vs H e (SI1 X vs o i P))
    (hs : ∀ env, swapsWith e (some (o.Subscript i pos')) pos.line env = pure false := by intro _; rfl) : S X vs H (.Assign [o.Subscript i pos'] e pos) P := fun O s Q E R q =>
  wpAny_Assign_Subscript (h O s _ _ R fun v u H1 s1 h1 vu R1 => h1 O s1 _ _ R1 fun w x H2 s2 h2 wx R2 => h2 O s2 _ _ R2 fun z y H3 s3 h3 zy R3 => by
    obtain ⟨d, n, kv, rfl, rfl, hd, hl, hp⟩ := h3
    obtain rfl : x = .ref d := wx
    obtain ⟨t, rfl⟩ := zy
    obtain ⟨m, news, δ, F, N, D, lr, r⟩ := R3.ex
    obtain ⟨ob, kvs, m1, hsm, ho, kr, hD⟩ := isDict (m := m) N r hd
    refine wpAny_setItem_pairs (strKind_is pw X.w n t) hD (fun h' hD' hsb => ?_) (by rw [← kr.length, sizeLine_eq]; omega)
    obtain ⟨o', ho', hd'⟩ := Heap.dictOf_iff.mp hD'
    exact q _ _ _ _ _ hp rfl (R3.own F N D lr r m1 hsb ho' ⟨_, hd⟩ (fun news' hm => ⟨o', _, hm, hsm, hd', kr.put vu⟩) fun _ _ h => by cases h)) (hs _)
theorem inDict {n : Str} {d : Addr} {kv : List (Str × V)} {u w : Value} (hd : H d = some (.dict kv)) (hu : VR (.str n) u) (hw : VR (.ref d) w) (h : P (.bool (Mine.dget n kv).isSome) H) : T X vs H (compareOp .In u w) P := fun O s Q E R q => by
  obtain ⟨t, rfl⟩ := hu
  obtain rfl : w = .ref d := hw
  obtain ⟨m, news, δ, F, N, D, lr, r⟩ := R.ex
  obtain ⟨ob, kvs, m1, hsm, ho, kr, hD⟩ := isDict (m := m) N r hd
  refine wpAny_in_of (strKind_is pw X.w n t) hsm hD.mapOf (q _ _ _ _ h ?_ (R.toks _))
  have g := kr.get (n := n)
  cases e : Mine.dget n kv with
  | some v => rw [e] at g; obtain ⟨u', e', vu⟩ := g; rw [e']; rfl
  | none => rw [e] at g; rw [show valueAt kvs n = none from g]; rfl
theorem WT.inDict {l r : Expr} {pos : Pos} {P : Bool → HL → Prop} (h : W X vs H l fun a H1 => W X vs H1 r fun b H2 => ∃ n d kv, a = .str n ∧ b = .ref d ∧ H2 d = some (.dict kv) ∧ P (Mine.dget n kv).isSome H2) (hm : behindInMarks .In r = false := by rfl) : WT X vs H (.Compare l [.In] [r] pos) P :=
  WT.cmp (fun O s Q E R q => h O s _ E R fun a u H1 s1 h1 va R1 => q a u H1 s1 (fun O s2 Q2 E2 R2 q2 => h1 O s2 _ E2 R2 fun b w H2 s3 h2 vb R3 => q2 b w H2 s3 (fun u w hu hw => by
    obtain ⟨n, d, kv, rfl, rfl, hd, hp⟩ := h2
    exact Mine.inDict hd hu hw ⟨_, rfl, hp⟩) vb R3) va R1) hm
theorem W.inDict {l r : Expr} {pos : Pos} (h : W X vs H l fun a H1 => W X vs H1 r fun b H2 => ∃ n d kv, a = .str n ∧ b = .ref d ∧ H2 d = some (.dict kv) ∧ P (.bool (Mine.dget n kv).isSome) H2) (hm : behindInMarks .In r = false := by rfl) : W X vs H (.Compare l [.In] [r] pos) P :=
  W.cmp (fun O s Q E R q => h O s _ E R fun a u H1 s1 h1 va R1 => q a u H1 s1 (fun O s2 Q2 E2 R2 q2 => h1 O s2 _ E2 R2 fun b w H2 s3 h2 vb R3 => q2 b w H2 s3 (fun u w hu hw => by
    obtain ⟨n, d, kv, rfl, rfl, hd, hp⟩ := h2
    exact Mine.inDict hd hu hw hp) vb R3) va R1) hm
end
end Mine
end
section
open PySem PySem.W PyProof.Rows PySem.Calls
set_option maxHeartbeats 1000000
namespace Mine
def WhileN (X : Cx) (t : Expr) (b : List Stmt) (P : Fl → List (Option V) → HL → Prop) : Nat → List (Option V) → HL → Prop
  | 0, _, _ => False
  | n + 1, vs, H => WT X vs H t fun c H1 => if c = true then B X vs H1 b (fun f vs2 H2 => match f with | .next => WhileN X t b P n vs2 H2 | .cont => WhileN X t b P n vs2 H2 | .brk => P .next vs2 H2 | .ret v => P (.ret v) vs2 H2) else P .next vs H1
def ForL (X : Cx) (i : Nat) (b : List Stmt) (P : Fl → List (Option V) → HL → Prop) (Keep : HL → Prop) : List V → List (Option V) → HL → Prop
  | [], vs, H => Keep H ∧ P .next vs H
  | x :: r, vs, H => Keep H ∧ ∀ it o, H it = none → B X (vs.set i (some x)) (H.set it (.raw o)) b fun f vs2 H2 => match f with
      | .next => ∃ H3, H2 = H3.set it (.raw o) ∧ H3 it = none ∧ ForL X i b P Keep r vs2 H3
      | .cont => ∃ H3, H2 = H3.set it (.raw o) ∧ H3 it = none ∧ ForL X i b P Keep r vs2 H3
      | .brk => ∃ H3, (∀ a o', H3 a = some o' → H2 a = some o') ∧ P .next vs2 H3
      | .ret v => ∃ H3, (∀ a o', H3 a = some o' → H2 a = some o') ∧ P (.ret v) vs2 H3
theorem ForL.keep {X : Cx} {i : Nat} {b : List Stmt} {P : Fl → List (Option V) → HL → Prop} {Keep : HL → Prop} : ∀ {l : List V} {vs : List (Option V)} {H : HL}, ForL X i b P Keep l vs H → Keep H
  | [], _, _, h => h.1
  | _ :: _, _, _, h => h.1
section
variable {X : Cx} {vs : List (Option V)} {H : HL} {s : Shared} {P : Fl → List (Option V) → HL → Prop}
theorem S.while {t : Expr} {b : List Stmt} {pos : Pos} (n : Nat) (h : WhileN X t b P n vs H) : S X vs H (.While t b [] pos) P := fun O s Q E R q => by
  refine wpAny_While (codeAny_whileLoop (fun k s => ∃ vs H, Rel X vs H s ∧ WhileN X t b P k vs H) (fun k s1 hI => ?_) n ⟨vs, H, R, h⟩)
  obtain ⟨vs1, H1, R1, h1⟩ := hI
  cases k with
  | zero => exact h1.elim
  | succ k =>
    refine h1 O s1 _ _ R1 fun c H2 s2 h2 R2 => ?_
    cases c
    · rw [if_neg (by decide)] at h2 ⊢
      exact wpAny_execs_nil (q _ _ _ _ _ h2 rfl R2)
    · rw [if_pos rfl] at h2 ⊢
      refine h2 O s2 _ _ R2 fun f g vs3 H3 s3 h3 fg R3 => ?_
      cases f with
      | next => obtain rfl : g = .next := fg; exact ⟨k, Nat.lt_succ_self _, _, _, R3, h3⟩
      | cont => obtain rfl : g = .cont := fg; exact ⟨k, Nat.lt_succ_self _, _, _, R3, h3⟩
      | brk => obtain rfl : g = .brk := fg; exact q _ _ _ _ _ h3 rfl R3
      | ret v => obtain ⟨u, rfl, vu⟩ := fg; exact q _ _ _ _ _ h3 ⟨u, rfl, vu⟩ R3
theorem HL.le_set {H : HL} {a : Addr} {o : O} (h : H a = none) : ∀ b o', H b = some o' → (H.set a o) b = some o' := fun b o' e => by
  rw [HL.set_ne]
  · exact e
  · rintro rfl; rw [h] at e; cases e
theorem HL.set_comm {H : HL} {a b : Addr} {o o' : O} (h : a ≠ b) : (H.set a o).set b o' = (H.set b o').set a o := by
  funext c
  show (if c = b then some o' else if c = a then some o else H c) = if c = a then some o else if c = b then some o' else H c
  by_cases e : c = b
  · rw [if_pos e, if_neg (by rw [e]; exact Ne.symm h), if_pos e]
  · rw [if_neg e, if_neg e]
theorem HL.set_set {H : HL} {a : Addr} {o o' : O} : (H.set a o).set a o' = H.set a o' := by
  funext c
  show (if c = a then some o' else if c = a then some o else H c) = if c = a then some o' else H c
  by_cases e : c = a
  · rw [if_pos e, if_pos e]
  · rw [if_neg e, if_neg e, if_neg e]
theorem HL.set_id {H : HL} {a : Addr} {o : O} (h : H a = some o) : H.set a o = H := by
  funext c
  show (if c = a then some o else H c) = H c
  by_cases e : c = a
  · rw [if_pos e, e, h]
  · rw [if_neg e]
theorem Rel.gone {it : Addr} {o : Obj} {h' : Heap} {k : Nat} (R : Rel X vs (H.set it (.raw o)) s) (hn : H it = none) (he : Heap.ExtBut it s.heap h') : Rel X vs H { s with heap := h', toks := k } := by
  obtain ⟨m, news, δ, F, N, D, l, r⟩ := R.ex
  have mi : (it, o) ∈ news := r.at_ it _ HL.set_self
  obtain ⟨pre, post, rfl, _, p1, p2⟩ := upd_of_mem o D mi
  have z := N _ mi
  have sub : ∀ b ob, (b, ob) ∈ pre ++ (it, o) :: post → b ≠ it → (b, ob) ∈ pre ++ post := fun b ob hm hne => by
    rcases List.mem_append.mp hm with h | h
    · exact List.mem_append.mpr (.inl h)
    · rcases List.mem_cons.mp h with h | h
      · cases h; exact absurd rfl hne
      · exact List.mem_append.mpr (.inr h)
  have back : ∀ p, p ∈ pre ++ post → p ∈ pre ++ (it, o) :: post ∧ p.1 ≠ it := fun p hp => by
    rcases List.mem_append.mp hp with h | h
    · exact ⟨List.mem_append.mpr (.inl h), p1 p h⟩
    · exact ⟨List.mem_append.mpr (.inr (.tail _ h)), p2 p h⟩
  obtain ⟨oL, es, ep, hL, hr⟩ := F.ns
  have le := HL.le_set (o := .raw o) hn
  refine ⟨⟨m, pre ++ post, δ, ⟨⟨oL, es, ep, he X.L oL (Ne.symm z.2.1) hL, hr⟩, fun b x e => he b x (fun q => by subst q; rw [z.2.2] at e; cases e) (F.keep b x e), F.above⟩, fun p hp => ?_, ?_, l, ⟨fun a ob ha => ?_, fun a b C D fs gs ha hb e => r.inj a b C D fs gs (le _ _ ha) (le _ _ hb) e, fun a C fs ha => ?_⟩⟩, R.gens, R.os⟩
  · obtain ⟨hm, hne⟩ := back p hp
    exact ⟨he _ _ hne (N p hm).1, (N p hm).2⟩
  · rw [List.map_append, List.map_cons] at D
    rw [List.map_append]
    exact List.Nodup.sublist (List.Sublist.append (List.Sublist.refl _) (List.sublist_cons_self _ _)) D
  · have hne : a ≠ it := fun q => by subst q; rw [hn] at ha; cases ha
    have z := r.at_ a ob (le _ _ ha)
    cases ob with
    | list vs => obtain ⟨its, n, m, r⟩ := z; exact ⟨its, n, sub _ _ m hne, r⟩
    | flist vs => obtain ⟨its, n, m, r⟩ := z; exact ⟨its, n, sub _ _ m hne, r⟩
    | tup vs => obtain ⟨its, n, m, r⟩ := z; exact ⟨its, n, sub _ _ m hne, r⟩
    | dict kv => obtain ⟨x, kvs, m, r⟩ := z; exact ⟨x, kvs, sub _ _ m hne, r⟩
    | inst C fs =>
      obtain ⟨es, n, sl, m1, m2, fr⟩ := z
      refine ⟨es, n, sl, sub _ _ m1 hne, sub _ _ m2 fun q => ?_, fr⟩
      have := r.off a C fs (le _ _ ha)
      rw [q, HL.set_self] at this; cases this
    | raw ob => exact sub _ _ z hne
    | cell v => cases v with
      | none => obtain ⟨x, m, r⟩ := z; exact ⟨x, sub _ _ m hne, r⟩
      | some v => obtain ⟨u, x, m, r⟩ := z; exact ⟨u, x, sub _ _ m hne, r⟩
  · have := r.off a C fs (le _ _ ha)
    cases q : H (δ a) with
    | none => rfl
    | some o' => rw [le _ _ q] at this; cases this
/-- how a loop's iterator goes: one item a turn -/
structure Iter (X : Cx) (it : Addr) (Keep : HL → Prop) (l : List V) (St : Nat → Obj → Prop) : Prop where
  item : ∀ j x, l[j]? = some x → ∀ o vs H s, St j o → Rel X vs (H.set it (.raw o)) s → H it = none → Keep H → ∀ Q E, (∀ u o' s', VR x u → St (j + 1) o' → Rel X vs (H.set it (.raw o')) s' → Q (some u) s') → wpAny (Md X) X.A (pyNext (.ref it)) Q E s
  stop : ∀ j, l[j]? = none → ∀ o vs H s, St j o → Rel X vs (H.set it (.raw o)) s → H it = none → Keep H → ∀ Q E, (∀ s', Rel X vs H s' → Q none s') → wpAny (Md X) X.A (pyNext (.ref it)) Q E s
theorem forLoop {n : Str} {npos : Pos} {b : List Stmt} {i : Nat} {it : Addr} {Keep : HL → Prop} {l : List V} {St : Nat → Obj → Prop} {R' : Result → Shared → Prop} {o : Obj} (O : X.Ok) (hn : X.ns[i]? = some n) (I : Iter X it Keep l St) (R : Rel X vs (H.set it (.raw o)) s) (hi : H it = none) (h0 : St 0 o) (h : ForL X i b P Keep l vs H)
    (q : ∀ f g vs' H' s', P f vs' H' → FlR f g → Rel X vs' H' s' → R' (.ok g) s') (hlt : ∀ v : Value, letOwnedTupleGo (.Name n npos) (.ref it) v = pure () := by intro _; rfl) : codeAny (Md X) X.A (.forLoop (.Name n npos) (.ref it) b [] X.env) R' s := by
  refine codeAny_forLoop (fun k s => ∃ j o vs H, k = l.length - j ∧ j ≤ l.length ∧ St j o ∧ Rel X vs (H.set it (.raw o)) s ∧ H it = none ∧ ForL X i b P Keep (l.drop j) vs H) (fun k s1 hI => ?_) l.length ⟨0, o, vs, H, rfl, Nat.zero_le _, h0, R, hi, h⟩ hlt
  obtain ⟨j, o, vs1, H1, hk, hj, hS, R1, hi1, h1⟩ := hI
  have kp := h1.keep
  cases e : l[j]? with
  | none =>
    have hd : l.drop j = [] := List.drop_eq_nil_of_le (List.getElem?_eq_none_iff.mp e)
    rw [hd] at h1
    exact I.stop j e o vs1 H1 s1 hS R1 hi1 kp _ _ fun s2 R2 => wpAny_execs_nil (q _ _ _ _ _ h1.2 rfl R2)
  | some x =>
    obtain ⟨hlt', hx⟩ := List.getElem?_eq_some_iff.mp e
    have hd : l.drop j = x :: l.drop (j + 1) := by rw [← hx]; exact List.drop_eq_getElem_cons hlt'
    rw [hd] at h1
    refine I.item j x e o vs1 H1 s1 hS R1 hi1 kp _ _ fun u o' s2 vu hS' R2 => ?_
    refine wpAny_assign_Name (store O R2 hn vu fun s3 R3 => ?_)
    refine h1.2 it o' hi1 O s3 _ _ R3 fun f g vs4 H4 s4 h4 fg R4 => ?_
    cases f with
    | next =>
      obtain rfl : g = .next := fg
      obtain ⟨H5, rfl, hi5, h5⟩ := h4
      exact ⟨l.length - (j + 1), by omega, j + 1, o', vs4, H5, rfl, hlt', hS', R4, hi5, h5⟩
    | cont =>
      obtain rfl : g = .cont := fg
      obtain ⟨H5, rfl, hi5, h5⟩ := h4
      exact ⟨l.length - (j + 1), by omega, j + 1, o', vs4, H5, rfl, hlt', hS', R4, hi5, h5⟩
    | brk => obtain rfl : g = .brk := fg; obtain ⟨H5, le, h5⟩ := h4; exact q _ _ _ _ _ h5 rfl (R4.less le)
    | ret v => obtain ⟨u', rfl, vu'⟩ := fg; obtain ⟨H5, le, h5⟩ := h4; exact q _ _ _ _ _ h5 ⟨u', rfl, vu'⟩ (R4.less le)
/-- for n in a list -/
inductive FLI (X : Cx) (vs : List (Option V)) (i : Nat) (b : List Stmt) (P : Fl → List (Option V) → HL → Prop) (v : V) (H1 : HL) : Prop
  | mk (a : Addr) (l : List V) (e : v = .ref a) (ha : H1 a = some (.list l)) (h : ForL X i b P (fun H' => H' a = some (.list l)) l vs H1)
theorem S.forList {n : Str} {e : Expr} {npos pos : Pos} {b : List Stmt} (i : Nat) (hn : X.ns[i]? = some n) (h : W X vs H e (FLI X vs i b P))
    (hf : ∀ env x, foldedSetIterable e env x = pure x := by intro _ _; rfl) : S X vs H (.For (.Name n npos) e b [] pos) P := fun O s Q E R q => by
  refine wpAny_For (h O s _ _ R fun v u H1 s1 h1 vu R1 => ?_) (hf _)
  obtain ⟨a, l, rfl, ha, hL⟩ := h1
  obtain rfl : u = .ref a := vu
  obtain ⟨m, news, δ, F, N, D, lr, r⟩ := R1.ex
  obtain ⟨its, nn, m1, vr⟩ := r.at_ a _ ha
  refine wpAny_pyIter_list ⟨_, (N _ m1).1, rfl, _, rfl⟩ ?_
  obtain ⟨fr, R2⟩ := R1.make (k := s1.toks) (F.push { cls := .type "list_iterator", data := .fields #[.ref a, .int 0 0] }) (N.push F _) D lr r (fun p hp => Heap.lt_size (N p hp).1) (ob := .raw { cls := .type "list_iterator", data := .fields #[.ref a, .int 0 0] }) (fun news' hm => hm) (fun _ _ h => by cases h)
  refine forLoop (St := fun j o => o.cls = .type "list_iterator" ∧ o.data = .fields #[.ref a, .int j 0]) O hn ⟨fun j x hx o vs H s hS R hi kp Q E q => ?_, fun j hx o vs H s hS R hi kp Q E q => ?_⟩ R2 fr ⟨rfl, rfl⟩ hL (fun f g vs' H' s' hp fg R' => q f g vs' H' s' hp fg R')
  · obtain ⟨m, news, δ, F, N, D, lr, r⟩ := R.ex
    have mi : (s1.heap.objs.size, o) ∈ news := r.at_ _ _ HL.set_self
    obtain ⟨its, nn, m1, vr⟩ := r.at_ a _ (HL.le_set hi _ _ kp)
    obtain ⟨u, hu, vu⟩ := vr.get hx
    refine wpAny_pyNext_list_item ⟨o, (N _ mi).1, hS.1, hS.2⟩ ⟨_, (N _ m1).1, rfl, _, rfl⟩ (by rw [← Array.getElem?_toList]; exact hu) fun h' hI hs => ?_
    obtain ⟨o', ho', hc', hd'⟩ := hI
    have := R.own (k := s.toks) (ob' := .raw o') F N D lr r mi hs ho' ⟨_, HL.set_self⟩ (fun news' hm => hm) (fun _ _ h => by cases h)
    rw [HL.set_set] at this
    exact q u o' _ vu ⟨hc', hd'⟩ this
  · obtain ⟨m, news, δ, F, N, D, lr, r⟩ := R.ex
    have mi : (s1.heap.objs.size, o) ∈ news := r.at_ _ _ HL.set_self
    obtain ⟨its, nn, m1, vr⟩ := r.at_ a _ (HL.le_set hi _ _ kp)
    refine wpAny_pyNext_list_end O.handled ⟨o, (N _ mi).1, hS.1, hS.2⟩ ⟨_, (N _ m1).1, rfl, _, rfl⟩ (by
      rw [← Array.getElem?_toList]
      have := List.getElem?_eq_none_iff.mp hx
      exact List.getElem?_eq_none_iff.mpr (by rw [← vr.length]; exact this)) fun h' he => q _ (R.gone (k := s.toks) hi he)
end
end Mine
end
section
open PySem PySem.W PyProof.Rows PySem.Calls
set_option maxHeartbeats 1000000
theorem Mine.strInt_ {prog : Program} {w : World} {A : Around} {E : Value → Shared → Prop} {s : Shared} {a : Int} {t : Tok} {Q : Value → Shared → Prop} (h1 : a.natAbs.log2 < 1920) (h2 : Q (.str (Str.ofString (toString a)) s.toks) { s with toks := s.toks + 1 }) : wpAny (model prog w) A (call (.type "str") [.int a t]) Q E s := P.str_of_int h1 h2
namespace Mine
def Le (H H' : HL) : Prop := ∀ a o, H a = some o → H' a = some o ∨ ∃ l, o = .flist l ∧ H' a = some (.list l)
theorem Le.of {H H' : HL} (h : ∀ a o, H a = some o → H' a = some o) : Le H H' := fun a o e => .inl (h a o e)
theorem Le.refl (H : HL) : Le H H := .of fun _ _ e => e
theorem Rel.down {X : Cx} {vs : List (Option V)} {H H' : HL} {s : Shared} (R : Rel X vs H s) (h : Le H' H) : Rel X vs H' s := by
  obtain ⟨m, news, δ, F, N, D, l, r⟩ := R.ex
  have hi : ∀ a C fs, H' a = some (.inst C fs) → H a = some (.inst C fs) := fun a C fs e => by
    rcases h a _ e with g | ⟨_, q, _⟩
    · exact g
    · cases q
  refine ⟨⟨m, news, δ, F, N, D, l, ⟨fun a o e => ?_, fun a b C D fs gs ea eb => r.inj a b C D fs gs (hi _ _ _ ea) (hi _ _ _ eb), fun a C fs ea => ?_⟩⟩, R.gens, R.os⟩
  · rcases h a o e with g | ⟨l, rfl, g⟩
    · exact r.at_ a o g
    · have z := r.at_ a _ g; exact z
  · cases q : H' (δ a) with
    | none => rfl
    | some o => have z := r.off a C fs (hi _ _ _ ea); rcases h _ _ q with g | ⟨_, _, g⟩ <;> (rw [z] at g; cases g)
theorem Fn.less {k : Nat} {f : Addr} {args : List V} {H : HL} {P : V → HL → Prop} (h : Fn k f args H fun v H' => ∃ H'', Le H'' H' ∧ P v H'') : Fn k f args H P :=
  fun X vs O hd s us R r vr q => h X vs O hd s us R r vr fun v u H' s' ⟨H'', le, p⟩ vu R' => q v u H'' s' p vu (R'.down le)
/-- what a call of a built-in does -/
def CB (X : Cx) (vs : List (Option V)) (H : HL) (f : Value) (l : List V) (P : V → HL → Prop) : Prop :=
  X.Ok → ∀ (s : Shared) (us : List Value) (Q E : Value → Shared → Prop), Rel X vs H s → VRs l us → (∀ v u H' s', P v H' → VR v u → Rel X vs H' s' → Q u s') → wpAny (Md X) X.A (call f us) Q E s
theorem KVR.at_ : ∀ {l : List (Str × V)} {r : List (Str × Value)} {j : Nat} {f : Str × V}, KVR l r → l[j]? = some f → ∃ e, r[j]? = some e ∧ f.1 = e.1 ∧ VR f.2 e.2
  | f :: l, e :: r, 0, _, ⟨h1, h⟩, g => ⟨e, rfl, by rw [List.getElem?_cons_zero] at g; cases g; exact h1⟩
  | f :: l, e :: r, j + 1, _, ⟨h1, h⟩, g => by
    rw [List.getElem?_cons_succ] at g
    obtain ⟨x, hx, y⟩ := KVR.at_ h g
    exact ⟨x, by rw [List.getElem?_cons_succ]; exact hx, y⟩
section
variable {X : Cx} {vs : List (Option V)} {H : HL} {s : Shared} {P : V → HL → Prop}
theorem B.less {H' : HL} {b : List Stmt} {P : Fl → List (Option V) → HL → Prop} (le : Le H' H) (h : B X vs H' b P) : B X vs H b P := fun O s Q E R q => h O s Q E (R.down le) q
theorem W.less {H' : HL} {e : Expr} (le : Le H' H) (h : W X vs H' e P) : W X vs H e P := fun O s Q E R q => h O s Q E (R.down le) q
theorem W.mono {e : Expr} {P' : V → HL → Prop} (h : W X vs H e P') (hp : ∀ v H', P' v H' → P v H') : W X vs H e P := fun O s Q E R q => h O s Q E R fun v u H' s' p => q v u H' s' (hp v H' p)
theorem B.mono {b : List Stmt} {P P' : Fl → List (Option V) → HL → Prop} (h : B X vs H b P') (hp : ∀ f l H', P' f l H' → P f l H') : B X vs H b P := fun O s Q E R q => h O s Q E R fun f g l H' s' p => q f g l H' s' (hp f l H' p)
theorem S.mono {b : Stmt} {P P' : Fl → List (Option V) → HL → Prop} (h : S X vs H b P') (hp : ∀ f l H', P' f l H' → P f l H') : S X vs H b P := fun O s Q E R q => h O s Q E R fun f g l H' s' p => q f g l H' s' (hp f l H' p)
/-- a cell's variable -/
theorem W.cvar {n : Str} {pos : Pos} {c : Addr} {v : V} (hk : X.env.kindOf n = some .cell) (hc : X.env.cells.lookup n = some c) (hd : (n == ("__debug__" : Str)) = false) (hv : H c = some (.cell (some v))) (h : P v H) : W X vs H (.Name n pos) P := fun O s Q E R q => by
  obtain ⟨m, news, δ, F, N, D, l, r⟩ := R.ex
  obtain ⟨u, ob, hm, ho, vu⟩ := r.at_ c _ hv
  exact wpAny_Name (wpAny_loadName_cell O.fn hk hc ⟨ob, (N _ hm).1, ho⟩ (q _ _ _ _ h vu R)) hd
theorem storeC {n : Str} {c : Addr} {x : Option V} {v : V} {u : Value} {Q : Unit → Shared → Prop} {E : Value → Shared → Prop} (O : X.Ok) (R : Rel X vs H s) (hk : X.env.kindOf n = some .cell) (hc : X.env.cells.lookup n = some c) (hx : H c = some (.cell x)) (hv : VR v u)
    (q : ∀ s', Rel X vs (H.set c (.cell (some v))) s' → Q () s') : wpAny (Md X) X.A (storeName X.env n u) Q E s := by
  obtain ⟨m, news, δ, F, N, D, l, r⟩ := R.ex
  have : ∃ x' ob, (c, ob) ∈ news ∧ ob.data = .cell x' := by
    have z := r.at_ c _ hx
    cases x with
    | none => obtain ⟨ob, hm, ho⟩ := z; exact ⟨_, ob, hm, ho⟩
    | some x => obtain ⟨u, ob, hm, ho, _⟩ := z; exact ⟨_, ob, hm, ho⟩
  obtain ⟨x', ob, hm, ho⟩ := this
  refine wpAny_storeName_cell O.fn hk hc ⟨ob, (N _ hm).1, ho⟩ fun h' hv' hs => ?_
  obtain ⟨o', ho', hd'⟩ := hv'
  exact q _ (R.own (k := s.toks) F N D l r hm hs ho' ⟨_, hx⟩ (fun news' hm' => ⟨u, o', hm', hd', hv⟩) fun _ _ h => by cases h)
theorem S.assignC {n : Str} {e : Expr} {pos pos' : Pos} {c : Addr} {P : Fl → List (Option V) → HL → Prop} (hk : X.env.kindOf n = some .cell) (hc : X.env.cells.lookup n = some c) (h : W X vs H e fun v H1 => ∃ x, H1 c = some (.cell x) ∧ P .next vs (H1.set c (.cell (some v)))) (hs : ∀ env, swapsWith e (some (.Name n pos')) pos.line env = pure false := by intro _; rfl) : S X vs H (.Assign [.Name n pos'] e pos) P :=
  fun O s Q E R q => wpAny_Assign_Name (h O s _ _ R fun v u H1 s1 h1 vu R1 => by
    obtain ⟨x, hx, hp⟩ := h1
    exact storeC O R1 hk hc hx vu fun s' R' => q _ _ _ _ _ hp rfl R') (hs _)
structure GB (w : World) (n : Str) (v : Value) : Prop where
  ns : nsIn (K w.params) mainGlobals n = some none
  boot : bootBuiltins n = some v
  ne : n ≠ "__name__"
theorem globB {n : Str} {pos : Pos} {v : Value} {Q E : Value → Shared → Prop} (i : Nat) (hi : X.gs[i]? = some n) (g : GB X.w n v) (O : X.Ok) (R : Rel X vs H s) (h : Q v s) : wpAny (Md X) X.A (eval (.Name n pos) X.env) Q E s := by
  obtain ⟨m, news, δ, F, N, D, l, r⟩ := R.ex
  obtain ⟨mg, mb, TR⟩ := O.good.top
  exact Name_function_global O.fn (O.glob n (List.mem_of_getElem? hi)).1 (loadGlobal_builtin (env := X.env) (by rw [O.globals]; exact TR.g.keeps F.keep) (mg_none_of O.good.K TR.g g.ns) (by rw [O.builtins]; exact TR.b.keeps F.keep) ((TR.builtins n g.ne).trans g.boot) h) (O.glob n (List.mem_of_getElem? hi)).2
abbrev CBA (X : Cx) (vs : List (Option V)) (f : Value) (P : V → HL → Prop) : List V → HL → Prop := fun l H1 => CB X vs H1 f l P
theorem W.bcall {n : Str} {npos pos : Pos} {e : Expr} {rest : List Expr} {id : String} (i : Nat) (hi : X.gs[i]? = some n) (g : GB X.w n (.builtin id)) (h : WA X vs H pos (e :: rest) (CBA X vs (.builtin id) P))
    (he : ∀ env, starEach (e :: rest) env = (false, eval e env) :: starEach rest env := by intro _; rfl) (hp : ∀ env, (backTo pos (starEach rest env)).any (·.1) = false := by intro _; rfl) : W X vs H ((Expr.Name n npos).Call (e :: rest) [] pos) P := fun O s Q E R q =>
  Call_ (globB i hi g O R (callWith_builtin1 (h O s _ _ R fun l us H1 s1 h1 vr R1 => h1 O s1 us _ _ R1 vr q) (he _) (hp _)))
theorem W.tcall {n : Str} {npos pos : Pos} {e : Expr} {rest : List Expr} {id : String} (i : Nat) (hi : X.gs[i]? = some n) (g : GB X.w n (.type id)) (h : WA X vs H pos (e :: rest) (CBA X vs (.type id) P))
    (he : ∀ env, starEach (e :: rest) env = (false, eval e env) :: starEach rest env := by intro _; rfl) (hp : ∀ env, (backTo pos (starEach rest env)).any (·.1) = false := by intro _; rfl) : W X vs H ((Expr.Name n npos).Call (e :: rest) [] pos) P := fun O s Q E R q =>
  Call_ (globB i hi g O R (Pv.callWith_type1 (h O s _ _ R fun l us H1 s1 h1 vr R1 => h1 O s1 us _ _ R1 vr q) (he _) (hp _)))
theorem isListAt {m : Str → Option Value} {news : List (Addr × Obj)} {δ : Addr → Addr} {a : Addr} {l : List V} (N : News X.h₀ X.L s.heap news) (r : HR X.w δ H news) (ha : H a = some (.list l)) : ∃ us n, (a, listOf us.toArray n) ∈ news ∧ VRs l us ∧ s.heap.IsList a us.toArray ∧ s.heap.get? a = some (listOf us.toArray n) := by
  obtain ⟨its, n, m1, vr⟩ := r.at_ a _ ha
  refine ⟨its.toList, n, by rwa [Array.toArray_toList], vr, ⟨_, (N _ m1).1, rfl, n, by rw [Array.toArray_toList]⟩, by rw [Array.toArray_toList]; exact (N _ m1).1⟩
theorem CB.lenStr {x : Str} (hl : x.length ≤ 10000) (h : P (.int x.length) H) : CB X vs H (.builtin "len") [.str x] P := fun O s us Q E R vr q => by
  obtain ⟨u, rfl, t, rfl⟩ := vrs1 vr
  exact SBL.len (Int.lt_of_le_of_lt (Int.ofNat_le.mpr hl) (by decide)) (q _ _ _ _ h ⟨_, rfl⟩ (R.toks _))
theorem CB.lenList {a : Addr} {l : List V} (ha : H a = some (.list l)) (hl : l.length ≤ 10000) (h : P (.int l.length) H) : CB X vs H (.builtin "len") [.ref a] P := fun O s us Q E R vr q => by
  obtain ⟨u, rfl, hu⟩ := vrs1 vr
  obtain rfl : u = .ref a := hu
  obtain ⟨m, news, δ, F, N, D, lr, r⟩ := R.ex
  obtain ⟨us, n, m1, vr', hL, hg⟩ := isListAt (m := m) N r ha
  have e : us.toArray.size = l.length := by rw [List.size_toArray, vr'.length]
  rw [← e] at h
  exact call_len_list hL (by rw [e]; exact Int.lt_of_le_of_lt (Int.ofNat_le.mpr hl) (by decide)) (q _ _ _ _ h ⟨_, rfl⟩ (R.toks _))
theorem CB.strInt {i : Int} (hi : i.natAbs.log2 < 1920) (h : P (.str (Str.ofString (toString i))) H) : CB X vs H (.type "str") [.int i] P := fun O s us Q E R vr q => by
  obtain ⟨u, rfl, t, rfl⟩ := vrs1 vr
  exact strInt_ hi (q _ _ _ _ h ⟨_, rfl⟩ (R.toks _))
theorem CB.abs {i : Int} (h : P (.int (if i < 0 then -i else i)) H) : CB X vs H (.builtin "abs") [.int i] P := fun O s us Q E R vr q => by
  obtain ⟨u, rfl, t, rfl⟩ := vrs1 vr
  exact call_abs_int fun u k => q _ _ _ _ h ⟨_, rfl⟩ (R.toks _)
theorem CB.max2 {i j : Int} (h : P (.int (if j > i then j else i)) H) : CB X vs H (.builtin "max") [.int i, .int j] P := fun O s us Q E R vr q => by
  obtain ⟨u, w, rfl, ⟨t, rfl⟩, ⟨t', rfl⟩⟩ := vrs2 vr
  obtain ⟨m, news, δ, F, N, D, lr, r⟩ := R.ex
  exact max_two_N O.handled F N fun h' tk F' N' => q _ _ _ _ h ⟨_, rfl⟩ ⟨⟨m, news, δ, F', N', D, lr, r⟩, R.gens, R.os⟩
theorem intsAre : ∀ {ns : List Int} {us : List Value}, VRs (ns.map V.int) us → IntsAre us ns
  | [], [], _ => .nil
  | _ :: _, _ :: _, ⟨⟨t, e⟩, h⟩ => by subst e; exact .cons _ _ (intsAre h)
theorem vrsInts : ∀ {ns : List Int} {us : List Value}, IntsAre us ns → VRs (ns.map V.int) us
  | _, _, .nil => trivial
  | _, _, .cons _ _ h => ⟨⟨_, rfl⟩, vrsInts h⟩
theorem CB.maxList {a : Addr} {ns : List Int} (ha : H a = some (.list (ns.map V.int))) (hne : 0 < ns.length) (h : ∀ M, M ∈ ns → (∀ x ∈ ns, x ≤ M) → P (.int M) H) : CB X vs H (.builtin "max") [.ref a] P := fun O s us Q E R vr q => by
  obtain ⟨u, rfl, hu⟩ := vrs1 vr
  obtain rfl : u = .ref a := hu
  obtain ⟨m, news, δ, F, N, D, lr, r⟩ := R.ex
  obtain ⟨us, n, m1, vr', hL, hg⟩ := isListAt (m := m) N r ha
  exact kso_max F N hL (intsAre vr') hne O.handled fun h' M t tk F' N' hM hA => q _ _ _ _ (h M hM hA) ⟨_, rfl⟩ ⟨⟨m, news, δ, F', N', D, lr, r⟩, R.gens, R.os⟩
theorem CB.sortedInts {a : Addr} {ns : List Int} (ha : H a = some (.list (ns.map V.int))) (hl : ns.length < 64) (h : ∀ d (ns' : List Int), H d = Option.none → ns'.Perm ns → ns'.Pairwise (· ≤ ·) → P (.ref d) (H.set d (.list (ns'.map V.int)))) : CB X vs H (.builtin "sorted") [.ref a] P := fun O s us Q E R vr q => by
  obtain ⟨u, rfl, hu⟩ := vrs1 vr
  obtain rfl : u = .ref a := hu
  obtain ⟨m, news, δ, F, N, D, lr, r⟩ := R.ex
  obtain ⟨us, n, m1, vr', hL, hg⟩ := isListAt (m := m) N r ha
  refine kso_sorted F N hL (intsAre vr') hl fun d vs' ns' c h' F' N' hf hi _ hp ho _ => ?_
  obtain ⟨fr, R2⟩ := R.make (k := s.toks) F' N' D lr r hf (ob := .list (ns'.map V.int)) (fun news' hm => ⟨_, _, hm, by simpa using vrsInts hi⟩) (fun _ _ h => by cases h)
  exact q _ _ _ _ (h d ns' fr hp ho) rfl R2
theorem strsAre : ∀ {ns : List Str} {us : List Value}, VRs (ns.map V.str) us → StrsAre us ns
  | [], [], _ => .nil
  | _ :: _, _ :: _, ⟨⟨t, e⟩, h⟩ => by subst e; exact .cons _ _ (strsAre h)
theorem vrsStrs : ∀ {ns : List Str} {us : List Value}, StrsAre us ns → VRs (ns.map V.str) us
  | _, _, .nil => trivial
  | _, _, .cons _ _ h => ⟨⟨_, rfl⟩, vrsStrs h⟩
theorem CB.sortedStrs {a : Addr} {ns : List Str} (ha : H a = some (.list (ns.map V.str))) (hl : ns.length < 64) (h : ∀ d (ns' : List Str), H d = Option.none → ns'.Perm ns → sortedS ns' = true → P (.ref d) (H.set d (.list (ns'.map V.str)))) : CB X vs H (.builtin "sorted") [.ref a] P := fun O s us Q E R vr q => by
  obtain ⟨u, rfl, hu⟩ := vrs1 vr
  obtain rfl : u = .ref a := hu
  obtain ⟨m, news, δ, F, N, D, lr, r⟩ := R.ex
  obtain ⟨us, n, m1, vr', hL, hg⟩ := isListAt (m := m) N r ha
  refine sorted_N_str F N hL (strsAre vr') (by have := vr'.length; rw [List.length_map] at this; omega) fun h' vs' ns' c F' N' hi hp ho => ?_
  obtain ⟨fr, R2⟩ := R.make (k := s.toks) F' N' D lr r (fun p hp => Nat.lt_succ_of_lt (Heap.lt_size (N p hp).1)) (ob := .list (ns'.map V.str)) (fun news' hm => ⟨_, _, hm, by simpa using vrsStrs hi⟩) (fun _ _ h => by cases h)
  exact q _ _ _ _ (h _ ns' fr hp ho) rfl R2
theorem CB.listList {a : Addr} {l : List V} (ha : H a = some (.list l)) (hl : l.length ≤ 10000) (h : ∀ d, H d = Option.none → P (.ref d) (H.set d (.list l))) : CB X vs H (.type "list") [.ref a] P := fun O s us Q E R vr q => by
  obtain ⟨u, rfl, hu⟩ := vrs1 vr
  obtain rfl : u = .ref a := hu
  obtain ⟨m, news, δ, F, N, D, lr, r⟩ := R.ex
  obtain ⟨us, n, m1, vr', hL, hg⟩ := isListAt (m := m) N r ha
  refine list_copyK F N hL (fun d c h' F' N' hf => ?_) (by rw [List.size_toArray, ← vr'.length, sizeLine_eq]; omega)
  obtain ⟨fr, R2⟩ := R.make (k := s.toks) F' N' D lr r hf (ob := .list l) (fun news' hm => ⟨_, _, hm, vr'⟩) (fun _ _ h => by cases h)
  exact q _ _ _ _ (h d fr) rfl R2
/-- for x in range(n) -/
theorem S.forRange {x n : Str} {arg : Expr} {npos rpos pos rp : Pos} {b : List Stmt} {P : Fl → List (Option V) → HL → Prop} (i j : Nat) (hn : X.ns[i]? = some x) (hj : X.gs[j]? = some n) (g : GB X.w n (.type "range"))
    (h : W X vs H arg fun v H1 => ∃ k : Nat, v = .int k ∧ k ≤ 10000 ∧ ForL X i b P (fun _ => True) ((List.range k).map fun (t : Nat) => V.int (t : Int)) vs H1)
    (hf : ∀ env x, foldedSetIterable ((Expr.Name n rpos).Call [arg] [] rp) env x = pure x := by intro _ _; rfl) (he : ∀ env, starEach [arg] env = (false, eval arg env) :: starEach [] env := by intro _; rfl) : S X vs H (.For (.Name x npos) ((Expr.Name n rpos).Call [arg] [] rp) b [] pos) P := fun O s Q E R q => by
  refine wpAny_For (Call_ (globB j hj g O R (Pv.callWith_type1 (spliced_more (h O s _ _ R fun v u H1 s1 h1 vu R1 => spliced_none ?_) (he _)) (he _) rfl))) (hf _)
  obtain ⟨k, rfl, hk, hL⟩ := h1
  obtain ⟨t, rfl⟩ := vu
  obtain ⟨m, news, δ, F, N, D, lr, r⟩ := R1.ex
  refine range1_rows F N fun h' tk t₁ u₁ v₁ hr F' N' _ => ?_
  have hsm : Builtin.Range.small 0 (k : Int) 1 = true := small_one (by decide) (by decide) (by omega) (by omega)
  have hsz : Builtin.Range.rangeSize 0 (k : Int) 1 = k := by rw [rangeSize_one]; split <;> omega
  refine wpAny_pyIter_range hr hsm ?_
  have R1' : Rel X vs H1 { s1 with heap := h', toks := tk } := ⟨⟨m, news, δ, F', N', D, lr, r⟩, R1.gens, R1.os⟩
  obtain ⟨fr, R2⟩ := R1'.make (k := tk) (F'.push { cls := .type "range_iterator", data := .fields #[rawInt 0, rawInt (Builtin.Range.rangeSize 0 k 1), rawInt 1] }) (N'.push F' _) D lr r (fun p hp => Heap.lt_size (N' p hp).1) (ob := .raw { cls := .type "range_iterator", data := .fields #[rawInt 0, rawInt (Builtin.Range.rangeSize 0 k 1), rawInt 1] }) (fun news' hm => hm) (fun _ _ h => by cases h)
  refine forLoop (St := fun j o => o = { cls := .type "range_iterator", data := .fields #[rawInt (j : Int), rawInt ((k : Int) - j), rawInt 1] }) (Keep := fun _ => True) (l := (List.range k).map fun (t : Nat) => V.int (t : Int)) O hn ⟨fun j x hx o vs H s hS R hi kp Q E q => ?_, fun j hx o vs H s hS R hi kp Q E q => ?_⟩ R2 fr (by rw [hsz]; simp) hL (fun f g vs' H' s' hp fg R' => q f g vs' H' s' hp fg R')
  · subst hS
    obtain ⟨m, news, δ, F, N, D, lr, r⟩ := R.ex
    have mi := r.at_ _ _ HL.set_self
    have hlt : j < k := by
      have := (List.getElem?_eq_some_iff.mp hx).1
      simpa using this
    have hxv : x = V.int (j : Int) := by
      rw [List.getElem?_map, List.getElem?_range hlt] at hx
      exact (Option.some.inj hx).symm
    subst hxv
    refine wpAny_pyNext_range_item (N _ mi).1 (by omega) fun h' ho' hs => ?_
    have := R.own (k := s.toks + 1) (ob' := .raw _) F N D lr r mi hs ho' ⟨_, HL.set_self⟩ (fun news' hm => hm) (fun _ _ h => by cases h)
    rw [HL.set_set] at this
    exact q _ _ _ ⟨_, rfl⟩ (by simp only [Int.natCast_add, Int.natCast_one, Int.sub_sub]) this
  · subst hS
    obtain ⟨m, news, δ, F, N, D, lr, r⟩ := R.ex
    have mi := r.at_ _ _ HL.set_self
    have hge : k ≤ j := by
      have := List.getElem?_eq_none_iff.mp hx
      simpa using this
    exact wpAny_pyNext_range_end O.handled (N _ mi).1 (by omega) fun h' he => q _ (R.gone (k := s.toks) hi he)
theorem Rel.view {a : Addr} {x ob : O} (R : Rel X vs H s) (ha : H a = some x) (hOR : ∀ δ news, News X.h₀ X.L s.heap news → OR X.w δ news a x → OR X.w δ news a ob) (hi : ∀ C fs, ob ≠ .inst C fs) : Rel X vs (H.set a ob) s := by
  obtain ⟨m, news, δ, F, N, D, l, r⟩ := R.ex
  have z := r.at_ a _ ha
  obtain ⟨o, hm⟩ := z.at_
  have zo := hOR δ news N z
  obtain ⟨pre, post, rfl, _, _, _⟩ := upd_of_mem o D hm
  exact ⟨⟨m, _, δ, F, N, D, l, r.turn ⟨_, ha⟩ zo fun C fs q => absurd q (hi C fs)⟩, R.gens, R.os⟩
theorem strKey {w : World} {k : Str} {v : Value} (h : (PySem.strKind pw w).is k v = true) : ∃ t, v = .str k t := by
  obtain ⟨t, rfl⟩ := Value.isStrOf_shape h; exact ⟨t, rfl⟩
/-- for x in a dict -/
theorem S.forDict {n : Str} {e : Expr} {npos pos : Pos} {b : List Stmt} {P : Fl → List (Option V) → HL → Prop} (i : Nat) (hn : X.ns[i]? = some n) (h : W X vs H e fun v H1 => ∃ d kv, v = .ref d ∧ H1 d = some (.dict kv) ∧ ∀ od, ForL X i b (fun f vs' H' => ∃ H'' : HL, H' = H''.set d (.raw od) ∧ P f vs' (H''.set d (.dict kv))) (fun H' => H' d = some (.raw od)) (kv.map fun f => V.str f.1) vs (H1.set d (.raw od)))
    (hf : ∀ env x, foldedSetIterable e env x = pure x := by intro _ _; rfl) : S X vs H (.For (.Name n npos) e b [] pos) P := fun O s Q E R q => by
  refine wpAny_For (h O s _ _ R fun v u H1 s1 h1 vu R1 => ?_) (hf _)
  obtain ⟨d, kv, rfl, hd, hL⟩ := h1
  obtain rfl : u = .ref d := vu
  obtain ⟨m, news, δ, F, N, D, lr, r⟩ := R1.ex
  obtain ⟨od, kvs, m1, hsm, ho, kr, hD⟩ := isDict (m := m) N r hd
  obtain ⟨es, ep, hX, hdt, hk, hpr, hnd⟩ := id ho
  have hAt : ∀ {h : Heap}, h.get? d = some od → h.DictAt (PySem.strKind pw X.w) d kvs ep := fun g => ⟨od, es, g, hX, hdt, hk, hpr, hnd⟩
  have Rf : Rel X vs (H1.set d (.raw od)) s1 := R1.view hd (fun δ news N' z => by
    obtain ⟨o', _, m', _⟩ := z
    have := (N' _ m').1
    rw [(N _ m1).1] at this
    cases this
    exact m') fun _ _ h => by cases h
  refine wpAny_pyIter_dict hsm (hAt (N _ m1).1) ?_
  obtain ⟨m, news, δ, F, N, D, lr, r⟩ := Rf.ex
  obtain ⟨fr, R2⟩ := Rf.make (k := s1.toks) (F.push { cls := .type "dict_keyiterator", data := .fields #[.ref d, .int 0 0, .int kvs.length 0, .int ep 0] }) (N.push F _) D lr r (fun p hp => Heap.lt_size (N p hp).1) (ob := .raw { cls := .type "dict_keyiterator", data := .fields #[.ref d, .int 0 0, .int kvs.length 0, .int ep 0] }) (fun news' hm => hm) (fun _ _ h => by cases h)
  refine forLoop (St := fun j o => o.cls = .type "dict_keyiterator" ∧ o.data = .fields #[.ref d, .int j 0, .int kvs.length 0, .int ep 0]) O hn ⟨fun j x hx o vs H s hS R hi kp Q E q => ?_, fun j hx o vs H s hS R hi kp Q E q => ?_⟩ R2 fr ⟨rfl, rfl⟩ (hL od) (fun f g vs' H' s' hp fg R' => ?_)
  · obtain ⟨m, news, δ, F, N, D, lr, r⟩ := R.ex
    have mi := r.at_ _ _ HL.set_self
    have md := r.at_ d _ (HL.le_set hi _ _ kp)
    rw [List.getElem?_map] at hx
    cases hj : kv[j]? with
    | none => rw [hj] at hx; cases hx
    | some f =>
      rw [hj] at hx
      cases hx
      obtain ⟨e, he, e1, _⟩ := KVR.at_ kr hj
      refine wpAny_pyNext_dict_item (k := e.1) (v := e.2) ⟨o, (N _ mi).1, hS.1, hS.2⟩ (hAt (N _ md).1) he fun key h' hkey hI hs => ?_
      obtain ⟨t, rfl⟩ := strKey hkey
      obtain ⟨o', ho', hc', hd'⟩ := hI
      have := R.own (k := s.toks) (ob' := .raw o') F N D lr r mi hs ho' ⟨_, HL.set_self⟩ (fun news' hm => hm) (fun _ _ h => by cases h)
      rw [HL.set_set] at this
      exact q _ o' _ ⟨t, by rw [e1]⟩ ⟨hc', hd'⟩ this
  · obtain ⟨m, news, δ, F, N, D, lr, r⟩ := R.ex
    have mi := r.at_ _ _ HL.set_self
    have md := r.at_ d _ (HL.le_set hi _ _ kp)
    refine wpAny_pyNext_dict_end O.handled ⟨o, (N _ mi).1, hS.1, hS.2⟩ (hAt (N _ md).1) (List.getElem?_eq_none_iff.mpr ?_) fun h' he => q _ (R.gone (k := s.toks) hi he)
    have := List.getElem?_eq_none_iff.mp hx
    rw [List.length_map, kr.length] at this
    exact this
  · obtain ⟨H'', rfl, hp⟩ := hp
    have := R'.view HL.set_self (ob := .dict kv) (fun δ news _ z => ⟨od, kvs, z, hsm, ho, kr⟩) fun _ _ h => by cases h
    rw [HL.set_set] at this
    exact q f g vs' _ s' hp fg this
end
end Mine
end
section
open PySem PySem.W PyProof.Rows PySem.Calls
set_option maxHeartbeats 1000000
namespace Mine
def lslice (l : List V) (lo hi : Option Int) : List V := ((sliceRange (sliceBounds lo hi none l.length).1 (sliceBounds lo hi none l.length).2.1 (sliceBounds lo hi none l.length).2.2).filterMap (l[·]?))
theorem VRs.pick {l : List V} {us : List Value} (h : VRs l us) : ∀ (is : List Nat), VRs (is.filterMap (l[·]?)) (is.filterMap (us[·]?))
  | [] => trivial
  | i :: is => by
    rw [List.filterMap_cons, List.filterMap_cons]
    cases e : l[i]? with
    | none =>
      have : us[i]? = Option.none := List.getElem?_eq_none_iff.mpr (by rw [← h.length]; exact List.getElem?_eq_none_iff.mp e)
      rw [this]; exact VRs.pick h is
    | some v => obtain ⟨u, hu, vu⟩ := h.get e; rw [hu]; exact ⟨vu, VRs.pick h is⟩
theorem VRs.slice {l : List V} {us : List Value} (h : VRs l us) (lo hi : Option Int) : VRs (lslice l lo hi) (slicePick us.toArray lo hi none).toList := by
  unfold lslice slicePick
  rw [h.length]
  simpa using h.pick _
def Sto (X : Cx) (vs : List (Option V)) (H : HL) (n : Str) (v : V) (P : List (Option V) → HL → Prop) : Prop :=
  X.Ok → ∀ (s : Shared) (u : Value) (Q : Unit → Shared → Prop) (E : Value → Shared → Prop), Rel X vs H s → VR v u → (∀ vs' H' s', P vs' H' → Rel X vs' H' s' → Q () s') → wpAny (Md X) X.A (storeName X.env n u) Q E s
section
variable {X : Cx} {vs : List (Option V)} {H : HL} {s : Shared} {P : V → HL → Prop}
theorem Sto.loc {n : Str} {v : V} {P : List (Option V) → HL → Prop} (i : Nat) (hn : X.ns[i]? = some n) (h : P (vs.set i (some v)) H) : Sto X vs H n v P := fun O s u Q E R vu q => store O R hn vu fun s' R' => q _ _ _ h R'
theorem Sto.cell {n : Str} {c : Addr} {x : Option V} {v : V} {P : List (Option V) → HL → Prop} (hk : X.env.kindOf n = some .cell) (hc : X.env.cells.lookup n = some c) (hx : H c = some (.cell x)) (h : P vs (H.set c (.cell (some v)))) : Sto X vs H n v P := fun O s u Q E R vu q => storeC O R hk hc hx vu fun s' R' => q _ _ _ h R'
/-- operands as values -/
theorem W.op1 {op : BoolOp} {e : Expr} {pos : Pos} (h : W X vs H e P) : W X vs H (.BoolOp op [e] pos) P := fun O s Q E R q => BoolOp_one (h O s Q E R q)
theorem W.and {e₁ e₂ : Expr} {rest : List Expr} {pos : Pos} (h : W X vs H e₁ fun v H1 => ∃ b, v = .bool b ∧ if b = true then W X vs H1 (.BoolOp .And (e₂ :: rest) pos) P else P (.bool false) H1) : W X vs H (.BoolOp .And (e₁ :: e₂ :: rest) pos) P := fun O s Q E R q =>
  BoolOp_and (h O s _ _ R fun v u H1 s1 h1 vu R1 => by
    obtain ⟨b, rfl, h1⟩ := h1
    obtain rfl : u = .bool b := vu
    refine wpAny_truthy_bool ?_
    cases b
    · rw [if_neg (by decide)] at h1 ⊢; exact q _ _ _ _ h1 rfl R1
    · rw [if_pos rfl] at h1 ⊢; exact h1 O s1 _ _ R1 q)
theorem W.or {e₁ e₂ : Expr} {rest : List Expr} {pos : Pos} (h : W X vs H e₁ fun v H1 => ∃ b, v = .bool b ∧ if b = true then P (.bool true) H1 else W X vs H1 (.BoolOp .Or (e₂ :: rest) pos) P) : W X vs H (.BoolOp .Or (e₁ :: e₂ :: rest) pos) P := fun O s Q E R q =>
  BoolOp_or (h O s _ _ R fun v u H1 s1 h1 vu R1 => by
    obtain ⟨b, rfl, h1⟩ := h1
    obtain rfl : u = .bool b := vu
    refine wpAny_truthy_bool ?_
    cases b
    · rw [if_neg (by decide)] at h1 ⊢; exact h1 O s1 _ _ R1 q
    · rw [if_pos rfl] at h1 ⊢; exact q _ _ _ _ h1 rfl R1)
/-- items -/
theorem W.litem {o e : Expr} {pos : Pos} (h : W X vs H o fun v H1 => W X vs H1 e fun w H2 => ∃ a l k x, v = .ref a ∧ w = .int k ∧ H2 a = some (.list l) ∧ 0 ≤ k ∧ k < 10000 ∧ l[k.toNat]? = some x ∧ P x H2)
    (hs : ∀ d n t, subscripted e false (.ref d) (.int n t) = operate [.ref d, .int n t] (getItem (.ref d) (.int n t)) := by intro _ _ _; with_unfolding_all rfl) : W X vs H (.Subscript o e pos) P := fun O s Q E R q =>
  Subscript_ (h O s _ _ R fun v u H1 s1 h1 vu R1 => h1 O s1 _ _ R1 fun w x H2 s2 h2 wx R2 => by
    obtain ⟨a, l, k, x', rfl, rfl, ha, h0, h1, hx, hp⟩ := h2
    obtain rfl : u = .ref a := vu
    obtain ⟨t, rfl⟩ := wx
    obtain ⟨m, news, δ, F, N, D, lr, r⟩ := R2.ex
    obtain ⟨us, n, m1, vr', hL, hg⟩ := isListAt (m := m) N r ha
    obtain ⟨u, hu, vu⟩ := vr'.get hx
    exact tail_any hL.typeIs list_getitem_lookup (wpAny_getItem_list hL h0 (by omega) (by rw [List.getElem?_toArray]; exact hu) (q _ _ _ _ hp vu R2)) (hs _ _ _))
theorem W.llast {o e : Expr} {pos : Pos} (h : W X vs H o fun v H1 => W X vs H1 e fun w H2 => ∃ a l x, v = .ref a ∧ w = .int (-1) ∧ H2 a = some (.list l) ∧ l.length ≤ 1000 ∧ l.getLast? = some x ∧ P x H2)
    (hs : ∀ d n t, subscripted e false (.ref d) (.int n t) = operate [.ref d, .int n t] (getItem (.ref d) (.int n t)) := by intro _ _ _; with_unfolding_all rfl) : W X vs H (.Subscript o e pos) P := fun O s Q E R q =>
  Subscript_ (h O s _ _ R fun v u H1 s1 h1 vu R1 => h1 O s1 _ _ R1 fun w x H2 s2 h2 wx R2 => by
    obtain ⟨a, l, x', rfl, rfl, ha, hl, hx, hp⟩ := h2
    obtain rfl : u = .ref a := vu
    obtain ⟨t, rfl⟩ := wx
    obtain ⟨m, news, δ, F, N, D, lr, r⟩ := R2.ex
    obtain ⟨us, n, m1, vr', hL, hg⟩ := isListAt (m := m) N r ha
    rw [List.getLast?_eq_getElem?] at hx
    obtain ⟨u, hu, vu⟩ := vr'.get hx
    have hlt := (List.getElem?_eq_some_iff.mp hu).1
    have e := vr'.length
    refine tail_any hL.typeIs list_getitem_lookup (wpAny_getItem_list_neg hL (by omega) (by rw [List.size_toArray]; omega) (by omega) (by rw [List.getElem?_toArray, List.size_toArray, show ((-1 : Int) + us.length).toNat = l.length - 1 by omega]; exact hu) (q _ _ _ _ hp vu R2)) (hs _ _ _))
theorem W.titem {o e : Expr} {pos : Pos} (h : W X vs H o fun v H1 => W X vs H1 e fun w H2 => ∃ a l k x, v = .ref a ∧ w = .int k ∧ H2 a = some (.tup l) ∧ 0 ≤ k ∧ k < 10000 ∧ l[k.toNat]? = some x ∧ P x H2)
    (hs : ∀ d n t, subscripted e false (.ref d) (.int n t) = operate [.ref d, .int n t] (getItem (.ref d) (.int n t)) := by intro _ _ _; with_unfolding_all rfl) : W X vs H (.Subscript o e pos) P := fun O s Q E R q =>
  Subscript_ (h O s _ _ R fun v u H1 s1 h1 vu R1 => h1 O s1 _ _ R1 fun w x H2 s2 h2 wx R2 => by
    obtain ⟨a, l, k, x', rfl, rfl, ha, h0, h1, hx, hp⟩ := h2
    obtain rfl : u = .ref a := vu
    obtain ⟨t, rfl⟩ := wx
    obtain ⟨m, news, δ, F, N, D, lr, r⟩ := R2.ex
    obtain ⟨its, n, m1, vr'⟩ := r.at_ a _ ha
    obtain ⟨u, hu, vu⟩ := vr'.get hx
    have hlt := (List.getElem?_eq_some_iff.mp hu).1
    refine item_tupleT (l := its.toList) (j := k.toNat) ⟨_, (N _ m1).1, rfl, n, by rw [Array.toArray_toList]⟩ (by omega) (by omega) ?_ hu (q _ _ _ _ hp vu R2) (hs _ _ _)
    unfold seqIndex?
    have : (k : Int) < its.toList.length := by omega
    rw [if_neg (show ¬ k < 0 by omega)]
    exact if_pos (by rw [decide_eq_true h0, decide_eq_true this]; rfl))
theorem W.sitem {o e : Expr} {pos : Pos} (h : W X vs H o fun v H1 => W X vs H1 e fun w H2 => ∃ x k, v = .str x ∧ w = .int k ∧ 0 ≤ k ∧ k < x.length ∧ k < 10000 ∧ P (.str (Txt.item x k)) H2)
    (hs : ∀ x t n t', subscripted e false (.str x t) (.int n t') = operate [.str x t, .int n t'] (getItem (.str x t) (.int n t')) := by intro _ _ _ _; with_unfolding_all rfl) (hl : ∀ (o' r : Value), letTemporaryGo o o' r = pure () := by intro _ _; rfl) : W X vs H (.Subscript o e pos) P := fun O s Q E R q =>
  Subscript_ (h O s _ _ R fun v u H1 s1 h1 vu R1 => h1 O s1 _ _ R1 fun w x H2 s2 h2 wx R2 => by
    obtain ⟨x', k, rfl, rfl, h0, h1, h3, hp⟩ := h2
    obtain ⟨t, rfl⟩ := vu
    obtain ⟨t', rfl⟩ := wx
    exact item_str (by unfold fitsSsize; simp; omega) (by omega) h1 (fun _ => q _ _ _ _ hp ⟨_, rfl⟩ (R2.toks _)) (hs _ _ _ _) fun r => hl _ r)
theorem W.sliceList {e : Expr} {lo up : Option Expr} {p pos : Pos} (h : W X vs H e fun v H1 => ∃ a, v = .ref a ∧ Bnd X vs H1 lo fun i H2 => Bnd X vs H2 up fun j H3 => ∃ l, H3 a = some (.list l) ∧ l.length ≤ 1000 ∧ ∀ d, H3 d = Option.none → P (.ref d) (H3.set d (.list (lslice l i j))))
    (hs : ∀ a b, subscripted (.Slice lo up none p) false (.ref a) (.ref b) = operate [.ref b, .ref a] (getItem (.ref a) (.ref b)) := by intro _ _; with_unfolding_all rfl)
    (ht : ∀ (o r : Value), letTemporaryGo e o r = pure () := by intro _ _; rfl) : W X vs H (.Subscript e (.Slice lo up none p) pos) P := fun O s Q E R q => by
  refine Subscript_ (h O s _ _ R fun v u H1 s1 h1 vu R1 => ?_)
  obtain ⟨a, rfl, hb⟩ := h1
  obtain rfl : u = .ref a := vu
  have part : ∀ (o : Option Expr) (s : Shared) (H : HL) (Q' : Value → Shared → Prop) (P' : Option Int → HL → Prop), Bnd X vs H o P' → Rel X vs H s → (∀ i H' s', P' i H' → Rel X vs H' s' → ∀ t, Q' (match i with | Option.none => Value.none | some i => .int i t) s') → wpAny (Md X) X.A (evalPart o X.env) Q' E s := by
    intro o s H Q' P' hb R q'
    cases o with
    | none => exact wpAny_evalPart_none (q' none _ _ hb R 0)
    | some e => exact wpAny_evalPart_some (hb O s _ _ R fun v u H1 s1 h1 vu R1 => by
        obtain ⟨i, rfl, hp⟩ := h1
        obtain ⟨t, rfl⟩ := vu
        exact q' (some i) H1 s1 hp R1 t)
  refine wpAny_Slice (part lo s1 H1 _ _ hb R1 fun i H2 s2 h2 R2 ti => part up s2 H2 _ _ h2 R2 fun j H3 s3 h3 R3 tj => ?_)
  refine wpAny_evalPart_none ?_
  obtain ⟨l, ha, hl, hp⟩ := h3
  obtain ⟨m, news, δ, F, N, D, lr, r⟩ := R3.ex
  obtain ⟨us, n, m1, vr', hL, hg⟩ := isListAt (m := m) N r ha
  refine slice_list (lo := i) (hi := j) F N hL (by cases i <;> constructor) (by cases j <;> constructor) (fun h' F' N' => ?_) (hs _ _) (fun r => ht _ r) (by rw [List.size_toArray, ← vr'.length, sizeLine_eq]; omega)
  obtain ⟨fr, R4⟩ := R3.make (k := s3.toks) F' N' D lr r (fun p hp => Nat.lt_succ_of_lt (Heap.lt_size (N p hp).1)) (ob := .list (lslice l i j)) (fun news' hm => ⟨_, _, hm, vr'.slice i j⟩) (fun _ _ h => by cases h)
  exact q _ _ _ _ (hp _ fr) rfl R4
theorem W.addList {l r : Expr} {pos : Pos} (h : W X vs H l fun a H1 => W X vs H1 r fun b H2 => ∃ x y l1 l2, a = .ref x ∧ b = .ref y ∧ H2 x = some (.list l1) ∧ H2 y = some (.list l2) ∧ l1.length + l2.length ≤ 1000 ∧ ∀ d, H2 d = Option.none → P (.ref d) (H2.set d (.list (l1 ++ l2)))) : W X vs H (.BinOp l .Add r pos) P :=
  fun O s Q E R q => wpAny_BinOp (h O s _ _ R fun a u H1 s1 h1 va R1 => h1 O s1 _ _ R1 fun b w H2 s2 h2 vb R2 => by
    obtain ⟨x, y, l1, l2, rfl, rfl, hx, hy, hl, hp⟩ := h2
    obtain rfl : u = .ref x := va
    obtain rfl : w = .ref y := vb
    obtain ⟨m, news, δ, F, N, D, lr, r⟩ := R2.ex
    obtain ⟨us, n, m1, vr1, hL, _⟩ := isListAt (m := m) N r hx
    obtain ⟨ws, n', m2, vr2, hL', _⟩ := isListAt (m := m) N r hy
    refine add_lists F N hL hL' (fun h' F' N' => ?_) (by rw [← vr1.length, ← vr2.length, sizeLine_eq]; omega)
    obtain ⟨fr, R4⟩ := R2.make (k := s2.toks) F' N' D lr r (fun p hp => Heap.lt_size (N p hp).1) (ob := .list (l1 ++ l2)) (fun news' hm => ⟨_, _, hm, by simpa using vr1.append vr2⟩) (fun _ _ h => by cases h)
    exact q _ _ _ _ (hp _ fr) rfl R4)
theorem VRs.flat {l : List V} {us : List Value} (h : VRs l us) : ∀ n : Nat, VRs (List.replicate n l).flatten (List.foldl (· ++ ·) #[] (List.replicate n us.toArray)).toList := by
  have key : ∀ (n : Nat) (acc : Array Value) (la : List V), VRs la acc.toList → VRs (la ++ (List.replicate n l).flatten) (List.foldl (· ++ ·) acc (List.replicate n us.toArray)).toList := by
    intro n
    induction n with
    | zero => intro acc la ha; simpa using ha
    | succ n ih =>
      intro acc la ha
      rw [List.replicate_succ, List.flatten_cons, List.replicate_succ, List.foldl_cons, ← List.append_assoc]
      exact ih _ _ (by simpa using ha.append h)
  intro n
  simpa using key n #[] [] trivial
theorem W.mulList {l r : Expr} {pos : Pos} (h : W X vs H l fun a H1 => W X vs H1 r fun b H2 => ∃ x l1 k, a = .ref x ∧ b = .int k ∧ H2 x = some (.list l1) ∧ l1.length = 1 ∧ 0 ≤ k ∧ k ≤ 1000 ∧ ∀ d, H2 d = Option.none → P (.ref d) (H2.set d (.list (List.replicate k.toNat l1).flatten))) : W X vs H (.BinOp l .Mult r pos) P :=
  fun O s Q E R q => wpAny_BinOp (h O s _ _ R fun a u H1 s1 h1 va R1 => h1 O s1 _ _ R1 fun b w H2 s2 h2 vb R2 => by
    obtain ⟨x, l1, k, rfl, rfl, hx, hl, h0, hk, hp⟩ := h2
    obtain rfl : u = .ref x := va
    obtain ⟨t, rfl⟩ := vb
    obtain ⟨m, news, δ, F, N, D, lr, r⟩ := R2.ex
    obtain ⟨us, n, m1, vr1, hL, hg⟩ := isListAt (m := m) N r hx
    have hz : us.toArray.size = 1 := by rw [List.size_toArray, ← vr1.length, hl]
    refine mul_list F N hg (by omega) (by omega) (by rw [hz]; omega) fun h' F' N' => ?_
    obtain ⟨fr, R4⟩ := R2.make (k := s2.toks) F' N' D lr r (fun p hp => Heap.lt_size (N p hp).1) (ob := .list (List.replicate k.toNat l1).flatten) (fun news' hm => ⟨_, _, hm, by
      have : us.toArray.isEmpty = false := by rw [Array.isEmpty_eq_false_iff]; intro e; rw [e] at hz; cases hz
      rw [this]
      exact vr1.flat _⟩) (fun _ _ h => by cases h)
    exact q _ _ _ _ (hp _ fr) rfl R4)
/-- for c in a text -/
theorem S.forStr {n : Str} {e : Expr} {npos pos : Pos} {b : List Stmt} {P : Fl → List (Option V) → HL → Prop} (i : Nat) (hn : X.ns[i]? = some n) (h : W X vs H e fun v H1 => ∃ x, v = .str x ∧ x.cps.all (· < 128) = true ∧ ForL X i b P (fun _ => True) (x.cps.toList.map fun c => V.str ⟨#[c]⟩) vs H1)
    (hf : ∀ env x, foldedSetIterable e env x = pure x := by intro _ _; rfl) : S X vs H (.For (.Name n npos) e b [] pos) P := fun O s Q E R q => by
  refine wpAny_For (h O s _ _ R fun v u H1 s1 h1 vu R1 => ?_) (hf _)
  obtain ⟨x, rfl, ha, hL⟩ := h1
  obtain ⟨t, rfl⟩ := vu
  refine wpAny_pyIter_ascii ha ?_
  obtain ⟨m, news, δ, F, N, D, lr, r⟩ := R1.ex
  obtain ⟨fr, R2⟩ := R1.make (k := s1.toks) (F.push { cls := .type "str_ascii_iterator", data := .fields #[.str x t, .int 0 0] }) (N.push F _) D lr r (fun p hp => Heap.lt_size (N p hp).1) (ob := .raw { cls := .type "str_ascii_iterator", data := .fields #[.str x t, .int 0 0] }) (fun news' hm => hm) (fun _ _ h => by cases h)
  refine forLoop (Keep := fun _ => True) (St := fun j o => o.cls = .type "str_ascii_iterator" ∧ o.data = .fields #[.str x t, .int j 0]) O hn ⟨fun j y hx o vs H s hS R hi kp Q E q => ?_, fun j hx o vs H s hS R hi kp Q E q => ?_⟩ R2 fr ⟨rfl, rfl⟩ hL (fun f g vs' H' s' hp fg R' => q f g vs' H' s' hp fg R') (by intro _; rfl)
  · obtain ⟨m, news, δ, F, N, D, lr, r⟩ := R.ex
    have mi := r.at_ _ _ HL.set_self
    rw [List.getElem?_map] at hx
    cases hj : x.cps.toList[j]? with
    | none => rw [hj] at hx; cases hx
    | some c =>
      rw [hj] at hx
      cases hx
      refine wpAny_pyNext_ascii_item ⟨o, (N _ mi).1, hS.1, hS.2⟩ (by rw [← Array.getElem?_toList]; exact hj) fun h' hI hs => ?_
      obtain ⟨o', ho', hc', hd'⟩ := hI
      have := R.own (k := s.toks + 1) (ob' := .raw o') F N D lr r mi hs ho' ⟨_, HL.set_self⟩ (fun news' hm => hm) (fun _ _ h => by cases h)
      rw [HL.set_set] at this
      exact q _ o' _ ⟨_, rfl⟩ ⟨hc', hd'⟩ this
  · obtain ⟨m, news, δ, F, N, D, lr, r⟩ := R.ex
    have mi := r.at_ _ _ HL.set_self
    refine wpAny_pyNext_ascii_end O.handled ⟨o, (N _ mi).1, hS.1, hS.2⟩ (by
      rw [← Array.getElem?_toList]
      have := List.getElem?_eq_none_iff.mp hx
      exact List.getElem?_eq_none_iff.mpr (by rwa [List.length_map] at this)) fun h' he => q _ (R.gone (k := s.toks) hi he)
/-- isinstance(x, bool) -/
theorem W.isBool {e : Expr} {n n' : Str} {npos npos' pos : Pos} (i j : Nat) (hi : X.gs[i]? = some n) (g : GB X.w n (.builtin "isinstance")) (hj : X.gs[j]? = some n') (g' : GB X.w n' (.type "bool")) (h : W X vs H e fun v H1 => ∃ b, v = .bool b ∧ P (.bool true) H1)
    (he : ∀ env, starEach [e, .Name n' npos'] env = (false, eval e env) :: starEach [.Name n' npos'] env := by intro _; rfl) : W X vs H ((Expr.Name n npos).Call [e, .Name n' npos'] [] pos) P := fun O s Q E R q =>
  Call_ (globB i hi g O R (callWith_builtin1 (spliced_more (h O s _ _ R fun v u H1 s1 h1 vu R1 => spliced_more (globB j hj g' O R1 (spliced_none (by
    obtain ⟨b, rfl, hp⟩ := h1
    obtain rfl : u = .bool b := vu
    exact call_isinstance_yes (Tx := "bool") (T := "bool") (PySem.typeIs_bool _ _) PySem.F.isi_meta_bool (by rw [isSubtype_type]; kernel_rfl) (q _ _ _ _ hp rfl R1)))) rfl) (he _)) (he _) rfl))
theorem isTupAt {m : Str → Option Value} {news : List (Addr × Obj)} {δ : Addr → Addr} {a : Addr} {l : List V} (N : News X.h₀ X.L s.heap news) (r : HR X.w δ H news) (ha : H a = some (.tup l)) : ∃ its, VRs l its.toList ∧ IsTup s.heap a its := by
  obtain ⟨its, n, m1, vr⟩ := r.at_ a _ ha
  exact ⟨its, vr, _, (N _ m1).1, rfl, n, rfl⟩
theorem S.asTup2 {n1 n2 : Str} {e : Expr} {p1 p2 tp pos : Pos} {k : Nat} {P : Fl → List (Option V) → HL → Prop} (h : W X vs H e fun v H1 => ∃ a v1 v2, v = .ref a ∧ H1 a = some (.tup [v1, v2]) ∧ Sto X vs H1 n1 v1 fun vs1 H2 => Sto X vs1 H2 n2 v2 fun vs2 H3 => P .next vs2 H3)
    (hs : ∀ env, swapsWithSole [.Tuple [.Name n1 p1, .Name n2 p2] k tp] e pos.line env = pure false := by intro _; rfl) (hw : ∀ env, swappedStores [.Tuple [.Name n1 p1, .Name n2 p2] k tp] e env = pure Option.none := by intro _; rfl) : S X vs H (.Assign [.Tuple [.Name n1 p1, .Name n2 p2] k tp] e pos) P := fun O s Q E R q =>
  Assign_Tuple (h O s _ _ R fun v u H1 s1 h1 vu R1 => by
    obtain ⟨a, v1, v2, rfl, ha, hS⟩ := h1
    obtain rfl : u = .ref a := vu
    obtain ⟨m, news, δ, F, N, D, lr, r⟩ := R1.ex
    obtain ⟨its, vr, hT⟩ := isTupAt (m := m) N r ha
    refine unpackN_ F N hT O.handled (by rw [← Array.length_toList, ← vr.length]; rfl) rfl fun h' F' N' => ?_
    obtain ⟨u1, u2, e12, w1, w2⟩ := vrs2 vr
    rw [e12]
    have R2 : Rel X vs H1 { s1 with heap := h' } := ⟨⟨m, news, δ, F', N', D, lr, r⟩, R1.gens, R1.os⟩
    exact assignInOrder_cons (assign_Name (hS O _ u1 _ _ R2 w1 fun vs1 H2 s2 h2 R3 => assignInOrder_cons (assign_Name (h2 O _ u2 _ _ R3 w2 fun vs2 H3 s3 h3 R4 => assignInOrder_nil (q _ _ _ _ _ h3 rfl R4))))) ) (hs _) (hw _)
theorem S.asSwap2 {n1 n2 : Str} {e : Expr} {p1 p2 tp pos : Pos} {k : Nat} {P : Fl → List (Option V) → HL → Prop} (h : W X vs H e fun v H1 => ∃ a v1 v2, v = .ref a ∧ H1 a = some (.tup [v1, v2]) ∧ Sto X vs H1 n2 v2 fun vs1 H2 => Sto X vs1 H2 n1 v1 fun vs2 H3 => P .next vs2 H3)
    (hw : swappedStores [.Tuple [.Name n1 p1, .Name n2 p2] k tp] e X.env = pure (some [n1, n2])) (hs : ∀ env, swapsWithSole [.Tuple [.Name n1 p1, .Name n2 p2] k tp] e pos.line env = pure false := by intro _; rfl) : S X vs H (.Assign [.Tuple [.Name n1 p1, .Name n2 p2] k tp] e pos) P := fun O s Q E R q =>
  Assign_Tuple_swapped (h O s _ _ R fun v u H1 s1 h1 vu R1 => by
    obtain ⟨a, v1, v2, rfl, ha, hS⟩ := h1
    obtain rfl : u = .ref a := vu
    obtain ⟨m, news, δ, F, N, D, lr, r⟩ := R1.ex
    obtain ⟨its, vr, hT⟩ := isTupAt (m := m) N r ha
    refine unpackItemsN_ F N hT O.handled (by rw [← Array.length_toList, ← vr.length]; rfl) fun h' F' N' => ?_
    obtain ⟨u1, u2, e12, w1, w2⟩ := vrs2 vr
    rw [e12]
    have R2 : Rel X vs H1 { s1 with heap := h' } := ⟨⟨m, news, δ, F', N', D, lr, r⟩, R1.gens, R1.os⟩
    exact assignInOrder_cons (bindName_ (hS O _ u2 _ _ R2 w2 fun vs1 H2 s2 h2 R3 => assignInOrder_cons (bindName_ (h2 O _ u1 _ _ R3 w1 fun vs2 H3 s3 h3 R4 => assignInOrder_nil (q _ _ _ _ _ h3 rfl R4))))) ) (hs _) hw
theorem S.asTup3 {n1 n2 n3 : Str} {e : Expr} {p1 p2 p3 tp pos : Pos} {k : Nat} {P : Fl → List (Option V) → HL → Prop} (h : W X vs H e fun v H1 => ∃ a v1 v2 v3, v = .ref a ∧ H1 a = some (.tup [v1, v2, v3]) ∧ Sto X vs H1 n1 v1 fun vs1 H2 => Sto X vs1 H2 n2 v2 fun vs2 H3 => Sto X vs2 H3 n3 v3 fun vs3 H4 => P .next vs3 H4)
    (hw : swappedStores [.Tuple [.Name n1 p1, .Name n2 p2, .Name n3 p3] k tp] e X.env = pure Option.none) (hs : ∀ env, swapsWithSole [.Tuple [.Name n1 p1, .Name n2 p2, .Name n3 p3] k tp] e pos.line env = pure false := by intro _; rfl) : S X vs H (.Assign [.Tuple [.Name n1 p1, .Name n2 p2, .Name n3 p3] k tp] e pos) P := fun O s Q E R q =>
  Assign_Tuple (h O s _ _ R fun v u H1 s1 h1 vu R1 => by
    obtain ⟨a, v1, v2, v3, rfl, ha, hS⟩ := h1
    obtain rfl : u = .ref a := vu
    obtain ⟨m, news, δ, F, N, D, lr, r⟩ := R1.ex
    obtain ⟨its, vr, hT⟩ := isTupAt (m := m) N r ha
    refine unpackN_ F N hT O.handled (by rw [← Array.length_toList, ← vr.length]; rfl) rfl fun h' F' N' => ?_
    have R2 : Rel X vs H1 { s1 with heap := h' } := ⟨⟨m, news, δ, F', N', D, lr, r⟩, R1.gens, R1.os⟩
    match its.toList, vr with
    | [u1, u2, u3], ⟨w1, w2, w3, _⟩ => exact assignInOrder_cons (assign_Name (hS O _ u1 _ _ R2 w1 fun vs1 H2 s2 h2 R3 => assignInOrder_cons (assign_Name (h2 O _ u2 _ _ R3 w2 fun vs2 H3 s3 h3 R4 => assignInOrder_cons (assign_Name (h3 O _ u3 _ _ R4 w3 fun vs3 H4 s4 h4 R5 => assignInOrder_nil (q _ _ _ _ _ h4 rfl R5)))))))) (hs _) hw
theorem CB.copyF {a : Addr} {l : List V} (ha : H a = some (.flist l)) (hl : l.length ≤ 10000) (h : ∀ d, H d = Option.none → P (.ref d) (H.set d (.list l))) : CB X vs H (.type "list") [.ref a] P := fun O s us Q E R vr q => by
  have : H.set a (.flist l) = H := HL.set_id ha
  have R1 := R.view (ob := .list l) ha (fun δ news _ z => z) fun _ _ h => by cases h
  refine CB.listList (H := H.set a (.list l)) HL.set_self hl (P := fun v H' => ∃ d, v = .ref d ∧ H d = Option.none ∧ H' = (H.set a (.list l)).set d (.list l)) (fun d hd => ?_) O s us Q E R1 vr fun v u H' s' ⟨d, e1, e2, e3⟩ vu R' => ?_
  · refine ⟨d, rfl, ?_, rfl⟩
    by_cases e : d = a
    · subst e; rw [HL.set_self] at hd; cases hd
    · rwa [HL.set_ne e] at hd
  · subst e1; subst e3
    refine q _ _ _ s' (h d e2) vu (R'.down fun b o hb => ?_)
    have hda : a ≠ d := fun e => by subst e; rw [e2] at ha; cases ha
    by_cases e : b = d
    · subst e; rw [HL.set_self] at hb; left; rw [HL.set_self]; exact hb
    · rw [HL.set_ne e] at hb ⊢
      by_cases e' : b = a
      · subst e'; rw [ha] at hb; cases hb; right; exact ⟨l, rfl, HL.set_self⟩
      · left; rw [HL.set_ne e']; exact hb
end
end Mine
end
section
open PySem PySem.W PyProof.Rows PySem.Calls
set_option maxHeartbeats 1000000
namespace Mine
structure CompOk (X : Cx) (scope : Scope) (cl : List (Str × Addr)) (x : Str) (gs' : List Str) : Prop where
  clos : closureFor scope X.env = pure cl
  cell : ∀ y ∈ scope.names, y.2 ≠ .cell
  kind : scope.kind = .function
  names : ∀ y ∈ scope.names, y.2 = .local → scope.names.lookup y.1 = some .local
  xloc : scope.names.lookup x = some .local
  xd : (x == ("__debug__" : Str)) = false
  glob : ∀ n ∈ gs', (relabel scope X.env).names.lookup n = some .globalImplicit ∧ (n == ("__debug__" : Str)) = false
def Cx.comp (X : Cx) (scope : Scope) (cl : List (Str × Addr)) (h₀' : Heap) (C : Addr) (x : Str) (gs' : List Str) : Cx := { X with h₀ := h₀', L := C, env := compEnvC scope cl C X.env, ns := [x], gs := gs' }
def TS (X : Cx) (vs : List (Option V)) (H : HL) : List Expr → (Bool → HL → Prop) → Prop
  | [], P => P true H
  | [c], P => WT X vs H c P
  | _, _ => False
/-- the turns of a comprehension -/
def CompL (X : Cx) (ifs : List Expr) (elt : Expr) (D : Addr) (P : HL → Prop) (Keep : HL → Prop) : List V → HL → Prop
  | [], H => Keep H ∧ P H
  | x :: r, H => Keep H ∧ ∀ it o, H it = none → TS X [some x] (H.set it (.raw o)) ifs fun c H1 => if c = true then W X [some x] H1 elt fun y H2 => ∃ (H3 : HL) (acc : List V), H2 = H3.set it (.raw o) ∧ H3 it = none ∧ H3 D = some (.list acc) ∧ acc.length ≤ 1000 ∧ CompL X ifs elt D P Keep r (H3.set D (.list (acc ++ [y])))
      else ∃ H3 : HL, H1 = H3.set it (.raw o) ∧ H3 it = none ∧ CompL X ifs elt D P Keep r H3
theorem CompL.keep {X : Cx} {ifs : List Expr} {elt : Expr} {D : Addr} {P : HL → Prop} {Keep : HL → Prop} : ∀ {l : List V} {H : HL}, CompL X ifs elt D P Keep l H → Keep H
  | [], _, h => h.1
  | _ :: _, _, h => h.1
section
variable {X : Cx} {vs : List (Option V)} {H : HL} {s : Shared} {P : V → HL → Prop}
theorem TS.run {ifs : List Expr} {P : Bool → HL → Prop} (h : TS X vs H ifs P) (O : X.Ok) (R : Rel X vs H s) {Q : Bool → Shared → Prop} {E : Value → Shared → Prop} (q : ∀ b H' s', P b H' → Rel X vs H' s' → Q b s') :
    wpAny (Md X) X.A (forIn ifs true fun c r => if r = true then do let ok ← isTrue c X.env (eval c X.env); pure (ForInStep.yield ok) else pure (ForInStep.yield r)) Q E s := by
  match ifs, h with
  | [], h => exact wpAny_tests_nil (q _ _ _ h R)
  | [c], h => exact wpAny_tests_one (h O s _ _ R q)
theorem compRun {scope : Scope} {cl : List (Str × Addr)} {x : Str} {gs' : List Str} {px pos : Pos} {elt iter : Expr} {ifs : List Expr} {it : Addr} {o : Obj} {l : List V} {St : Nat → Obj → Prop} {Keep : HL → Prop} {E : Value → Shared → Prop} {RR : Value → Addr → Result → Shared → Prop} (O : X.Ok) (K : CompOk X scope cl x gs') (R : Rel X vs (H.set it (.raw o)) s) (hi : H it = none) (h0 : St 0 o)
    (hI : ∀ h₀' C, (X.comp scope cl h₀' C x gs').Ok → Iter (X.comp scope cl h₀' C x gs') it Keep l St) (hself : ∀ (s : Shared) (Q E : Value → Shared → Prop), s.heap.get? it = some o → Q (.ref it) s → wpAny (Md X) X.A (pyIter (.ref it)) Q E s)
    (h : ∀ D h₀' C, H D = none → CompL (X.comp scope cl h₀' C x gs') ifs elt D (fun H' => P (.ref D) H') Keep l (H.set D (.list [])))
    (q : ∀ D C oC s' H', P (.ref D) H' → Rel X vs (H'.set C (.raw oC)) s' → H' C = none → (∀ h : Heap, h.get? C = some oC → ∃ m, h.Ns C m) → RR (.ref D) C (.ok .next) s') :
    wpAny (Md X) X.A (newList []) (fun acc s₃ => wpAny (Md X) X.A (newFunctionEnv scope X.env.globals cl [] X.env.qual none .none (some X.env)) (fun cenv s₄ =>
      codeAny (Md X) X.A (.compStart (.ListComp elt [⟨.Name x px, iter, ifs, 0⟩] scope pos) 0 (.ref it) acc { cenv with scope := relabel scope X.env }) (RR acc cenv.locals) s₄) E s₃) E s := by
  obtain ⟨m, news, δ, F, N, D', lr, r⟩ := R.ex
  refine wpAny_newObj_type (wpAny_newFunctionEnv K.cell (by intro y hy; simp at hy) (fun h₁ hns₁ hsb₁ => ?_) K.kind)
  dsimp only at hns₁ hsb₁ ⊢
  obtain ⟨fr, R3⟩ := R.make (k := s.toks) (F.push { cls := .type "list", dict := none, data := .seq ([] : List Value).toArray }) (N.push F _) D' lr r (fun p hp => Heap.lt_size (N p hp).1) (ob := .list []) (fun news' hm => ⟨#[], 0, hm, trivial⟩) (fun _ _ h => by cases h)
  generalize hH2 : s.heap.push { cls := .type "list", dict := none, data := .seq ([] : List Value).toArray } = H2 at hns₁ hsb₁ R3 ⊢
  generalize hD : s.heap.objs.size = D at fr R3 ⊢
  generalize hC : H2.objs.size = C at hns₁ hsb₁ ⊢
  have hdi : D ≠ it := fun e => by rw [e, HL.set_self] at fr; cases fr
  have hDn : H D = none := by rwa [HL.set_ne hdi] at fr
  obtain ⟨m, news, δ, F, N, D', lr, r⟩ := R3.ex
  have hk₁ : ∀ b o, H2.get? b = some o → h₁.get? b = some o := fun b o e => hsb₁.extBut b o (Nat.ne_of_lt (hC ▸ Heap.lt_size e)) (Heap.get?_push_of_some _ e)
  have nm : ∀ b o, X.h₀.get? b = some o → b ∉ news.map (·.1) := fun b o e q => by
    obtain ⟨p, hp, rfl⟩ := List.mem_map.mp q
    rw [(N p hp).2.2] at e; cases e
  have st : ∀ b o, X.h₀.get? b = some o → (hideAll H2 (news.map (·.1))).get? b = some o := fun b o e => hideAll_get _ (F.keep b o e) (nm b o e)
  obtain ⟨oL, es, ep, hL, hLd, hLk, hLf⟩ := F.ns
  have nL : X.L ∉ news.map (·.1) := fun q => by
    obtain ⟨p, hp, e⟩ := List.mem_map.mp q
    exact (N p hp).2.1 e
  have hLg := hideAll_get (news.map (·.1)) hL nL
  have hLC : X.L ≠ C := fun e => by have := Heap.lt_size hL; rw [e, hC] at this; exact Nat.lt_irrefl _ this
  let X' : Cx := X.comp scope cl (hideAll H2 (news.map (·.1))) C x gs'
  have O' : X'.Ok := ⟨O.good.keeps st, O.handled, O.depth, O.units, K.kind, rfl, O.globals, O.builtins, fun n hn => by
      have : n = x := List.mem_singleton.mp hn
      subst this
      exact ⟨lookup_relabel_local K.xloc, K.xd⟩, K.glob, List.nodup_cons.mpr ⟨List.not_mem_nil, List.nodup_nil⟩⟩
  have R' : Rel X' [none] ((H.set D (.list [])).set it (.raw o)) { s with heap := h₁, toks := s.toks + ([] : List (Str × Value)).length } := by
    rw [HL.set_comm hdi]
    exact ⟨⟨_, news, δ, ⟨hns₁, fun b o e => hk₁ b o (of_hideAll _ e), by show (hideAll H2 (news.map (·.1))).objs.size ≤ C; rw [← hC]; exact Nat.le_of_eq (hideAll_size _ _)⟩, fun p hp => ⟨hk₁ _ _ (N p hp).1, by rw [show X'.L = C from rfl, ← hC]; exact Nat.ne_of_lt (Heap.lt_size (N p hp).1), hideAll_none _ (List.mem_map_of_mem hp)⟩, D', (fun i n v hi hv => by
      match i, hv with
      | 0, hv => cases hv), r⟩, R.gens, R.os⟩
  have hC0 : X.h₀.get? C = none := by
    cases q : X.h₀.get? C with
    | none => rfl
    | some ob => have := Heap.lt_size (F.keep C ob q); rw [hC] at this; exact absurd this (Nat.lt_irrefl _)
  have back : ∀ vs' H' s', Rel X' vs' H' s' → ∃ oC, Rel X vs (H'.set C (.raw oC)) s' ∧ H' C = none ∧ ∀ h : Heap, h.get? C = some oC → ∃ m, h.Ns C m := fun vs' H' s' R'' => by
    obtain ⟨m', news', δ', F', N', ND', l', hr'⟩ := R''.ex
    obtain ⟨oC, esC, epC, gC, dC, kC, fC⟩ := F'.ns
    have nC : ∀ p ∈ news', p.1 ≠ C := fun p hp => (N' p hp).2.1
    have hCn : H' C = none := by
      cases q : H' C with
      | none => rfl
      | some y => obtain ⟨o', mm⟩ := (hr'.at_ C y q).at_; exact absurd rfl (nC _ mm)
    refine ⟨oC, ⟨⟨m, (C, oC) :: news', δ', ⟨⟨oL, es, ep, F'.keep X.L oL hLg, hLd, hLk, hLf⟩, fun b ob e => F'.keep b ob (st b ob e), F.above⟩, fun p hp => ?_, ?_, lr, hr'.alloc nC (.head _) fun _ _ h => by cases h⟩, R''.gens, R''.os⟩, hCn, fun h hg => ⟨m', oC, esC, epC, hg, dC, kC, fC⟩⟩
    · rcases List.mem_cons.mp hp with rfl | hp
      · exact ⟨gC, Ne.symm hLC, hC0⟩
      · refine ⟨(N' p hp).1, fun q => ?_, ?_⟩
        · have := (N' p hp).2.2; rw [q, show X'.h₀.get? X.L = some oL from hLg] at this; cases this
        · cases q : X.h₀.get? p.1 with
          | none => rfl
          | some ob => have := (N' p hp).2.2; rw [show X'.h₀.get? p.1 = some ob from st _ _ q] at this; cases this
    · rw [List.map_cons, List.nodup_cons]
      exact ⟨fun h => by obtain ⟨p, hp, e⟩ := List.mem_map.mp h; exact nC p hp e, ND'⟩
  have hIt := hI (hideAll H2 (news.map (·.1))) C O'
  have hCL := h D (hideAll H2 (news.map (·.1))) C hDn
  have hDi2 : (H.set D (.list [])) it = none := by rw [HL.set_ne hdi.symm]; exact hi
  have loop : codeAny (Md X) X.A (.compLoop (.ListComp elt [⟨.Name x px, iter, ifs, 0⟩] scope pos) 0 (.ref it) (.ref D) X'.env) (RR (.ref D) C) { s with heap := h₁, toks := s.toks + ([] : List (Str × Value)).length } := by
    refine codeAny_compLoop_tests (fun k s => ∃ j o H1 y, k = l.length - j ∧ j ≤ l.length ∧ St j o ∧ Rel X' [y] (H1.set it (.raw o)) s ∧ H1 it = none ∧ CompL X' ifs elt D (fun H' => P (.ref D) H') Keep (l.drop j) H1) (fun k s1 hJ => ?_) l.length ⟨0, o, _, none, rfl, Nat.zero_le _, h0, R', hDi2, hCL⟩
    obtain ⟨j, o, H1, y, hk, hj, hS, R1, hi1, h1⟩ := hJ
    have kp := h1.keep
    cases e : l[j]? with
    | none =>
      have hd : l.drop j = [] := List.drop_eq_nil_of_le (List.getElem?_eq_none_iff.mp e)
      rw [hd] at h1
      refine hIt.stop j e o _ H1 s1 hS R1 hi1 kp _ _ fun s2 R2 => ?_
      obtain ⟨oC, RC, hn, hns⟩ := back _ _ _ R2
      exact q D C oC s2 _ h1.2 RC hn hns
    | some v =>
      obtain ⟨hlt', hx⟩ := List.getElem?_eq_some_iff.mp e
      have hd : l.drop j = v :: l.drop (j + 1) := by rw [← hx]; exact List.drop_eq_getElem_cons hlt'
      rw [hd] at h1
      refine hIt.item j v e o _ H1 s1 hS R1 hi1 kp _ _ fun u o' s2 vu hS' R2 => ?_
      refine wpAny_assign_Name (store (X := X') O' R2 (i := 0) rfl vu fun s3 R3 => ?_)
      refine (h1.2 it o' hi1).run (X := X') O' R3 fun c H4 s4 h4 R4 => ?_
      cases c
      · rw [if_neg (by decide)] at h4 ⊢
        obtain ⟨H5, rfl, hi5, h5⟩ := h4
        exact ⟨l.length - (j + 1), by omega, j + 1, o', H5, _, rfl, hlt', hS', R4, hi5, h5⟩
      · rw [if_pos rfl] at h4 ⊢
        refine h4 O' s4 _ _ R4 fun z u' H5 s5 h5 zu R5 => ?_
        obtain ⟨H6, acc, rfl, hi6, ha, hl, h6⟩ := h5
        obtain ⟨m, news, δ, F, N, D'', lr, r⟩ := R5.ex
        have hDit : D ≠ it := fun q => by rw [q, hi6] at ha; cases ha
        have ha' : (H6.set it (.raw o')) D = some (.list acc) := by rw [HL.set_ne hDit]; exact ha
        obtain ⟨its, n, m1, vr⟩ := r.at_ D _ ha'
        refine append_at (hsz := by have := vr.length; have e : its.toList.length = its.size := Array.length_toList; rw [sizeLine_eq]; omega) (N _ m1).1 fun h' hs ho => ?_
        have R6 := R5.own (k := s5.toks) (ob' := .list (acc ++ [z])) F N D'' lr r m1 hs ho ⟨_, ha'⟩ (fun news' hm => ⟨_, _, hm, by rw [Array.toList_push]; exact vr.append ⟨zu, trivial⟩⟩) fun _ _ h => by cases h
        rw [HL.set_comm hDit.symm] at R6
        exact ⟨l.length - (j + 1), by omega, j + 1, o', _, _, rfl, hlt', hS', R6, by rw [HL.set_ne hDit.symm]; exact hi6, h6⟩
  refine codeAny_compStart_list loop ?_
  obtain ⟨m, news, δ, F, N, D'', lr, r⟩ := R'.ex
  exact hself _ _ _ (N _ (r.at_ it _ HL.set_self)).1 loop
end
end Mine
end
section
open PySem PySem.W PyProof.Rows PySem.Calls
set_option maxHeartbeats 1000000
namespace Mine
section
variable {X : Cx} {vs : List (Option V)} {H : HL} {s : Shared} {P : V → HL → Prop}
theorem TS.mono {ifs : List Expr} {P P' : Bool → HL → Prop} (h : TS X vs H ifs P) (hp : ∀ b H', P b H' → P' b H') : TS X vs H ifs P' := by
  match ifs, h with
  | [], h => exact hp _ _ h
  | [c], h => exact fun O s Q E R q => h O s Q E R fun b H' s' p => q b H' s' (hp b H' p)
theorem CompL.mono {ifs : List Expr} {elt : Expr} {D : Addr} {P P' Keep : HL → Prop} (hp : ∀ H, P H → P' H) : ∀ (l : List V) (H : HL), CompL X ifs elt D P Keep l H → CompL X ifs elt D P' Keep l H
  | [], H, h => ⟨h.1, hp _ h.2⟩
  | x :: r, H, h => ⟨h.1, fun it o hi => (h.2 it o hi).mono fun c H1 hc => by
      cases c
      · rw [if_neg (by decide)] at hc ⊢
        obtain ⟨H3, e, n, h3⟩ := hc
        exact ⟨H3, e, n, CompL.mono hp r H3 h3⟩
      · rw [if_pos rfl] at hc ⊢
        intro O s Q E R q
        refine hc O s Q E R fun v u H' s' ⟨H3, acc, e, n, ha, hl, h3⟩ => q v u H' s' ⟨H3, acc, e, n, ha, hl, CompL.mono hp r _ h3⟩⟩
theorem CompL.inv {ifs : List Expr} {elt : Expr} {D : Addr} {P Keep : HL → Prop} (I : List V → HL → Prop) (hK : ∀ r H, I r H → Keep H) (hend : ∀ H, I [] H → P H)
    (hstep : ∀ x r H, I (x :: r) H → ∀ it o, H it = none → TS X [some x] (H.set it (.raw o)) ifs fun c H1 => if c = true then W X [some x] H1 elt fun y H2 => ∃ (H3 : HL) (acc : List V), H2 = H3.set it (.raw o) ∧ H3 it = none ∧ H3 D = some (.list acc) ∧ acc.length ≤ 1000 ∧ I r (H3.set D (.list (acc ++ [y])))
      else ∃ H3 : HL, H1 = H3.set it (.raw o) ∧ H3 it = none ∧ I r H3) : ∀ l H, I l H → CompL X ifs elt D P Keep l H
  | [], H, h => ⟨hK _ _ h, hend _ h⟩
  | x :: r, H, h => ⟨hK _ _ h, fun it o hi => (hstep x r H h it o hi).mono fun c H1 hc => by
      cases c
      · rw [if_neg (by decide)] at hc ⊢
        obtain ⟨H3, e, n, h3⟩ := hc
        exact ⟨H3, e, n, CompL.inv I hK hend hstep r H3 h3⟩
      · rw [if_pos rfl] at hc ⊢
        intro O s Q E R q
        refine hc O s Q E R fun v u H' s' ⟨H3, acc, e, n, ha, hl, h3⟩ => q v u H' s' ⟨H3, acc, e, n, ha, hl, CompL.inv I hK hend hstep r _ h3⟩⟩
theorem iterList (O : X.Ok) {a it : Addr} {l : List V} : Iter X it (fun H' => H' a = some (.list l)) l (fun j o => o.cls = .type "list_iterator" ∧ o.data = .fields #[.ref a, .int j 0]) := by
  refine ⟨fun j x hx o vs H s hS R hi kp Q E q => ?_, fun j hx o vs H s hS R hi kp Q E q => ?_⟩
  · obtain ⟨m, news, δ, F, N, D, lr, r⟩ := R.ex
    have mi : (it, o) ∈ news := r.at_ _ _ HL.set_self
    obtain ⟨its, nn, m1, vr⟩ := r.at_ a _ (HL.le_set hi _ _ kp)
    obtain ⟨u, hu, vu⟩ := vr.get hx
    refine wpAny_pyNext_list_item ⟨o, (N _ mi).1, hS.1, hS.2⟩ ⟨_, (N _ m1).1, rfl, _, rfl⟩ (by rw [← Array.getElem?_toList]; exact hu) fun h' hI hs => ?_
    obtain ⟨o', ho', hc', hd'⟩ := hI
    have := R.own (k := s.toks) (ob' := .raw o') F N D lr r mi hs ho' ⟨_, HL.set_self⟩ (fun news' hm => hm) (fun _ _ h => by cases h)
    rw [HL.set_set] at this
    exact q u o' _ vu ⟨hc', hd'⟩ this
  · obtain ⟨m, news, δ, F, N, D, lr, r⟩ := R.ex
    have mi : (it, o) ∈ news := r.at_ _ _ HL.set_self
    obtain ⟨its, nn, m1, vr⟩ := r.at_ a _ (HL.le_set hi _ _ kp)
    refine wpAny_pyNext_list_end O.handled ⟨o, (N _ mi).1, hS.1, hS.2⟩ ⟨_, (N _ m1).1, rfl, _, rfl⟩ (by
      rw [← Array.getElem?_toList]
      have := List.getElem?_eq_none_iff.mp hx
      exact List.getElem?_eq_none_iff.mpr (by rw [← vr.length]; exact this)) fun h' he => q _ (R.gone (k := s.toks) hi he)
theorem compFin {Q E : Value → Shared → Prop} (q : ∀ v u H' s', P v H' → VR v u → Rel X vs H' s' → Q u s') : ∀ D C oC s' H', P (.ref D) H' → Rel X vs (H'.set C (.raw oC)) s' → H' C = none → (∀ h : Heap, h.get? C = some oC → ∃ m, h.Ns C m) → compPost (Md X) X.A E none Q (.ref D) C (.ok .next) s' := fun D C oC s' H' hp R hn hns => by
  obtain ⟨m, news, δ, F, N, _, _, r⟩ := R.ex
  obtain ⟨mC, hC⟩ := hns s'.heap (N _ (r.at_ C _ HL.set_self)).1
  exact ⟨mC, hC, fun h' hs => q _ _ _ _ hp rfl (R.gone (k := s'.toks) hn hs.extBut)⟩
theorem compFinS {y : Str} {py : Pos} {i : Nat} {Q : Flow → Shared → Prop} {E : Value → Shared → Prop} {P : V → HL → Prop} (O : X.Ok) (hy : X.ns[i]? = some y) (q : ∀ D H' s', P (.ref D) H' → Rel X (vs.set i (some (.ref D))) H' s' → Q .next s') : ∀ D C oC s' H', P (.ref D) H' → Rel X vs (H'.set C (.raw oC)) s' → H' C = none → (∀ h : Heap, h.get? C = some oC → ∃ m, h.Ns C m) → compPost (Md X) X.A E (some (assign (.Name y py) X.env)) (fun _ s' => Q .next s') (.ref D) C (.ok .next) s' := fun D C oC s' H' hp R hn hns => by
  refine wpAny_assign_Name (store O R (v := .ref D) hy rfl fun s2 R2 => ?_)
  obtain ⟨m, news, δ, F, N, _, _, r⟩ := R2.ex
  obtain ⟨mC, hC⟩ := hns s2.heap (N _ (r.at_ C _ HL.set_self)).1
  exact ⟨mC, hC, fun h' hs => q _ _ _ hp (R2.gone (k := s2.toks) hn hs.extBut)⟩
theorem W.comp {scope : Scope} {cl : List (Str × Addr)} {x : Str} {px pos : Pos} {elt iter : Expr} {ifs : List Expr} (gs' : List Str) (K : CompOk X scope cl x gs')
    (h : W X vs H iter fun v H1 => ∃ a l, v = .ref a ∧ H1 a = some (.list l) ∧ ∀ D h₀' C, H1 D = Option.none → CompL (X.comp scope cl h₀' C x gs') ifs elt D (fun H' => P (.ref D) H') (fun H' => H' a = some (.list l)) l (H1.set D (.list [])))
    (hs : ∀ env x, foldedSetIterable iter env x = pure x := by intro _ _; rfl) : W X vs H (.ListComp elt [⟨.Name x px, iter, ifs, 0⟩] scope pos) P := fun O s Q E R q => by
  rw [eval_ListComp]
  refine wpAny_comprehension_free (use := none) rfl (hs _) K.clos K.kind K.names (h O s _ _ R fun v u H1 s1 h1 vu R1 => ?_)
  obtain ⟨a, l, rfl, ha, hC⟩ := h1
  obtain rfl : u = .ref a := vu
  obtain ⟨m, news, δ, F, N, D, lr, r⟩ := R1.ex
  obtain ⟨its, nn, m1, vr⟩ := r.at_ a _ ha
  refine wpAny_pyIter_list ⟨_, (N _ m1).1, rfl, _, rfl⟩ ?_
  obtain ⟨fr, R2⟩ := R1.make (k := s1.toks) (F.push { cls := .type "list_iterator", data := .fields #[.ref a, .int 0 0] }) (N.push F _) D lr r (fun p hp => Heap.lt_size (N p hp).1) (ob := .raw { cls := .type "list_iterator", data := .fields #[.ref a, .int 0 0] }) (fun news' hm => hm) (fun _ _ h => by cases h)
  exact compRun O K R2 fr (St := fun j o => o.cls = .type "list_iterator" ∧ o.data = .fields #[.ref a, .int j 0]) ⟨rfl, rfl⟩ (fun h₀' C O' => iterList O') (fun s Q E hg hq => wpAny_pyIter_listiter (l := a) (i := 0) ⟨_, hg, rfl, rfl⟩ hq) hC (compFin q)
theorem iterDict (O : X.Ok) {d it : Addr} {kv : List (Str × V)} {kvs : List (Str × Value)} {od : Obj} {ep : Nat} (kr : KVR kv kvs) (hAt : ∀ {h : Heap}, h.get? d = some od → h.DictAt (PySem.strKind pw X.w) d kvs ep) : Iter X it (fun H' => H' d = some (.raw od)) (kv.map fun f => V.str f.1) (fun j o => o.cls = .type "dict_keyiterator" ∧ o.data = .fields #[.ref d, .int j 0, .int kvs.length 0, .int ep 0]) := by
  refine ⟨fun j x hx o vs H s hS R hi kp Q E q => ?_, fun j hx o vs H s hS R hi kp Q E q => ?_⟩
  · obtain ⟨m, news, δ, F, N, D, lr, r⟩ := R.ex
    have mi := r.at_ _ _ HL.set_self
    have md := r.at_ d _ (HL.le_set hi _ _ kp)
    rw [List.getElem?_map] at hx
    cases hj : kv[j]? with
    | none => rw [hj] at hx; cases hx
    | some f =>
      rw [hj] at hx
      cases hx
      obtain ⟨e, he, e1, _⟩ := KVR.at_ kr hj
      refine wpAny_pyNext_dict_item (k := e.1) (v := e.2) ⟨o, (N _ mi).1, hS.1, hS.2⟩ (hAt (N _ md).1) he fun key h' hkey hI hs => ?_
      obtain ⟨t, rfl⟩ := strKey hkey
      obtain ⟨o', ho', hc', hd'⟩ := hI
      have := R.own (k := s.toks) (ob' := .raw o') F N D lr r mi hs ho' ⟨_, HL.set_self⟩ (fun news' hm => hm) (fun _ _ h => by cases h)
      rw [HL.set_set] at this
      exact q _ o' _ ⟨t, by rw [e1]⟩ ⟨hc', hd'⟩ this
  · obtain ⟨m, news, δ, F, N, D, lr, r⟩ := R.ex
    have mi := r.at_ _ _ HL.set_self
    have md := r.at_ d _ (HL.le_set hi _ _ kp)
    refine wpAny_pyNext_dict_end O.handled ⟨o, (N _ mi).1, hS.1, hS.2⟩ (hAt (N _ md).1) (List.getElem?_eq_none_iff.mpr ?_) fun h' he => q _ (R.gone (k := s.toks) hi he)
    have := List.getElem?_eq_none_iff.mp hx
    rw [List.length_map, kr.length] at this
    exact this
theorem S.assignCompDict {scope : Scope} {cl : List (Str × Addr)} {x y : Str} {px py pos spos : Pos} {elt iter : Expr} {ifs : List Expr} {P : Fl → List (Option V) → HL → Prop} (i : Nat) (hy : X.ns[i]? = some y) (gs' : List Str) (K : CompOk X scope cl x gs') (hsw : swapsWith (.ListComp elt [⟨.Name x px, iter, ifs, 0⟩] scope pos) (some (.Name y py)) spos.line X.env = pure true)
    (h : W X vs H iter fun v H1 => ∃ d kv, v = .ref d ∧ H1 d = some (.dict kv) ∧ ∀ od D h₀' C, (H1.set d (.raw od)) D = Option.none → CompL (X.comp scope cl h₀' C x gs') ifs elt D (fun H' => ∃ H'' : HL, H' = H''.set d (.raw od) ∧ P .next (vs.set i (some (.ref D))) (H''.set d (.dict kv))) (fun H' => H' d = some (.raw od)) (kv.map fun f => V.str f.1) ((H1.set d (.raw od)).set D (.list [])))
    (hs : ∀ env x, foldedSetIterable iter env x = pure x := by intro _ _; rfl) : S X vs H (.Assign [.Name y py] (.ListComp elt [⟨.Name x px, iter, ifs, 0⟩] scope pos) spos) P := fun O s Q E R q => by
  rw [exec_Assign_Name_used _ _ _ _ hsw]
  refine wpAny_bind (wpAny_standAt (wpAny_bind ?_))
  show wpAny _ _ (do let _ ← comprehension (.ListComp elt [⟨.Name x px, iter, ifs, 0⟩] scope pos) scope X.env _ (newList []) false (eval iter X.env) (some (PySem.assign (.Name y py) X.env))) _ _ s
  refine wpAny_bind (wpAny_mono (wpAny_comprehension_free (use := some (PySem.assign (.Name y py) X.env)) (Q := fun _ s' => Q .next s') rfl (hs _) K.clos K.kind K.names
    (h O s (fun u s1 => wpAny (Md X) X.A (pyIter u) (fun it s₂ => wpAny (Md X) X.A (newList []) (fun acc s₃ => wpAny (Md X) X.A (newFunctionEnv scope X.env.globals cl [] X.env.qual none .none (some X.env)) (fun cenv s₄ =>
        codeAny (Md X) X.A (.compStart (.ListComp elt [⟨.Name x px, iter, ifs, 0⟩] scope pos) 0 it acc { cenv with scope := relabel scope X.env }) (compPost (Md X) X.A E (some (PySem.assign (.Name y py) X.env)) (fun _ s' => Q .next s') acc cenv.locals) s₄) E s₃) E s₂) E s1) E R fun v u H1 s1 h1 vu R1 => ?_)) (fun _ s' hq => wpAny_pure (wpAny_pure hq)) fun _ _ e => e)
  obtain ⟨d, kv, rfl, hd, hC⟩ := h1
  obtain rfl : u = .ref d := vu
  obtain ⟨m, news, δ, F, N, D, lr, r⟩ := R1.ex
  obtain ⟨od, kvs, m1, hsm, ho, kr, hD⟩ := isDict (m := m) N r hd
  obtain ⟨es, ep, hX, hdt, hk, hpr, hnd⟩ := id ho
  have hAt : ∀ {h : Heap}, h.get? d = some od → h.DictAt (PySem.strKind pw X.w) d kvs ep := fun g => ⟨od, es, g, hX, hdt, hk, hpr, hnd⟩
  have Rf : Rel X vs (H1.set d (.raw od)) s1 := R1.view hd (fun δ news N' z => by
    obtain ⟨o', _, m', _⟩ := z
    have := (N' _ m').1
    rw [(N _ m1).1] at this
    cases this
    exact m') fun _ _ h => by cases h
  refine wpAny_pyIter_dict hsm (hAt (N _ m1).1) ?_
  obtain ⟨m, news, δ, F, N, D, lr, r⟩ := Rf.ex
  obtain ⟨fr, R2⟩ := Rf.make (k := s1.toks) (F.push { cls := .type "dict_keyiterator", data := .fields #[.ref d, .int 0 0, .int kvs.length 0, .int ep 0] }) (N.push F _) D lr r (fun p hp => Heap.lt_size (N p hp).1) (ob := .raw { cls := .type "dict_keyiterator", data := .fields #[.ref d, .int 0 0, .int kvs.length 0, .int ep 0] }) (fun news' hm => hm) (fun _ _ h => by cases h)
  refine compRun (RR := fun acc C => compPost (Md X) X.A E (some (PySem.assign (.Name y py) X.env)) (fun _ s' => Q .next s') acc C) (P := fun v H' => ∃ (D : Addr) (H'' : HL), v = .ref D ∧ H' = H''.set d (.raw od) ∧ P .next (vs.set i (some (.ref D))) (H''.set d (.dict kv))) O K R2 fr (St := fun j o => o.cls = .type "dict_keyiterator" ∧ o.data = .fields #[.ref d, .int j 0, .int kvs.length 0, .int ep 0]) ⟨rfl, rfl⟩ (fun h₀' C O' => iterDict O' kr hAt) (fun s Q E hg hq => wpAny_pyIter_keyiter (d := d) (i := 0) (n := kvs.length) (ep := ep) ⟨_, hg, rfl, rfl⟩ hq) ?_ (compFinS (P := fun v H' => ∃ (D : Addr) (H'' : HL), v = .ref D ∧ H' = H''.set d (.raw od) ∧ P .next (vs.set i (some (.ref D))) (H''.set d (.dict kv))) O hy fun D H' s' hp R' => ?_)
  · intro D' h₀' C' hDn
    exact CompL.mono (fun H' ⟨H'', e, hp⟩ => ⟨D', H'', rfl, e, hp⟩) _ _ (hC od D' h₀' C' hDn)
  · obtain ⟨D', H'', e, rfl, hp⟩ := hp
    cases e
    have := R'.view HL.set_self (ob := .dict kv) (fun δ news _ z => ⟨od, kvs, z, hsm, ho, kr⟩) fun _ _ h => by cases h
    rw [HL.set_set] at this
    exact q _ _ _ _ _ hp rfl this
end
/-- a def with one cell -/
theorem Fn.body1 {k : Nat} {f : Addr} {qual : Str} {params : Arguments} {body : List Stmt} {scope : Scope} {cdv : Value} {ps ns gs : List Str} {cn : Str} {args : List V} {vs0 : List (Option V)} {c0 : Option V} {H : HL} {P : V → HL → Prop} (C : World → Heap → Addr → Around → Nat → OsState → Cx)
    (hC : ∀ w h₀ L A d os, C w h₀ L A d os = { w := w, h₀ := h₀, L := L, A := A, d := d, os := os, env := envOfC qual scope L f cdv, ns := ns, gs := gs }) (D : ∀ w, Def w f qual params body scope cdv)
    (hbind : ∀ s name pm us, us.length = args.length → BindsTo s (fnOf name qual params body scope .none .none .none pm none cdv .none) ⟨us, []⟩ (ps.zip us))
    (hcells : ∀ n, cellsFrom n scope.names [] = [(cn, n)]) (hkind : ∀ p ∈ ps, scope.names.lookup p = some .local ∨ (scope.names.lookup p = some .cell ∧ p = cn))
    (ok : (ns.all (fun n => scope.names.lookup n == some .local && !(n == ("__debug__" : Str))) && gs.all (fun n => scope.names.lookup n == some .globalImplicit && !(n == ("__debug__" : Str))) && decide ns.Nodup) = true)
    (hm : ∀ us, VRs args us → LR ns vs0 (bindL (fun n => scope.names.lookup n) (ps.zip us) fun _ => none) ∧ (match c0 with | some v => ∃ u, bindC (fun n => scope.names.lookup n) (ps.zip us) (fun _ => none) cn = some u ∧ VR v u | none => bindC (fun n => scope.names.lookup n) (ps.zip us) (fun _ => none) cn = none))
    (h : ∀ w h₀ L A os, H (L + 1) = none → B (C w h₀ L A k os) vs0 (H.set (L + 1) (.cell c0)) body (FB P)) : Fn (k + 1) f args H P := by
  intro X vs O hd s us R r vr q
  simp only [Bool.and_eq_true, List.all_eq_true, beq_iff_eq, Bool.not_eq_true', decide_eq_true_eq] at ok
  obtain ⟨⟨hloc, hglob⟩, hn⟩ := ok
  obtain ⟨m, news, δ, F, N, ND, l, hr⟩ := r.ex
  obtain ⟨oc, od, osl, name, pm, ho⟩ := (D X.w).ob
  have Ks := O.good.K.keeps F.keep
  obtain ⟨mg, mb, TR⟩ := O.good.top
  refine codeAny_call_function (fd := fnOf name qual params body scope .none .none .none pm none cdv .none) (body := body) (Nat.lt_of_le_of_lt (Nat.le_add_right _ _) O.depth) (Ks _ _ ho) rfl (D X.w).co (D X.w).gen rfl (codeRec_of Ks (D X.w).code) (hbind _ _ _ _ vr.length.symm _ _ _ _ ?_)
  refine wpAny_newFunctionEnv_cells (D X.w).fn (fun x hx => ?_) fun env' he s' x => ?_
  · have : x.1 ∈ ps := (List.of_mem_zip hx).1
    rcases hkind _ this with e | ⟨e, e'⟩
    · exact .inl e
    · refine .inr ⟨e, ?_⟩
      show ((cellsFrom (s.heap.objs.size + 1) scope.names []).lookup x.1).isSome = true
      rw [hcells, e', List.lookup_cons, beq_self_eq_true]; rfl
  subst he
  refine ⟨(TR.nolimit.keeps F.keep).keeps x.toInCall.keep, codeAny_func ?_⟩
  obtain ⟨h₁, tk, rfl, _⟩ := x.done
  have hk₁ : ∀ b o, s.heap.get? b = some o → h₁.get? b = some o := x.toInCall.keep
  have hns : h₁.Ns s.heap.objs.size (bindL (fun n => scope.names.lookup n) (ps.zip us) fun _ => none) := x.toInCall.ns
  have hcell : h₁.IsCell (s.heap.objs.size + 1) (bindC (fun n => scope.names.lookup n) (ps.zip us) (fun _ => none) cn) := x.cell cn _ (by
    show (cellsFrom (s.heap.objs.size + 1) scope.names []).lookup cn = _
    rw [hcells, List.lookup_cons, beq_self_eq_true])
  obtain ⟨ob, hob, hobd⟩ := hcell
  obtain ⟨hLR, hC0⟩ := hm us vr
  have lt : ∀ p ∈ news, p.1 < s.heap.objs.size + 1 := fun p hp => Nat.lt_succ_of_lt (Heap.lt_size (N p hp).1)
  have hcN : H (s.heap.objs.size + 1) = none := Rel.fresh (m := m) hr lt
  have nm : ∀ b o, X.h₀.get? b = some o → b ∉ news.map (·.1) := fun b o e q => by
    obtain ⟨p, hp, rfl⟩ := List.mem_map.mp q
    rw [(N p hp).2.2] at e; cases e
  have st : ∀ b o, X.h₀.get? b = some o → (hideAll s.heap (news.map (·.1))).get? b = some o := fun b o e => hideAll_get _ (F.keep b o e) (nm b o e)
  obtain ⟨oL, es, ep, hL, hLd, hLk, hLf⟩ := F.ns
  have nL : X.L ∉ news.map (·.1) := fun q => by
    obtain ⟨p, hp, e⟩ := List.mem_map.mp q
    exact (N p hp).2.1 e
  have hLg := hideAll_get (news.map (·.1)) hL nL
  let X' : Cx := { w := X.w, h₀ := hideAll s.heap (news.map (·.1)), L := s.heap.objs.size, A := X.A.deeper (callEnvC (fnOf name qual params body scope .none .none .none pm none cdv .none) s.heap.objs.size f), d := k, os := s.os, env := envOfC qual scope s.heap.objs.size f cdv, ns := ns, gs := gs }
  have O' : X'.Ok := ⟨O.good.keeps st, O.handled, by
      show (X.A.deeper _).depth + k < recursionLimit
      rw [depth_deeper]; have := O.depth; omega, by
      show (X.A.deeper _).units + 8 * k + 80 < cLine
      rw [units_deeper]; have := O.units; omega, (D X.w).fn, rfl, rfl, rfl, hloc, hglob, hn⟩
  have R' : Rel X' vs0 (H.set (s.heap.objs.size + 1) (.cell c0)) { s with heap := h₁, toks := tk } := by
    refine ⟨⟨_, (s.heap.objs.size + 1, ob) :: news, δ, ⟨hns, fun b o e => hk₁ b o (of_hideAll _ e), Nat.le_of_eq (hideAll_size _ _)⟩, fun p hp => ?_, ?_, hLR, ?_⟩, r.gens, rfl⟩
    · rcases List.mem_cons.mp hp with rfl | hp
      · refine ⟨hob, Nat.succ_ne_self _, ?_⟩
        cases q : (hideAll s.heap (news.map (·.1))).get? (s.heap.objs.size + 1) with
        | none => rfl
        | some o => exact absurd (Heap.lt_size (of_hideAll _ q)) (Nat.not_lt.mpr (Nat.le_succ _))
      · exact ⟨hk₁ _ _ (N p hp).1, Nat.ne_of_lt (Heap.lt_size (N p hp).1), hideAll_none _ (List.mem_map_of_mem hp)⟩
    · rw [List.map_cons, List.nodup_cons]
      exact ⟨fun h => by obtain ⟨p, hp, e⟩ := List.mem_map.mp h; exact Nat.ne_of_lt (lt p hp) e, ND⟩
    · refine hr.alloc (fun p hp => Nat.ne_of_lt (lt p hp)) ?_ fun _ _ h => by cases h
      cases c0 with
      | none => exact ⟨ob, .head _, by rw [hobd, hC0]⟩
      | some v => obtain ⟨u, hu, vu⟩ := hC0; exact ⟨u, ob, .head _, by rw [hobd, hu], vu⟩
  have hB := h X.w (hideAll s.heap (news.map (·.1))) s.heap.objs.size (X.A.deeper (callEnvC (fnOf name qual params body scope .none .none .none pm none cdv .none) s.heap.objs.size f)) s.os hcN
  rw [hC] at hB
  refine hB O' _ _ _ R' fun fl g vs' H' s' hP hf R'' => ?_
  obtain ⟨m', news', δ', F', N', ND', l', hr'⟩ := R''.ex
  have back : Rel X vs H' s' := by
    refine ⟨⟨m, news', δ', ⟨⟨oL, es, ep, F'.keep X.L oL hLg, hLd, hLk, hLf⟩, fun b o e => F'.keep b o (st b o e), F.above⟩, fun p hp => ⟨(N' p hp).1, fun q => ?_, ?_⟩, ND', l, hr'⟩, R''.gens, R''.os.trans r.os⟩
    · have := (N' p hp).2.2; rw [q] at this; rw [show X'.h₀.get? X.L = some oL from hLg] at this; cases this
    · cases q : X.h₀.get? p.1 with
      | none => rfl
      | some o => have := (N' p hp).2.2; rw [show X'.h₀.get? p.1 = some o from st _ _ q] at this; cases this
  cases fl with
  | next => obtain rfl : g = .next := hf; exact q _ _ _ _ hP rfl back
  | ret v => obtain ⟨u, rfl, vu⟩ := hf; exact q _ _ _ _ hP vu back
  | brk => exact hP.elim
  | cont => exact hP.elim
section
variable {X : Cx} {vs : List (Option V)} {H : HL} {s : Shared}
theorem S.asPair {n1 n2 : Str} {e : Expr} {p1 p2 tp pos : Pos} {k : Nat} {P : Fl → List (Option V) → HL → Prop} (h : W X vs H e fun v H1 => ∃ a v1 v2, v = .ref a ∧ H1 a = some (.tup [v1, v2]) ∧ Sto X vs H1 n1 v1 fun vs1 H2 => Sto X vs1 H2 n2 v2 fun vs2 H3 => P .next vs2 H3)
    (hw : swappedStores [.Tuple [.Name n1 p1, .Name n2 p2] k tp] e X.env = pure Option.none) (hs : ∀ env, swapsWithSole [.Tuple [.Name n1 p1, .Name n2 p2] k tp] e pos.line env = pure false := by intro _; rfl) : S X vs H (.Assign [.Tuple [.Name n1 p1, .Name n2 p2] k tp] e pos) P := fun O s Q E R q =>
  Assign_Tuple (h O s _ _ R fun v u H1 s1 h1 vu R1 => by
    obtain ⟨a, v1, v2, rfl, ha, hS⟩ := h1
    obtain rfl : u = .ref a := vu
    obtain ⟨m, news, δ, F, N, D, lr, r⟩ := R1.ex
    obtain ⟨its, vr, hT⟩ := isTupAt (m := m) N r ha
    refine unpackN_ F N hT O.handled (by rw [← Array.length_toList, ← vr.length]; rfl) rfl fun h' F' N' => ?_
    obtain ⟨u1, u2, e12, w1, w2⟩ := vrs2 vr
    rw [e12]
    have R2 : Rel X vs H1 { s1 with heap := h' } := ⟨⟨m, news, δ, F', N', D, lr, r⟩, R1.gens, R1.os⟩
    exact assignInOrder_cons (assign_Name (hS O _ u1 _ _ R2 w1 fun vs1 H2 s2 h2 R3 => assignInOrder_cons (assign_Name (h2 O _ u2 _ _ R3 w2 fun vs2 H3 s3 h3 R4 => assignInOrder_nil (q _ _ _ _ _ h3 rfl R4))))) ) (hs _) hw
theorem Sto.less {H' : HL} {n : Str} {v : V} {P : List (Option V) → HL → Prop} (le : Le H' H) (h : Sto X vs H' n v P) : Sto X vs H n v P := fun O s u Q E R vu q => h O s u Q E (R.down le) vu q
end
end Mine
end
section
open PySem PySem.W PyProof.Rows PySem.Calls
set_option maxHeartbeats 1000000
namespace Mine
section
variable {X : Cx} {vs : List (Option V)} {H : HL} {s : Shared}
theorem WT.eqInts {l r : Expr} {pos : Pos} {P : Bool → HL → Prop} (h : W X vs H l fun a H1 => W X vs H1 r fun b H2 => ∃ (x y : Addr) (ns ms : List Int), a = .ref x ∧ b = .ref y ∧ H2 x = some (.list (ns.map V.int)) ∧ H2 y = some (.list (ms.map V.int)) ∧ P (decide (ns = ms)) H2) (hm : behindInMarks .Eq r = false := by rfl) : WT X vs H (.Compare l [.Eq] [r] pos) P :=
  WT.cmp (fun O s Q E R q => h O s _ E R fun a u H1 s1 h1 va R1 => q a u H1 s1 (fun O s2 Q2 E2 R2 q2 => h1 O s2 _ E2 R2 fun b w H2 s3 h2 vb R3 => q2 b w H2 s3 (fun u w hu hw O s4 Q4 E4 R4 q4 => by
    obtain ⟨x, y, ns, ms, rfl, rfl, hx, hy, hp⟩ := h2
    obtain rfl : u = .ref x := hu
    obtain rfl : w = .ref y := hw
    obtain ⟨m, news, δ, F, N, D, lr, r⟩ := R4.ex
    obtain ⟨us, _, _, vr, hL, _⟩ := isListAt (m := m) N r hx
    obtain ⟨ws, _, _, vr', hL', _⟩ := isListAt (m := m) N r hy
    exact ke_eq_ints hL hL' (intsAre vr) (intsAre vr') (by have := O.units; omega) (q4 _ _ _ _ ⟨_, rfl, hp⟩ rfl R4)) vb R3) va R1) hm
theorem WT.neInts {l r : Expr} {pos : Pos} {P : Bool → HL → Prop} (h : W X vs H l fun a H1 => W X vs H1 r fun b H2 => ∃ (x y : Addr) (ns ms : List Int), a = .ref x ∧ b = .ref y ∧ H2 x = some (.list (ns.map V.int)) ∧ H2 y = some (.list (ms.map V.int)) ∧ P (!decide (ns = ms)) H2) (hm : behindInMarks .NotEq r = false := by rfl) : WT X vs H (.Compare l [.NotEq] [r] pos) P :=
  WT.cmp (fun O s Q E R q => h O s _ E R fun a u H1 s1 h1 va R1 => q a u H1 s1 (fun O s2 Q2 E2 R2 q2 => h1 O s2 _ E2 R2 fun b w H2 s3 h2 vb R3 => q2 b w H2 s3 (fun u w hu hw O s4 Q4 E4 R4 q4 => by
    obtain ⟨x, y, ns, ms, rfl, rfl, hx, hy, hp⟩ := h2
    obtain rfl : u = .ref x := hu
    obtain rfl : w = .ref y := hw
    obtain ⟨m, news, δ, F, N, D, lr, r⟩ := R4.ex
    obtain ⟨us, _, _, vr, hL, _⟩ := isListAt (m := m) N r hx
    obtain ⟨ws, _, _, vr', hL', _⟩ := isListAt (m := m) N r hy
    exact ke_ne_ints hL hL' (intsAre vr) (intsAre vr') (by have := O.units; omega) (q4 _ _ _ _ ⟨_, rfl, hp⟩ rfl R4)) vb R3) va R1) hm
end
end Mine
end
section
open PySem PySem.W PyProof.Rows PySem.Calls
set_option maxHeartbeats 1000000
namespace Mine
theorem D_wall (w : World) : Def w 21 ⟨#[95, 119, 97, 108, 108]⟩ (fnParams (stAt 0)) (fnBody (stAt 0)) (fnScope (stAt 0)) (.ref 20) :=
  ⟨⟨_, _, _, _, _, show (K w.params).lookup 21 = some ⟨.type "function", none, .func (fnOf (fnName (stAt 0)) ⟨#[95, 119, 97, 108, 108]⟩ (fnParams (stAt 0)) (fnBody (stAt 0)) (fnScope (stAt 0)) .none .none .none (.str ⟨#[95, 95, 109, 97, 105, 110, 95, 95]⟩ 164) none (.ref 20) .none), #[]⟩ from by kernel_rfl⟩, by kernel_rfl, by kernel_rfl, by kernel_rfl, by kernel_rfl⟩
theorem G_wall (w : World) : GFn w ⟨#[95, 119, 97, 108, 108]⟩ 21 := ⟨by kernel_rfl, by kernel_rfl⟩
-- _wall: ['k'] cells [] globals []
noncomputable def X_wall (w : World) (h₀ : Heap) (L : Addr) (A : Around) (d : Nat) (os : OsState) : Cx := { w := w, h₀ := h₀, L := L, A := A, d := d, os := os, env := envOf ⟨#[95, 119, 97, 108, 108]⟩ (fnScope (stAt 0)) L 21 (.ref 20), ns := [⟨#[107]⟩], gs := [] }
theorem D_LispSignal_init (w : World) : Def w 35 ⟨#[76, 105, 115, 112, 83, 105, 103, 110, 97, 108, 46, 95, 95, 105, 110, 105, 116, 95, 95]⟩ (fnParams (stIn 2 0)) (fnBody (stIn 2 0)) (fnScope (stIn 2 0)) (.ref 34) :=
  ⟨⟨_, _, _, _, _, show (K w.params).lookup 35 = some ⟨.type "function", none, .func (fnOf (fnName (stIn 2 0)) ⟨#[76, 105, 115, 112, 83, 105, 103, 110, 97, 108, 46, 95, 95, 105, 110, 105, 116, 95, 95]⟩ (fnParams (stIn 2 0)) (fnBody (stIn 2 0)) (fnScope (stIn 2 0)) .none .none .none (.str ⟨#[101, 109, 97, 99, 115, 46, 101, 114, 114, 111, 114, 115]⟩ 194) none (.ref 34) .none), #[]⟩ from by kernel_rfl⟩, by kernel_rfl, by kernel_rfl, by kernel_rfl, by kernel_rfl⟩
theorem C_LispSignal (w : World) : nsIn (K w.params) mainGlobals ⟨#[76, 105, 115, 112, 83, 105, 103, 110, 97, 108]⟩ = some (some (.ref 38)) := by kernel_rfl
-- LispSignal.__init__: ['self', 'symbol', 'data'] cells [] globals []
noncomputable def X_LispSignal_init (w : World) (h₀ : Heap) (L : Addr) (A : Around) (d : Nat) (os : OsState) : Cx := { w := w, h₀ := h₀, L := L, A := A, d := d, os := os, env := envOf ⟨#[76, 105, 115, 112, 83, 105, 103, 110, 97, 108, 46, 95, 95, 105, 110, 105, 116, 95, 95]⟩ (fnScope (stIn 2 0)) L 35 (.ref 34), ns := [⟨#[115, 101, 108, 102]⟩, ⟨#[115, 121, 109, 98, 111, 108]⟩, ⟨#[100, 97, 116, 97]⟩], gs := [] }
theorem D_directory_part (w : World) : Def w 48 ⟨#[100, 105, 114, 101, 99, 116, 111, 114, 121, 95, 112, 97, 114, 116]⟩ (fnParams (stAt 5)) (fnBody (stAt 5)) (fnScope (stAt 5)) (.ref 47) :=
  ⟨⟨_, _, _, _, _, show (K w.params).lookup 48 = some ⟨.type "function", none, .func (fnOf (fnName (stAt 5)) ⟨#[100, 105, 114, 101, 99, 116, 111, 114, 121, 95, 112, 97, 114, 116]⟩ (fnParams (stAt 5)) (fnBody (stAt 5)) (fnScope (stAt 5)) .none .none .none (.str ⟨#[101, 109, 97, 99, 115, 46, 102, 105, 108, 101, 110, 97, 109, 101, 115]⟩ 227) none (.ref 47) .none), #[]⟩ from by kernel_rfl⟩, by kernel_rfl, by kernel_rfl, by kernel_rfl, by kernel_rfl⟩
theorem G_directory_part (w : World) : GFn w ⟨#[100, 105, 114, 101, 99, 116, 111, 114, 121, 95, 112, 97, 114, 116]⟩ 48 := ⟨by kernel_rfl, by kernel_rfl⟩
-- directory_part: ['name', 'end'] cells [] globals []
noncomputable def X_directory_part (w : World) (h₀ : Heap) (L : Addr) (A : Around) (d : Nat) (os : OsState) : Cx := { w := w, h₀ := h₀, L := L, A := A, d := d, os := os, env := envOf ⟨#[100, 105, 114, 101, 99, 116, 111, 114, 121, 95, 112, 97, 114, 116]⟩ (fnScope (stAt 5)) L 48 (.ref 47), ns := [⟨#[110, 97, 109, 101]⟩, ⟨#[101, 110, 100]⟩], gs := [] }
theorem D_last_part (w : World) : Def w 55 ⟨#[108, 97, 115, 116, 95, 112, 97, 114, 116]⟩ (fnParams (stAt 6)) (fnBody (stAt 6)) (fnScope (stAt 6)) (.ref 54) :=
  ⟨⟨_, _, _, _, _, show (K w.params).lookup 55 = some ⟨.type "function", none, .func (fnOf (fnName (stAt 6)) ⟨#[108, 97, 115, 116, 95, 112, 97, 114, 116]⟩ (fnParams (stAt 6)) (fnBody (stAt 6)) (fnScope (stAt 6)) .none .none .none (.str ⟨#[101, 109, 97, 99, 115, 46, 102, 105, 108, 101, 110, 97, 109, 101, 115]⟩ 227) none (.ref 54) .none), #[]⟩ from by kernel_rfl⟩, by kernel_rfl, by kernel_rfl, by kernel_rfl, by kernel_rfl⟩
theorem G_last_part (w : World) : GFn w ⟨#[108, 97, 115, 116, 95, 112, 97, 114, 116]⟩ 55 := ⟨by kernel_rfl, by kernel_rfl⟩
-- last_part: ['name'] cells [] globals []
noncomputable def X_last_part (w : World) (h₀ : Heap) (L : Addr) (A : Around) (d : Nat) (os : OsState) : Cx := { w := w, h₀ := h₀, L := L, A := A, d := d, os := os, env := envOf ⟨#[108, 97, 115, 116, 95, 112, 97, 114, 116]⟩ (fnScope (stAt 6)) L 55 (.ref 54), ns := [⟨#[110, 97, 109, 101]⟩], gs := [] }
theorem D_steps_of (w : World) : Def w 62 ⟨#[115, 116, 101, 112, 115, 95, 111, 102]⟩ (fnParams (stAt 7)) (fnBody (stAt 7)) (fnScope (stAt 7)) (.ref 61) :=
  ⟨⟨_, _, _, _, _, show (K w.params).lookup 62 = some ⟨.type "function", none, .func (fnOf (fnName (stAt 7)) ⟨#[115, 116, 101, 112, 115, 95, 111, 102]⟩ (fnParams (stAt 7)) (fnBody (stAt 7)) (fnScope (stAt 7)) .none .none .none (.str ⟨#[101, 109, 97, 99, 115, 46, 102, 105, 108, 101, 110, 97, 109, 101, 115]⟩ 227) none (.ref 61) .none), #[]⟩ from by kernel_rfl⟩, by kernel_rfl, by kernel_rfl, by kernel_rfl, by kernel_rfl⟩
theorem G_steps_of (w : World) : GFn w ⟨#[115, 116, 101, 112, 115, 95, 111, 102]⟩ 62 := ⟨by kernel_rfl, by kernel_rfl⟩
-- steps_of: ['name', 'found', 'step'] cells [] globals []
noncomputable def X_steps_of (w : World) (h₀ : Heap) (L : Addr) (A : Around) (d : Nat) (os : OsState) : Cx := { w := w, h₀ := h₀, L := L, A := A, d := d, os := os, env := envOf ⟨#[115, 116, 101, 112, 115, 95, 111, 102]⟩ (fnScope (stAt 7)) L 62 (.ref 61), ns := [⟨#[110, 97, 109, 101]⟩, ⟨#[102, 111, 117, 110, 100]⟩, ⟨#[115, 116, 101, 112]⟩], gs := [] }
theorem D_backup_name (w : World) : Def w 69 ⟨#[98, 97, 99, 107, 117, 112, 95, 110, 97, 109, 101]⟩ (fnParams (stAt 8)) (fnBody (stAt 8)) (fnScope (stAt 8)) (.ref 68) :=
  ⟨⟨_, _, _, _, _, show (K w.params).lookup 69 = some ⟨.type "function", none, .func (fnOf (fnName (stAt 8)) ⟨#[98, 97, 99, 107, 117, 112, 95, 110, 97, 109, 101]⟩ (fnParams (stAt 8)) (fnBody (stAt 8)) (fnScope (stAt 8)) .none .none .none (.str ⟨#[101, 109, 97, 99, 115, 46, 102, 105, 108, 101, 110, 97, 109, 101, 115]⟩ 227) none (.ref 68) .none), #[]⟩ from by kernel_rfl⟩, by kernel_rfl, by kernel_rfl, by kernel_rfl, by kernel_rfl⟩
theorem G_backup_name (w : World) : GFn w ⟨#[98, 97, 99, 107, 117, 112, 95, 110, 97, 109, 101]⟩ 69 := ⟨by kernel_rfl, by kernel_rfl⟩
-- backup_name: ['name'] cells [] globals []
noncomputable def X_backup_name (w : World) (h₀ : Heap) (L : Addr) (A : Around) (d : Nat) (os : OsState) : Cx := { w := w, h₀ := h₀, L := L, A := A, d := d, os := os, env := envOf ⟨#[98, 97, 99, 107, 117, 112, 95, 110, 97, 109, 101]⟩ (fnScope (stAt 8)) L 69 (.ref 68), ns := [⟨#[110, 97, 109, 101]⟩], gs := [] }
theorem D_numbered_name (w : World) : Def w 76 ⟨#[110, 117, 109, 98, 101, 114, 101, 100, 95, 110, 97, 109, 101]⟩ (fnParams (stAt 9)) (fnBody (stAt 9)) (fnScope (stAt 9)) (.ref 75) :=
  ⟨⟨_, _, _, _, _, show (K w.params).lookup 76 = some ⟨.type "function", none, .func (fnOf (fnName (stAt 9)) ⟨#[110, 117, 109, 98, 101, 114, 101, 100, 95, 110, 97, 109, 101]⟩ (fnParams (stAt 9)) (fnBody (stAt 9)) (fnScope (stAt 9)) .none .none .none (.str ⟨#[101, 109, 97, 99, 115, 46, 102, 105, 108, 101, 110, 97, 109, 101, 115]⟩ 227) none (.ref 75) .none), #[]⟩ from by kernel_rfl⟩, by kernel_rfl, by kernel_rfl, by kernel_rfl, by kernel_rfl⟩
theorem G_numbered_name (w : World) : GFn w ⟨#[110, 117, 109, 98, 101, 114, 101, 100, 95, 110, 97, 109, 101]⟩ 76 := ⟨by kernel_rfl, by kernel_rfl⟩
-- numbered_name: ['name', 'number'] cells [] globals ['str']
noncomputable def X_numbered_name (w : World) (h₀ : Heap) (L : Addr) (A : Around) (d : Nat) (os : OsState) : Cx := { w := w, h₀ := h₀, L := L, A := A, d := d, os := os, env := envOf ⟨#[110, 117, 109, 98, 101, 114, 101, 100, 95, 110, 97, 109, 101]⟩ (fnScope (stAt 9)) L 76 (.ref 75), ns := [⟨#[110, 97, 109, 101]⟩, ⟨#[110, 117, 109, 98, 101, 114]⟩], gs := [⟨#[115, 116, 114]⟩] }
theorem D_backup_number (w : World) : Def w 83 ⟨#[98, 97, 99, 107, 117, 112, 95, 110, 117, 109, 98, 101, 114]⟩ (fnParams (stAt 10)) (fnBody (stAt 10)) (fnScope (stAt 10)) (.ref 82) :=
  ⟨⟨_, _, _, _, _, show (K w.params).lookup 83 = some ⟨.type "function", none, .func (fnOf (fnName (stAt 10)) ⟨#[98, 97, 99, 107, 117, 112, 95, 110, 117, 109, 98, 101, 114]⟩ (fnParams (stAt 10)) (fnBody (stAt 10)) (fnScope (stAt 10)) .none .none .none (.str ⟨#[101, 109, 97, 99, 115, 46, 102, 105, 108, 101, 110, 97, 109, 101, 115]⟩ 227) none (.ref 82) .none), #[]⟩ from by kernel_rfl⟩, by kernel_rfl, by kernel_rfl, by kernel_rfl, by kernel_rfl⟩
theorem G_backup_number (w : World) : GFn w ⟨#[98, 97, 99, 107, 117, 112, 95, 110, 117, 109, 98, 101, 114]⟩ 83 := ⟨by kernel_rfl, by kernel_rfl⟩
-- backup_number: ['name', 'other', 'head', 'figures', 'found', 'sign'] cells [] globals ['len', 'DIGITS']
noncomputable def X_backup_number (w : World) (h₀ : Heap) (L : Addr) (A : Around) (d : Nat) (os : OsState) : Cx := { w := w, h₀ := h₀, L := L, A := A, d := d, os := os, env := envOf ⟨#[98, 97, 99, 107, 117, 112, 95, 110, 117, 109, 98, 101, 114]⟩ (fnScope (stAt 10)) L 83 (.ref 82), ns := [⟨#[110, 97, 109, 101]⟩, ⟨#[111, 116, 104, 101, 114]⟩, ⟨#[104, 101, 97, 100]⟩, ⟨#[102, 105, 103, 117, 114, 101, 115]⟩, ⟨#[102, 111, 117, 110, 100]⟩, ⟨#[115, 105, 103, 110]⟩], gs := [⟨#[108, 101, 110]⟩, ⟨#[68, 73, 71, 73, 84, 83]⟩] }
theorem D_Manner_init (w : World) : Def w 97 ⟨#[77, 97, 110, 110, 101, 114, 46, 95, 95, 105, 110, 105, 116, 95, 95]⟩ (fnParams (stIn 16 0)) (fnBody (stIn 16 0)) (fnScope (stIn 16 0)) (.ref 96) :=
  ⟨⟨_, _, _, _, _, show (K w.params).lookup 97 = some ⟨.type "function", none, .func (fnOf (fnName (stIn 16 0)) ⟨#[77, 97, 110, 110, 101, 114, 46, 95, 95, 105, 110, 105, 116, 95, 95]⟩ (fnParams (stIn 16 0)) (fnBody (stIn 16 0)) (fnScope (stIn 16 0)) .none .none .none (.str ⟨#[101, 109, 97, 99, 115, 46, 102, 105, 108, 101, 115, 97, 118, 105, 110, 103]⟩ 282) none (.ref 96) .none), #[]⟩ from by kernel_rfl⟩, by kernel_rfl, by kernel_rfl, by kernel_rfl, by kernel_rfl⟩
theorem N_Manner (w : World) : IsMade w 100 97 := ⟨by kernel_rfl, by kernel_rfl, by kernel_rfl, by kernel_rfl⟩
theorem C_Manner (w : World) : nsIn (K w.params) mainGlobals ⟨#[77, 97, 110, 110, 101, 114]⟩ = some (some (.ref 100)) := by kernel_rfl
-- Manner.__init__: ['self', 'wants_newline', 'backups', 'is_copying', 'oldest', 'newest', 'is_precious'] cells [] globals []
noncomputable def X_Manner_init (w : World) (h₀ : Heap) (L : Addr) (A : Around) (d : Nat) (os : OsState) : Cx := { w := w, h₀ := h₀, L := L, A := A, d := d, os := os, env := envOf ⟨#[77, 97, 110, 110, 101, 114, 46, 95, 95, 105, 110, 105, 116, 95, 95]⟩ (fnScope (stIn 16 0)) L 97 (.ref 96), ns := [⟨#[115, 101, 108, 102]⟩, ⟨#[119, 97, 110, 116, 115, 95, 110, 101, 119, 108, 105, 110, 101]⟩, ⟨#[98, 97, 99, 107, 117, 112, 115]⟩, ⟨#[105, 115, 95, 99, 111, 112, 121, 105, 110, 103]⟩, ⟨#[111, 108, 100, 101, 115, 116]⟩, ⟨#[110, 101, 119, 101, 115, 116]⟩, ⟨#[105, 115, 95, 112, 114, 101, 99, 105, 111, 117, 115]⟩], gs := [] }
theorem D_numbers_there (w : World) : Def w 111 ⟨#[110, 117, 109, 98, 101, 114, 115, 95, 116, 104, 101, 114, 101]⟩ (fnParams (stAt 17)) (fnBody (stAt 17)) (fnScope (stAt 17)) (.ref 110) :=
  ⟨⟨_, _, _, _, _, show (K w.params).lookup 111 = some ⟨.type "function", none, .func (fnOf (fnName (stAt 17)) ⟨#[110, 117, 109, 98, 101, 114, 115, 95, 116, 104, 101, 114, 101]⟩ (fnParams (stAt 17)) (fnBody (stAt 17)) (fnScope (stAt 17)) .none .none .none (.str ⟨#[101, 109, 97, 99, 115, 46, 102, 105, 108, 101, 115, 97, 118, 105, 110, 103]⟩ 282) none (.ref 110) .none), #[]⟩ from by kernel_rfl⟩, by kernel_rfl, by kernel_rfl, by kernel_rfl, by kernel_rfl⟩
theorem G_numbers_there (w : World) : GFn w ⟨#[110, 117, 109, 98, 101, 114, 115, 95, 116, 104, 101, 114, 101]⟩ 111 := ⟨by kernel_rfl, by kernel_rfl⟩
-- numbers_there: ['tree', 'name', 'directory', 'own', 'found', 'other', 'number'] cells [] globals ['directory_part', 'last_part', 'backup_number', 'sorted']
noncomputable def X_numbers_there (w : World) (h₀ : Heap) (L : Addr) (A : Around) (d : Nat) (os : OsState) : Cx := { w := w, h₀ := h₀, L := L, A := A, d := d, os := os, env := envOf ⟨#[110, 117, 109, 98, 101, 114, 115, 95, 116, 104, 101, 114, 101]⟩ (fnScope (stAt 17)) L 111 (.ref 110), ns := [⟨#[116, 114, 101, 101]⟩, ⟨#[110, 97, 109, 101]⟩, ⟨#[100, 105, 114, 101, 99, 116, 111, 114, 121]⟩, ⟨#[111, 119, 110]⟩, ⟨#[102, 111, 117, 110, 100]⟩, ⟨#[111, 116, 104, 101, 114]⟩, ⟨#[110, 117, 109, 98, 101, 114]⟩], gs := [⟨#[100, 105, 114, 101, 99, 116, 111, 114, 121, 95, 112, 97, 114, 116]⟩, ⟨#[108, 97, 115, 116, 95, 112, 97, 114, 116]⟩, ⟨#[98, 97, 99, 107, 117, 112, 95, 110, 117, 109, 98, 101, 114]⟩, ⟨#[115, 111, 114, 116, 101, 100]⟩] }
theorem D_backup_plan (w : World) : Def w 116 ⟨#[98, 97, 99, 107, 117, 112, 95, 112, 108, 97, 110]⟩ (fnParams (stAt 18)) (fnBody (stAt 18)) (fnScope (stAt 18)) (.ref 115) :=
  ⟨⟨_, _, _, _, _, show (K w.params).lookup 116 = some ⟨.type "function", none, .func (fnOf (fnName (stAt 18)) ⟨#[98, 97, 99, 107, 117, 112, 95, 112, 108, 97, 110]⟩ (fnParams (stAt 18)) (fnBody (stAt 18)) (fnScope (stAt 18)) .none .none .none (.str ⟨#[101, 109, 97, 99, 115, 46, 102, 105, 108, 101, 115, 97, 118, 105, 110, 103]⟩ 282) none (.ref 115) .none), #[]⟩ from by kernel_rfl⟩, by kernel_rfl, by kernel_rfl, by kernel_rfl, by kernel_rfl⟩
theorem G_backup_plan (w : World) : GFn w ⟨#[98, 97, 99, 107, 117, 112, 95, 112, 108, 97, 110]⟩ 116 := ⟨by kernel_rfl, by kernel_rfl⟩
-- backup_plan: ['tree', 'name', 'manner', 'numbers', 'number', 'every', 'last'] cells ['name'] globals ['NEVER', 'numbers_there', 'SINGLE', 'AS_BEFORE', 'backup_name', 'max', 'len', 'numbered_name']
noncomputable def X_backup_plan (w : World) (h₀ : Heap) (L : Addr) (A : Around) (d : Nat) (os : OsState) : Cx := { w := w, h₀ := h₀, L := L, A := A, d := d, os := os, env := envOfC ⟨#[98, 97, 99, 107, 117, 112, 95, 112, 108, 97, 110]⟩ (fnScope (stAt 18)) L 116 (.ref 115), ns := [⟨#[116, 114, 101, 101]⟩, ⟨#[109, 97, 110, 110, 101, 114]⟩, ⟨#[110, 117, 109, 98, 101, 114, 115]⟩, ⟨#[110, 117, 109, 98, 101, 114]⟩, ⟨#[101, 118, 101, 114, 121]⟩, ⟨#[108, 97, 115, 116]⟩], gs := [⟨#[78, 69, 86, 69, 82]⟩, ⟨#[110, 117, 109, 98, 101, 114, 115, 95, 116, 104, 101, 114, 101]⟩, ⟨#[83, 73, 78, 71, 76, 69]⟩, ⟨#[65, 83, 95, 66, 69, 70, 79, 82, 69]⟩, ⟨#[98, 97, 99, 107, 117, 112, 95, 110, 97, 109, 101]⟩, ⟨#[109, 97, 120]⟩, ⟨#[108, 101, 110]⟩, ⟨#[110, 117, 109, 98, 101, 114, 101, 100, 95, 110, 97, 109, 101]⟩] }
theorem D_make_backup (w : World) : Def w 123 ⟨#[109, 97, 107, 101, 95, 98, 97, 99, 107, 117, 112]⟩ (fnParams (stAt 19)) (fnBody (stAt 19)) (fnScope (stAt 19)) (.ref 122) :=
  ⟨⟨_, _, _, _, _, show (K w.params).lookup 123 = some ⟨.type "function", none, .func (fnOf (fnName (stAt 19)) ⟨#[109, 97, 107, 101, 95, 98, 97, 99, 107, 117, 112]⟩ (fnParams (stAt 19)) (fnBody (stAt 19)) (fnScope (stAt 19)) .none .none .none (.str ⟨#[101, 109, 97, 99, 115, 46, 102, 105, 108, 101, 115, 97, 118, 105, 110, 103]⟩ 282) none (.ref 122) .none), #[]⟩ from by kernel_rfl⟩, by kernel_rfl, by kernel_rfl, by kernel_rfl, by kernel_rfl⟩
theorem G_make_backup (w : World) : GFn w ⟨#[109, 97, 107, 101, 95, 98, 97, 99, 107, 117, 112]⟩ 123 := ⟨by kernel_rfl, by kernel_rfl⟩
-- make_backup: ['tree', 'name', 'manner', 'other', 'extra'] cells [] globals ['backup_plan']
noncomputable def X_make_backup (w : World) (h₀ : Heap) (L : Addr) (A : Around) (d : Nat) (os : OsState) : Cx := { w := w, h₀ := h₀, L := L, A := A, d := d, os := os, env := envOf ⟨#[109, 97, 107, 101, 95, 98, 97, 99, 107, 117, 112]⟩ (fnScope (stAt 19)) L 123 (.ref 122), ns := [⟨#[116, 114, 101, 101]⟩, ⟨#[110, 97, 109, 101]⟩, ⟨#[109, 97, 110, 110, 101, 114]⟩, ⟨#[111, 116, 104, 101, 114]⟩, ⟨#[101, 120, 116, 114, 97]⟩], gs := [⟨#[98, 97, 99, 107, 117, 112, 95, 112, 108, 97, 110]⟩] }
theorem D_spare_name (w : World) : Def w 130 ⟨#[115, 112, 97, 114, 101, 95, 110, 97, 109, 101]⟩ (fnParams (stAt 20)) (fnBody (stAt 20)) (fnScope (stAt 20)) (.ref 129) :=
  ⟨⟨_, _, _, _, _, show (K w.params).lookup 130 = some ⟨.type "function", none, .func (fnOf (fnName (stAt 20)) ⟨#[115, 112, 97, 114, 101, 95, 110, 97, 109, 101]⟩ (fnParams (stAt 20)) (fnBody (stAt 20)) (fnScope (stAt 20)) .none .none .none (.str ⟨#[101, 109, 97, 99, 115, 46, 102, 105, 108, 101, 115, 97, 118, 105, 110, 103]⟩ 282) none (.ref 129) .none), #[]⟩ from by kernel_rfl⟩, by kernel_rfl, by kernel_rfl, by kernel_rfl, by kernel_rfl⟩
theorem G_spare_name (w : World) : GFn w ⟨#[115, 112, 97, 114, 101, 95, 110, 97, 109, 101]⟩ 130 := ⟨by kernel_rfl, by kernel_rfl⟩
-- spare_name: ['tree', 'name', 'number', 'found'] cells [] globals ['range', 'str']
noncomputable def X_spare_name (w : World) (h₀ : Heap) (L : Addr) (A : Around) (d : Nat) (os : OsState) : Cx := { w := w, h₀ := h₀, L := L, A := A, d := d, os := os, env := envOf ⟨#[115, 112, 97, 114, 101, 95, 110, 97, 109, 101]⟩ (fnScope (stAt 20)) L 130 (.ref 129), ns := [⟨#[116, 114, 101, 101]⟩, ⟨#[110, 97, 109, 101]⟩, ⟨#[110, 117, 109, 98, 101, 114]⟩, ⟨#[102, 111, 117, 110, 100]⟩], gs := [⟨#[114, 97, 110, 103, 101]⟩, ⟨#[115, 116, 114]⟩] }
theorem D_write_precious (w : World) : Def w 137 ⟨#[119, 114, 105, 116, 101, 95, 112, 114, 101, 99, 105, 111, 117, 115]⟩ (fnParams (stAt 21)) (fnBody (stAt 21)) (fnScope (stAt 21)) (.ref 136) :=
  ⟨⟨_, _, _, _, _, show (K w.params).lookup 137 = some ⟨.type "function", none, .func (fnOf (fnName (stAt 21)) ⟨#[119, 114, 105, 116, 101, 95, 112, 114, 101, 99, 105, 111, 117, 115]⟩ (fnParams (stAt 21)) (fnBody (stAt 21)) (fnScope (stAt 21)) .none .none .none (.str ⟨#[101, 109, 97, 99, 115, 46, 102, 105, 108, 101, 115, 97, 118, 105, 110, 103]⟩ 282) none (.ref 136) .none), #[]⟩ from by kernel_rfl⟩, by kernel_rfl, by kernel_rfl, by kernel_rfl, by kernel_rfl⟩
theorem G_write_precious (w : World) : GFn w ⟨#[119, 114, 105, 116, 101, 95, 112, 114, 101, 99, 105, 111, 117, 115]⟩ 137 := ⟨by kernel_rfl, by kernel_rfl⟩
-- write_precious: ['tree', 'name', 'codes', 'spare'] cells [] globals ['spare_name']
noncomputable def X_write_precious (w : World) (h₀ : Heap) (L : Addr) (A : Around) (d : Nat) (os : OsState) : Cx := { w := w, h₀ := h₀, L := L, A := A, d := d, os := os, env := envOf ⟨#[119, 114, 105, 116, 101, 95, 112, 114, 101, 99, 105, 111, 117, 115]⟩ (fnScope (stAt 21)) L 137 (.ref 136), ns := [⟨#[116, 114, 101, 101]⟩, ⟨#[110, 97, 109, 101]⟩, ⟨#[99, 111, 100, 101, 115]⟩, ⟨#[115, 112, 97, 114, 101]⟩], gs := [⟨#[115, 112, 97, 114, 101, 95, 110, 97, 109, 101]⟩] }
theorem D_write_file (w : World) : Def w 144 ⟨#[119, 114, 105, 116, 101, 95, 102, 105, 108, 101]⟩ (fnParams (stAt 22)) (fnBody (stAt 22)) (fnScope (stAt 22)) (.ref 143) :=
  ⟨⟨_, _, _, _, _, show (K w.params).lookup 144 = some ⟨.type "function", none, .func (fnOf (fnName (stAt 22)) ⟨#[119, 114, 105, 116, 101, 95, 102, 105, 108, 101]⟩ (fnParams (stAt 22)) (fnBody (stAt 22)) (fnScope (stAt 22)) .none .none .none (.str ⟨#[101, 109, 97, 99, 115, 46, 102, 105, 108, 101, 115, 97, 118, 105, 110, 103]⟩ 282) none (.ref 143) .none), #[]⟩ from by kernel_rfl⟩, by kernel_rfl, by kernel_rfl, by kernel_rfl, by kernel_rfl⟩
theorem G_write_file (w : World) : GFn w ⟨#[119, 114, 105, 116, 101, 95, 102, 105, 108, 101]⟩ 144 := ⟨by kernel_rfl, by kernel_rfl⟩
-- write_file: ['tree', 'name', 'codes', 'manner', 'is_backed_up', 'made', 'extra', 'other', 'own'] cells [] globals ['LispSignal', 'make_backup', 'NEVER', 'write_precious']
noncomputable def X_write_file (w : World) (h₀ : Heap) (L : Addr) (A : Around) (d : Nat) (os : OsState) : Cx := { w := w, h₀ := h₀, L := L, A := A, d := d, os := os, env := envOf ⟨#[119, 114, 105, 116, 101, 95, 102, 105, 108, 101]⟩ (fnScope (stAt 22)) L 144 (.ref 143), ns := [⟨#[116, 114, 101, 101]⟩, ⟨#[110, 97, 109, 101]⟩, ⟨#[99, 111, 100, 101, 115]⟩, ⟨#[109, 97, 110, 110, 101, 114]⟩, ⟨#[105, 115, 95, 98, 97, 99, 107, 101, 100, 95, 117, 112]⟩, ⟨#[109, 97, 100, 101]⟩, ⟨#[101, 120, 116, 114, 97]⟩, ⟨#[111, 116, 104, 101, 114]⟩, ⟨#[111, 119, 110]⟩], gs := [⟨#[76, 105, 115, 112, 83, 105, 103, 110, 97, 108]⟩, ⟨#[109, 97, 107, 101, 95, 98, 97, 99, 107, 117, 112]⟩, ⟨#[78, 69, 86, 69, 82]⟩, ⟨#[119, 114, 105, 116, 101, 95, 112, 114, 101, 99, 105, 111, 117, 115]⟩] }
theorem D_Entry_init (w : World) : Def w 171 ⟨#[69, 110, 116, 114, 121, 46, 95, 95, 105, 110, 105, 116, 95, 95]⟩ (fnParams (stIn 29 0)) (fnBody (stIn 29 0)) (fnScope (stIn 29 0)) (.ref 170) :=
  ⟨⟨_, _, _, _, _, show (K w.params).lookup 171 = some ⟨.type "function", none, .func (fnOf (fnName (stIn 29 0)) ⟨#[69, 110, 116, 114, 121, 46, 95, 95, 105, 110, 105, 116, 95, 95]⟩ (fnParams (stIn 29 0)) (fnBody (stIn 29 0)) (fnScope (stIn 29 0)) .none .none .none (.str ⟨#[101, 109, 97, 99, 115, 46, 102, 105, 108, 101, 116, 114, 101, 101]⟩ 396) none (.ref 170) .none), #[]⟩ from by kernel_rfl⟩, by kernel_rfl, by kernel_rfl, by kernel_rfl, by kernel_rfl⟩
theorem N_Entry (w : World) : IsMade w 174 171 := ⟨by kernel_rfl, by kernel_rfl, by kernel_rfl, by kernel_rfl⟩
theorem C_Entry (w : World) : nsIn (K w.params) mainGlobals ⟨#[69, 110, 116, 114, 121]⟩ = some (some (.ref 174)) := by kernel_rfl
-- Entry.__init__: ['self', 'sort', 'content', 'stamp'] cells [] globals []
noncomputable def X_Entry_init (w : World) (h₀ : Heap) (L : Addr) (A : Around) (d : Nat) (os : OsState) : Cx := { w := w, h₀ := h₀, L := L, A := A, d := d, os := os, env := envOf ⟨#[69, 110, 116, 114, 121, 46, 95, 95, 105, 110, 105, 116, 95, 95]⟩ (fnScope (stIn 29 0)) L 171 (.ref 170), ns := [⟨#[115, 101, 108, 102]⟩, ⟨#[115, 111, 114, 116]⟩, ⟨#[99, 111, 110, 116, 101, 110, 116]⟩, ⟨#[115, 116, 97, 109, 112]⟩], gs := [] }
theorem D_FileTree_init (w : World) : Def w 192 ⟨#[70, 105, 108, 101, 84, 114, 101, 101, 46, 95, 95, 105, 110, 105, 116, 95, 95]⟩ (fnParams (stIn 30 0)) (fnBody (stIn 30 0)) (fnScope (stIn 30 0)) (.ref 191) :=
  ⟨⟨_, _, _, _, _, show (K w.params).lookup 192 = some ⟨.type "function", none, .func (fnOf (fnName (stIn 30 0)) ⟨#[70, 105, 108, 101, 84, 114, 101, 101, 46, 95, 95, 105, 110, 105, 116, 95, 95]⟩ (fnParams (stIn 30 0)) (fnBody (stIn 30 0)) (fnScope (stIn 30 0)) .none .none .none (.str ⟨#[101, 109, 97, 99, 115, 46, 102, 105, 108, 101, 116, 114, 101, 101]⟩ 396) none (.ref 191) .none), #[]⟩ from by kernel_rfl⟩, by kernel_rfl, by kernel_rfl, by kernel_rfl, by kernel_rfl⟩
theorem N_FileTree (w : World) : IsMade w 375 192 := ⟨by kernel_rfl, by kernel_rfl, by kernel_rfl, by kernel_rfl⟩
theorem C_FileTree (w : World) : nsIn (K w.params) mainGlobals ⟨#[70, 105, 108, 101, 84, 114, 101, 101]⟩ = some (some (.ref 375)) := by kernel_rfl
-- FileTree.__init__: ['self'] cells [] globals ['Entry', 'DIRECTORY']
noncomputable def X_FileTree_init (w : World) (h₀ : Heap) (L : Addr) (A : Around) (d : Nat) (os : OsState) : Cx := { w := w, h₀ := h₀, L := L, A := A, d := d, os := os, env := envOf ⟨#[70, 105, 108, 101, 84, 114, 101, 101, 46, 95, 95, 105, 110, 105, 116, 95, 95]⟩ (fnScope (stIn 30 0)) L 192 (.ref 191), ns := [⟨#[115, 101, 108, 102]⟩], gs := [⟨#[69, 110, 116, 114, 121]⟩, ⟨#[68, 73, 82, 69, 67, 84, 79, 82, 89]⟩] }
theorem D_FileTree_step (w : World) : Def w 199 ⟨#[70, 105, 108, 101, 84, 114, 101, 101, 46, 115, 116, 101, 112]⟩ (fnParams (stIn 30 1)) (fnBody (stIn 30 1)) (fnScope (stIn 30 1)) (.ref 198) :=
  ⟨⟨_, _, _, _, _, show (K w.params).lookup 199 = some ⟨.type "function", none, .func (fnOf (fnName (stIn 30 1)) ⟨#[70, 105, 108, 101, 84, 114, 101, 101, 46, 115, 116, 101, 112]⟩ (fnParams (stIn 30 1)) (fnBody (stIn 30 1)) (fnScope (stIn 30 1)) .none .none .none (.str ⟨#[101, 109, 97, 99, 115, 46, 102, 105, 108, 101, 116, 114, 101, 101]⟩ 396) none (.ref 198) .none), #[]⟩ from by kernel_rfl⟩, by kernel_rfl, by kernel_rfl, by kernel_rfl, by kernel_rfl⟩
theorem M_FileTree_step (w : World) : IsMeth w 375 ⟨#[115, 116, 101, 112]⟩ 199 := ⟨by kernel_rfl, by kernel_rfl, by kernel_rfl, by kernel_rfl⟩
-- FileTree.step: ['self'] cells [] globals ['Ended']
noncomputable def X_FileTree_step (w : World) (h₀ : Heap) (L : Addr) (A : Around) (d : Nat) (os : OsState) : Cx := { w := w, h₀ := h₀, L := L, A := A, d := d, os := os, env := envOf ⟨#[70, 105, 108, 101, 84, 114, 101, 101, 46, 115, 116, 101, 112]⟩ (fnScope (stIn 30 1)) L 199 (.ref 198), ns := [⟨#[115, 101, 108, 102]⟩], gs := [⟨#[69, 110, 100, 101, 100]⟩] }
theorem D_FileTree_true_name (w : World) : Def w 206 ⟨#[70, 105, 108, 101, 84, 114, 101, 101, 46, 116, 114, 117, 101, 95, 110, 97, 109, 101]⟩ (fnParams (stIn 30 2)) (fnBody (stIn 30 2)) (fnScope (stIn 30 2)) (.ref 205) :=
  ⟨⟨_, _, _, _, _, show (K w.params).lookup 206 = some ⟨.type "function", none, .func (fnOf (fnName (stIn 30 2)) ⟨#[70, 105, 108, 101, 84, 114, 101, 101, 46, 116, 114, 117, 101, 95, 110, 97, 109, 101]⟩ (fnParams (stIn 30 2)) (fnBody (stIn 30 2)) (fnScope (stIn 30 2)) .none .none .none (.str ⟨#[101, 109, 97, 99, 115, 46, 102, 105, 108, 101, 116, 114, 101, 101]⟩ 396) none (.ref 205) .none), #[]⟩ from by kernel_rfl⟩, by kernel_rfl, by kernel_rfl, by kernel_rfl, by kernel_rfl⟩
theorem M_FileTree_true_name (w : World) : IsMeth w 375 ⟨#[116, 114, 117, 101, 95, 110, 97, 109, 101]⟩ 206 := ⟨by kernel_rfl, by kernel_rfl, by kernel_rfl, by kernel_rfl⟩
-- FileTree.true_name: ['self', 'name', 'at', 'turn', 'follow', 'target', 'whole'] cells [] globals ['range', 'MOST_LINKS', 'directory_part', 'steps_of', 'len', 'LispSignal']
noncomputable def X_FileTree_true_name (w : World) (h₀ : Heap) (L : Addr) (A : Around) (d : Nat) (os : OsState) : Cx := { w := w, h₀ := h₀, L := L, A := A, d := d, os := os, env := envOf ⟨#[70, 105, 108, 101, 84, 114, 101, 101, 46, 116, 114, 117, 101, 95, 110, 97, 109, 101]⟩ (fnScope (stIn 30 2)) L 206 (.ref 205), ns := [⟨#[115, 101, 108, 102]⟩, ⟨#[110, 97, 109, 101]⟩, ⟨#[97, 116]⟩, ⟨#[116, 117, 114, 110]⟩, ⟨#[102, 111, 108, 108, 111, 119]⟩, ⟨#[116, 97, 114, 103, 101, 116]⟩, ⟨#[119, 104, 111, 108, 101]⟩], gs := [⟨#[114, 97, 110, 103, 101]⟩, ⟨#[77, 79, 83, 84, 95, 76, 73, 78, 75, 83]⟩, ⟨#[100, 105, 114, 101, 99, 116, 111, 114, 121, 95, 112, 97, 114, 116]⟩, ⟨#[115, 116, 101, 112, 115, 95, 111, 102]⟩, ⟨#[108, 101, 110]⟩, ⟨#[76, 105, 115, 112, 83, 105, 103, 110, 97, 108]⟩] }
theorem D_FileTree_first_link (w : World) : Def w 213 ⟨#[70, 105, 108, 101, 84, 114, 101, 101, 46, 102, 105, 114, 115, 116, 95, 108, 105, 110, 107]⟩ (fnParams (stIn 30 3)) (fnBody (stIn 30 3)) (fnScope (stIn 30 3)) (.ref 212) :=
  ⟨⟨_, _, _, _, _, show (K w.params).lookup 213 = some ⟨.type "function", none, .func (fnOf (fnName (stIn 30 3)) ⟨#[70, 105, 108, 101, 84, 114, 101, 101, 46, 102, 105, 114, 115, 116, 95, 108, 105, 110, 107]⟩ (fnParams (stIn 30 3)) (fnBody (stIn 30 3)) (fnScope (stIn 30 3)) .none .none .none (.str ⟨#[101, 109, 97, 99, 115, 46, 102, 105, 108, 101, 116, 114, 101, 101]⟩ 396) none (.ref 212) .none), #[]⟩ from by kernel_rfl⟩, by kernel_rfl, by kernel_rfl, by kernel_rfl, by kernel_rfl⟩
theorem M_FileTree_first_link (w : World) : IsMeth w 375 ⟨#[102, 105, 114, 115, 116, 95, 108, 105, 110, 107]⟩ 213 := ⟨by kernel_rfl, by kernel_rfl, by kernel_rfl, by kernel_rfl⟩
-- FileTree.first_link: ['self', 'name', 'end', 'found'] cells [] globals ['LINK']
noncomputable def X_FileTree_first_link (w : World) (h₀ : Heap) (L : Addr) (A : Around) (d : Nat) (os : OsState) : Cx := { w := w, h₀ := h₀, L := L, A := A, d := d, os := os, env := envOf ⟨#[70, 105, 108, 101, 84, 114, 101, 101, 46, 102, 105, 114, 115, 116, 95, 108, 105, 110, 107]⟩ (fnScope (stIn 30 3)) L 213 (.ref 212), ns := [⟨#[115, 101, 108, 102]⟩, ⟨#[110, 97, 109, 101]⟩, ⟨#[101, 110, 100]⟩, ⟨#[102, 111, 117, 110, 100]⟩], gs := [⟨#[76, 73, 78, 75]⟩] }
theorem D_FileTree_parent_true (w : World) : Def w 220 ⟨#[70, 105, 108, 101, 84, 114, 101, 101, 46, 112, 97, 114, 101, 110, 116, 95, 116, 114, 117, 101]⟩ (fnParams (stIn 30 4)) (fnBody (stIn 30 4)) (fnScope (stIn 30 4)) (.ref 219) :=
  ⟨⟨_, _, _, _, _, show (K w.params).lookup 220 = some ⟨.type "function", none, .func (fnOf (fnName (stIn 30 4)) ⟨#[70, 105, 108, 101, 84, 114, 101, 101, 46, 112, 97, 114, 101, 110, 116, 95, 116, 114, 117, 101]⟩ (fnParams (stIn 30 4)) (fnBody (stIn 30 4)) (fnScope (stIn 30 4)) .none .none .none (.str ⟨#[101, 109, 97, 99, 115, 46, 102, 105, 108, 101, 116, 114, 101, 101]⟩ 396) none (.ref 219) .none), #[]⟩ from by kernel_rfl⟩, by kernel_rfl, by kernel_rfl, by kernel_rfl, by kernel_rfl⟩
theorem M_FileTree_parent_true (w : World) : IsMeth w 375 ⟨#[112, 97, 114, 101, 110, 116, 95, 116, 114, 117, 101]⟩ 220 := ⟨by kernel_rfl, by kernel_rfl, by kernel_rfl, by kernel_rfl⟩
-- FileTree.parent_true: ['self', 'name', 'above'] cells [] globals ['parent_of', 'joined', 'last_part']
noncomputable def X_FileTree_parent_true (w : World) (h₀ : Heap) (L : Addr) (A : Around) (d : Nat) (os : OsState) : Cx := { w := w, h₀ := h₀, L := L, A := A, d := d, os := os, env := envOf ⟨#[70, 105, 108, 101, 84, 114, 101, 101, 46, 112, 97, 114, 101, 110, 116, 95, 116, 114, 117, 101]⟩ (fnScope (stIn 30 4)) L 220 (.ref 219), ns := [⟨#[115, 101, 108, 102]⟩, ⟨#[110, 97, 109, 101]⟩, ⟨#[97, 98, 111, 118, 101]⟩], gs := [⟨#[112, 97, 114, 101, 110, 116, 95, 111, 102]⟩, ⟨#[106, 111, 105, 110, 101, 100]⟩, ⟨#[108, 97, 115, 116, 95, 112, 97, 114, 116]⟩] }
theorem D_FileTree_entry (w : World) : Def w 227 ⟨#[70, 105, 108, 101, 84, 114, 101, 101, 46, 101, 110, 116, 114, 121]⟩ (fnParams (stIn 30 5)) (fnBody (stIn 30 5)) (fnScope (stIn 30 5)) (.ref 226) :=
  ⟨⟨_, _, _, _, _, show (K w.params).lookup 227 = some ⟨.type "function", none, .func (fnOf (fnName (stIn 30 5)) ⟨#[70, 105, 108, 101, 84, 114, 101, 101, 46, 101, 110, 116, 114, 121]⟩ (fnParams (stIn 30 5)) (fnBody (stIn 30 5)) (fnScope (stIn 30 5)) .none .none .none (.str ⟨#[101, 109, 97, 99, 115, 46, 102, 105, 108, 101, 116, 114, 101, 101]⟩ 396) none (.ref 226) .none), #[]⟩ from by kernel_rfl⟩, by kernel_rfl, by kernel_rfl, by kernel_rfl, by kernel_rfl⟩
theorem M_FileTree_entry (w : World) : IsMeth w 375 ⟨#[101, 110, 116, 114, 121]⟩ 227 := ⟨by kernel_rfl, by kernel_rfl, by kernel_rfl, by kernel_rfl⟩
-- FileTree.entry: ['self', 'name'] cells [] globals []
noncomputable def X_FileTree_entry (w : World) (h₀ : Heap) (L : Addr) (A : Around) (d : Nat) (os : OsState) : Cx := { w := w, h₀ := h₀, L := L, A := A, d := d, os := os, env := envOf ⟨#[70, 105, 108, 101, 84, 114, 101, 101, 46, 101, 110, 116, 114, 121]⟩ (fnScope (stIn 30 5)) L 227 (.ref 226), ns := [⟨#[115, 101, 108, 102]⟩, ⟨#[110, 97, 109, 101]⟩], gs := [] }
theorem D_FileTree_is_there (w : World) : Def w 234 ⟨#[70, 105, 108, 101, 84, 114, 101, 101, 46, 105, 115, 95, 116, 104, 101, 114, 101]⟩ (fnParams (stIn 30 6)) (fnBody (stIn 30 6)) (fnScope (stIn 30 6)) (.ref 233) :=
  ⟨⟨_, _, _, _, _, show (K w.params).lookup 234 = some ⟨.type "function", none, .func (fnOf (fnName (stIn 30 6)) ⟨#[70, 105, 108, 101, 84, 114, 101, 101, 46, 105, 115, 95, 116, 104, 101, 114, 101]⟩ (fnParams (stIn 30 6)) (fnBody (stIn 30 6)) (fnScope (stIn 30 6)) .none .none .none (.str ⟨#[101, 109, 97, 99, 115, 46, 102, 105, 108, 101, 116, 114, 101, 101]⟩ 396) none (.ref 233) .none), #[]⟩ from by kernel_rfl⟩, by kernel_rfl, by kernel_rfl, by kernel_rfl, by kernel_rfl⟩
theorem M_FileTree_is_there (w : World) : IsMeth w 375 ⟨#[105, 115, 95, 116, 104, 101, 114, 101]⟩ 234 := ⟨by kernel_rfl, by kernel_rfl, by kernel_rfl, by kernel_rfl⟩
-- FileTree.is_there: ['self', 'name'] cells [] globals []
noncomputable def X_FileTree_is_there (w : World) (h₀ : Heap) (L : Addr) (A : Around) (d : Nat) (os : OsState) : Cx := { w := w, h₀ := h₀, L := L, A := A, d := d, os := os, env := envOf ⟨#[70, 105, 108, 101, 84, 114, 101, 101, 46, 105, 115, 95, 116, 104, 101, 114, 101]⟩ (fnScope (stIn 30 6)) L 234 (.ref 233), ns := [⟨#[115, 101, 108, 102]⟩, ⟨#[110, 97, 109, 101]⟩], gs := [] }
theorem D_FileTree_is_directory (w : World) : Def w 241 ⟨#[70, 105, 108, 101, 84, 114, 101, 101, 46, 105, 115, 95, 100, 105, 114, 101, 99, 116, 111, 114, 121]⟩ (fnParams (stIn 30 7)) (fnBody (stIn 30 7)) (fnScope (stIn 30 7)) (.ref 240) :=
  ⟨⟨_, _, _, _, _, show (K w.params).lookup 241 = some ⟨.type "function", none, .func (fnOf (fnName (stIn 30 7)) ⟨#[70, 105, 108, 101, 84, 114, 101, 101, 46, 105, 115, 95, 100, 105, 114, 101, 99, 116, 111, 114, 121]⟩ (fnParams (stIn 30 7)) (fnBody (stIn 30 7)) (fnScope (stIn 30 7)) .none .none .none (.str ⟨#[101, 109, 97, 99, 115, 46, 102, 105, 108, 101, 116, 114, 101, 101]⟩ 396) none (.ref 240) .none), #[]⟩ from by kernel_rfl⟩, by kernel_rfl, by kernel_rfl, by kernel_rfl, by kernel_rfl⟩
theorem M_FileTree_is_directory (w : World) : IsMeth w 375 ⟨#[105, 115, 95, 100, 105, 114, 101, 99, 116, 111, 114, 121]⟩ 241 := ⟨by kernel_rfl, by kernel_rfl, by kernel_rfl, by kernel_rfl⟩
-- FileTree.is_directory: ['self', 'name', 'found'] cells [] globals ['DIRECTORY']
noncomputable def X_FileTree_is_directory (w : World) (h₀ : Heap) (L : Addr) (A : Around) (d : Nat) (os : OsState) : Cx := { w := w, h₀ := h₀, L := L, A := A, d := d, os := os, env := envOf ⟨#[70, 105, 108, 101, 84, 114, 101, 101, 46, 105, 115, 95, 100, 105, 114, 101, 99, 116, 111, 114, 121]⟩ (fnScope (stIn 30 7)) L 241 (.ref 240), ns := [⟨#[115, 101, 108, 102]⟩, ⟨#[110, 97, 109, 101]⟩, ⟨#[102, 111, 117, 110, 100]⟩], gs := [⟨#[68, 73, 82, 69, 67, 84, 79, 82, 89]⟩] }
theorem D_FileTree_is_plain (w : World) : Def w 248 ⟨#[70, 105, 108, 101, 84, 114, 101, 101, 46, 105, 115, 95, 112, 108, 97, 105, 110]⟩ (fnParams (stIn 30 8)) (fnBody (stIn 30 8)) (fnScope (stIn 30 8)) (.ref 247) :=
  ⟨⟨_, _, _, _, _, show (K w.params).lookup 248 = some ⟨.type "function", none, .func (fnOf (fnName (stIn 30 8)) ⟨#[70, 105, 108, 101, 84, 114, 101, 101, 46, 105, 115, 95, 112, 108, 97, 105, 110]⟩ (fnParams (stIn 30 8)) (fnBody (stIn 30 8)) (fnScope (stIn 30 8)) .none .none .none (.str ⟨#[101, 109, 97, 99, 115, 46, 102, 105, 108, 101, 116, 114, 101, 101]⟩ 396) none (.ref 247) .none), #[]⟩ from by kernel_rfl⟩, by kernel_rfl, by kernel_rfl, by kernel_rfl, by kernel_rfl⟩
theorem M_FileTree_is_plain (w : World) : IsMeth w 375 ⟨#[105, 115, 95, 112, 108, 97, 105, 110]⟩ 248 := ⟨by kernel_rfl, by kernel_rfl, by kernel_rfl, by kernel_rfl⟩
-- FileTree.is_plain: ['self', 'name', 'found'] cells [] globals ['PLAIN']
noncomputable def X_FileTree_is_plain (w : World) (h₀ : Heap) (L : Addr) (A : Around) (d : Nat) (os : OsState) : Cx := { w := w, h₀ := h₀, L := L, A := A, d := d, os := os, env := envOf ⟨#[70, 105, 108, 101, 84, 114, 101, 101, 46, 105, 115, 95, 112, 108, 97, 105, 110]⟩ (fnScope (stIn 30 8)) L 248 (.ref 247), ns := [⟨#[115, 101, 108, 102]⟩, ⟨#[110, 97, 109, 101]⟩, ⟨#[102, 111, 117, 110, 100]⟩], gs := [⟨#[80, 76, 65, 73, 78]⟩] }
theorem D_FileTree_need_plain (w : World) : Def w 255 ⟨#[70, 105, 108, 101, 84, 114, 101, 101, 46, 110, 101, 101, 100, 95, 112, 108, 97, 105, 110]⟩ (fnParams (stIn 30 9)) (fnBody (stIn 30 9)) (fnScope (stIn 30 9)) (.ref 254) :=
  ⟨⟨_, _, _, _, _, show (K w.params).lookup 255 = some ⟨.type "function", none, .func (fnOf (fnName (stIn 30 9)) ⟨#[70, 105, 108, 101, 84, 114, 101, 101, 46, 110, 101, 101, 100, 95, 112, 108, 97, 105, 110]⟩ (fnParams (stIn 30 9)) (fnBody (stIn 30 9)) (fnScope (stIn 30 9)) .none .none .none (.str ⟨#[101, 109, 97, 99, 115, 46, 102, 105, 108, 101, 116, 114, 101, 101]⟩ 396) none (.ref 254) .none), #[]⟩ from by kernel_rfl⟩, by kernel_rfl, by kernel_rfl, by kernel_rfl, by kernel_rfl⟩
theorem M_FileTree_need_plain (w : World) : IsMeth w 375 ⟨#[110, 101, 101, 100, 95, 112, 108, 97, 105, 110]⟩ 255 := ⟨by kernel_rfl, by kernel_rfl, by kernel_rfl, by kernel_rfl⟩
-- FileTree.need_plain: ['self', 'name', 'found'] cells [] globals ['LispSignal', 'DIRECTORY']
noncomputable def X_FileTree_need_plain (w : World) (h₀ : Heap) (L : Addr) (A : Around) (d : Nat) (os : OsState) : Cx := { w := w, h₀ := h₀, L := L, A := A, d := d, os := os, env := envOf ⟨#[70, 105, 108, 101, 84, 114, 101, 101, 46, 110, 101, 101, 100, 95, 112, 108, 97, 105, 110]⟩ (fnScope (stIn 30 9)) L 255 (.ref 254), ns := [⟨#[115, 101, 108, 102]⟩, ⟨#[110, 97, 109, 101]⟩, ⟨#[102, 111, 117, 110, 100]⟩], gs := [⟨#[76, 105, 115, 112, 83, 105, 103, 110, 97, 108]⟩, ⟨#[68, 73, 82, 69, 67, 84, 79, 82, 89]⟩] }
theorem D_FileTree_need_directory (w : World) : Def w 262 ⟨#[70, 105, 108, 101, 84, 114, 101, 101, 46, 110, 101, 101, 100, 95, 100, 105, 114, 101, 99, 116, 111, 114, 121]⟩ (fnParams (stIn 30 10)) (fnBody (stIn 30 10)) (fnScope (stIn 30 10)) (.ref 261) :=
  ⟨⟨_, _, _, _, _, show (K w.params).lookup 262 = some ⟨.type "function", none, .func (fnOf (fnName (stIn 30 10)) ⟨#[70, 105, 108, 101, 84, 114, 101, 101, 46, 110, 101, 101, 100, 95, 100, 105, 114, 101, 99, 116, 111, 114, 121]⟩ (fnParams (stIn 30 10)) (fnBody (stIn 30 10)) (fnScope (stIn 30 10)) .none .none .none (.str ⟨#[101, 109, 97, 99, 115, 46, 102, 105, 108, 101, 116, 114, 101, 101]⟩ 396) none (.ref 261) .none), #[]⟩ from by kernel_rfl⟩, by kernel_rfl, by kernel_rfl, by kernel_rfl, by kernel_rfl⟩
theorem M_FileTree_need_directory (w : World) : IsMeth w 375 ⟨#[110, 101, 101, 100, 95, 100, 105, 114, 101, 99, 116, 111, 114, 121]⟩ 262 := ⟨by kernel_rfl, by kernel_rfl, by kernel_rfl, by kernel_rfl⟩
-- FileTree.need_directory: ['self', 'name', 'found'] cells [] globals ['LispSignal', 'DIRECTORY']
noncomputable def X_FileTree_need_directory (w : World) (h₀ : Heap) (L : Addr) (A : Around) (d : Nat) (os : OsState) : Cx := { w := w, h₀ := h₀, L := L, A := A, d := d, os := os, env := envOf ⟨#[70, 105, 108, 101, 84, 114, 101, 101, 46, 110, 101, 101, 100, 95, 100, 105, 114, 101, 99, 116, 111, 114, 121]⟩ (fnScope (stIn 30 10)) L 262 (.ref 261), ns := [⟨#[115, 101, 108, 102]⟩, ⟨#[110, 97, 109, 101]⟩, ⟨#[102, 111, 117, 110, 100]⟩], gs := [⟨#[76, 105, 115, 112, 83, 105, 103, 110, 97, 108]⟩, ⟨#[68, 73, 82, 69, 67, 84, 79, 82, 89]⟩] }
theorem D_FileTree_read (w : World) : Def w 269 ⟨#[70, 105, 108, 101, 84, 114, 101, 101, 46, 114, 101, 97, 100]⟩ (fnParams (stIn 30 11)) (fnBody (stIn 30 11)) (fnScope (stIn 30 11)) (.ref 268) :=
  ⟨⟨_, _, _, _, _, show (K w.params).lookup 269 = some ⟨.type "function", none, .func (fnOf (fnName (stIn 30 11)) ⟨#[70, 105, 108, 101, 84, 114, 101, 101, 46, 114, 101, 97, 100]⟩ (fnParams (stIn 30 11)) (fnBody (stIn 30 11)) (fnScope (stIn 30 11)) .none .none .none (.str ⟨#[101, 109, 97, 99, 115, 46, 102, 105, 108, 101, 116, 114, 101, 101]⟩ 396) none (.ref 268) .none), #[]⟩ from by kernel_rfl⟩, by kernel_rfl, by kernel_rfl, by kernel_rfl, by kernel_rfl⟩
theorem M_FileTree_read (w : World) : IsMeth w 375 ⟨#[114, 101, 97, 100]⟩ 269 := ⟨by kernel_rfl, by kernel_rfl, by kernel_rfl, by kernel_rfl⟩
-- FileTree.read: ['self', 'name'] cells [] globals ['list']
noncomputable def X_FileTree_read (w : World) (h₀ : Heap) (L : Addr) (A : Around) (d : Nat) (os : OsState) : Cx := { w := w, h₀ := h₀, L := L, A := A, d := d, os := os, env := envOf ⟨#[70, 105, 108, 101, 84, 114, 101, 101, 46, 114, 101, 97, 100]⟩ (fnScope (stIn 30 11)) L 269 (.ref 268), ns := [⟨#[115, 101, 108, 102]⟩, ⟨#[110, 97, 109, 101]⟩], gs := [⟨#[108, 105, 115, 116]⟩] }
theorem D_FileTree_stamp (w : World) : Def w 276 ⟨#[70, 105, 108, 101, 84, 114, 101, 101, 46, 115, 116, 97, 109, 112]⟩ (fnParams (stIn 30 12)) (fnBody (stIn 30 12)) (fnScope (stIn 30 12)) (.ref 275) :=
  ⟨⟨_, _, _, _, _, show (K w.params).lookup 276 = some ⟨.type "function", none, .func (fnOf (fnName (stIn 30 12)) ⟨#[70, 105, 108, 101, 84, 114, 101, 101, 46, 115, 116, 97, 109, 112]⟩ (fnParams (stIn 30 12)) (fnBody (stIn 30 12)) (fnScope (stIn 30 12)) .none .none .none (.str ⟨#[101, 109, 97, 99, 115, 46, 102, 105, 108, 101, 116, 114, 101, 101]⟩ 396) none (.ref 275) .none), #[]⟩ from by kernel_rfl⟩, by kernel_rfl, by kernel_rfl, by kernel_rfl, by kernel_rfl⟩
theorem M_FileTree_stamp (w : World) : IsMeth w 375 ⟨#[115, 116, 97, 109, 112]⟩ 276 := ⟨by kernel_rfl, by kernel_rfl, by kernel_rfl, by kernel_rfl⟩
-- FileTree.stamp: ['self', 'name', 'found'] cells [] globals []
noncomputable def X_FileTree_stamp (w : World) (h₀ : Heap) (L : Addr) (A : Around) (d : Nat) (os : OsState) : Cx := { w := w, h₀ := h₀, L := L, A := A, d := d, os := os, env := envOf ⟨#[70, 105, 108, 101, 84, 114, 101, 101, 46, 115, 116, 97, 109, 112]⟩ (fnScope (stIn 30 12)) L 276 (.ref 275), ns := [⟨#[115, 101, 108, 102]⟩, ⟨#[110, 97, 109, 101]⟩, ⟨#[102, 111, 117, 110, 100]⟩], gs := [] }
theorem D_FileTree_may_write (w : World) : Def w 283 ⟨#[70, 105, 108, 101, 84, 114, 101, 101, 46, 109, 97, 121, 95, 119, 114, 105, 116, 101]⟩ (fnParams (stIn 30 13)) (fnBody (stIn 30 13)) (fnScope (stIn 30 13)) (.ref 282) :=
  ⟨⟨_, _, _, _, _, show (K w.params).lookup 283 = some ⟨.type "function", none, .func (fnOf (fnName (stIn 30 13)) ⟨#[70, 105, 108, 101, 84, 114, 101, 101, 46, 109, 97, 121, 95, 119, 114, 105, 116, 101]⟩ (fnParams (stIn 30 13)) (fnBody (stIn 30 13)) (fnScope (stIn 30 13)) .none .none .none (.str ⟨#[101, 109, 97, 99, 115, 46, 102, 105, 108, 101, 116, 114, 101, 101]⟩ 396) none (.ref 282) .none), #[]⟩ from by kernel_rfl⟩, by kernel_rfl, by kernel_rfl, by kernel_rfl, by kernel_rfl⟩
theorem M_FileTree_may_write (w : World) : IsMeth w 375 ⟨#[109, 97, 121, 95, 119, 114, 105, 116, 101]⟩ 283 := ⟨by kernel_rfl, by kernel_rfl, by kernel_rfl, by kernel_rfl⟩
-- FileTree.may_write: ['self', 'name', 'found', 'above'] cells [] globals ['PLAIN', 'parent_of', 'DIRECTORY']
noncomputable def X_FileTree_may_write (w : World) (h₀ : Heap) (L : Addr) (A : Around) (d : Nat) (os : OsState) : Cx := { w := w, h₀ := h₀, L := L, A := A, d := d, os := os, env := envOf ⟨#[70, 105, 108, 101, 84, 114, 101, 101, 46, 109, 97, 121, 95, 119, 114, 105, 116, 101]⟩ (fnScope (stIn 30 13)) L 283 (.ref 282), ns := [⟨#[115, 101, 108, 102]⟩, ⟨#[110, 97, 109, 101]⟩, ⟨#[102, 111, 117, 110, 100]⟩, ⟨#[97, 98, 111, 118, 101]⟩], gs := [⟨#[80, 76, 65, 73, 78]⟩, ⟨#[112, 97, 114, 101, 110, 116, 95, 111, 102]⟩, ⟨#[68, 73, 82, 69, 67, 84, 79, 82, 89]⟩] }
theorem D_FileTree_link_text (w : World) : Def w 290 ⟨#[70, 105, 108, 101, 84, 114, 101, 101, 46, 108, 105, 110, 107, 95, 116, 101, 120, 116]⟩ (fnParams (stIn 30 14)) (fnBody (stIn 30 14)) (fnScope (stIn 30 14)) (.ref 289) :=
  ⟨⟨_, _, _, _, _, show (K w.params).lookup 290 = some ⟨.type "function", none, .func (fnOf (fnName (stIn 30 14)) ⟨#[70, 105, 108, 101, 84, 114, 101, 101, 46, 108, 105, 110, 107, 95, 116, 101, 120, 116]⟩ (fnParams (stIn 30 14)) (fnBody (stIn 30 14)) (fnScope (stIn 30 14)) .none .none .none (.str ⟨#[101, 109, 97, 99, 115, 46, 102, 105, 108, 101, 116, 114, 101, 101]⟩ 396) none (.ref 289) .none), #[]⟩ from by kernel_rfl⟩, by kernel_rfl, by kernel_rfl, by kernel_rfl, by kernel_rfl⟩
theorem M_FileTree_link_text (w : World) : IsMeth w 375 ⟨#[108, 105, 110, 107, 95, 116, 101, 120, 116]⟩ 290 := ⟨by kernel_rfl, by kernel_rfl, by kernel_rfl, by kernel_rfl⟩
-- FileTree.link_text: ['self', 'name', 'found'] cells [] globals ['LINK']
noncomputable def X_FileTree_link_text (w : World) (h₀ : Heap) (L : Addr) (A : Around) (d : Nat) (os : OsState) : Cx := { w := w, h₀ := h₀, L := L, A := A, d := d, os := os, env := envOf ⟨#[70, 105, 108, 101, 84, 114, 101, 101, 46, 108, 105, 110, 107, 95, 116, 101, 120, 116]⟩ (fnScope (stIn 30 14)) L 290 (.ref 289), ns := [⟨#[115, 101, 108, 102]⟩, ⟨#[110, 97, 109, 101]⟩, ⟨#[102, 111, 117, 110, 100]⟩], gs := [⟨#[76, 73, 78, 75]⟩] }
theorem D_FileTree_listed (w : World) : Def w 297 ⟨#[70, 105, 108, 101, 84, 114, 101, 101, 46, 108, 105, 115, 116, 101, 100]⟩ (fnParams (stIn 30 15)) (fnBody (stIn 30 15)) (fnScope (stIn 30 15)) (.ref 296) :=
  ⟨⟨_, _, _, _, _, show (K w.params).lookup 297 = some ⟨.type "function", none, .func (fnOf (fnName (stIn 30 15)) ⟨#[70, 105, 108, 101, 84, 114, 101, 101, 46, 108, 105, 115, 116, 101, 100]⟩ (fnParams (stIn 30 15)) (fnBody (stIn 30 15)) (fnScope (stIn 30 15)) .none .none .none (.str ⟨#[101, 109, 97, 99, 115, 46, 102, 105, 108, 101, 116, 114, 101, 101]⟩ 396) none (.ref 296) .none), #[]⟩ from by kernel_rfl⟩, by kernel_rfl, by kernel_rfl, by kernel_rfl, by kernel_rfl⟩
theorem M_FileTree_listed (w : World) : IsMeth w 375 ⟨#[108, 105, 115, 116, 101, 100]⟩ 297 := ⟨by kernel_rfl, by kernel_rfl, by kernel_rfl, by kernel_rfl⟩
-- FileTree.listed: ['self', 'name', 'whole', 'head', 'found', 'other'] cells [] globals ['len', 'sorted']
noncomputable def X_FileTree_listed (w : World) (h₀ : Heap) (L : Addr) (A : Around) (d : Nat) (os : OsState) : Cx := { w := w, h₀ := h₀, L := L, A := A, d := d, os := os, env := envOf ⟨#[70, 105, 108, 101, 84, 114, 101, 101, 46, 108, 105, 115, 116, 101, 100]⟩ (fnScope (stIn 30 15)) L 297 (.ref 296), ns := [⟨#[115, 101, 108, 102]⟩, ⟨#[110, 97, 109, 101]⟩, ⟨#[119, 104, 111, 108, 101]⟩, ⟨#[104, 101, 97, 100]⟩, ⟨#[102, 111, 117, 110, 100]⟩, ⟨#[111, 116, 104, 101, 114]⟩], gs := [⟨#[108, 101, 110]⟩, ⟨#[115, 111, 114, 116, 101, 100]⟩] }
theorem D_FileTree_need_room (w : World) : Def w 304 ⟨#[70, 105, 108, 101, 84, 114, 101, 101, 46, 110, 101, 101, 100, 95, 114, 111, 111, 109]⟩ (fnParams (stIn 30 16)) (fnBody (stIn 30 16)) (fnScope (stIn 30 16)) (.ref 303) :=
  ⟨⟨_, _, _, _, _, show (K w.params).lookup 304 = some ⟨.type "function", none, .func (fnOf (fnName (stIn 30 16)) ⟨#[70, 105, 108, 101, 84, 114, 101, 101, 46, 110, 101, 101, 100, 95, 114, 111, 111, 109]⟩ (fnParams (stIn 30 16)) (fnBody (stIn 30 16)) (fnScope (stIn 30 16)) .none .none .none (.str ⟨#[101, 109, 97, 99, 115, 46, 102, 105, 108, 101, 116, 114, 101, 101]⟩ 396) none (.ref 303) .none), #[]⟩ from by kernel_rfl⟩, by kernel_rfl, by kernel_rfl, by kernel_rfl, by kernel_rfl⟩
theorem M_FileTree_need_room (w : World) : IsMeth w 375 ⟨#[110, 101, 101, 100, 95, 114, 111, 111, 109]⟩ 304 := ⟨by kernel_rfl, by kernel_rfl, by kernel_rfl, by kernel_rfl⟩
-- FileTree.need_room: ['self', 'name', 'above'] cells [] globals ['parent_of', 'LispSignal', 'DIRECTORY']
noncomputable def X_FileTree_need_room (w : World) (h₀ : Heap) (L : Addr) (A : Around) (d : Nat) (os : OsState) : Cx := { w := w, h₀ := h₀, L := L, A := A, d := d, os := os, env := envOf ⟨#[70, 105, 108, 101, 84, 114, 101, 101, 46, 110, 101, 101, 100, 95, 114, 111, 111, 109]⟩ (fnScope (stIn 30 16)) L 304 (.ref 303), ns := [⟨#[115, 101, 108, 102]⟩, ⟨#[110, 97, 109, 101]⟩, ⟨#[97, 98, 111, 118, 101]⟩], gs := [⟨#[112, 97, 114, 101, 110, 116, 95, 111, 102]⟩, ⟨#[76, 105, 115, 112, 83, 105, 103, 110, 97, 108]⟩, ⟨#[68, 73, 82, 69, 67, 84, 79, 82, 89]⟩] }
theorem D_FileTree_write (w : World) : Def w 311 ⟨#[70, 105, 108, 101, 84, 114, 101, 101, 46, 119, 114, 105, 116, 101]⟩ (fnParams (stIn 30 17)) (fnBody (stIn 30 17)) (fnScope (stIn 30 17)) (.ref 310) :=
  ⟨⟨_, _, _, _, _, show (K w.params).lookup 311 = some ⟨.type "function", none, .func (fnOf (fnName (stIn 30 17)) ⟨#[70, 105, 108, 101, 84, 114, 101, 101, 46, 119, 114, 105, 116, 101]⟩ (fnParams (stIn 30 17)) (fnBody (stIn 30 17)) (fnScope (stIn 30 17)) .none .none .none (.str ⟨#[101, 109, 97, 99, 115, 46, 102, 105, 108, 101, 116, 114, 101, 101]⟩ 396) none (.ref 310) .none), #[]⟩ from by kernel_rfl⟩, by kernel_rfl, by kernel_rfl, by kernel_rfl, by kernel_rfl⟩
theorem M_FileTree_write (w : World) : IsMeth w 375 ⟨#[119, 114, 105, 116, 101]⟩ 311 := ⟨by kernel_rfl, by kernel_rfl, by kernel_rfl, by kernel_rfl⟩
-- FileTree.write: ['self', 'name', 'codes', 'whole', 'found'] cells [] globals ['Entry', 'PLAIN', 'DIRECTORY', 'LispSignal']
noncomputable def X_FileTree_write (w : World) (h₀ : Heap) (L : Addr) (A : Around) (d : Nat) (os : OsState) : Cx := { w := w, h₀ := h₀, L := L, A := A, d := d, os := os, env := envOf ⟨#[70, 105, 108, 101, 84, 114, 101, 101, 46, 119, 114, 105, 116, 101]⟩ (fnScope (stIn 30 17)) L 311 (.ref 310), ns := [⟨#[115, 101, 108, 102]⟩, ⟨#[110, 97, 109, 101]⟩, ⟨#[99, 111, 100, 101, 115]⟩, ⟨#[119, 104, 111, 108, 101]⟩, ⟨#[102, 111, 117, 110, 100]⟩], gs := [⟨#[69, 110, 116, 114, 121]⟩, ⟨#[80, 76, 65, 73, 78]⟩, ⟨#[68, 73, 82, 69, 67, 84, 79, 82, 89]⟩, ⟨#[76, 105, 115, 112, 83, 105, 103, 110, 97, 108]⟩] }
theorem D_FileTree_fill (w : World) : Def w 318 ⟨#[70, 105, 108, 101, 84, 114, 101, 101, 46, 102, 105, 108, 108]⟩ (fnParams (stIn 30 18)) (fnBody (stIn 30 18)) (fnScope (stIn 30 18)) (.ref 317) :=
  ⟨⟨_, _, _, _, _, show (K w.params).lookup 318 = some ⟨.type "function", none, .func (fnOf (fnName (stIn 30 18)) ⟨#[70, 105, 108, 101, 84, 114, 101, 101, 46, 102, 105, 108, 108]⟩ (fnParams (stIn 30 18)) (fnBody (stIn 30 18)) (fnScope (stIn 30 18)) .none .none .none (.str ⟨#[101, 109, 97, 99, 115, 46, 102, 105, 108, 101, 116, 114, 101, 101]⟩ 396) none (.ref 317) .none), #[]⟩ from by kernel_rfl⟩, by kernel_rfl, by kernel_rfl, by kernel_rfl, by kernel_rfl⟩
theorem M_FileTree_fill (w : World) : IsMeth w 375 ⟨#[102, 105, 108, 108]⟩ 318 := ⟨by kernel_rfl, by kernel_rfl, by kernel_rfl, by kernel_rfl⟩
-- FileTree.fill: ['self', 'entry', 'codes'] cells [] globals ['list']
noncomputable def X_FileTree_fill (w : World) (h₀ : Heap) (L : Addr) (A : Around) (d : Nat) (os : OsState) : Cx := { w := w, h₀ := h₀, L := L, A := A, d := d, os := os, env := envOf ⟨#[70, 105, 108, 101, 84, 114, 101, 101, 46, 102, 105, 108, 108]⟩ (fnScope (stIn 30 18)) L 318 (.ref 317), ns := [⟨#[115, 101, 108, 102]⟩, ⟨#[101, 110, 116, 114, 121]⟩, ⟨#[99, 111, 100, 101, 115]⟩], gs := [⟨#[108, 105, 115, 116]⟩] }
theorem D_FileTree_append (w : World) : Def w 325 ⟨#[70, 105, 108, 101, 84, 114, 101, 101, 46, 97, 112, 112, 101, 110, 100]⟩ (fnParams (stIn 30 19)) (fnBody (stIn 30 19)) (fnScope (stIn 30 19)) (.ref 324) :=
  ⟨⟨_, _, _, _, _, show (K w.params).lookup 325 = some ⟨.type "function", none, .func (fnOf (fnName (stIn 30 19)) ⟨#[70, 105, 108, 101, 84, 114, 101, 101, 46, 97, 112, 112, 101, 110, 100]⟩ (fnParams (stIn 30 19)) (fnBody (stIn 30 19)) (fnScope (stIn 30 19)) .none .none .none (.str ⟨#[101, 109, 97, 99, 115, 46, 102, 105, 108, 101, 116, 114, 101, 101]⟩ 396) none (.ref 324) .none), #[]⟩ from by kernel_rfl⟩, by kernel_rfl, by kernel_rfl, by kernel_rfl, by kernel_rfl⟩
theorem M_FileTree_append (w : World) : IsMeth w 375 ⟨#[97, 112, 112, 101, 110, 100]⟩ 325 := ⟨by kernel_rfl, by kernel_rfl, by kernel_rfl, by kernel_rfl⟩
-- FileTree.append: ['self', 'name', 'codes'] cells [] globals ['list']
noncomputable def X_FileTree_append (w : World) (h₀ : Heap) (L : Addr) (A : Around) (d : Nat) (os : OsState) : Cx := { w := w, h₀ := h₀, L := L, A := A, d := d, os := os, env := envOf ⟨#[70, 105, 108, 101, 84, 114, 101, 101, 46, 97, 112, 112, 101, 110, 100]⟩ (fnScope (stIn 30 19)) L 325 (.ref 324), ns := [⟨#[115, 101, 108, 102]⟩, ⟨#[110, 97, 109, 101]⟩, ⟨#[99, 111, 100, 101, 115]⟩], gs := [⟨#[108, 105, 115, 116]⟩] }
theorem D_FileTree_make_directory (w : World) : Def w 332 ⟨#[70, 105, 108, 101, 84, 114, 101, 101, 46, 109, 97, 107, 101, 95, 100, 105, 114, 101, 99, 116, 111, 114, 121]⟩ (fnParams (stIn 30 20)) (fnBody (stIn 30 20)) (fnScope (stIn 30 20)) (.ref 331) :=
  ⟨⟨_, _, _, _, _, show (K w.params).lookup 332 = some ⟨.type "function", none, .func (fnOf (fnName (stIn 30 20)) ⟨#[70, 105, 108, 101, 84, 114, 101, 101, 46, 109, 97, 107, 101, 95, 100, 105, 114, 101, 99, 116, 111, 114, 121]⟩ (fnParams (stIn 30 20)) (fnBody (stIn 30 20)) (fnScope (stIn 30 20)) .none .none .none (.str ⟨#[101, 109, 97, 99, 115, 46, 102, 105, 108, 101, 116, 114, 101, 101]⟩ 396) none (.ref 331) .none), #[]⟩ from by kernel_rfl⟩, by kernel_rfl, by kernel_rfl, by kernel_rfl, by kernel_rfl⟩
theorem M_FileTree_make_directory (w : World) : IsMeth w 375 ⟨#[109, 97, 107, 101, 95, 100, 105, 114, 101, 99, 116, 111, 114, 121]⟩ 332 := ⟨by kernel_rfl, by kernel_rfl, by kernel_rfl, by kernel_rfl⟩
-- FileTree.make_directory: ['self', 'name', 'whole'] cells [] globals ['LispSignal', 'Entry', 'DIRECTORY']
noncomputable def X_FileTree_make_directory (w : World) (h₀ : Heap) (L : Addr) (A : Around) (d : Nat) (os : OsState) : Cx := { w := w, h₀ := h₀, L := L, A := A, d := d, os := os, env := envOf ⟨#[70, 105, 108, 101, 84, 114, 101, 101, 46, 109, 97, 107, 101, 95, 100, 105, 114, 101, 99, 116, 111, 114, 121]⟩ (fnScope (stIn 30 20)) L 332 (.ref 331), ns := [⟨#[115, 101, 108, 102]⟩, ⟨#[110, 97, 109, 101]⟩, ⟨#[119, 104, 111, 108, 101]⟩], gs := [⟨#[76, 105, 115, 112, 83, 105, 103, 110, 97, 108]⟩, ⟨#[69, 110, 116, 114, 121]⟩, ⟨#[68, 73, 82, 69, 67, 84, 79, 82, 89]⟩] }
theorem D_FileTree_make_link (w : World) : Def w 339 ⟨#[70, 105, 108, 101, 84, 114, 101, 101, 46, 109, 97, 107, 101, 95, 108, 105, 110, 107]⟩ (fnParams (stIn 30 21)) (fnBody (stIn 30 21)) (fnScope (stIn 30 21)) (.ref 338) :=
  ⟨⟨_, _, _, _, _, show (K w.params).lookup 339 = some ⟨.type "function", none, .func (fnOf (fnName (stIn 30 21)) ⟨#[70, 105, 108, 101, 84, 114, 101, 101, 46, 109, 97, 107, 101, 95, 108, 105, 110, 107]⟩ (fnParams (stIn 30 21)) (fnBody (stIn 30 21)) (fnScope (stIn 30 21)) .none .none .none (.str ⟨#[101, 109, 97, 99, 115, 46, 102, 105, 108, 101, 116, 114, 101, 101]⟩ 396) none (.ref 338) .none), #[]⟩ from by kernel_rfl⟩, by kernel_rfl, by kernel_rfl, by kernel_rfl, by kernel_rfl⟩
theorem M_FileTree_make_link (w : World) : IsMeth w 375 ⟨#[109, 97, 107, 101, 95, 108, 105, 110, 107]⟩ 339 := ⟨by kernel_rfl, by kernel_rfl, by kernel_rfl, by kernel_rfl⟩
-- FileTree.make_link: ['self', 'text', 'name'] cells [] globals ['_wall']
noncomputable def X_FileTree_make_link (w : World) (h₀ : Heap) (L : Addr) (A : Around) (d : Nat) (os : OsState) : Cx := { w := w, h₀ := h₀, L := L, A := A, d := d, os := os, env := envOf ⟨#[70, 105, 108, 101, 84, 114, 101, 101, 46, 109, 97, 107, 101, 95, 108, 105, 110, 107]⟩ (fnScope (stIn 30 21)) L 339 (.ref 338), ns := [⟨#[115, 101, 108, 102]⟩, ⟨#[116, 101, 120, 116]⟩, ⟨#[110, 97, 109, 101]⟩], gs := [⟨#[95, 119, 97, 108, 108]⟩] }
theorem D_FileTree_delete (w : World) : Def w 346 ⟨#[70, 105, 108, 101, 84, 114, 101, 101, 46, 100, 101, 108, 101, 116, 101]⟩ (fnParams (stIn 30 22)) (fnBody (stIn 30 22)) (fnScope (stIn 30 22)) (.ref 345) :=
  ⟨⟨_, _, _, _, _, show (K w.params).lookup 346 = some ⟨.type "function", none, .func (fnOf (fnName (stIn 30 22)) ⟨#[70, 105, 108, 101, 84, 114, 101, 101, 46, 100, 101, 108, 101, 116, 101]⟩ (fnParams (stIn 30 22)) (fnBody (stIn 30 22)) (fnScope (stIn 30 22)) .none .none .none (.str ⟨#[101, 109, 97, 99, 115, 46, 102, 105, 108, 101, 116, 114, 101, 101]⟩ 396) none (.ref 345) .none), #[]⟩ from by kernel_rfl⟩, by kernel_rfl, by kernel_rfl, by kernel_rfl, by kernel_rfl⟩
theorem M_FileTree_delete (w : World) : IsMeth w 375 ⟨#[100, 101, 108, 101, 116, 101]⟩ 346 := ⟨by kernel_rfl, by kernel_rfl, by kernel_rfl, by kernel_rfl⟩
-- FileTree.delete: ['self', 'name', 'whole', 'found'] cells [] globals ['LispSignal', 'DIRECTORY']
noncomputable def X_FileTree_delete (w : World) (h₀ : Heap) (L : Addr) (A : Around) (d : Nat) (os : OsState) : Cx := { w := w, h₀ := h₀, L := L, A := A, d := d, os := os, env := envOf ⟨#[70, 105, 108, 101, 84, 114, 101, 101, 46, 100, 101, 108, 101, 116, 101]⟩ (fnScope (stIn 30 22)) L 346 (.ref 345), ns := [⟨#[115, 101, 108, 102]⟩, ⟨#[110, 97, 109, 101]⟩, ⟨#[119, 104, 111, 108, 101]⟩, ⟨#[102, 111, 117, 110, 100]⟩], gs := [⟨#[76, 105, 115, 112, 83, 105, 103, 110, 97, 108]⟩, ⟨#[68, 73, 82, 69, 67, 84, 79, 82, 89]⟩] }
theorem D_FileTree_remove_directory (w : World) : Def w 353 ⟨#[70, 105, 108, 101, 84, 114, 101, 101, 46, 114, 101, 109, 111, 118, 101, 95, 100, 105, 114, 101, 99, 116, 111, 114, 121]⟩ (fnParams (stIn 30 23)) (fnBody (stIn 30 23)) (fnScope (stIn 30 23)) (.ref 352) :=
  ⟨⟨_, _, _, _, _, show (K w.params).lookup 353 = some ⟨.type "function", none, .func (fnOf (fnName (stIn 30 23)) ⟨#[70, 105, 108, 101, 84, 114, 101, 101, 46, 114, 101, 109, 111, 118, 101, 95, 100, 105, 114, 101, 99, 116, 111, 114, 121]⟩ (fnParams (stIn 30 23)) (fnBody (stIn 30 23)) (fnScope (stIn 30 23)) .none .none .none (.str ⟨#[101, 109, 97, 99, 115, 46, 102, 105, 108, 101, 116, 114, 101, 101]⟩ 396) none (.ref 352) .none), #[]⟩ from by kernel_rfl⟩, by kernel_rfl, by kernel_rfl, by kernel_rfl, by kernel_rfl⟩
theorem M_FileTree_remove_directory (w : World) : IsMeth w 375 ⟨#[114, 101, 109, 111, 118, 101, 95, 100, 105, 114, 101, 99, 116, 111, 114, 121]⟩ 353 := ⟨by kernel_rfl, by kernel_rfl, by kernel_rfl, by kernel_rfl⟩
-- FileTree.remove_directory: ['self', 'name'] cells [] globals ['_wall']
noncomputable def X_FileTree_remove_directory (w : World) (h₀ : Heap) (L : Addr) (A : Around) (d : Nat) (os : OsState) : Cx := { w := w, h₀ := h₀, L := L, A := A, d := d, os := os, env := envOf ⟨#[70, 105, 108, 101, 84, 114, 101, 101, 46, 114, 101, 109, 111, 118, 101, 95, 100, 105, 114, 101, 99, 116, 111, 114, 121]⟩ (fnScope (stIn 30 23)) L 353 (.ref 352), ns := [⟨#[115, 101, 108, 102]⟩, ⟨#[110, 97, 109, 101]⟩], gs := [⟨#[95, 119, 97, 108, 108]⟩] }
theorem D_FileTree_rename (w : World) : Def w 358 ⟨#[70, 105, 108, 101, 84, 114, 101, 101, 46, 114, 101, 110, 97, 109, 101]⟩ (fnParams (stIn 30 24)) (fnBody (stIn 30 24)) (fnScope (stIn 30 24)) (.ref 357) :=
  ⟨⟨_, _, _, _, _, show (K w.params).lookup 358 = some ⟨.type "function", none, .func (fnOf (fnName (stIn 30 24)) ⟨#[70, 105, 108, 101, 84, 114, 101, 101, 46, 114, 101, 110, 97, 109, 101]⟩ (fnParams (stIn 30 24)) (fnBody (stIn 30 24)) (fnScope (stIn 30 24)) .none .none .none (.str ⟨#[101, 109, 97, 99, 115, 46, 102, 105, 108, 101, 116, 114, 101, 101]⟩ 396) none (.ref 357) .none), #[]⟩ from by kernel_rfl⟩, by kernel_rfl, by kernel_rfl, by kernel_rfl, by kernel_rfl⟩
theorem M_FileTree_rename (w : World) : IsMeth w 375 ⟨#[114, 101, 110, 97, 109, 101]⟩ 358 := ⟨by kernel_rfl, by kernel_rfl, by kernel_rfl, by kernel_rfl⟩
-- FileTree.rename: ['self', 'old', 'new', 'is_over', 'whole', 'other', 'found', 'there', 'moved', 'name'] cells ['whole'] globals ['LispSignal', 'DIRECTORY', 'len', 'sorted']
noncomputable def X_FileTree_rename (w : World) (h₀ : Heap) (L : Addr) (A : Around) (d : Nat) (os : OsState) : Cx := { w := w, h₀ := h₀, L := L, A := A, d := d, os := os, env := envOfC ⟨#[70, 105, 108, 101, 84, 114, 101, 101, 46, 114, 101, 110, 97, 109, 101]⟩ (fnScope (stIn 30 24)) L 358 (.ref 357), ns := [⟨#[115, 101, 108, 102]⟩, ⟨#[111, 108, 100]⟩, ⟨#[110, 101, 119]⟩, ⟨#[105, 115, 95, 111, 118, 101, 114]⟩, ⟨#[111, 116, 104, 101, 114]⟩, ⟨#[102, 111, 117, 110, 100]⟩, ⟨#[116, 104, 101, 114, 101]⟩, ⟨#[109, 111, 118, 101, 100]⟩, ⟨#[110, 97, 109, 101]⟩], gs := [⟨#[76, 105, 115, 112, 83, 105, 103, 110, 97, 108]⟩, ⟨#[68, 73, 82, 69, 67, 84, 79, 82, 89]⟩, ⟨#[108, 101, 110]⟩, ⟨#[115, 111, 114, 116, 101, 100]⟩] }
theorem D_FileTree_copy (w : World) : Def w 365 ⟨#[70, 105, 108, 101, 84, 114, 101, 101, 46, 99, 111, 112, 121]⟩ (fnParams (stIn 30 25)) (fnBody (stIn 30 25)) (fnScope (stIn 30 25)) (.ref 364) :=
  ⟨⟨_, _, _, _, _, show (K w.params).lookup 365 = some ⟨.type "function", none, .func (fnOf (fnName (stIn 30 25)) ⟨#[70, 105, 108, 101, 84, 114, 101, 101, 46, 99, 111, 112, 121]⟩ (fnParams (stIn 30 25)) (fnBody (stIn 30 25)) (fnScope (stIn 30 25)) .none .none .none (.str ⟨#[101, 109, 97, 99, 115, 46, 102, 105, 108, 101, 116, 114, 101, 101]⟩ 396) none (.ref 364) .none), #[]⟩ from by kernel_rfl⟩, by kernel_rfl, by kernel_rfl, by kernel_rfl, by kernel_rfl⟩
theorem M_FileTree_copy (w : World) : IsMeth w 375 ⟨#[99, 111, 112, 121]⟩ 365 := ⟨by kernel_rfl, by kernel_rfl, by kernel_rfl, by kernel_rfl⟩
-- FileTree.copy: ['self', 'old', 'new', 'is_over', 'codes'] cells [] globals ['LispSignal']
noncomputable def X_FileTree_copy (w : World) (h₀ : Heap) (L : Addr) (A : Around) (d : Nat) (os : OsState) : Cx := { w := w, h₀ := h₀, L := L, A := A, d := d, os := os, env := envOf ⟨#[70, 105, 108, 101, 84, 114, 101, 101, 46, 99, 111, 112, 121]⟩ (fnScope (stIn 30 25)) L 365 (.ref 364), ns := [⟨#[115, 101, 108, 102]⟩, ⟨#[111, 108, 100]⟩, ⟨#[110, 101, 119]⟩, ⟨#[105, 115, 95, 111, 118, 101, 114]⟩, ⟨#[99, 111, 100, 101, 115]⟩], gs := [⟨#[76, 105, 115, 112, 83, 105, 103, 110, 97, 108]⟩] }
theorem D_FileTree_set_writable (w : World) : Def w 372 ⟨#[70, 105, 108, 101, 84, 114, 101, 101, 46, 115, 101, 116, 95, 119, 114, 105, 116, 97, 98, 108, 101]⟩ (fnParams (stIn 30 26)) (fnBody (stIn 30 26)) (fnScope (stIn 30 26)) (.ref 371) :=
  ⟨⟨_, _, _, _, _, show (K w.params).lookup 372 = some ⟨.type "function", none, .func (fnOf (fnName (stIn 30 26)) ⟨#[70, 105, 108, 101, 84, 114, 101, 101, 46, 115, 101, 116, 95, 119, 114, 105, 116, 97, 98, 108, 101]⟩ (fnParams (stIn 30 26)) (fnBody (stIn 30 26)) (fnScope (stIn 30 26)) .none .none .none (.str ⟨#[101, 109, 97, 99, 115, 46, 102, 105, 108, 101, 116, 114, 101, 101]⟩ 396) none (.ref 371) .none), #[]⟩ from by kernel_rfl⟩, by kernel_rfl, by kernel_rfl, by kernel_rfl, by kernel_rfl⟩
theorem M_FileTree_set_writable (w : World) : IsMeth w 375 ⟨#[115, 101, 116, 95, 119, 114, 105, 116, 97, 98, 108, 101]⟩ 372 := ⟨by kernel_rfl, by kernel_rfl, by kernel_rfl, by kernel_rfl⟩
-- FileTree.set_writable: ['self', 'name', 'flag', 'found'] cells [] globals ['LispSignal']
noncomputable def X_FileTree_set_writable (w : World) (h₀ : Heap) (L : Addr) (A : Around) (d : Nat) (os : OsState) : Cx := { w := w, h₀ := h₀, L := L, A := A, d := d, os := os, env := envOf ⟨#[70, 105, 108, 101, 84, 114, 101, 101, 46, 115, 101, 116, 95, 119, 114, 105, 116, 97, 98, 108, 101]⟩ (fnScope (stIn 30 26)) L 372 (.ref 371), ns := [⟨#[115, 101, 108, 102]⟩, ⟨#[110, 97, 109, 101]⟩, ⟨#[102, 108, 97, 103]⟩, ⟨#[102, 111, 117, 110, 100]⟩], gs := [⟨#[76, 105, 115, 112, 83, 105, 103, 110, 97, 108]⟩] }
theorem D_parent_of (w : World) : Def w 386 ⟨#[112, 97, 114, 101, 110, 116, 95, 111, 102]⟩ (fnParams (stAt 31)) (fnBody (stAt 31)) (fnScope (stAt 31)) (.ref 385) :=
  ⟨⟨_, _, _, _, _, show (K w.params).lookup 386 = some ⟨.type "function", none, .func (fnOf (fnName (stAt 31)) ⟨#[112, 97, 114, 101, 110, 116, 95, 111, 102]⟩ (fnParams (stAt 31)) (fnBody (stAt 31)) (fnScope (stAt 31)) .none .none .none (.str ⟨#[101, 109, 97, 99, 115, 46, 102, 105, 108, 101, 116, 114, 101, 101]⟩ 396) none (.ref 385) .none), #[]⟩ from by kernel_rfl⟩, by kernel_rfl, by kernel_rfl, by kernel_rfl, by kernel_rfl⟩
theorem G_parent_of (w : World) : GFn w ⟨#[112, 97, 114, 101, 110, 116, 95, 111, 102]⟩ 386 := ⟨by kernel_rfl, by kernel_rfl⟩
-- parent_of: ['name', 'found'] cells [] globals ['directory_part']
noncomputable def X_parent_of (w : World) (h₀ : Heap) (L : Addr) (A : Around) (d : Nat) (os : OsState) : Cx := { w := w, h₀ := h₀, L := L, A := A, d := d, os := os, env := envOf ⟨#[112, 97, 114, 101, 110, 116, 95, 111, 102]⟩ (fnScope (stAt 31)) L 386 (.ref 385), ns := [⟨#[110, 97, 109, 101]⟩, ⟨#[102, 111, 117, 110, 100]⟩], gs := [⟨#[100, 105, 114, 101, 99, 116, 111, 114, 121, 95, 112, 97, 114, 116]⟩] }
theorem D_joined (w : World) : Def w 393 ⟨#[106, 111, 105, 110, 101, 100]⟩ (fnParams (stAt 32)) (fnBody (stAt 32)) (fnScope (stAt 32)) (.ref 392) :=
  ⟨⟨_, _, _, _, _, show (K w.params).lookup 393 = some ⟨.type "function", none, .func (fnOf (fnName (stAt 32)) ⟨#[106, 111, 105, 110, 101, 100]⟩ (fnParams (stAt 32)) (fnBody (stAt 32)) (fnScope (stAt 32)) .none .none .none (.str ⟨#[101, 109, 97, 99, 115, 46, 102, 105, 108, 101, 116, 114, 101, 101]⟩ 396) none (.ref 392) .none), #[]⟩ from by kernel_rfl⟩, by kernel_rfl, by kernel_rfl, by kernel_rfl, by kernel_rfl⟩
theorem G_joined (w : World) : GFn w ⟨#[106, 111, 105, 110, 101, 100]⟩ 393 := ⟨by kernel_rfl, by kernel_rfl⟩
-- joined: ['directory', 'step'] cells [] globals []
noncomputable def X_joined (w : World) (h₀ : Heap) (L : Addr) (A : Around) (d : Nat) (os : OsState) : Cx := { w := w, h₀ := h₀, L := L, A := A, d := d, os := os, env := envOf ⟨#[106, 111, 105, 110, 101, 100]⟩ (fnScope (stAt 32)) L 393 (.ref 392), ns := [⟨#[100, 105, 114, 101, 99, 116, 111, 114, 121]⟩, ⟨#[115, 116, 101, 112]⟩], gs := [] }
theorem D_law_draw (w : World) : Def w 400 ⟨#[95, 108, 97, 119, 95, 100, 114, 97, 119]⟩ (fnParams (stAt 34)) (fnBody (stAt 34)) (fnScope (stAt 34)) (.ref 399) :=
  ⟨⟨_, _, _, _, _, show (K w.params).lookup 400 = some ⟨.type "function", none, .func (fnOf (fnName (stAt 34)) ⟨#[95, 108, 97, 119, 95, 100, 114, 97, 119]⟩ (fnParams (stAt 34)) (fnBody (stAt 34)) (fnScope (stAt 34)) .none .none .none (.str ⟨#[108, 97, 119, 95, 112, 113, 48, 50, 56, 54, 95, 48, 49]⟩ 746) none (.ref 399) .none), #[]⟩ from by kernel_rfl⟩, by kernel_rfl, by kernel_rfl, by kernel_rfl, by kernel_rfl⟩
theorem G_law_draw (w : World) : GFn w ⟨#[95, 108, 97, 119, 95, 100, 114, 97, 119]⟩ 400 := ⟨by kernel_rfl, by kernel_rfl⟩
-- _law_draw: ['deck', 'many'] cells [] globals []
noncomputable def X_law_draw (w : World) (h₀ : Heap) (L : Addr) (A : Around) (d : Nat) (os : OsState) : Cx := { w := w, h₀ := h₀, L := L, A := A, d := d, os := os, env := envOf ⟨#[95, 108, 97, 119, 95, 100, 114, 97, 119]⟩ (fnScope (stAt 34)) L 400 (.ref 399), ns := [⟨#[100, 101, 99, 107]⟩, ⟨#[109, 97, 110, 121]⟩], gs := [] }
theorem D_law_stands (w : World) : Def w 407 ⟨#[95, 108, 97, 119, 95, 115, 116, 97, 110, 100, 115]⟩ (fnParams (stAt 35)) (fnBody (stAt 35)) (fnScope (stAt 35)) (.ref 406) :=
  ⟨⟨_, _, _, _, _, show (K w.params).lookup 407 = some ⟨.type "function", none, .func (fnOf (fnName (stAt 35)) ⟨#[95, 108, 97, 119, 95, 115, 116, 97, 110, 100, 115]⟩ (fnParams (stAt 35)) (fnBody (stAt 35)) (fnScope (stAt 35)) .none .none .none (.str ⟨#[108, 97, 119, 95, 112, 113, 48, 50, 56, 54, 95, 48, 49]⟩ 746) none (.ref 406) .none), #[]⟩ from by kernel_rfl⟩, by kernel_rfl, by kernel_rfl, by kernel_rfl, by kernel_rfl⟩
theorem G_law_stands (w : World) : GFn w ⟨#[95, 108, 97, 119, 95, 115, 116, 97, 110, 100, 115]⟩ 407 := ⟨by kernel_rfl, by kernel_rfl⟩
-- _law_stands: ['tree', 'found', 'own'] cells [] globals []
noncomputable def X_law_stands (w : World) (h₀ : Heap) (L : Addr) (A : Around) (d : Nat) (os : OsState) : Cx := { w := w, h₀ := h₀, L := L, A := A, d := d, os := os, env := envOf ⟨#[95, 108, 97, 119, 95, 115, 116, 97, 110, 100, 115]⟩ (fnScope (stAt 35)) L 407 (.ref 406), ns := [⟨#[116, 114, 101, 101]⟩, ⟨#[102, 111, 117, 110, 100]⟩, ⟨#[111, 119, 110]⟩], gs := [] }
theorem D_law_saved (w : World) : Def w 414 ⟨#[95, 108, 97, 119, 95, 115, 97, 118, 101, 100]⟩ (fnParams (stAt 36)) (fnBody (stAt 36)) (fnScope (stAt 36)) (.ref 413) :=
  ⟨⟨_, _, _, _, _, show (K w.params).lookup 414 = some ⟨.type "function", none, .func (fnOf (fnName (stAt 36)) ⟨#[95, 108, 97, 119, 95, 115, 97, 118, 101, 100]⟩ (fnParams (stAt 36)) (fnBody (stAt 36)) (fnScope (stAt 36)) .none .none .none (.str ⟨#[108, 97, 119, 95, 112, 113, 48, 50, 56, 54, 95, 48, 49]⟩ 746) none (.ref 413) .none), #[]⟩ from by kernel_rfl⟩, by kernel_rfl, by kernel_rfl, by kernel_rfl, by kernel_rfl⟩
theorem G_law_saved (w : World) : GFn w ⟨#[95, 108, 97, 119, 95, 115, 97, 118, 101, 100]⟩ 414 := ⟨by kernel_rfl, by kernel_rfl⟩
-- _law_saved: ['tree', 'codes', 'manner', 'is_backed_up', 'error'] cells [] globals ['write_file', 'LispSignal']
noncomputable def X_law_saved (w : World) (h₀ : Heap) (L : Addr) (A : Around) (d : Nat) (os : OsState) : Cx := { w := w, h₀ := h₀, L := L, A := A, d := d, os := os, env := envOf ⟨#[95, 108, 97, 119, 95, 115, 97, 118, 101, 100]⟩ (fnScope (stAt 36)) L 414 (.ref 413), ns := [⟨#[116, 114, 101, 101]⟩, ⟨#[99, 111, 100, 101, 115]⟩, ⟨#[109, 97, 110, 110, 101, 114]⟩, ⟨#[105, 115, 95, 98, 97, 99, 107, 101, 100, 95, 117, 112]⟩, ⟨#[101, 114, 114, 111, 114]⟩], gs := [⟨#[119, 114, 105, 116, 101, 95, 102, 105, 108, 101]⟩, ⟨#[76, 105, 115, 112, 83, 105, 103, 110, 97, 108]⟩] }
theorem D_law_backup (w : World) : Def w 421 ⟨#[95, 108, 97, 119, 95, 98, 97, 99, 107, 117, 112]⟩ (fnParams (stAt 37)) (fnBody (stAt 37)) (fnScope (stAt 37)) (.ref 420) :=
  ⟨⟨_, _, _, _, _, show (K w.params).lookup 421 = some ⟨.type "function", none, .func (fnOf (fnName (stAt 37)) ⟨#[95, 108, 97, 119, 95, 98, 97, 99, 107, 117, 112]⟩ (fnParams (stAt 37)) (fnBody (stAt 37)) (fnScope (stAt 37)) .none .none .none (.str ⟨#[108, 97, 119, 95, 112, 113, 48, 50, 56, 54, 95, 48, 49]⟩ 746) none (.ref 420) .none), #[]⟩ from by kernel_rfl⟩, by kernel_rfl, by kernel_rfl, by kernel_rfl, by kernel_rfl⟩
theorem G_law_backup (w : World) : GFn w ⟨#[95, 108, 97, 119, 95, 98, 97, 99, 107, 117, 112]⟩ 421 := ⟨by kernel_rfl, by kernel_rfl⟩
-- _law_backup: ['way', 'stands', 'numbers'] cells [] globals ['AS_BEFORE', 'NUMBERED', 'SINGLE', 'NEVER', 'str', 'max']
noncomputable def X_law_backup (w : World) (h₀ : Heap) (L : Addr) (A : Around) (d : Nat) (os : OsState) : Cx := { w := w, h₀ := h₀, L := L, A := A, d := d, os := os, env := envOf ⟨#[95, 108, 97, 119, 95, 98, 97, 99, 107, 117, 112]⟩ (fnScope (stAt 37)) L 421 (.ref 420), ns := [⟨#[119, 97, 121]⟩, ⟨#[115, 116, 97, 110, 100, 115]⟩, ⟨#[110, 117, 109, 98, 101, 114, 115]⟩], gs := [⟨#[65, 83, 95, 66, 69, 70, 79, 82, 69]⟩, ⟨#[78, 85, 77, 66, 69, 82, 69, 68]⟩, ⟨#[83, 73, 78, 71, 76, 69]⟩, ⟨#[78, 69, 86, 69, 82]⟩, ⟨#[115, 116, 114]⟩, ⟨#[109, 97, 120]⟩] }
theorem D_law (w : World) : Def w 426 ⟨#[108, 97, 119]⟩ (fnParams (stAt 38)) (fnBody (stAt 38)) (fnScope (stAt 38)) (.ref 425) :=
  ⟨⟨_, _, _, _, _, show (K w.params).lookup 426 = some ⟨.type "function", none, .func (fnOf (fnName (stAt 38)) ⟨#[108, 97, 119]⟩ (fnParams (stAt 38)) (fnBody (stAt 38)) (fnScope (stAt 38)) .none .none .none (.str ⟨#[108, 97, 119, 95, 112, 113, 48, 50, 56, 54, 95, 48, 49]⟩ 746) none (.ref 425) .none), #[]⟩ from by kernel_rfl⟩, by kernel_rfl, by kernel_rfl, by kernel_rfl, by kernel_rfl⟩
theorem G_law (w : World) : GFn w ⟨#[108, 97, 119]⟩ 426 := ⟨by kernel_rfl, by kernel_rfl⟩
-- law: ['script', 'deck', 'tree', 'stands', 'is_protected', 'numbers', 'lap', 'name', 'single', 'way', 'manner', 'before', 'is_made', 'every', 'at', 'is_kept_here'] cells ['stands'] globals ['FileTree', '_law_draw', 'range', 'str', 'sorted', 'SINGLE', 'NUMBERED', 'AS_BEFORE', 'NEVER', 'Manner', '_law_stands', '_law_saved', '_law_backup', 'max', 'len', 'isinstance', 'bool', 'abs']
noncomputable def X_law (w : World) (h₀ : Heap) (L : Addr) (A : Around) (d : Nat) (os : OsState) : Cx := { w := w, h₀ := h₀, L := L, A := A, d := d, os := os, env := envOfC ⟨#[108, 97, 119]⟩ (fnScope (stAt 38)) L 426 (.ref 425), ns := [⟨#[115, 99, 114, 105, 112, 116]⟩, ⟨#[100, 101, 99, 107]⟩, ⟨#[116, 114, 101, 101]⟩, ⟨#[105, 115, 95, 112, 114, 111, 116, 101, 99, 116, 101, 100]⟩, ⟨#[110, 117, 109, 98, 101, 114, 115]⟩, ⟨#[108, 97, 112]⟩, ⟨#[110, 97, 109, 101]⟩, ⟨#[115, 105, 110, 103, 108, 101]⟩, ⟨#[119, 97, 121]⟩, ⟨#[109, 97, 110, 110, 101, 114]⟩, ⟨#[98, 101, 102, 111, 114, 101]⟩, ⟨#[105, 115, 95, 109, 97, 100, 101]⟩, ⟨#[101, 118, 101, 114, 121]⟩, ⟨#[97, 116]⟩, ⟨#[105, 115, 95, 107, 101, 112, 116, 95, 104, 101, 114, 101]⟩], gs := [⟨#[70, 105, 108, 101, 84, 114, 101, 101]⟩, ⟨#[95, 108, 97, 119, 95, 100, 114, 97, 119]⟩, ⟨#[114, 97, 110, 103, 101]⟩, ⟨#[115, 116, 114]⟩, ⟨#[115, 111, 114, 116, 101, 100]⟩, ⟨#[83, 73, 78, 71, 76, 69]⟩, ⟨#[78, 85, 77, 66, 69, 82, 69, 68]⟩, ⟨#[65, 83, 95, 66, 69, 70, 79, 82, 69]⟩, ⟨#[78, 69, 86, 69, 82]⟩, ⟨#[77, 97, 110, 110, 101, 114]⟩, ⟨#[95, 108, 97, 119, 95, 115, 116, 97, 110, 100, 115]⟩, ⟨#[95, 108, 97, 119, 95, 115, 97, 118, 101, 100]⟩, ⟨#[95, 108, 97, 119, 95, 98, 97, 99, 107, 117, 112]⟩, ⟨#[109, 97, 120]⟩, ⟨#[108, 101, 110]⟩, ⟨#[105, 115, 105, 110, 115, 116, 97, 110, 99, 101]⟩, ⟨#[98, 111, 111, 108]⟩, ⟨#[97, 98, 115]⟩] }
theorem F_clock375 (w : World) : IsField w 375 ⟨#[99, 108, 111, 99, 107]⟩ := ⟨by kernel_rfl, by kernel_rfl, by kernel_rfl⟩
theorem S_clock375 (w : World) : IsStore w 375 ⟨#[99, 108, 111, 99, 107]⟩ := ⟨by kernel_rfl, by kernel_rfl, by kernel_rfl, by kernel_rfl⟩
theorem F_left375 (w : World) : IsField w 375 ⟨#[108, 101, 102, 116]⟩ := ⟨by kernel_rfl, by kernel_rfl, by kernel_rfl⟩
theorem S_left375 (w : World) : IsStore w 375 ⟨#[108, 101, 102, 116]⟩ := ⟨by kernel_rfl, by kernel_rfl, by kernel_rfl, by kernel_rfl⟩
theorem F_entries375 (w : World) : IsField w 375 ⟨#[101, 110, 116, 114, 105, 101, 115]⟩ := ⟨by kernel_rfl, by kernel_rfl, by kernel_rfl⟩
theorem S_entries375 (w : World) : IsStore w 375 ⟨#[101, 110, 116, 114, 105, 101, 115]⟩ := ⟨by kernel_rfl, by kernel_rfl, by kernel_rfl, by kernel_rfl⟩
theorem F_sort174 (w : World) : IsField w 174 ⟨#[115, 111, 114, 116]⟩ := ⟨by kernel_rfl, by kernel_rfl, by kernel_rfl⟩
theorem S_sort174 (w : World) : IsStore w 174 ⟨#[115, 111, 114, 116]⟩ := ⟨by kernel_rfl, by kernel_rfl, by kernel_rfl, by kernel_rfl⟩
theorem F_content174 (w : World) : IsField w 174 ⟨#[99, 111, 110, 116, 101, 110, 116]⟩ := ⟨by kernel_rfl, by kernel_rfl, by kernel_rfl⟩
theorem S_content174 (w : World) : IsStore w 174 ⟨#[99, 111, 110, 116, 101, 110, 116]⟩ := ⟨by kernel_rfl, by kernel_rfl, by kernel_rfl, by kernel_rfl⟩
theorem F_stamp174 (w : World) : IsField w 174 ⟨#[115, 116, 97, 109, 112]⟩ := ⟨by kernel_rfl, by kernel_rfl, by kernel_rfl⟩
theorem S_stamp174 (w : World) : IsStore w 174 ⟨#[115, 116, 97, 109, 112]⟩ := ⟨by kernel_rfl, by kernel_rfl, by kernel_rfl, by kernel_rfl⟩
theorem F_is_writable174 (w : World) : IsField w 174 ⟨#[105, 115, 95, 119, 114, 105, 116, 97, 98, 108, 101]⟩ := ⟨by kernel_rfl, by kernel_rfl, by kernel_rfl⟩
theorem S_is_writable174 (w : World) : IsStore w 174 ⟨#[105, 115, 95, 119, 114, 105, 116, 97, 98, 108, 101]⟩ := ⟨by kernel_rfl, by kernel_rfl, by kernel_rfl, by kernel_rfl⟩
theorem F_wants_newline100 (w : World) : IsField w 100 ⟨#[119, 97, 110, 116, 115, 95, 110, 101, 119, 108, 105, 110, 101]⟩ := ⟨by kernel_rfl, by kernel_rfl, by kernel_rfl⟩
theorem S_wants_newline100 (w : World) : IsStore w 100 ⟨#[119, 97, 110, 116, 115, 95, 110, 101, 119, 108, 105, 110, 101]⟩ := ⟨by kernel_rfl, by kernel_rfl, by kernel_rfl, by kernel_rfl⟩
theorem F_backups100 (w : World) : IsField w 100 ⟨#[98, 97, 99, 107, 117, 112, 115]⟩ := ⟨by kernel_rfl, by kernel_rfl, by kernel_rfl⟩
theorem S_backups100 (w : World) : IsStore w 100 ⟨#[98, 97, 99, 107, 117, 112, 115]⟩ := ⟨by kernel_rfl, by kernel_rfl, by kernel_rfl, by kernel_rfl⟩
theorem F_is_copying100 (w : World) : IsField w 100 ⟨#[105, 115, 95, 99, 111, 112, 121, 105, 110, 103]⟩ := ⟨by kernel_rfl, by kernel_rfl, by kernel_rfl⟩
theorem S_is_copying100 (w : World) : IsStore w 100 ⟨#[105, 115, 95, 99, 111, 112, 121, 105, 110, 103]⟩ := ⟨by kernel_rfl, by kernel_rfl, by kernel_rfl, by kernel_rfl⟩
theorem F_oldest100 (w : World) : IsField w 100 ⟨#[111, 108, 100, 101, 115, 116]⟩ := ⟨by kernel_rfl, by kernel_rfl, by kernel_rfl⟩
theorem S_oldest100 (w : World) : IsStore w 100 ⟨#[111, 108, 100, 101, 115, 116]⟩ := ⟨by kernel_rfl, by kernel_rfl, by kernel_rfl, by kernel_rfl⟩
theorem F_newest100 (w : World) : IsField w 100 ⟨#[110, 101, 119, 101, 115, 116]⟩ := ⟨by kernel_rfl, by kernel_rfl, by kernel_rfl⟩
theorem S_newest100 (w : World) : IsStore w 100 ⟨#[110, 101, 119, 101, 115, 116]⟩ := ⟨by kernel_rfl, by kernel_rfl, by kernel_rfl, by kernel_rfl⟩
theorem F_is_precious100 (w : World) : IsField w 100 ⟨#[105, 115, 95, 112, 114, 101, 99, 105, 111, 117, 115]⟩ := ⟨by kernel_rfl, by kernel_rfl, by kernel_rfl⟩
theorem S_is_precious100 (w : World) : IsStore w 100 ⟨#[105, 115, 95, 112, 114, 101, 99, 105, 111, 117, 115]⟩ := ⟨by kernel_rfl, by kernel_rfl, by kernel_rfl, by kernel_rfl⟩
theorem I_NEVER (w : World) : nsIn (K w.params) mainGlobals ⟨#[78, 69, 86, 69, 82]⟩ = some (some (.int 0 284)) := by kernel_rfl
theorem I_SINGLE (w : World) : nsIn (K w.params) mainGlobals ⟨#[83, 73, 78, 71, 76, 69]⟩ = some (some (.int 1 286)) := by kernel_rfl
theorem I_NUMBERED (w : World) : nsIn (K w.params) mainGlobals ⟨#[78, 85, 77, 66, 69, 82, 69, 68]⟩ = some (some (.int 2 288)) := by kernel_rfl
theorem I_AS_BEFORE (w : World) : nsIn (K w.params) mainGlobals ⟨#[65, 83, 95, 66, 69, 70, 79, 82, 69]⟩ = some (some (.int 3 290)) := by kernel_rfl
theorem I_MOST_LINKS (w : World) : nsIn (K w.params) mainGlobals ⟨#[77, 79, 83, 84, 95, 76, 73, 78, 75, 83]⟩ = some (some (.int 12 398)) := by kernel_rfl
theorem I_DIRECTORY (w : World) : nsIn (K w.params) mainGlobals ⟨#[68, 73, 82, 69, 67, 84, 79, 82, 89]⟩ = some (some (.int 0 400)) := by kernel_rfl
theorem I_PLAIN (w : World) : nsIn (K w.params) mainGlobals ⟨#[80, 76, 65, 73, 78]⟩ = some (some (.int 1 402)) := by kernel_rfl
theorem I_LINK (w : World) : nsIn (K w.params) mainGlobals ⟨#[76, 73, 78, 75]⟩ = some (some (.int 2 404)) := by kernel_rfl
theorem I_DIGITS (w : World) : nsIn (K w.params) mainGlobals ⟨#[68, 73, 71, 73, 84, 83]⟩ = some (some (.str ⟨#[48, 49, 50, 51, 52, 53, 54, 55, 56, 57]⟩ 229)) := by kernel_rfl
theorem B_len (w : World) : GB w ⟨#[108, 101, 110]⟩ (.builtin "len") := ⟨by kernel_rfl, by kernel_rfl, by decide +kernel⟩
theorem B_abs (w : World) : GB w ⟨#[97, 98, 115]⟩ (.builtin "abs") := ⟨by kernel_rfl, by kernel_rfl, by decide +kernel⟩
theorem B_max (w : World) : GB w ⟨#[109, 97, 120]⟩ (.builtin "max") := ⟨by kernel_rfl, by kernel_rfl, by decide +kernel⟩
theorem B_sorted (w : World) : GB w ⟨#[115, 111, 114, 116, 101, 100]⟩ (.builtin "sorted") := ⟨by kernel_rfl, by kernel_rfl, by decide +kernel⟩
theorem B_isinstance (w : World) : GB w ⟨#[105, 115, 105, 110, 115, 116, 97, 110, 99, 101]⟩ (.builtin "isinstance") := ⟨by kernel_rfl, by kernel_rfl, by decide +kernel⟩
theorem B_str (w : World) : GB w ⟨#[115, 116, 114]⟩ (.type "str") := ⟨by kernel_rfl, by kernel_rfl, by decide +kernel⟩
theorem B_list (w : World) : GB w ⟨#[108, 105, 115, 116]⟩ (.type "list") := ⟨by kernel_rfl, by kernel_rfl, by decide +kernel⟩
theorem B_range (w : World) : GB w ⟨#[114, 97, 110, 103, 101]⟩ (.type "range") := ⟨by kernel_rfl, by kernel_rfl, by decide +kernel⟩
theorem B_bool (w : World) : GB w ⟨#[98, 111, 111, 108]⟩ (.type "bool") := ⟨by kernel_rfl, by kernel_rfl, by decide +kernel⟩
end Mine
end
section
open PySem PySem.W PyProof.Rows PySem.Calls
set_option maxHeartbeats 1000000
namespace Mine
abbrev sSlash : Str := ⟨#[47]⟩
abbrev sClock : Str := ⟨#[99, 108, 111, 99, 107]⟩
abbrev sLeft : Str := ⟨#[108, 101, 102, 116]⟩
abbrev sEntries : Str := ⟨#[101, 110, 116, 114, 105, 101, 115]⟩
abbrev sSort : Str := ⟨#[115, 111, 114, 116]⟩
abbrev sContent : Str := ⟨#[99, 111, 110, 116, 101, 110, 116]⟩
abbrev sStamp : Str := ⟨#[115, 116, 97, 109, 112]⟩
abbrev sWr : Str := ⟨#[105, 115, 95, 119, 114, 105, 116, 97, 98, 108, 101]⟩
structure Ent where
  x : Addr
  dir : Bool
  c : Addr
  ns : List Int
  stamp : Int
  wr : Bool
structure Tree where
  clock : Int
  e : Addr
  L : List (Str × Ent)
noncomputable def eF (E : Ent) : List (Str × V) := [(sSort, .int (if E.dir = true then 0 else 1)), (sContent, if E.dir = true then .none else .ref E.c), (sStamp, .int E.stamp), (sWr, .bool E.wr)]
def kvOf (L : List (Str × Ent)) : List (Str × V) := L.map fun p => (p.1, V.ref p.2.x)
def look (n : Str) : List (Str × Ent) → Option Ent
  | [] => none
  | p :: r => if p.1 = n then some p.2 else look n r
structure TreeAt (H : HL) (t : Addr) (T : Tree) : Prop where
  t : H t = some (.inst 375 [(sClock, .int T.clock), (sLeft, .int (-1)), (sEntries, .ref T.e)])
  e : H T.e = some (.dict (kvOf T.L))
  ent : ∀ p ∈ T.L, H p.2.x = some (.inst 174 (eF p.2)) ∧ (p.2.dir = false → H p.2.c = some (.flist (p.2.ns.map V.int))) ∧ p.2.ns.length ≤ 100 ∧ p.1.length ≤ 100
  nd : (T.L.map (·.1)).Nodup
  xd : (T.L.map (·.2.x)).Nodup
  len : T.L.length ≤ 40
theorem look_mem {n : Str} {E : Ent} : ∀ {L : List (Str × Ent)}, look n L = some E → (n, E) ∈ L
  | p :: r, h => by
    unfold look at h
    by_cases e : p.1 = n
    · rw [if_pos e] at h; cases h; exact e ▸ .head _
    · rw [if_neg e] at h; exact .tail _ (look_mem h)
theorem dget_kv {n : Str} : ∀ {L : List (Str × Ent)}, dget n (kvOf L) = (look n L).map fun E => V.ref E.x
  | [] => rfl
  | p :: r => by
    show dget n ((p.1, V.ref p.2.x) :: kvOf r) = _
    unfold dget look
    by_cases e : p.1 = n
    · rw [if_pos e, if_pos e]; rfl
    · rw [if_neg e, if_neg e]; exact dget_kv
theorem kv_len (L : List (Str × Ent)) : (kvOf L).length = L.length := List.length_map ..
/-- d.get(n, None) on the tree's entries -/
def entV : Option Ent → V
  | none => .none
  | some E => .ref E.x
theorem getD_ent {n : Str} {L : List (Str × Ent)} : (dget n (kvOf L)).getD .none = entV (look n L) := by
  rw [dget_kv]; cases look n L <;> rfl
def fdir (x : Str) : Str := Txt.slice x none (some (Txt.rfind x sSlash + 1))
def fpar (x : Str) : Str := if fdir x = sSlash then sSlash else Txt.slice (fdir x) none (some (-1))
def flast (x : Str) : Str := Txt.slice x (some (Txt.rfind x sSlash + 1)) none
def fjoin (d s : Str) : Str := if d = sSlash then d ++ s else d ++ sSlash ++ s
theorem fn_directory_part (x : Str) (H : HL) (hl : x.length ≤ 10000) (hr : ¬ Txt.rfind x sSlash < 0) : Fn 1 48 [.str x] H fun v H' => H' = H ∧ v = .str (fdir x) := by
  refine Fn.body X_directory_part (fun _ _ _ _ _ _ => rfl) D_directory_part (ps := [⟨#[110,97,109,101]⟩]) (fun s name pm us hu => ?_) (by decide +kernel) rfl rfl fun w h₀ L A os => ?_
  · obtain ⟨u, rfl⟩ := len1 hu; exact BindsTo.of_eq rfl
  · refine B.cons (S.assign 1 rfl (W.rfind1 (W.var 0 rfl rfl ⟨x, rfl, W.cStr ⟨_, rfl, ?_⟩⟩)))
    refine B.cons (S.ret (W.ite (WT.cmpv (W.var 1 rfl rfl (W.cInt ⟨_, rfl, ?_⟩)))))
    unfold IW
    rw [if_neg (by simpa using hr)]
    exact W.sliceStr (W.var 0 rfl rfl ⟨x, rfl, hl, W.binv (W.var 1 rfl rfl (W.cInt ⟨_, rfl, _, rfl, ⟨rfl, rfl⟩⟩))⟩)
theorem fn_last_part (x : Str) (H : HL) (hl : x.length ≤ 10000) : Fn 1 55 [.str x] H fun v H' => H' = H ∧ v = .str (flast x) := by
  refine Fn.body X_last_part (fun _ _ _ _ _ _ => rfl) D_last_part (ps := [⟨#[110,97,109,101]⟩]) (fun s name pm us hu => ?_) (by decide +kernel) rfl rfl fun w h₀ L A os => ?_
  · obtain ⟨u, rfl⟩ := len1 hu; exact BindsTo.of_eq rfl
  · exact B.cons (S.ret (W.sliceStr (W.var 0 rfl rfl ⟨x, rfl, hl, W.binv (W.rfind1 (W.var 0 rfl rfl ⟨x, rfl, W.cStr ⟨_, rfl, W.cInt ⟨_, rfl, _, rfl, ⟨rfl, rfl⟩⟩⟩⟩))⟩)))
theorem fn_parent_of (x : Str) (H : HL) (hl : x.length ≤ 10000) (hr : ¬ Txt.rfind x sSlash < 0) (hd : (fdir x).length ≤ 10000) : Fn 2 386 [.str x] H fun v H' => H' = H ∧ v = .str (fpar x) := by
  refine Fn.body X_parent_of (fun _ _ _ _ _ _ => rfl) D_parent_of (ps := [⟨#[110,97,109,101]⟩]) (fun s name pm us hu => ?_) (by decide +kernel) rfl rfl fun w h₀ L A os => ?_
  · obtain ⟨u, rfl⟩ := len1 hu; exact BindsTo.of_eq rfl
  · refine B.cons (S.assign 1 rfl (W.call 0 rfl (G_directory_part w) (Nat.le_refl _) (WA.cons (W.var 0 rfl rfl (WA.nil (Fn.mono (fn_directory_part x H hl hr) (Nat.le_refl _) ?_))))))
    rintro _ _ ⟨rfl, rfl⟩
    refine B.cons (S.ret (W.ite (WT.cmpv (W.var 1 rfl rfl (W.cStr ⟨_, rfl, ?_⟩)))))
    unfold IW
    by_cases h : fdir x = sSlash
    · rw [if_pos (beq_iff_eq.mpr h)]; exact W.cStr ⟨rfl, by unfold fpar; rw [if_pos h]⟩
    · rw [if_neg (by simpa using h)]
      exact W.sliceStr (W.var 1 rfl rfl ⟨_, rfl, hd, W.neg (W.cInt ⟨_, rfl, _, rfl, rfl, by unfold fpar; rw [if_neg h]⟩)⟩)
theorem fn_joined (d s : Str) (H : HL) (hl : d.length + s.length ≤ 9000) : Fn 1 393 [.str d, .str s] H fun v H' => H' = H ∧ v = .str (fjoin d s) := by
  refine Fn.body X_joined (fun _ _ _ _ _ _ => rfl) D_joined (ps := [⟨#[100, 105, 114, 101, 99, 116, 111, 114, 121]⟩, ⟨#[115, 116, 101, 112]⟩]) (fun s name pm us hu => ?_) (by decide +kernel) rfl rfl fun w h₀ L A os => ?_
  · obtain ⟨u, v, rfl⟩ := len2 hu; exact BindsTo.of_eq rfl
  · refine B.cons (S.ret (W.ite (WT.cmpv (W.var 0 rfl rfl (W.cStr ⟨_, rfl, ?_⟩)))))
    unfold fjoin IW
    by_cases h : d = sSlash
    · rw [if_pos (beq_iff_eq.mpr h), if_pos h]
      exact W.addStr (W.var 0 rfl rfl (W.var 1 rfl rfl ⟨_, _, rfl, rfl, by omega, rfl, rfl⟩))
    · rw [if_neg (by simpa using h), if_neg h]
      exact W.addStr (W.addStr (W.var 0 rfl rfl (W.cStr ⟨_, _, rfl, rfl, by show d.length + 1 ≤ 10000; omega, W.var 1 rfl rfl ⟨_, _, rfl, rfl, by rw [PySem.Str.length_append]; show d.length + 1 + s.length ≤ 10000; omega, rfl, rfl⟩⟩)))
theorem W.gint {X : Cx} {vs : List (Option V)} {H : HL} {P : V → HL → Prop} {n : Str} {pos : Pos} {k : Int} {t : Tok} (i : Nat) (hi : X.gs[i]? = some n) (hn : nsIn (K X.w.params) mainGlobals n = some (some (.int k t))) (h : P (.int k) H) : W X vs H (.Name n pos) P := W.glob (v := .int k) i hi hn ⟨t, rfl⟩ h
theorem B.seq {X : Cx} {vs : List (Option V)} {H : HL} {st : Stmt} {rest : List Stmt} {P P' : Fl → List (Option V) → HL → Prop} (h : S X vs H st P') (k : ∀ f vs1 H1, P' f vs1 H1 → BC X rest P f vs1 H1) : B X vs H (st :: rest) P := B.cons (S.mono h k)
theorem WhileN.step {X : Cx} {t : Expr} {b : List Stmt} {P : Fl → List (Option V) → HL → Prop} {n : Nat} {vs : List (Option V)} {H : HL} (h : WT X vs H t fun c H1 => if c = true then B X vs H1 b (fun f vs2 H2 => match f with | .next => WhileN X t b P n vs2 H2 | .cont => WhileN X t b P n vs2 H2 | .brk => P .next vs2 H2 | .ret v => P (.ret v) vs2 H2) else P .next vs H1) : WhileN X t b P (n + 1) vs H := h
/-- where the search for a link's slash ends -/
def Scan (p : Str) : Prop := p.length ≤ 1000 ∧ (Txt.find3 p sSlash 1 ≤ 0 ∨ (Txt.find3 p sSlash 1 ≤ 1000 ∧ Txt.find3 p sSlash (Txt.find3 p sSlash 1 + 1) ≤ 0 ∧ (Txt.slice p Option.none (some (Txt.find3 p sSlash 1))).length ≤ 1000))
theorem cmpNotNone {E : Option Ent} : cmpV .IsNot (entV E) .none = some E.isSome := by cases E <;> rfl
theorem TreeAt.entW {H : HL} {t : Addr} {T : Tree} (A : TreeAt H t T) {n : Str} {E : Ent} (h : look n T.L = some E) : H E.x = some (.inst 174 (eF E)) := (A.ent _ (look_mem h)).1
/-- no entry is a link -/
theorem notLink {X : Cx} {vs : List (Option V)} {H : HL} {E : Option Ent} {n : Str} {p1 p2 p3 p4 p5 p6 p7 p8 : Pos} {k : Nat} (i j : Nat) (hn : X.ns[i]? = some n) (hv : vs[i]? = some (some (entV E))) (hj : X.gs[j]? = some ⟨#[76, 73, 78, 75]⟩) (hE : ∀ F, E = some F → H F.x = some (.inst 174 (eF F))) {P : Bool → HL → Prop} (h : P false H) :
    WT X vs H (.BoolOp .And [.Compare (.Name n p1) [.IsNot] [.Constant .none k p2] p3, .Compare ((Expr.Name n p4).Attribute sSort p5) [.Eq] [.Name ⟨#[76, 73, 78, 75]⟩ p6] p7] p8) P := by
  refine WT.and (WT.cmpv (W.var i hn hv (W.cNone ⟨_, cmpNotNone, ?_⟩)))
  cases E with
  | none => exact h
  | some F =>
    show WT _ _ _ _ _
    refine WT.and (WT.cmpv (W.attr (W.var i hn hv ⟨F.x, 174, eF F, _, rfl, hE F rfl, F_sort174 X.w, rfl, W.gint j hj (I_LINK X.w) ⟨_, rfl, ?_⟩⟩)))
    cases F.dir <;> exact h
theorem fn_first_link (t : Addr) (T : Tree) (p : Str) (H : HL) (A : TreeAt H t T) (hp : Scan p) : Fn 1 213 [.ref t, .str p] H fun v H' => H' = H ∧ v = .str ⟨#[]⟩ := by
  refine Fn.body X_FileTree_first_link (fun _ _ _ _ _ _ => rfl) D_FileTree_first_link (ps := [⟨#[115, 101, 108, 102]⟩, ⟨#[110, 97, 109, 101]⟩]) (fun s name pm us hu => ?_) (by decide +kernel) rfl rfl fun w h₀ L A' os => ?_
  · obtain ⟨u, v, rfl⟩ := len2 hu; exact BindsTo.of_eq rfl
  · refine B.cons (S.assign 2 rfl (W.find2 (W.var 1 rfl rfl ⟨p, rfl, W.cStr ⟨_, rfl, W.cInt ⟨_, rfl, ?_⟩⟩⟩)))
    refine B.seq (P' := fun f vs1 H1 => f = .next ∧ H1 = H ∧ ∃ x y, vs1 = [some (.ref t), some (.str p), some x, y]) (S.while 2 (WhileN.step (WT.cmpv (W.var 2 rfl rfl (W.cInt ⟨_, rfl, ?_⟩))))) ?_
    · by_cases h : 0 < Txt.find3 p sSlash 1
      · obtain ⟨hl, hs | ⟨h1, h2, h3⟩⟩ := hp
        · omega
        rw [if_pos (decide_eq_true h)]
        refine B.cons (S.assign 3 rfl ?_)
        refine W.dget (W.attr (W.var 0 rfl rfl ?_))
        refine ⟨t, 375, _, _, rfl, A.t, F_entries375 w, rfl, T.e, kvOf T.L, rfl, A.e, ?_⟩
        refine W.sliceStr (W.var 1 rfl rfl ?_)
        refine ⟨p, rfl, by omega, ?_⟩
        refine W.var 2 rfl rfl ?_
        refine ⟨_, rfl, ⟨_, rfl, W.cNone ⟨kvOf T.L, A.e, ?_⟩⟩⟩
        rw [getD_ent]
        refine B.cons (S.ite (notLink 3 0 rfl rfl rfl (fun F e => A.entW e) ?_))
        unfold IT; rw [if_neg (by decide)]
        refine B.nil ?_
        refine B.cons (S.assign 2 rfl (W.find2 (W.var 1 rfl rfl ⟨p, rfl, W.cStr ⟨_, rfl, W.binv (W.var 2 rfl rfl (W.cInt ⟨_, rfl, _, rfl, ?_⟩))⟩⟩)))
        refine B.nil ?_
        refine WhileN.step (WT.cmpv (W.var 2 rfl rfl (W.cInt ⟨_, rfl, ?_⟩)))
        rw [if_neg (by simpa using h2)]
        exact ⟨rfl, rfl, _, _, rfl⟩
      · rw [if_neg (by simpa using h)]
        exact ⟨rfl, rfl, _, _, rfl⟩
    · rintro _ _ _ ⟨rfl, rfl, x, y, rfl⟩
      refine B.cons (S.assign 3 rfl ?_)
      refine W.dget (W.attr (W.var 0 rfl rfl ?_))
      refine ⟨t, 375, _, _, rfl, A.t, F_entries375 w, rfl, T.e, kvOf T.L, rfl, A.e, ?_⟩
      refine W.var 1 rfl rfl ⟨_, rfl, W.cNone ⟨kvOf T.L, A.e, ?_⟩⟩
      rw [getD_ent]
      refine B.cons (S.ret (W.ite (notLink 3 0 rfl rfl rfl (fun F e => A.entW e) ?_)))
      unfold IW; rw [if_neg (by decide)]
      exact W.cStr ⟨rfl, rfl⟩
end Mine
end
section
open PySem PySem.W PyProof.Rows PySem.Calls
set_option maxHeartbeats 1000000
namespace Mine
theorem iteT {c : Bool} {A B : Prop} (h : c = true) (a : A) : if c = true then A else B := by rw [if_pos h]; exact a
theorem iteF {c : Bool} {A B : Prop} (h : c = false) (b : B) : if c = true then A else B := by rw [if_neg (by rw [h]; decide)]; exact b
abbrev nSelf : Str := ⟨#[115, 101, 108, 102]⟩
abbrev nName : Str := ⟨#[110, 97, 109, 101]⟩
theorem TreeAt.le {H H' : HL} {t : Addr} {T : Tree} (A : TreeAt H t T) (h : ∀ a o, H a = some o → H' a = some o) : TreeAt H' t T :=
  ⟨h _ _ A.t, h _ _ A.e, fun p hp => ⟨h _ _ (A.ent p hp).1, fun hd => h _ _ ((A.ent p hp).2.1 hd), (A.ent p hp).2.2⟩, A.nd, A.xd, A.len⟩
theorem fn_true_name (t : Addr) (T : Tree) (p : Str) (H : HL) (A : TreeAt H t T) (hp : Scan p) : Fn 2 206 [.ref t, .str p] H fun v H' => H' = H ∧ v = .str p := by
  refine Fn.body X_FileTree_true_name (fun _ _ _ _ _ _ => rfl) D_FileTree_true_name (ps := [nSelf, nName]) (fun s name pm us hu => ?_) (by decide +kernel) rfl rfl fun w h₀ L A' os => ?_
  · obtain ⟨u, v, rfl⟩ := len2 hu; exact BindsTo.of_eq rfl
  · refine B.cons (S.assign 2 rfl (W.var 1 rfl rfl ?_))
    refine B.cons (S.forRange 3 0 rfl rfl (B_range w) (W.gint 1 rfl (I_MOST_LINKS w) ?_))
    refine ⟨12, rfl, by decide, trivial, fun it o hi => ?_⟩
    have A2 := A.le (HL.le_set (o := .raw o) hi)
    refine B.cons (S.assign 4 rfl (W.mcall (W.var 0 rfl rfl ?_)))
    refine ⟨t, 375, _, 213, 1, rfl, A2.t, M_FileTree_first_link w, rfl, Nat.le_refl _, WA.cons (W.var 2 rfl rfl (WA.nil (Fn.mono (fn_first_link t T p _ A2 hp) (Nat.le_refl _) ?_)))⟩
    rintro _ _ ⟨rfl, rfl⟩
    refine B.cons (S.ite (WT.cmpv (W.var 4 rfl rfl (W.cStr ⟨_, rfl, ?_⟩))))
    refine iteT rfl ?_
    refine B.cons (S.ret (W.var 2 rfl rfl ?_))
    exact ⟨H, HL.le_set hi, rfl, rfl⟩
theorem fn_entry (t : Addr) (T : Tree) (p : Str) (H : HL) (A : TreeAt H t T) (hp : Scan p) : Fn 3 227 [.ref t, .str p] H fun v H' => H' = H ∧ v = entV (look p T.L) := by
  refine Fn.body X_FileTree_entry (fun _ _ _ _ _ _ => rfl) D_FileTree_entry (ps := [nSelf, nName]) (fun s name pm us hu => ?_) (by decide +kernel) rfl rfl fun w h₀ L A' os => ?_
  · obtain ⟨u, v, rfl⟩ := len2 hu; exact BindsTo.of_eq rfl
  · refine B.cons (S.ret ?_)
    refine W.dget (W.attr (W.var 0 rfl rfl ?_))
    refine ⟨t, 375, _, _, rfl, A.t, F_entries375 w, rfl, T.e, kvOf T.L, rfl, A.e, ?_⟩
    refine W.mcall (W.var 0 rfl rfl ?_)
    refine ⟨t, 375, _, 206, 2, rfl, A.t, M_FileTree_true_name w, rfl, Nat.le_refl _, WA.cons (W.var 1 rfl rfl (WA.nil (Fn.mono (fn_true_name t T p _ A hp) (Nat.le_refl _) ?_)))⟩
    rintro _ _ ⟨rfl, rfl⟩
    exact ⟨p, rfl, W.cNone ⟨kvOf T.L, A.e, rfl, getD_ent⟩⟩
/-- self.entry(name) -/
theorem callEntry {X : Cx} {vs : List (Option V)} {H : HL} {t : Addr} {T : Tree} {p : Str} {P : V → HL → Prop} (A : TreeAt H t T) (hp : Scan p) {o e : Expr} {apos pos : Pos} (hk : 3 ≤ X.d) (ho : ∀ Q, Q (V.ref t) H → W X vs H o Q) (he : ∀ Q, Q (V.str p) H → W X vs H e Q) (h : P (entV (look p T.L)) H)
    {pl : Env → Sem Bool} (he1 : ∀ env, eval ((o.Attribute ⟨#[101, 110, 116, 114, 121]⟩ apos).Call [e] [] pos) env = (do let ov ← eval o env; standAt apos.atName; let __x ← holding [ov] (getMethod ov ⟨#[101, 110, 116, 114, 121]⟩ (pl env)); match __x with | (f, first) => callWith pos f first (backTo pos (starEach [e] env)) []) := by intro _; with_unfolding_all rfl)
    (hpa : plainArgs pos [e] := by (intro _; refine ⟨by rfl, fun _ _ h => ?_⟩; first | (cases h; done) | (cases h; exact ⟨rfl, rfl⟩))) (he2 : ∀ env, starEach [e] env = (false, eval e env) :: starEach [] env := by intro _; rfl) :
    W X vs H ((o.Attribute ⟨#[101, 110, 116, 114, 121]⟩ apos).Call [e] [] pos) P :=
  W.mcall (ho _ ⟨t, 375, _, 227, 3, rfl, A.t, M_FileTree_entry X.w, rfl, hk, WA.cons (he _ (WA.nil (Fn.mono (fn_entry t T p _ A hp) (Nat.le_refl _) fun v H' ⟨e1, e2⟩ => by subst e1; subst e2; exact h))) he2⟩) he1 hpa
theorem fn_is_there (t : Addr) (T : Tree) (p : Str) (H : HL) (A : TreeAt H t T) (hp : Scan p) : Fn 4 234 [.ref t, .str p] H fun v H' => H' = H ∧ v = .bool (look p T.L).isSome := by
  refine Fn.body X_FileTree_is_there (fun _ _ _ _ _ _ => rfl) D_FileTree_is_there (ps := [nSelf, nName]) (fun s name pm us hu => ?_) (by decide +kernel) rfl rfl fun w h₀ L A' os => ?_
  · obtain ⟨u, v, rfl⟩ := len2 hu; exact BindsTo.of_eq rfl
  · refine B.cons (S.ret (W.cmpv (callEntry A hp (Nat.le_refl _) (fun Q q => W.var 0 rfl rfl q) (fun Q q => W.var 1 rfl rfl q) ?_)))
    exact W.cNone ⟨_, cmpNotNone, rfl, rfl⟩
def isDir : Option Ent → Bool
  | some E => E.dir
  | none => false
def isFile : Option Ent → Bool
  | some E => !E.dir
  | none => false
def sortB (ci : Int) : Option Ent → Bool
  | some F => decide ((if F.dir = true then (0 : Int) else 1) = ci)
  | none => false
theorem sortB0 (E : Option Ent) : sortB 0 E = isDir E := by
  cases E with
  | none => rfl
  | some F => show decide _ = F.dir; cases F.dir <;> rfl
theorem sortB1 (E : Option Ent) : sortB 1 E = isFile E := by
  cases E with
  | none => rfl
  | some F => show decide _ = !F.dir; cases F.dir <;> rfl
/-- found is not None and found.sort == C -/
theorem sortIs {X : Cx} {vs : List (Option V)} {H : HL} {E : Option Ent} {n c : Str} {p1 p2 p3 p4 p5 p6 p7 p8 : Pos} {k : Nat} {ci : Int} {ct : Tok} (i j : Nat) (hn : X.ns[i]? = some n) (hv : vs[i]? = some (some (entV E))) (hj : X.gs[j]? = some c) (hc : nsIn (K X.w.params) mainGlobals c = some (some (.int ci ct))) (hE : ∀ F, E = some F → H F.x = some (.inst 174 (eF F))) {P : V → HL → Prop}
    (h : P (.bool (sortB ci E)) H) :
    W X vs H (.BoolOp .And [.Compare (.Name n p1) [.IsNot] [.Constant .none k p2] p3, .Compare ((Expr.Name n p4).Attribute sSort p5) [.Eq] [.Name c p6] p7] p8) P := by
  refine W.and (W.cmpv (W.var i hn hv (W.cNone ⟨_, cmpNotNone, _, rfl, ?_⟩)))
  cases E with
  | none => exact h
  | some F =>
    refine iteT rfl ?_
    refine W.op1 (W.cmpv (W.attr (W.var i hn hv ⟨F.x, 174, eF F, _, rfl, hE F rfl, F_sort174 X.w, rfl, W.gint j hj hc ⟨_, rfl, ?_⟩⟩)))
    have : (((if F.dir = true then (0 : Int) else 1) == ci)) = decide ((if F.dir = true then (0 : Int) else 1) = ci) := rfl
    exact h
theorem fn_is_directory (t : Addr) (T : Tree) (p : Str) (H : HL) (A : TreeAt H t T) (hp : Scan p) : Fn 4 241 [.ref t, .str p] H fun v H' => H' = H ∧ v = .bool (isDir (look p T.L)) := by
  refine Fn.body X_FileTree_is_directory (fun _ _ _ _ _ _ => rfl) D_FileTree_is_directory (ps := [nSelf, nName]) (fun s name pm us hu => ?_) (by decide +kernel) rfl rfl fun w h₀ L A' os => ?_
  · obtain ⟨u, v, rfl⟩ := len2 hu; exact BindsTo.of_eq rfl
  · refine B.cons (S.assign 2 rfl (callEntry A hp (Nat.le_refl _) (fun Q q => W.var 0 rfl rfl q) (fun Q q => W.var 1 rfl rfl q) ?_))
    refine B.cons (S.ret (sortIs 2 0 rfl rfl rfl (I_DIRECTORY w) (fun F e => A.entW e) ⟨rfl, by rw [sortB0]⟩))
theorem fn_is_plain (t : Addr) (T : Tree) (p : Str) (H : HL) (A : TreeAt H t T) (hp : Scan p) : Fn 4 248 [.ref t, .str p] H fun v H' => H' = H ∧ v = .bool (isFile (look p T.L)) := by
  refine Fn.body X_FileTree_is_plain (fun _ _ _ _ _ _ => rfl) D_FileTree_is_plain (ps := [nSelf, nName]) (fun s name pm us hu => ?_) (by decide +kernel) rfl rfl fun w h₀ L A' os => ?_
  · obtain ⟨u, v, rfl⟩ := len2 hu; exact BindsTo.of_eq rfl
  · refine B.cons (S.assign 2 rfl (callEntry A hp (Nat.le_refl _) (fun Q q => W.var 0 rfl rfl q) (fun Q q => W.var 1 rfl rfl q) ?_))
    refine B.cons (S.ret (sortIs 2 0 rfl rfl rfl (I_PLAIN w) (fun F e => A.entW e) ⟨rfl, by rw [sortB1]⟩))
end Mine
end
section
open PySem PySem.W PyProof.Rows PySem.Calls
set_option maxHeartbeats 1000000
namespace Mine
/-- lists of names with values -/
def aput {α : Type} (n : Str) (v : α) (l : List (Str × α)) : List (Str × α) := if l.any (fun f => decide (f.1 = n)) then l.map (fun f => if f.1 = n then (f.1, v) else f) else l ++ [(n, v)]
def adel {α : Type} (n : Str) (l : List (Str × α)) : List (Str × α) := l.filter fun f => decide (f.1 ≠ n)
def mapV {α β : Type} (f : α → β) (l : List (Str × α)) : List (Str × β) := l.map fun p => (p.1, f p.2)
theorem mapV_aput {α β : Type} (f : α → β) (n : Str) (v : α) (l : List (Str × α)) : mapV f (aput n v l) = aput n (f v) (mapV f l) := by
  unfold aput mapV
  have e : (l.map fun p => (p.1, f p.2)).any (fun f => decide (f.1 = n)) = l.any (fun f => decide (f.1 = n)) := by rw [List.any_map]; rfl
  rw [e]
  split
  · rw [List.map_map, List.map_map]
    refine List.map_congr_left fun p hp => ?_
    show ((if p.1 = n then (p.1, v) else p).1, f (if p.1 = n then (p.1, v) else p).2) = if p.1 = n then (p.1, f v) else (p.1, f p.2)
    split <;> rfl
  · rw [List.map_append]; rfl
theorem mapV_adel {α β : Type} (f : α → β) (n : Str) (l : List (Str × α)) : mapV f (adel n l) = adel n (mapV f l) := by
  unfold adel mapV
  rw [List.filter_map]; rfl
theorem mem_aput {α : Type} {n : Str} {v : α} {l : List (Str × α)} {p : Str × α} (h : p ∈ aput n v l) : p = (n, v) ∨ (p ∈ l ∧ p.1 ≠ n) := by
  unfold aput at h
  split at h
  · obtain ⟨q, hq, rfl⟩ := List.mem_map.mp h
    by_cases e : q.1 = n
    · rw [if_pos e]; left; rw [e]
    · rw [if_neg e]; right; exact ⟨hq, e⟩
  · rename_i hn
    rcases List.mem_append.mp h with h | h
    · right
      refine ⟨h, fun e => hn ?_⟩
      rw [List.any_eq_true]; exact ⟨p, h, decide_eq_true e⟩
    · left; exact List.mem_singleton.mp h
theorem aput_names {α : Type} {n : Str} {v : α} {l : List (Str × α)} (hd : (l.map (·.1)).Nodup) : ((aput n v l).map (·.1)).Nodup := by
  unfold aput
  split
  · rw [List.map_map]
    have : ((fun x => x.1) ∘ fun (f : Str × α) => if f.1 = n then (f.1, v) else f) = fun x : Str × α => x.1 := by
      funext p
      show (if p.1 = n then (p.1, v) else p).1 = p.1
      split <;> rfl
    rw [this]; exact hd
  · rename_i hn
    rw [List.map_append, List.nodup_append]
    refine ⟨hd, (List.nodup_cons.mpr ⟨List.not_mem_nil, List.nodup_nil⟩), fun a ha b hb e => hn ?_⟩
    have : b = n := List.mem_singleton.mp hb
    obtain ⟨p, hp, rfl⟩ := List.mem_map.mp ha
    rw [List.any_eq_true]; exact ⟨p, hp, decide_eq_true (e.trans this)⟩
theorem aput_len {α : Type} {n : Str} {v : α} {l : List (Str × α)} : (aput n v l).length ≤ l.length + 1 := by
  unfold aput
  split
  · rw [List.length_map]; exact Nat.le_succ _
  · rw [List.length_append]; exact Nat.le_refl _
theorem aput_xs {α β : Type} {n : Str} {v : α} {l : List (Str × α)} (g : α → β) (hd : (l.map fun p => g p.2).Nodup) (hn : (l.map (·.1)).Nodup) (hv : ∀ p ∈ l, p.1 ≠ n → g p.2 ≠ g v) : ((aput n v l).map fun p => g p.2).Nodup := by
  unfold aput
  split
  · rename_i hz; clear hz
    induction l with
    | nil => exact List.nodup_nil
    | cons q r ih =>
      rw [List.map_cons, List.nodup_cons] at hd hn
      rw [List.map_cons, List.map_cons, List.nodup_cons]
      refine ⟨fun hm => ?_, ih hd.2 hn.2 fun p hp => hv p (.tail _ hp)⟩
      obtain ⟨y, hy, e⟩ := List.mem_map.mp hm
      obtain ⟨z, hz, rfl⟩ := List.mem_map.mp hy
      by_cases eq : q.1 = n
      · have ez : z.1 ≠ n := fun ez => hn.1 (List.mem_map.mpr ⟨z, hz, ez.trans eq.symm⟩)
        rw [if_pos eq, if_neg ez] at e
        exact hv z (.tail _ hz) ez e
      · rw [if_neg eq] at e
        by_cases ez : z.1 = n
        · rw [if_pos ez] at e; exact hv q (.head _) eq e.symm
        · rw [if_neg ez] at e; exact hd.1 (List.mem_map.mpr ⟨z, hz, e⟩)
  · rename_i ha
    rw [List.map_append, List.nodup_append]
    refine ⟨hd, (List.nodup_cons.mpr ⟨List.not_mem_nil, List.nodup_nil⟩), fun a ha' b hb e => ?_⟩
    have : b = g v := List.mem_singleton.mp hb
    obtain ⟨p, hp, rfl⟩ := List.mem_map.mp ha'
    refine hv p hp (fun q => ha ?_) (e.trans this)
    rw [List.any_eq_true]; exact ⟨p, hp, decide_eq_true q⟩
theorem kvOf_mapV (L : List (Str × Ent)) : kvOf L = mapV (fun E => V.ref E.x) L := rfl
theorem kv_put (n : Str) (E : Ent) (L : List (Str × Ent)) : dput n (.ref E.x) (kvOf L) = kvOf (aput n E L) := (mapV_aput (fun E : Ent => V.ref E.x) n E L).symm
theorem kv_del (n : Str) (L : List (Str × Ent)) : ddel n (kvOf L) = kvOf (adel n L) := (mapV_adel (fun E : Ent => V.ref E.x) n L).symm
/-- what a tree shows -/
abbrev Vw := List (Str × Option (List Int) × Bool)
def Ent.vw (E : Ent) : Option (List Int) × Bool := (if E.dir = true then Option.none else some E.ns, E.wr)
def Tree.vw (T : Tree) : Vw := mapV Ent.vw T.L
def Frm (H H' : HL) (T : Tree) : Prop := ∀ a o, H a = some o → a ≠ T.e → (∀ fs, o ≠ .inst 375 fs) → (∀ fs, o ≠ .inst 174 fs) → H' a = some o
section
variable {H : HL} {t : Addr} {T : Tree}
theorem TreeAt.ne_t (A : TreeAt H t T) {a : Addr} {o : O} (h : H a = some o) (hi : ∀ fs, o ≠ .inst 375 fs) : a ≠ t := fun e => by
  subst e; rw [A.t] at h; exact hi _ (Option.some.inj h).symm
theorem TreeAt.ne_e (A : TreeAt H t T) {a : Addr} {o : O} (h : H a = some o) (hi : ∀ kv, o ≠ .dict kv) : a ≠ T.e := fun e => by
  subst e; rw [A.e] at h; exact hi _ (Option.some.inj h).symm
theorem TreeAt.tick (A : TreeAt H t T) (c : Int) : TreeAt (H.set t (.inst 375 [(sClock, .int c), (sLeft, .int (-1)), (sEntries, .ref T.e)])) t { T with clock := c } := by
  refine ⟨HL.set_self, ?_, fun p hp => ⟨?_, fun hd => ?_, (A.ent p hp).2.2⟩, A.nd, A.xd, A.len⟩
  · rw [HL.set_ne (A.ne_t A.e fun _ h => by cases h)]; exact A.e
  · rw [HL.set_ne (A.ne_t (A.ent p hp).1 fun _ h => by cases h)]; exact (A.ent p hp).1
  · rw [HL.set_ne (A.ne_t ((A.ent p hp).2.1 hd) fun _ h => by cases h)]; exact (A.ent p hp).2.1 hd
/-- an entry's fields are turned -/
theorem TreeAt.turn (A : TreeAt H t T) {n : Str} {E E' : Ent} (hE : look n T.L = some E) (hx : E'.x = E.x) (hc : E'.dir = false → H E'.c = some (.flist (E'.ns.map V.int))) (hl : E'.ns.length ≤ 100) : TreeAt (H.set E.x (.inst 174 (eF E'))) t { T with L := aput n E' T.L } := by
  have hm := look_mem hE
  have hX := (A.ent _ hm).1
  have same : ∀ p ∈ T.L, p.2.x = E.x → p.1 = n := fun p hp e => by
    obtain ⟨i, hi⟩ := List.mem_iff_getElem?.mp hp
    obtain ⟨j, hj⟩ := List.mem_iff_getElem?.mp hm
    have h1 : (T.L.map (·.2.x))[i]? = some E.x := by rw [List.getElem?_map, hi]; exact congrArg some e
    have h2 : (T.L.map (·.2.x))[j]? = some E.x := by rw [List.getElem?_map, hj]; rfl
    have hlt : i < (T.L.map (·.2.x)).length := (List.getElem?_eq_some_iff.mp h1).1
    have := (List.getElem?_inj hlt A.xd).mp (h1.trans h2.symm)
    subst this
    rw [hi] at hj
    cases hj; rfl
  refine ⟨?_, ?_, fun p hp => ?_, aput_names A.nd, ?_, ?_⟩
  · rw [HL.set_ne (fun e => by have := A.t; rw [e, hX] at this; cases this)]; exact A.t
  · rw [HL.set_ne (fun e => by have := A.e; rw [e, hX] at this; cases this)]
    show H T.e = some (.dict (kvOf (aput n E' T.L)))
    have : kvOf (aput n E' T.L) = kvOf T.L := by
      unfold aput
      rw [if_pos (List.any_eq_true.mpr ⟨_, hm, decide_eq_true rfl⟩)]
      unfold kvOf
      rw [List.map_map]
      refine List.map_congr_left fun p hp => ?_
      show ((if p.1 = n then (p.1, E') else p).1, V.ref (if p.1 = n then (p.1, E') else p).2.x) = _
      by_cases e : p.1 = n
      · rw [if_pos e]
        have : p.2 = E := by
          obtain ⟨i, hi⟩ := List.mem_iff_getElem?.mp hp
          obtain ⟨j, hj⟩ := List.mem_iff_getElem?.mp hm
          have h1 : (T.L.map (·.1))[i]? = some n := by rw [List.getElem?_map, hi]; exact congrArg some e
          have h2 : (T.L.map (·.1))[j]? = some n := by rw [List.getElem?_map, hj]; rfl
          have hlt : i < (T.L.map (·.1)).length := (List.getElem?_eq_some_iff.mp h1).1
          have := (List.getElem?_inj hlt A.nd).mp (h1.trans h2.symm)
          subst this
          rw [hi] at hj
          cases hj; rfl
        rw [this, hx]
      · rw [if_neg e]
    rw [this]; exact A.e
  · rcases mem_aput hp with rfl | ⟨hp, hne⟩
    · refine ⟨?_, fun hd => ?_, hl, (A.ent _ hm).2.2.2⟩
      · rw [hx]; exact HL.set_self
      · rw [HL.set_ne (fun e => by have := hc hd; rw [e, hX] at this; cases this)]; exact hc hd
    · refine ⟨?_, fun hd => ?_, (A.ent p hp).2.2⟩
      · rw [HL.set_ne (fun e => hne (same p hp e))]; exact (A.ent p hp).1
      · rw [HL.set_ne (fun e => by have := (A.ent p hp).2.1 hd; rw [e, hX] at this; cases this)]; exact (A.ent p hp).2.1 hd
  · refine aput_xs (fun E : Ent => E.x) A.xd A.nd fun p hp hne e => hne (same p hp ?_)
    exact e.trans hx
  · show (aput n E' T.L).length ≤ 40
    unfold aput
    rw [if_pos (List.any_eq_true.mpr ⟨_, hm, decide_eq_true rfl⟩), List.length_map]
    exact A.len
/-- an entry is put under a name -/
theorem TreeAt.put (A : TreeAt H t T) {n : Str} {E : Ent} (hX : H E.x = some (.inst 174 (eF E))) (hc : E.dir = false → H E.c = some (.flist (E.ns.map V.int))) (hl : E.ns.length ≤ 100) (hn : n.length ≤ 100) (hx : ∀ p ∈ T.L, p.1 ≠ n → p.2.x ≠ E.x) (hz : T.L.length ≤ 39) : TreeAt (H.set T.e (.dict (dput n (.ref E.x) (kvOf T.L)))) t { T with L := aput n E T.L } := by
  refine ⟨?_, ?_, fun p hp => ?_, aput_names A.nd, aput_xs (fun E : Ent => E.x) A.xd A.nd hx, Nat.le_trans aput_len (by omega)⟩
  · rw [HL.set_ne (A.ne_e A.t fun _ h => by cases h)]; exact A.t
  · rw [kv_put]; exact HL.set_self
  · rcases mem_aput hp with rfl | ⟨hp, hne⟩
    · refine ⟨?_, fun hd => ?_, hl, hn⟩
      · rw [HL.set_ne (A.ne_e hX fun _ h => by cases h)]; exact hX
      · rw [HL.set_ne (A.ne_e (hc hd) fun _ h => by cases h)]; exact hc hd
    · refine ⟨?_, fun hd => ?_, (A.ent p hp).2.2⟩
      · rw [HL.set_ne (A.ne_e (A.ent p hp).1 fun _ h => by cases h)]; exact (A.ent p hp).1
      · rw [HL.set_ne (A.ne_e ((A.ent p hp).2.1 hd) fun _ h => by cases h)]; exact (A.ent p hp).2.1 hd
theorem TreeAt.del (A : TreeAt H t T) (n : Str) : TreeAt (H.set T.e (.dict (ddel n (kvOf T.L)))) t { T with L := adel n T.L } := by
  have sub : adel n T.L ⊆ T.L := fun p hp => (List.mem_filter.mp hp).1
  refine ⟨?_, ?_, fun p hp => ?_, ?_, ?_, Nat.le_trans (List.length_filter_le _ _) A.len⟩
  · rw [HL.set_ne (A.ne_e A.t fun _ h => by cases h)]; exact A.t
  · rw [kv_del]; exact HL.set_self
  · have hp := sub hp
    refine ⟨?_, fun hd => ?_, (A.ent p hp).2.2⟩
    · rw [HL.set_ne (A.ne_e (A.ent p hp).1 fun _ h => by cases h)]; exact (A.ent p hp).1
    · rw [HL.set_ne (A.ne_e ((A.ent p hp).2.1 hd) fun _ h => by cases h)]; exact (A.ent p hp).2.1 hd
  · exact List.Nodup.sublist (List.filter_sublist.map _) A.nd
  · exact List.Nodup.sublist (List.filter_sublist.map _) A.xd
end
end Mine
end
section
open PySem PySem.W PyProof.Rows PySem.Calls
set_option maxHeartbeats 1000000
namespace Mine
structure Nm (p : Str) : Prop where
  sc : Scan p
  ne : p ≠ sSlash
  rf : ¬ Txt.rfind p sSlash < 0
  dl : (fdir p).length ≤ 1000
  scp : Scan (fpar p)
  ll : (fpar p).length + (flast p).length ≤ 1000
  jo : fjoin (fpar p) (flast p) = p
  len : p.length ≤ 100
theorem fn_parent_true (t : Addr) (T : Tree) (p : Str) (H : HL) (A : TreeAt H t T) (hp : Nm p) : Fn 3 220 [.ref t, .str p] H fun v H' => H' = H ∧ v = .str p := by
  refine Fn.body X_FileTree_parent_true (fun _ _ _ _ _ _ => rfl) D_FileTree_parent_true (ps := [nSelf, nName]) (fun s name pm us hu => ?_) (by decide +kernel) rfl rfl fun w h₀ L A' os => ?_
  · obtain ⟨u, v, rfl⟩ := len2 hu; exact BindsTo.of_eq rfl
  · refine B.cons (S.ite (WT.cmpv (W.var 1 rfl rfl (W.cStr ⟨_, rfl, ?_⟩))))
    refine iteF (beq_eq_false_iff_ne.mpr hp.ne) ?_
    refine B.nil ?_
    refine B.cons (S.assign 2 rfl (W.mcall (W.var 0 rfl rfl ?_)))
    refine ⟨t, 375, _, 206, 2, rfl, A.t, M_FileTree_true_name w, rfl, Nat.le_refl _, WA.cons ?_⟩
    refine W.call 0 rfl (G_parent_of w) (Nat.le_refl _) (WA.cons (W.var 1 rfl rfl (WA.nil (Fn.mono (fn_parent_of p H (Nat.le_trans hp.len (by decide)) hp.rf (Nat.le_trans hp.dl (by decide))) (Nat.le_refl _) ?_))))
    rintro _ _ ⟨rfl, rfl⟩
    refine WA.nil (Fn.mono (fn_true_name t T _ _ A hp.scp) (Nat.le_refl _) ?_)
    rintro _ _ ⟨rfl, rfl⟩
    refine B.cons (S.ret (W.call (k := 1) 1 rfl (G_joined w) (Nat.le_of_ble_eq_true rfl) (WA.cons (W.var 2 rfl rfl (WA.cons ?_)))))
    refine W.call (k := 1) 2 rfl (G_last_part w) (Nat.le_of_ble_eq_true rfl) (WA.cons (W.var 1 rfl rfl (WA.nil (Fn.mono (fn_last_part p _ (Nat.le_trans hp.len (by decide))) (Nat.le_refl _) ?_))))
    rintro _ _ ⟨rfl, rfl⟩
    refine WA.nil (Fn.mono (fn_joined _ _ _ (Nat.le_trans hp.ll (by decide))) (Nat.le_refl _) ?_)
    rintro _ _ ⟨rfl, rfl⟩
    exact ⟨rfl, by rw [hp.jo]⟩
theorem fn_need_plain (t : Addr) (T : Tree) (p : Str) (H : HL) (A : TreeAt H t T) (hp : Scan p) (E : Ent) (hE : look p T.L = some E) (hd : E.dir = false) : Fn 4 255 [.ref t, .str p] H fun v H' => H' = H ∧ v = .ref E.x := by
  refine Fn.body X_FileTree_need_plain (fun _ _ _ _ _ _ => rfl) D_FileTree_need_plain (ps := [nSelf, nName]) (fun s name pm us hu => ?_) (by decide +kernel) rfl rfl fun w h₀ L A' os => ?_
  · obtain ⟨u, v, rfl⟩ := len2 hu; exact BindsTo.of_eq rfl
  · refine B.cons (S.assign 2 rfl (callEntry A hp (Nat.le_refl _) (fun Q q => W.var 0 rfl rfl q) (fun Q q => W.var 1 rfl rfl q) ?_))
    rw [hE]
    refine B.cons (S.ite (WT.cmpv (W.var 2 rfl rfl (W.cNone ⟨_, rfl, ?_⟩))))
    refine iteF rfl (B.nil ?_)
    refine B.cons (S.ite (WT.cmpv (W.attr (W.var 2 rfl rfl ?_))))
    refine ⟨E.x, 174, eF E, _, rfl, A.entW hE, F_sort174 w, rfl, W.gint 1 rfl (I_DIRECTORY w) ⟨_, rfl, ?_⟩⟩
    refine iteF (by rw [hd]; rfl) (B.nil ?_)
    exact B.cons (S.ret (W.var 2 rfl rfl ⟨rfl, rfl⟩))
theorem fn_need_directory (t : Addr) (T : Tree) (p : Str) (H : HL) (A : TreeAt H t T) (hp : Scan p) (E : Ent) (hE : look p T.L = some E) (hd : E.dir = true) : Fn 4 262 [.ref t, .str p] H fun v H' => H' = H ∧ v = .none := by
  refine Fn.body X_FileTree_need_directory (fun _ _ _ _ _ _ => rfl) D_FileTree_need_directory (ps := [nSelf, nName]) (fun s name pm us hu => ?_) (by decide +kernel) rfl rfl fun w h₀ L A' os => ?_
  · obtain ⟨u, v, rfl⟩ := len2 hu; exact BindsTo.of_eq rfl
  · refine B.cons (S.assign 2 rfl (callEntry A hp (Nat.le_refl _) (fun Q q => W.var 0 rfl rfl q) (fun Q q => W.var 1 rfl rfl q) ?_))
    rw [hE]
    refine B.cons (S.ite (WT.cmpv (W.var 2 rfl rfl (W.cNone ⟨_, rfl, ?_⟩))))
    refine iteF rfl (B.nil ?_)
    refine B.cons (S.ite (WT.cmpv (W.attr (W.var 2 rfl rfl ?_))))
    refine ⟨E.x, 174, eF E, _, rfl, A.entW hE, F_sort174 w, rfl, W.gint 1 rfl (I_DIRECTORY w) ⟨_, rfl, ?_⟩⟩
    refine iteF (by rw [hd]; rfl) (B.nil ?_)
    exact B.nil ⟨rfl, rfl⟩
theorem fn_read (t : Addr) (T : Tree) (p : Str) (H : HL) (A : TreeAt H t T) (hp : Scan p) (E : Ent) (hE : look p T.L = some E) (hd : E.dir = false) : Fn 5 269 [.ref t, .str p] H fun v H' => ∃ d, v = .ref d ∧ H d = none ∧ H' = H.set d (.list (E.ns.map V.int)) := by
  refine Fn.body X_FileTree_read (fun _ _ _ _ _ _ => rfl) D_FileTree_read (ps := [nSelf, nName]) (fun s name pm us hu => ?_) (by decide +kernel) rfl rfl fun w h₀ L A' os => ?_
  · obtain ⟨u, v, rfl⟩ := len2 hu; exact BindsTo.of_eq rfl
  · refine B.cons (S.ret (W.tcall 0 rfl (B_list w) (WA.cons (W.attr (W.mcall (W.var 0 rfl rfl ?_))))))
    refine ⟨t, 375, _, 255, 4, rfl, A.t, M_FileTree_need_plain w, rfl, Nat.le_refl _, WA.cons (W.var 1 rfl rfl (WA.nil (Fn.mono (fn_need_plain t T p _ A hp E hE hd) (Nat.le_refl _) ?_)))⟩
    rintro _ _ ⟨rfl, rfl⟩
    refine ⟨E.x, 174, eF E, _, rfl, A.entW hE, F_content174 w, rfl, WA.nil ?_⟩
    show CB _ _ _ _ [if E.dir = true then .none else .ref E.c] _
    rw [hd]
    have z := A.ent _ (look_mem hE)
    exact CB.copyF (z.2.1 hd) (by rw [List.length_map]; exact Nat.le_trans z.2.2.1 (by decide)) fun d hd => ⟨d, rfl, hd, rfl⟩
theorem fn_may_write (t : Addr) (T : Tree) (p : Str) (H : HL) (A : TreeAt H t T) (hp : Scan p) (E : Ent) (hE : look p T.L = some E) : Fn 4 283 [.ref t, .str p] H fun v H' => H' = H ∧ v = .bool (E.wr && !E.dir) := by
  refine Fn.body X_FileTree_may_write (fun _ _ _ _ _ _ => rfl) D_FileTree_may_write (ps := [nSelf, nName]) (fun s name pm us hu => ?_) (by decide +kernel) rfl rfl fun w h₀ L A' os => ?_
  · obtain ⟨u, v, rfl⟩ := len2 hu; exact BindsTo.of_eq rfl
  · refine B.cons (S.assign 2 rfl (callEntry A hp (Nat.le_refl _) (fun Q q => W.var 0 rfl rfl q) (fun Q q => W.var 1 rfl rfl q) ?_))
    rw [hE]
    refine B.cons (S.ite (WT.cmpv (W.var 2 rfl rfl (W.cNone ⟨_, rfl, ?_⟩))))
    refine iteT rfl ?_
    refine B.cons (S.ret (W.and (W.attr (W.var 2 rfl rfl ?_))))
    refine ⟨E.x, 174, eF E, _, rfl, A.entW hE, F_is_writable174 w, rfl, _, rfl, ?_⟩
    cases hw : E.wr with
    | false => exact iteF rfl ⟨rfl, rfl⟩
    | true =>
      refine iteT rfl ?_
      refine W.op1 (W.cmpv (W.attr (W.var 2 rfl rfl ?_)))
      refine ⟨E.x, 174, eF E, _, rfl, A.entW hE, F_sort174 w, rfl, W.gint 0 rfl (I_PLAIN w) ⟨_, rfl, rfl, ?_⟩⟩
      cases E.dir <;> rfl
theorem fn_link_text (t : Addr) (T : Tree) (p : Str) (H : HL) (A : TreeAt H t T) (hp : Nm p) : Fn 4 290 [.ref t, .str p] H fun v H' => H' = H ∧ v = .none := by
  refine Fn.body X_FileTree_link_text (fun _ _ _ _ _ _ => rfl) D_FileTree_link_text (ps := [nSelf, nName]) (fun s name pm us hu => ?_) (by decide +kernel) rfl rfl fun w h₀ L A' os => ?_
  · obtain ⟨u, v, rfl⟩ := len2 hu; exact BindsTo.of_eq rfl
  · refine B.cons (S.assign 2 rfl ?_)
    refine W.dget (W.attr (W.var 0 rfl rfl ?_))
    refine ⟨t, 375, _, _, rfl, A.t, F_entries375 w, rfl, T.e, kvOf T.L, rfl, A.e, ?_⟩
    refine W.mcall (W.var 0 rfl rfl ?_)
    refine ⟨t, 375, _, 220, 3, rfl, A.t, M_FileTree_parent_true w, rfl, Nat.le_refl _, WA.cons (W.var 1 rfl rfl (WA.nil (Fn.mono (fn_parent_true t T p _ A hp) (Nat.le_refl _) ?_)))⟩
    rintro _ _ ⟨rfl, rfl⟩
    refine ⟨p, rfl, W.cNone ⟨kvOf T.L, A.e, ?_⟩⟩
    rw [getD_ent]
    refine B.cons (S.ret (W.ite (notLink 2 0 rfl rfl rfl (fun F e => A.entW e) ?_)))
    exact iteF rfl (W.cNone ⟨rfl, rfl⟩)
theorem fn_need_room (t : Addr) (T : Tree) (p : Str) (H : HL) (A : TreeAt H t T) (hp : Nm p) (E : Ent) (hE : look (fpar p) T.L = some E) (hd : E.dir = true) (hw : E.wr = true) : Fn 4 304 [.ref t, .str p] H fun v H' => H' = H ∧ v = .none := by
  refine Fn.body X_FileTree_need_room (fun _ _ _ _ _ _ => rfl) D_FileTree_need_room (ps := [nSelf, nName]) (fun s name pm us hu => ?_) (by decide +kernel) rfl rfl fun w h₀ L A' os => ?_
  · obtain ⟨u, v, rfl⟩ := len2 hu; exact BindsTo.of_eq rfl
  · refine B.cons (S.assign 2 rfl (callEntry A hp.scp (Nat.le_refl _) (fun Q q => W.var 0 rfl rfl q) (fun Q q => ?_) ?_))
    · refine W.call (k := 2) 0 rfl (G_parent_of w) (Nat.le_of_ble_eq_true rfl) (WA.cons (W.var 1 rfl rfl (WA.nil (Fn.mono (fn_parent_of p H (Nat.le_trans hp.len (by decide)) hp.rf (Nat.le_trans hp.dl (by decide))) (Nat.le_refl _) ?_))))
      rintro _ _ ⟨rfl, rfl⟩
      exact q
    rw [hE]
    refine B.cons (S.ite (WT.cmpv (W.var 2 rfl rfl (W.cNone ⟨_, rfl, ?_⟩))))
    refine iteF rfl (B.nil ?_)
    refine B.cons (S.ite (WT.cmpv (W.attr (W.var 2 rfl rfl ?_))))
    refine ⟨E.x, 174, eF E, _, rfl, A.entW hE, F_sort174 w, rfl, W.gint 2 rfl (I_DIRECTORY w) ⟨_, rfl, ?_⟩⟩
    refine iteF (by rw [hd]; rfl) (B.nil ?_)
    refine B.cons (S.ite (WT.not (WT.val (W.attr (W.var 2 rfl rfl ?_)))))
    refine ⟨E.x, 174, eF E, _, rfl, A.entW hE, F_is_writable174 w, rfl, _, rfl, ?_⟩
    refine iteF (by rw [hw]; rfl) (B.nil ?_)
    exact B.nil ⟨rfl, rfl⟩
theorem fn_step (t : Addr) (T : Tree) (H : HL) (A : TreeAt H t T) : Fn 1 199 [.ref t] H fun v H' => v = .none ∧ H' = H.set t (.inst 375 [(sClock, .int (T.clock + 1)), (sLeft, .int (-1)), (sEntries, .ref T.e)]) := by
  refine Fn.body X_FileTree_step (fun _ _ _ _ _ _ => rfl) D_FileTree_step (ps := [nSelf]) (fun s name pm us hu => ?_) (by decide +kernel) rfl rfl fun w h₀ L A' os => ?_
  · obtain ⟨u, rfl⟩ := len1 hu; exact BindsTo.of_eq rfl
  · refine B.cons (S.ite (WT.cmpv (W.attr (W.var 0 rfl rfl ?_))))
    refine ⟨t, 375, _, _, rfl, A.t, F_left375 w, rfl, W.cInt ⟨_, rfl, ?_⟩⟩
    refine iteF rfl (B.nil ?_)
    refine B.cons (S.ite (WT.cmpv (W.attr (W.var 0 rfl rfl ?_))))
    refine ⟨t, 375, _, _, rfl, A.t, F_left375 w, rfl, W.cInt ⟨_, rfl, ?_⟩⟩
    refine iteF rfl (B.nil ?_)
    refine B.cons (S.setAttr (W.binv (W.attr (W.var 0 rfl rfl ?_))))
    refine ⟨t, 375, _, _, rfl, A.t, F_clock375 w, rfl, W.cInt ⟨_, rfl, W.var 0 rfl rfl ?_⟩⟩
    exact ⟨t, 375, _, rfl, A.t, S_clock375 w, Nat.le_of_ble_eq_true rfl, B.nil ⟨rfl, rfl⟩⟩
theorem fn_Entry_init (x : Addr) (so co st : V) (H : HL) (hx : H x = some (.inst 174 [])) : Fn 1 171 [.ref x, so, co, st] H fun v H' => v = .none ∧ H' = H.set x (.inst 174 [(sSort, so), (sContent, co), (sStamp, st), (sWr, .bool true)]) := by
  refine Fn.body X_Entry_init (fun _ _ _ _ _ _ => rfl) D_Entry_init (ps := [nSelf, sSort, sContent, sStamp]) (fun s name pm us hu => ?_) (by decide +kernel) rfl rfl fun w h₀ L A' os => ?_
  · obtain ⟨u, u2, u3, u4, rfl⟩ := len4 hu; exact BindsTo.of_eq rfl
  · refine B.cons (S.setAttr (W.var 1 rfl rfl (W.var 0 rfl rfl ?_)))
    refine ⟨x, 174, _, rfl, hx, S_sort174 w, Nat.le_of_ble_eq_true rfl, ?_⟩
    refine B.cons (S.setAttr (W.var 2 rfl rfl (W.var 0 rfl rfl ?_)))
    refine ⟨x, 174, _, rfl, HL.set_self, S_content174 w, Nat.le_of_ble_eq_true rfl, ?_⟩
    refine B.cons (S.setAttr (W.var 3 rfl rfl (W.var 0 rfl rfl ?_)))
    refine ⟨x, 174, _, rfl, HL.set_self, S_stamp174 w, Nat.le_of_ble_eq_true rfl, ?_⟩
    refine B.cons (S.setAttr (W.cBool (W.var 0 rfl rfl ?_)))
    refine ⟨x, 174, _, rfl, HL.set_self, S_is_writable174 w, Nat.le_of_ble_eq_true rfl, B.nil ⟨rfl, ?_⟩⟩
    rw [HL.set_set, HL.set_set, HL.set_set]; rfl
/-- what stands, though an object is turned -/
theorem Frm.refl (H : HL) (T : Tree) : Frm H H T := fun _ _ e _ _ _ => e
theorem Frm.trans {H H1 H2 : HL} {T T' : Tree} (h : Frm H H1 T) (k : Frm H1 H2 T') (e : T'.e = T.e) : Frm H H2 T := fun a o ha n1 n2 n3 => k a o (h a o ha n1 n2 n3) (e ▸ n1) n2 n3
theorem Frm.alloc {H : HL} {T : Tree} {d : Addr} {o : O} (h : H d = none) : Frm H (H.set d o) T := fun a o' e _ _ _ => HL.le_set h a o' e
theorem Frm.inst {H : HL} {T : Tree} {d : Addr} {fs fs' : List (Str × V)} {C : Addr} (h : H d = some (.inst C fs)) (hC : C = 375 ∨ C = 174) : Frm H (H.set d (.inst C fs')) T := fun a o' e _ n2 n3 => by
  rw [HL.set_ne]
  · exact e
  · rintro rfl
    rw [h] at e
    cases e
    rcases hC with rfl | rfl
    · exact n2 _ rfl
    · exact n3 _ rfl
theorem Frm.dict {H : HL} {T : Tree} {o : O} : Frm H (H.set T.e o) T := fun a o' e n1 _ _ => by rw [HL.set_ne n1]; exact e
theorem TreeAt.down {H : HL} {t : Addr} {T : Tree} (A : TreeAt H t T) {d : Addr} {o : O} (h : H d = none) : TreeAt (H.set d o) t T := A.le (HL.le_set h)
def fillE (E : Ent) (d : Addr) (ns : List Int) (k : Int) : Ent := { E with c := d, ns := ns, stamp := k }
theorem fn_fill (t a : Addr) (T : Tree) (H : HL) (A : TreeAt H t T) (n : Str) (E : Ent) (hE : look n T.L = some E) (hd : E.dir = false) (ns : List Int) (ha : H a = some (.flist (ns.map V.int))) (hl : ns.length ≤ 100) :
    Fn 2 318 [.ref t, .ref E.x, .ref a] H fun v H' => v = .none ∧ ∃ T', TreeAt H' t T' ∧ T'.e = T.e ∧ (∃ d k, T'.L = aput n (fillE E d ns k) T.L) ∧ Frm H H' T := by
  refine Fn.less (Fn.body X_FileTree_fill (fun _ _ _ _ _ _ => rfl) D_FileTree_fill (ps := [nSelf, ⟨#[101, 110, 116, 114, 121]⟩, ⟨#[99, 111, 100, 101, 115]⟩]) (fun s name pm us hu => ?_) (by decide +kernel) rfl rfl fun w h₀ L A' os => ?_)
  · obtain ⟨u, u2, u3, rfl⟩ := len3 hu; exact BindsTo.of_eq rfl
  · refine B.cons (S.expr (W.mcall (W.var 0 rfl rfl ?_)))
    refine ⟨t, 375, _, 199, 1, rfl, A.t, M_FileTree_step w, rfl, Nat.le_refl _, WA.nil (Fn.mono (fn_step t T _ A) (Nat.le_refl _) ?_)⟩
    rintro _ _ ⟨rfl, rfl⟩
    have A1 := A.tick (T.clock + 1)
    generalize hH1 : H.set t _ = H1 at A1 ⊢
    have f1 : Frm H H1 T := by rw [← hH1]; exact Frm.inst A.t (.inl rfl)
    have ha1 : H1 a = some (.flist (ns.map V.int)) := f1 a _ ha (A.ne_e ha fun _ h => by cases h) (fun _ h => by cases h) (fun _ h => by cases h)
    refine B.cons (S.setAttr (W.tcall 0 rfl (B_list w) (WA.cons (W.var 2 rfl rfl (WA.nil (CB.copyF ha1 (by rw [List.length_map]; omega) fun d hdn => W.var 1 rfl rfl ?_))))))
    have A2 := A1.down (o := .list (ns.map V.int)) hdn
    refine ⟨E.x, 174, _, rfl, A2.entW hE, S_content174 w, Nat.le_of_ble_eq_true rfl, ?_⟩
    refine B.cons (S.setAttr (W.attr (W.var 0 rfl rfl ?_)))
    have hxt : t ≠ E.x := fun e => by have := A2.t; rw [e, A2.entW hE] at this; cases this
    refine ⟨t, 375, _, _, rfl, by rw [HL.set_ne hxt]; exact A2.t, F_clock375 w, rfl, W.var 1 rfl rfl ?_⟩
    refine ⟨E.x, 174, _, rfl, HL.set_self, S_stamp174 w, Nat.le_of_ble_eq_true rfl, B.nil ?_⟩
    rw [HL.set_set]
    have hxd : E.x ≠ d := fun e => by have := A1.entW hE; rw [e, hdn] at this; cases this
    have A3 : TreeAt (H1.set d (.flist (ns.map V.int))) t { T with clock := T.clock + 1 } := A1.down hdn
    have A4 := A3.turn hE (E' := fillE E d ns (T.clock + 1)) rfl (fun _ => HL.set_self) hl
    refine ⟨_, ?_, rfl, _, A4, rfl, ⟨d, _, rfl⟩, ?_⟩
    · intro b o hb
      by_cases e : b = E.x
      · subst e
        rw [HL.set_self] at hb ⊢
        left
        rw [← hb]
        show some (O.inst 174 _) = some (O.inst 174 _)
        rw [show eF (fillE E d ns (T.clock + 1)) = putF sStamp (V.int (T.clock + 1)) (putF sContent (V.ref d) (eF E)) from by
          unfold eF fillE; rw [hd]; rfl]
      · rw [HL.set_ne e] at hb ⊢
        by_cases e' : b = d
        · subst e'; rw [HL.set_self] at hb ⊢; cases hb; right; exact ⟨_, rfl, rfl⟩
        · rw [HL.set_ne e'] at hb ⊢; left; exact hb
    · refine (f1.trans (Frm.alloc (T := { T with clock := T.clock + 1 }) hdn) rfl).trans (T' := { T with clock := T.clock + 1 }) (Frm.inst (A3.entW hE) (.inr rfl)) rfl
end Mine
end
section
open PySem PySem.W PyProof.Rows PySem.Calls
set_option maxHeartbeats 1000000
namespace Mine
def alook {α : Type} (n : Str) : List (Str × α) → Option α
  | [] => none
  | p :: r => if p.1 = n then some p.2 else alook n r
theorem look_eq (n : Str) : ∀ L : List (Str × Ent), look n L = alook n L
  | [] => rfl
  | p :: r => by unfold look alook; rw [look_eq n r]
theorem dget_eq (n : Str) : ∀ L : List (Str × V), dget n L = alook n L
  | [] => rfl
  | p :: r => by unfold dget alook; rw [dget_eq n r]
theorem alook_mapV {α β : Type} (f : α → β) (n : Str) : ∀ l : List (Str × α), alook n (mapV f l) = (alook n l).map f
  | [] => rfl
  | p :: r => by
    show alook n ((p.1, f p.2) :: mapV f r) = _
    unfold alook
    by_cases e : p.1 = n
    · rw [if_pos e, if_pos e]; rfl
    · rw [if_neg e, if_neg e]; exact alook_mapV f n r
theorem alook_any {α : Type} {n : Str} : ∀ {l : List (Str × α)}, l.any (fun f => decide (f.1 = n)) = (alook n l).isSome
  | [] => rfl
  | p :: r => by
    rw [List.any_cons]
    unfold alook
    by_cases e : p.1 = n
    · rw [if_pos e, decide_eq_true e]; rfl
    · rw [if_neg e, decide_eq_false e]; exact alook_any
theorem alook_app {α : Type} {m n : Str} {v : α} : ∀ {l : List (Str × α)}, alook n l = none → alook m (l ++ [(n, v)]) = if m = n then some v else alook m l
  | [], _ => by
    show (if n = m then some v else none) = if m = n then some v else none
    by_cases e : m = n
    · rw [if_pos e, if_pos e.symm]
    · rw [if_neg e, if_neg fun q => e q.symm]
  | p :: r, h => by
    unfold alook at h
    show alook m (p :: (r ++ [(n, v)])) = _
    unfold alook
    by_cases e : p.1 = n
    · rw [if_pos e] at h; cases h
    · rw [if_neg e] at h
      by_cases e' : p.1 = m
      · rw [if_pos e', if_pos e', if_neg fun q => e (e'.trans q)]
      · rw [if_neg e', if_neg e']; exact alook_app h
theorem alook_map {α : Type} {m n : Str} {v : α} : ∀ {l : List (Str × α)}, (alook n l).isSome = true → alook m (l.map fun f => if f.1 = n then (f.1, v) else f) = if m = n then some v else alook m l
  | p :: r, h => by
    have aux : ∀ {l : List (Str × α)}, m ≠ n → alook m (l.map fun f => if f.1 = n then (f.1, v) else f) = alook m l := by
      intro l hm
      induction l with
      | nil => rfl
      | cons q r ih =>
        rw [List.map_cons]
        unfold alook
        by_cases e : q.1 = n
        · rw [if_pos e, if_neg fun x => hm (x.symm.trans e), if_neg fun x => hm (x.symm.trans e)]; exact ih
        · rw [if_neg e]
          by_cases e' : q.1 = m
          · rw [if_pos e', if_pos e']
          · rw [if_neg e', if_neg e']; exact ih
    by_cases hm : m = n
    · subst hm
      rw [if_pos rfl, List.map_cons]
      unfold alook at h ⊢
      by_cases e : p.1 = m
      · rw [if_pos e]; exact if_pos e
      · rw [if_neg e] at h ⊢
        rw [if_neg e]
        have := alook_map (m := m) (v := v) h
        rw [if_pos rfl] at this
        exact this
    · rw [if_neg hm]; exact aux hm
theorem alook_aput {α : Type} {m n : Str} {v : α} {l : List (Str × α)} : alook m (aput n v l) = if m = n then some v else alook m l := by
  unfold aput
  rw [alook_any]
  split
  · rename_i h; exact alook_map h
  · rename_i h
    exact alook_app (by cases e : alook n l with | none => rfl | some _ => rw [e] at h; exact absurd rfl h)
theorem alook_adel {α : Type} {m n : Str} : ∀ {l : List (Str × α)}, alook m (adel n l) = if m = n then none else alook m l
  | [] => by show none = _; split <;> rfl
  | p :: r => by
    unfold adel
    by_cases e : p.1 = n
    · rw [List.filter_cons_of_neg (by simpa using e)]
      have := alook_adel (m := m) (n := n) (l := r)
      unfold adel at this
      rw [this]
      by_cases hm : m = n
      · rw [if_pos hm, if_pos hm]
      · rw [if_neg hm, if_neg hm]
        conv => rhs; unfold alook
        rw [if_neg fun q => hm (q.symm.trans e)]
    · rw [List.filter_cons_of_pos (by simpa using e)]
      have := alook_adel (m := m) (n := n) (l := r)
      unfold adel at this
      unfold alook
      rw [this]
      by_cases e' : p.1 = m
      · rw [if_pos e', if_neg fun q => e (e'.trans q), if_pos e']
      · rw [if_neg e', if_neg e']
theorem look_aput {m n : Str} {E : Ent} {L : List (Str × Ent)} : look m (aput n E L) = if m = n then some E else look m L := by rw [look_eq, look_eq, alook_aput]
theorem look_adel {m n : Str} {L : List (Str × Ent)} : look m (adel n L) = if m = n then none else look m L := by rw [look_eq, look_eq, alook_adel]
theorem Le.freeze {H : HL} {d : Addr} {l : List V} : Le (H.set d (.flist l)) (H.set d (.list l)) := fun a o e => by
  by_cases h : a = d
  · subst h; rw [HL.set_self] at e ⊢; cases e; right; exact ⟨_, rfl, rfl⟩
  · rw [HL.set_ne h] at e ⊢; left; exact e
theorem Le.set {H H' : HL} (h : Le H H') (d : Addr) (o : O) : Le (H.set d o) (H'.set d o) := fun a o' e => by
  by_cases q : a = d
  · subst q; rw [HL.set_self] at e ⊢; left; exact e
  · rw [HL.set_ne q] at e ⊢; exact h a o' e
theorem Le.trans {H H1 H2 : HL} (h : Le H H1) (k : Le H1 H2) : Le H H2 := fun a o e => by
  rcases h a o e with g | ⟨l, rfl, g⟩
  · exact k a o g
  · rcases k a _ g with g | ⟨_, q, _⟩
    · right; exact ⟨l, rfl, g⟩
    · cases q
theorem Fn.read {k k' : Nat} {f : Addr} {args : List V} {H : HL} {u : V} {P : V → HL → Prop} (h : Fn k f args H fun v H' => H' = H ∧ v = u) (hk : k ≤ k') (hp : P u H) : Fn k' f args H P := h.mono hk fun v H' ⟨e1, e2⟩ => by subst e1; subst e2; exact hp
theorem Fn.turn {k k' : Nat} {f : Addr} {args : List V} {H Hx : HL} {u : V} {P : V → HL → Prop} (h : Fn k f args H fun v H' => v = u ∧ H' = Hx) (hk : k ≤ k') (hp : P u Hx) : Fn k' f args H P := h.mono hk fun v H' ⟨e1, e2⟩ => by subst e1; subst e2; exact hp
theorem aput_aput {α : Type} {n : Str} {v u : α} {l : List (Str × α)} : aput n v (aput n u l) = aput n v l := by
  unfold aput
  by_cases h : l.any (fun f => decide (f.1 = n)) = true
  · rw [if_pos h]
    have : (l.map fun f => if f.1 = n then (f.1, u) else f).any (fun f => decide (f.1 = n)) = true := by
      rw [List.any_map, ← h]
      congr 1
      funext p
      show decide ((if p.1 = n then (p.1, u) else p).1 = n) = decide (p.1 = n)
      split <;> rfl
    rw [if_pos this, if_pos h, List.map_map]
    refine List.map_congr_left fun p hp => ?_
    show (if (if p.1 = n then (p.1, u) else p).1 = n then ((if p.1 = n then (p.1, u) else p).1, v) else (if p.1 = n then (p.1, u) else p)) = if p.1 = n then (p.1, v) else p
    by_cases e : p.1 = n
    · rw [if_pos e, if_pos e]; exact (if_pos e).symm
    · rw [if_neg e, if_neg e]
  · rw [if_neg h, if_neg h, List.any_append]
    rw [if_pos (by simp), List.map_append]
    congr 1
    · refine (List.map_congr_left fun p hp => ?_).trans (List.map_id _)
      refine if_neg fun e => h ?_
      rw [List.any_eq_true]; exact ⟨p, hp, decide_eq_true e⟩
    · show [if n = n then (n, v) else (n, u)] = [(n, v)]
      rw [if_pos rfl]
/-- what a call that changes the tree leaves -/
def Did (H : HL) (t : Addr) (T : Tree) (vw : Vw) (H' : HL) : Prop := ∃ T', TreeAt H' t T' ∧ T'.e = T.e ∧ T'.vw = vw ∧ Frm H H' T
theorem vw_aput (T : Tree) (n : Str) (E : Ent) (c : Int) (e : Addr) : Tree.vw { clock := c, e := e, L := aput n E T.L } = aput n E.vw T.vw := mapV_aput _ _ _ _
theorem fn_write (t a : Addr) (T : Tree) (H : HL) (A : TreeAt H t T) (p : Str) (hp : Nm p) (ns : List Int) (ha : H a = some (.flist (ns.map V.int))) (hl : ns.length ≤ 100)
    (hc : (∃ E, look p T.L = some E ∧ E.dir = false ∧ E.wr = true) ∨ (look p T.L = none ∧ T.L.length ≤ 39 ∧ ∃ E, look (fpar p) T.L = some E ∧ E.dir = true ∧ E.wr = true)) :
    Fn 6 311 [.ref t, .str p, .ref a] H fun v H' => v = .none ∧ Did H t T (aput p (some ns, true) T.vw) H' := by
  refine Fn.body X_FileTree_write (fun _ _ _ _ _ _ => rfl) D_FileTree_write (ps := [nSelf, nName, ⟨#[99, 111, 100, 101, 115]⟩]) (fun s name pm us hu => ?_) (by decide +kernel) rfl rfl fun w h₀ L A' os => ?_
  · obtain ⟨u, u2, u3, rfl⟩ := len3 hu; exact BindsTo.of_eq rfl
  · refine B.cons (S.assign 3 rfl (W.mcall (W.var 0 rfl rfl ?_)))
    refine ⟨t, 375, _, 206, 2, rfl, A.t, M_FileTree_true_name w, rfl, Nat.le_of_ble_eq_true rfl, WA.cons (W.var 1 rfl rfl (WA.nil (Fn.read (fn_true_name t T p _ A hp.sc) (Nat.le_refl _) ?_)))⟩
    refine B.cons (S.assign 4 rfl ?_)
    refine W.dget (W.attr (W.var 0 rfl rfl ?_))
    refine ⟨t, 375, _, _, rfl, A.t, F_entries375 w, rfl, T.e, kvOf T.L, rfl, A.e, ?_⟩
    refine W.var 3 rfl rfl ⟨p, rfl, W.cNone ⟨kvOf T.L, A.e, ?_⟩⟩
    rw [getD_ent]
    rcases hc with ⟨E, hE, hd, hw⟩ | ⟨hN, hz, E', hE', hd', hw'⟩
    · rw [hE]
      refine B.cons (S.ite (WT.cmpv (W.var 4 rfl rfl (W.cNone ⟨_, rfl, ?_⟩))))
      refine iteF rfl (B.nil ?_)
      refine B.cons (S.ite (WT.cmpv (W.attr (W.var 4 rfl rfl ?_))))
      refine ⟨E.x, 174, eF E, _, rfl, A.entW hE, F_sort174 w, rfl, W.gint 2 rfl (I_DIRECTORY w) ⟨_, rfl, ?_⟩⟩
      refine iteF (by rw [hd]; rfl) (B.nil ?_)
      refine B.cons (S.ite (WT.not (WT.val (W.attr (W.var 4 rfl rfl ?_)))))
      refine ⟨E.x, 174, eF E, _, rfl, A.entW hE, F_is_writable174 w, rfl, _, rfl, ?_⟩
      refine iteF (by rw [hw]; rfl) (B.nil ?_)
      refine B.cons (S.expr (W.mcall (W.var 0 rfl rfl ?_)))
      refine ⟨t, 375, _, 199, 1, rfl, A.t, M_FileTree_step w, rfl, Nat.le_of_ble_eq_true rfl, WA.nil (Fn.turn (fn_step t T _ A) (Nat.le_refl _) ?_)⟩
      have A1 := A.tick (T.clock + 1)
      generalize hH1 : HL.set _ t _ = H1 at A1 ⊢
      have f1 : Frm H H1 T := by rw [← hH1]; exact Frm.inst A.t (.inl rfl)
      have ha1 : H1 a = some (.flist (ns.map V.int)) := f1 a _ ha (A.ne_e ha fun _ h => by cases h) (fun _ h => by cases h) (fun _ h => by cases h)
      refine B.cons (S.setAttr (W.list (WA.nil ⟨by decide, fun d hdn => W.var 4 rfl rfl ?_⟩)))
      have A2 := A1.down (o := .list []) hdn
      refine ⟨E.x, 174, _, rfl, A2.entW hE, S_content174 w, Nat.le_of_ble_eq_true rfl, ?_⟩
      refine B.cons (S.setAttr (W.attr (W.var 0 rfl rfl ?_)))
      have hxt : t ≠ E.x := fun e => by have := A2.t; rw [e, A2.entW hE] at this; cases this
      refine ⟨t, 375, _, _, rfl, by rw [HL.set_ne hxt]; exact A2.t, F_clock375 w, rfl, W.var 4 rfl rfl ?_⟩
      refine ⟨E.x, 174, _, rfl, HL.set_self, S_stamp174 w, Nat.le_of_ble_eq_true rfl, ?_⟩
      rw [HL.set_set]
      have A3 : TreeAt (H1.set d (.flist [])) t { T with clock := T.clock + 1 } := A1.down hdn
      have A4 := A3.turn hE (E' := fillE E d [] (T.clock + 1)) rfl (fun _ => HL.set_self) (Nat.zero_le _)
      refine B.less (H' := (H1.set d (.flist [])).set E.x (.inst 174 (eF (fillE E d [] (T.clock + 1))))) ?_ ?_
      · rw [show eF (fillE E d [] (T.clock + 1)) = putF sStamp (V.int (T.clock + 1)) (putF sContent (V.ref d) (eF E)) from by
          unfold eF fillE; rw [hd]; rfl]
        exact Le.freeze.set _ _
      have hL4 : look p (aput p (fillE E d [] (T.clock + 1)) T.L) = some (fillE E d [] (T.clock + 1)) := by rw [look_aput, if_pos rfl]
      have f4 : Frm H ((H1.set d (.flist [])).set E.x (.inst 174 (eF (fillE E d [] (T.clock + 1))))) T := (f1.trans (T' := T) (Frm.alloc hdn) rfl).trans (T' := T) (Frm.inst (A3.entW hE) (.inr rfl)) rfl
      refine B.cons (S.expr (W.mcall (W.var 0 rfl rfl ?_)))
      refine ⟨t, 375, _, 318, 2, rfl, A4.t, M_FileTree_fill w, rfl, Nat.le_of_ble_eq_true rfl, WA.cons (W.var 4 rfl rfl (WA.cons (W.var 2 rfl rfl (WA.nil (Fn.mono (fn_fill t a _ _ A4 p _ hL4 hd ns ?_ hl) (Nat.le_refl _) ?_)))))⟩
      · exact f4 a _ ha (A.ne_e ha fun _ h => by cases h) (fun _ h => by cases h) (fun _ h => by cases h)
      rintro _ H5 ⟨rfl, T5, A5, e5, ⟨d5, k5, l5⟩, f5⟩
      refine B.nil ⟨rfl, T5, A5, e5, ?_, f4.trans f5 rfl⟩
      rw [Tree.vw, l5]
      show mapV Ent.vw (aput p _ (aput p _ T.L)) = _
      rw [aput_aput, mapV_aput]
      show aput p (if E.dir = true then Option.none else some ns, E.wr) T.vw = _
      rw [hd, hw]; rfl
    · rw [hN]
      refine B.cons (S.ite (WT.cmpv (W.var 4 rfl rfl (W.cNone ⟨_, rfl, ?_⟩))))
      refine iteT rfl ?_
      refine B.cons (S.expr (W.mcall (W.var 0 rfl rfl ?_)))
      refine ⟨t, 375, _, 304, 4, rfl, A.t, M_FileTree_need_room w, rfl, Nat.le_of_ble_eq_true rfl, WA.cons (W.var 3 rfl rfl (WA.nil (Fn.read (fn_need_room t T p _ A hp E' hE' hd' hw') (Nat.le_refl _) ?_)))⟩
      refine B.cons (S.expr (W.mcall (W.var 0 rfl rfl ?_)))
      refine ⟨t, 375, _, 199, 1, rfl, A.t, M_FileTree_step w, rfl, Nat.le_of_ble_eq_true rfl, WA.nil (Fn.turn (fn_step t T _ A) (Nat.le_refl _) ?_)⟩
      have A1 := A.tick (T.clock + 1)
      generalize hH1 : HL.set _ t _ = H1 at A1 ⊢
      have f1 : Frm H H1 T := by rw [← hH1]; exact Frm.inst A.t (.inl rfl)
      refine B.cons (S.setItem (W.new (k := 1) 0 rfl (C_Entry w) (N_Entry w) (Nat.le_of_ble_eq_true rfl) ?_))
      refine WA.cons (W.gint 1 rfl (I_PLAIN w) (WA.cons (W.list (WA.nil ⟨by decide, fun d hdn => WA.cons (W.attr (W.var 0 rfl rfl ?_))⟩))))
      have A2 := A1.down (o := .list []) hdn
      refine ⟨t, 375, _, _, rfl, A2.t, F_clock375 w, rfl, WA.nil fun x hx => ?_⟩
      refine Fn.turn (fn_Entry_init x _ _ _ _ HL.set_self) (Nat.le_refl _) ⟨rfl, ?_⟩
      rw [HL.set_set]
      have A3 := A2.down (o := .inst 174 [(sSort, .int 1), (sContent, .ref d), (sStamp, .int (T.clock + 1)), (sWr, .bool true)]) hx
      refine W.attr (W.var 0 rfl rfl ?_)
      refine ⟨t, 375, _, _, rfl, A3.t, F_entries375 w, rfl, W.var 3 rfl rfl ?_⟩
      refine ⟨T.e, p, kvOf T.L, rfl, rfl, A3.e, by rw [kv_len]; exact Nat.le_trans hz (by decide), ?_⟩
      let E1 : Ent := { x := x, dir := false, c := d, ns := [], stamp := T.clock + 1, wr := true }
      have hxd : x ≠ d := fun e => by rw [e, HL.set_self] at hx; cases hx
      have hx1 : H1 x = none := by rwa [HL.set_ne hxd] at hx
      have A3' : TreeAt ((H1.set d (.flist [])).set x (.inst 174 (eF E1))) t { T with clock := T.clock + 1 } := (A1.down hdn).down (by rw [HL.set_ne hxd]; exact hx1)
      have nx : ∀ q ∈ T.L, q.1 ≠ p → q.2.x ≠ E1.x := fun q hq _ e => by
        have := (A1.ent q hq).1
        rw [e, hx1] at this; cases this
      have A4 := A3'.put (n := p) (E := E1) HL.set_self (fun _ => by rw [HL.set_ne hxd.symm]; exact HL.set_self) (Nat.zero_le _) hp.len nx hz
      refine B.less (H' := ((H1.set d (.flist [])).set x (.inst 174 (eF E1))).set T.e (.dict (dput p (.ref x) (kvOf T.L)))) ((Le.freeze.set _ _).set _ _) ?_
      have f4 : Frm H (((H1.set d (.flist [])).set x (.inst 174 (eF E1))).set T.e (.dict (dput p (.ref x) (kvOf T.L)))) T := ((f1.trans (T' := T) (Frm.alloc hdn) rfl).trans (T' := T) (Frm.alloc (by rw [HL.set_ne hxd]; exact hx1)) rfl).trans (T' := T) Frm.dict rfl
      have hL4 : look p (aput p E1 T.L) = some E1 := by rw [look_aput, if_pos rfl]
      have ha4 := f4 a _ ha (A.ne_e ha fun _ h => by cases h) (fun _ h => by cases h) (fun _ h => by cases h)
      refine B.cons (S.expr (W.mcall (W.var 0 rfl rfl ?_)))
      refine ⟨t, 375, _, 318, 2, rfl, A4.t, M_FileTree_fill w, rfl, Nat.le_of_ble_eq_true rfl, WA.cons (W.ditem (W.attr (W.var 0 rfl rfl ?_)))⟩
      refine ⟨t, 375, _, _, rfl, A4.t, F_entries375 w, rfl, W.var 3 rfl rfl ?_⟩
      refine ⟨T.e, p, _, .ref x, rfl, rfl, A4.e, by rw [dget_kv]; show (look p (aput p E1 T.L)).map _ = _; rw [hL4]; rfl, ?_⟩
      refine WA.cons (W.var 2 rfl rfl (WA.nil (Fn.mono (fn_fill t a _ _ A4 p _ hL4 rfl ns ha4 hl) (Nat.le_refl _) ?_)))
      rintro _ H5 ⟨rfl, T5, A5, e5, ⟨d5, k5, l5⟩, f5⟩
      refine B.cons (S.retNone ⟨rfl, T5, A5, e5, ?_, f4.trans f5 rfl⟩)
      rw [Tree.vw, l5]
      show mapV Ent.vw (aput p _ (aput p _ T.L)) = _
      rw [aput_aput, mapV_aput]; rfl
end Mine
end
section
open PySem PySem.W PyProof.Rows PySem.Calls
set_option maxHeartbeats 1000000
namespace Mine
theorem WT.mono {X : Cx} {vs : List (Option V)} {H : HL} {e : Expr} {P P' : Bool → HL → Prop} (h : WT X vs H e P') (hp : ∀ b H', P' b H' → P b H') : WT X vs H e P := fun O s Q E R q => h O s Q E R fun b H' s' p => q b H' s' (hp b H' p)
theorem fn_make_directory (t : Addr) (T : Tree) (H : HL) (A : TreeAt H t T) (p : Str) (hp : Nm p) (hN : look p T.L = none) (hz : T.L.length ≤ 39) (E' : Ent) (hE' : look (fpar p) T.L = some E') (hd' : E'.dir = true) (hw' : E'.wr = true) :
    Fn 6 332 [.ref t, .str p] H fun v H' => v = .none ∧ Did H t T (aput p (none, true) T.vw) H' := by
  refine Fn.body X_FileTree_make_directory (fun _ _ _ _ _ _ => rfl) D_FileTree_make_directory (ps := [nSelf, nName]) (fun s name pm us hu => ?_) (by decide +kernel) rfl rfl fun w h₀ L A' os => ?_
  · obtain ⟨u, u2, rfl⟩ := len2 hu; exact BindsTo.of_eq rfl
  · refine B.cons (S.assign 2 rfl (W.mcall (W.var 0 rfl rfl ?_)))
    refine ⟨t, 375, _, 220, 3, rfl, A.t, M_FileTree_parent_true w, rfl, Nat.le_of_ble_eq_true rfl, WA.cons (W.var 1 rfl rfl (WA.nil (Fn.read (fn_parent_true t T p _ A hp) (Nat.le_refl _) ?_)))⟩
    refine B.cons (S.ite (WT.inDict (W.var 2 rfl rfl (W.attr (W.var 0 rfl rfl ?_)))))
    refine ⟨t, 375, _, _, rfl, A.t, F_entries375 w, rfl, p, T.e, kvOf T.L, rfl, rfl, A.e, ?_⟩
    refine iteF (by rw [dget_kv, hN]; rfl) (B.nil ?_)
    refine B.cons (S.expr (W.mcall (W.var 0 rfl rfl ?_)))
    refine ⟨t, 375, _, 304, 4, rfl, A.t, M_FileTree_need_room w, rfl, Nat.le_of_ble_eq_true rfl, WA.cons (W.var 2 rfl rfl (WA.nil (Fn.read (fn_need_room t T p _ A hp E' hE' hd' hw') (Nat.le_refl _) ?_)))⟩
    refine B.cons (S.expr (W.mcall (W.var 0 rfl rfl ?_)))
    refine ⟨t, 375, _, 199, 1, rfl, A.t, M_FileTree_step w, rfl, Nat.le_of_ble_eq_true rfl, WA.nil (Fn.turn (fn_step t T _ A) (Nat.le_refl _) ?_)⟩
    have A1 := A.tick (T.clock + 1)
    generalize hH1 : HL.set _ t _ = H1 at A1 ⊢
    have f1 : Frm H H1 T := by rw [← hH1]; exact Frm.inst A.t (.inl rfl)
    refine B.cons (S.setItem (W.new (k := 1) 1 rfl (C_Entry w) (N_Entry w) (Nat.le_of_ble_eq_true rfl) ?_))
    refine WA.cons (W.gint 2 rfl (I_DIRECTORY w) (WA.cons (W.cNone (WA.cons (W.attr (W.var 0 rfl rfl ?_))))))
    refine ⟨t, 375, _, _, rfl, A1.t, F_clock375 w, rfl, WA.nil fun x hx => ?_⟩
    refine Fn.turn (fn_Entry_init x _ _ _ _ HL.set_self) (Nat.le_refl _) ⟨rfl, ?_⟩
    rw [HL.set_set]
    let E1 : Ent := { x := x, dir := true, c := 0, ns := [], stamp := T.clock + 1, wr := true }
    have A3 : TreeAt (H1.set x (.inst 174 (eF E1))) t { T with clock := T.clock + 1 } := A1.down hx
    refine W.attr (W.var 0 rfl rfl ?_)
    refine ⟨t, 375, _, _, rfl, A3.t, F_entries375 w, rfl, W.var 2 rfl rfl ?_⟩
    refine ⟨T.e, p, kvOf T.L, rfl, rfl, A3.e, by rw [kv_len]; exact Nat.le_trans hz (by decide), ?_⟩
    have nx : ∀ q ∈ T.L, q.1 ≠ p → q.2.x ≠ E1.x := fun q hq _ e => by
      have := (A1.ent q hq).1
      rw [e, hx] at this; cases this
    have A4 := A3.put (n := p) (E := E1) HL.set_self (fun h => by cases h) (Nat.zero_le _) hp.len nx hz
    exact B.nil ⟨rfl, _, A4, rfl, mapV_aput _ _ _ _, (f1.trans (T' := T) (Frm.alloc hx) rfl).trans (T' := T) Frm.dict rfl⟩
theorem fn_delete (t : Addr) (T : Tree) (H : HL) (A : TreeAt H t T) (p : Str) (hp : Nm p) (E : Ent) (hE : look p T.L = some E) (hd : E.dir = false) (E' : Ent) (hE' : look (fpar p) T.L = some E') (hd' : E'.dir = true) (hw' : E'.wr = true) :
    Fn 6 346 [.ref t, .str p] H fun v H' => v = .none ∧ Did H t T (adel p T.vw) H' := by
  refine Fn.body X_FileTree_delete (fun _ _ _ _ _ _ => rfl) D_FileTree_delete (ps := [nSelf, nName]) (fun s name pm us hu => ?_) (by decide +kernel) rfl rfl fun w h₀ L A' os => ?_
  · obtain ⟨u, u2, rfl⟩ := len2 hu; exact BindsTo.of_eq rfl
  · refine B.cons (S.assign 2 rfl (W.mcall (W.var 0 rfl rfl ?_)))
    refine ⟨t, 375, _, 220, 3, rfl, A.t, M_FileTree_parent_true w, rfl, Nat.le_of_ble_eq_true rfl, WA.cons (W.var 1 rfl rfl (WA.nil (Fn.read (fn_parent_true t T p _ A hp) (Nat.le_refl _) ?_)))⟩
    refine B.cons (S.assign 3 rfl ?_)
    refine W.dget (W.attr (W.var 0 rfl rfl ?_))
    refine ⟨t, 375, _, _, rfl, A.t, F_entries375 w, rfl, T.e, kvOf T.L, rfl, A.e, ?_⟩
    refine W.var 2 rfl rfl ⟨p, rfl, W.cNone ⟨kvOf T.L, A.e, ?_⟩⟩
    rw [getD_ent, hE]
    refine B.cons (S.ite (WT.cmpv (W.var 3 rfl rfl (W.cNone ⟨_, rfl, ?_⟩))))
    refine iteF rfl (B.nil ?_)
    refine B.cons (S.ite (WT.cmpv (W.attr (W.var 3 rfl rfl ?_))))
    refine ⟨E.x, 174, eF E, _, rfl, A.entW hE, F_sort174 w, rfl, W.gint 1 rfl (I_DIRECTORY w) ⟨_, rfl, ?_⟩⟩
    refine iteF (by rw [hd]; rfl) (B.nil ?_)
    refine B.cons (S.expr (W.mcall (W.var 0 rfl rfl ?_)))
    refine ⟨t, 375, _, 304, 4, rfl, A.t, M_FileTree_need_room w, rfl, Nat.le_of_ble_eq_true rfl, WA.cons (W.var 2 rfl rfl (WA.nil (Fn.read (fn_need_room t T p _ A hp E' hE' hd' hw') (Nat.le_refl _) ?_)))⟩
    refine B.cons (S.expr (W.mcall (W.var 0 rfl rfl ?_)))
    refine ⟨t, 375, _, 199, 1, rfl, A.t, M_FileTree_step w, rfl, Nat.le_of_ble_eq_true rfl, WA.nil (Fn.turn (fn_step t T _ A) (Nat.le_refl _) ?_)⟩
    have A1 := A.tick (T.clock + 1)
    generalize hH1 : HL.set _ t _ = H1 at A1 ⊢
    have f1 : Frm H H1 T := by rw [← hH1]; exact Frm.inst A.t (.inl rfl)
    refine B.cons (S.expr (W.dpop (W.attr (W.var 0 rfl rfl ?_))))
    refine ⟨t, 375, _, _, rfl, A1.t, F_entries375 w, rfl, T.e, kvOf T.L, rfl, A1.e, W.var 2 rfl rfl ?_⟩
    refine ⟨p, kvOf T.L, .ref E.x, rfl, A1.e, by rw [kv_len]; exact Nat.le_trans A1.len (by decide), by rw [dget_kv, hE]; rfl, ?_⟩
    exact B.nil ⟨rfl, _, A1.del p, rfl, mapV_adel _ _ _, f1.trans (T' := T) Frm.dict rfl⟩
theorem fn_set_writable (t : Addr) (T : Tree) (H : HL) (A : TreeAt H t T) (p : Str) (hp : Nm p) (b : Bool) (E : Ent) (hE : look p T.L = some E) :
    Fn 6 372 [.ref t, .str p, .bool b] H fun v H' => v = .none ∧ Did H t T (aput p (E.vw.1, b) T.vw) H' := by
  refine Fn.body X_FileTree_set_writable (fun _ _ _ _ _ _ => rfl) D_FileTree_set_writable (ps := [nSelf, nName, ⟨#[102, 108, 97, 103]⟩]) (fun s name pm us hu => ?_) (by decide +kernel) rfl rfl fun w h₀ L A' os => ?_
  · obtain ⟨u, u2, u3, rfl⟩ := len3 hu; exact BindsTo.of_eq rfl
  · refine B.cons (S.assign 3 rfl (callEntry A hp.sc (Nat.le_of_ble_eq_true rfl) (fun Q q => W.var 0 rfl rfl q) (fun Q q => W.var 1 rfl rfl q) ?_))
    rw [hE]
    refine B.cons (S.ite (WT.cmpv (W.var 3 rfl rfl (W.cNone ⟨_, rfl, ?_⟩))))
    refine iteF rfl (B.nil ?_)
    refine B.cons (S.expr (W.mcall (W.var 0 rfl rfl ?_)))
    refine ⟨t, 375, _, 199, 1, rfl, A.t, M_FileTree_step w, rfl, Nat.le_of_ble_eq_true rfl, WA.nil (Fn.turn (fn_step t T _ A) (Nat.le_refl _) ?_)⟩
    have A1 := A.tick (T.clock + 1)
    generalize hH1 : HL.set _ t _ = H1 at A1 ⊢
    have f1 : Frm H H1 T := by rw [← hH1]; exact Frm.inst A.t (.inl rfl)
    refine B.cons (S.setAttr (W.var 2 rfl rfl (W.var 3 rfl rfl ?_)))
    refine ⟨E.x, 174, _, rfl, A1.entW hE, S_is_writable174 w, Nat.le_of_ble_eq_true rfl, ?_⟩
    have z := A1.ent _ (look_mem hE)
    have A2 := A1.turn hE (E' := { E with wr := b }) rfl (fun h => z.2.1 h) z.2.2.1
    exact B.nil ⟨rfl, _, A2, rfl, mapV_aput _ _ _ _, f1.trans (T' := T) (Frm.inst (A1.entW hE) (.inr rfl)) rfl⟩
theorem fn_copy (t : Addr) (T : Tree) (H : HL) (A : TreeAt H t T) (p q : Str) (hp : Nm p) (hq : Nm q) (E : Ent) (hE : look p T.L = some E) (hd : E.dir = false)
    (hc : (∃ E, look q T.L = some E ∧ E.dir = false ∧ E.wr = true) ∨ (look q T.L = none ∧ T.L.length ≤ 39 ∧ ∃ E, look (fpar q) T.L = some E ∧ E.dir = true ∧ E.wr = true)) :
    Fn 7 365 [.ref t, .str p, .str q, .bool true] H fun v H' => v = .none ∧ Did H t T (aput q (some E.ns, true) T.vw) H' := by
  refine Fn.body X_FileTree_copy (fun _ _ _ _ _ _ => rfl) D_FileTree_copy (ps := [nSelf, ⟨#[111, 108, 100]⟩, ⟨#[110, 101, 119]⟩, ⟨#[105, 115, 95, 111, 118, 101, 114]⟩]) (fun s name pm us hu => ?_) (by decide +kernel) rfl rfl fun w h₀ L A' os => ?_
  · obtain ⟨u, u2, u3, u4, rfl⟩ := len4 hu; exact BindsTo.of_eq rfl
  · refine B.cons (S.assign 4 rfl (W.mcall (W.var 0 rfl rfl ?_)))
    refine ⟨t, 375, _, 269, 5, rfl, A.t, M_FileTree_read w, rfl, Nat.le_of_ble_eq_true rfl, WA.cons (W.var 1 rfl rfl (WA.nil (Fn.mono (fn_read t T p _ A hp.sc E hE hd) (Nat.le_refl _) ?_)))⟩
    rintro _ _ ⟨d, rfl, hdn, rfl⟩
    refine B.less (H' := H.set d (.flist (E.ns.map V.int))) Le.freeze ?_
    have A1 := A.down (o := .flist (E.ns.map V.int)) hdn
    have z := A.ent _ (look_mem hE)
    refine B.cons (S.ite (WT.mono (P' := fun c H1 => c = false ∧ H1 = H.set d (.flist (E.ns.map V.int))) (WT.and (WT.val (W.mcall (W.var 0 rfl rfl ?_)))) ?_))
    rotate_left
    · rintro _ _ ⟨rfl, rfl⟩
      refine iteF rfl (B.nil ?_)
      refine B.cons (S.expr (W.mcall (W.var 0 rfl rfl ?_)))
      refine ⟨t, 375, _, 311, 6, rfl, A1.t, M_FileTree_write w, rfl, Nat.le_of_ble_eq_true rfl, WA.cons (W.var 2 rfl rfl (WA.cons (W.var 4 rfl rfl (WA.nil (Fn.mono (fn_write t d T _ A1 q hq E.ns HL.set_self z.2.2.1 hc) (Nat.le_refl _) ?_)))))⟩
      rintro _ _ ⟨rfl, T', A2, e2, v2, f2⟩
      exact B.nil ⟨rfl, T', A2, e2, v2, (Frm.alloc hdn).trans f2 rfl⟩
    refine ⟨t, 375, _, 234, 4, rfl, A1.t, M_FileTree_is_there w, rfl, Nat.le_of_ble_eq_true rfl, WA.cons (W.var 2 rfl rfl (WA.nil (Fn.read (fn_is_there t T q _ A1 hq.sc) (Nat.le_refl _) ⟨_, rfl, ?_⟩)))⟩
    cases hs : (look q T.L).isSome with
    | false => exact iteF rfl ⟨rfl, rfl⟩
    | true => exact iteT rfl (WT.and (WT.not (WT.val (W.var 3 rfl rfl ⟨_, rfl, iteF rfl ⟨rfl, rfl⟩⟩))))
end Mine
end
section
open PySem PySem.W PyProof.Rows PySem.Calls
set_option maxHeartbeats 1000000
theorem Mine.notContains_ {prog : Program} {w : World} {A : Around} {E : Value → Shared → Prop} {s : Shared} {x y : Str} {t u : Tok} {Q : Value → Shared → Prop} (h : Q (.bool (!(!(Builtin.Str.occurrences x y 0 x.length 1).isEmpty))) s) : wpAny (model prog w) A (compareOp .NotIn (.str y u) (.str x t)) Q E s := P.notIn_str h
namespace Mine
abbrev FIP (I : List (Option V) → HL → Prop) (P : Fl → List (Option V) → HL → Prop) (it : Addr) (o : Obj) : Fl → List (Option V) → HL → Prop := fun f vs2 H2 => match f with
  | .next => ∃ H3, H2 = H3.set it (.raw o) ∧ H3 it = none ∧ I vs2 H3
  | .cont => ∃ H3, H2 = H3.set it (.raw o) ∧ H3 it = none ∧ I vs2 H3
  | .brk => ∃ H3, (∀ a o', H3 a = some o' → H2 a = some o') ∧ P .next vs2 H3
  | .ret v => ∃ H3, (∀ a o', H3 a = some o' → H2 a = some o') ∧ P (.ret v) vs2 H3
theorem ForL.inv {X : Cx} {i : Nat} {b : List Stmt} {P : Fl → List (Option V) → HL → Prop} {Keep : HL → Prop} (I : List V → List (Option V) → HL → Prop) (hK : ∀ r vs H, I r vs H → Keep H) (hend : ∀ vs H, I [] vs H → P .next vs H)
    (hstep : ∀ x r vs H, I (x :: r) vs H → ∀ it o, H it = none → B X (vs.set i (some x)) (H.set it (.raw o)) b (FIP (I r) P it o)) : ∀ l vs H, I l vs H → ForL X i b P Keep l vs H
  | [], vs, H, h => ⟨hK _ _ _ h, hend _ _ h⟩
  | x :: r, vs, H, h => ⟨hK _ _ _ h, fun it o hi => (hstep x r vs H h it o hi).mono fun f vs2 H2 hf => by
      cases f with
      | next => obtain ⟨H3, e, n, h3⟩ := hf; exact ⟨H3, e, n, ForL.inv I hK hend hstep r vs2 H3 h3⟩
      | cont => obtain ⟨H3, e, n, h3⟩ := hf; exact ⟨H3, e, n, ForL.inv I hK hend hstep r vs2 H3 h3⟩
      | brk => exact hf
      | ret v => exact hf⟩
theorem WT.notInStr {X : Cx} {vs : List (Option V)} {H : HL} {l r : Expr} {pos : Pos} {P : Bool → HL → Prop} (h : W X vs H l fun a H1 => W X vs H1 r fun b H2 => ∃ x y, a = .str x ∧ b = .str y ∧ P (!(!(Builtin.Str.occurrences y x 0 y.length 1).isEmpty)) H2) (hm : behindInMarks .NotIn r = false := by rfl) : WT X vs H (.Compare l [.NotIn] [r] pos) P :=
  WT.cmp (fun O s Q E R q => h O s _ E R fun a u H1 s1 h1 va R1 => q a u H1 s1 (fun O s2 Q2 E2 R2 q2 => h1 O s2 _ E2 R2 fun b w H2 s3 h2 vb R3 => q2 b w H2 s3 (fun u w hu hw O s4 Q4 E4 R4 q4 => by
    obtain ⟨x, y, rfl, rfl, hp⟩ := h2
    obtain ⟨t, rfl⟩ := hu
    obtain ⟨t', rfl⟩ := hw
    exact notContains_ (q4 _ _ _ _ ⟨_, rfl, hp⟩ rfl R4)) vb R3) va R1) hm
/-- {k: v} -/
theorem W.dict1 {X : Cx} {vs : List (Option V)} {H : HL} {k : Str} {ck : Nat} {cp pos : Pos} {e : Expr} {P : V → HL → Prop} (h : ∀ d, H d = Option.none → W X vs (H.set d (.dict [])) e fun v H1 => H1 d = some (.dict []) ∧ P (.ref d) (H1.set d (.dict [(k, v)])))
    (he : ∀ env, (evalEachOpt [some (.Constant (.str k) ck cp)] env).zip ((evalEach [e] env).map fun v => do let x ← v; standAt pos; pure x) = [(eval (.Constant (.str k) ck cp) env, do let x ← eval e env; standAt pos; pure x)].map fun p => (some p.1, p.2) := by intro _; rfl) : W X vs H (.Dict [some (.Constant (.str k) ck cp)] [e] pos) P := fun O s Q E R q => by
  obtain ⟨m, news, δ, F, N, D, l, r⟩ := R.ex
  obtain ⟨mg, mb, TR⟩ := O.good.top
  have lo : (s.heap.objs.size == sysModules) = false := beq_eq_false_iff_ne.mpr (Nat.ne_of_gt (Nat.lt_of_lt_of_le (modules_low TR.nolimit) (Nat.le_trans F.above (Nat.le_of_lt F.ns.lt))))
  have hD0 : (s.heap.push { cls := .type "dict", data := .dict #[] }).DictOf (PySem.strKind pw X.w) s.heap.objs.size [] := Heap.DictOf.new _
  obtain ⟨o0, ho0, hd0⟩ := Heap.dictOf_iff.mp hD0
  have e0 : o0 = { cls := .type "dict", data := .dict #[] } := by rw [Heap.get?_push_size _ rfl] at ho0; exact (Option.some.inj ho0).symm
  rw [e0] at hd0
  have hR := R.make (k := s.toks) (o := { cls := .type "dict", data := .dict #[] }) (F.push _) (N.push F _) D l r (fun p hp => Heap.lt_size (N p hp).1) (ob := .dict []) (fun news' hm => ⟨_, [], hm, lo, hd0, trivial⟩) (fun _ _ h => by cases h)
  obtain ⟨fr, R1⟩ := hR
  refine wpAny_Dict_pairs (knd := PySem.strKind pw X.w) (pairs := [(eval (.Constant (.str k) ck cp) X.env, do let x ← eval e X.env; standAt pos; pure x)]) (he _) (by simp) (by simp) ?_
  refine evalPairs_cons (Calls.Constant_str (wpAny_bind (wpAny_mono (h _ fr O _ (fun u s' => ∃ v H1, (H1 s.heap.objs.size = some (.dict []) ∧ P (.ref s.heap.objs.size) (H1.set s.heap.objs.size (.dict [(k, v)]))) ∧ VR v u ∧ Rel X vs H1 s') E (R1.toks _) fun v u H1 s1 h1 vu R2 => ⟨v, H1, h1, vu, R2⟩) (fun u s1 ⟨v, H1, ⟨hd, hp⟩, vu, R2⟩ => wpAny_bind (wpAny_standAt (wpAny_pure (evalPairs_nil ?_)))) fun _ _ e => e)))
  obtain ⟨m, news, δ, F, N, D, l, r⟩ := R2.ex
  obtain ⟨ob, kvs, m1, hsm, ho, kr, hD⟩ := isDict (m := m) N r hd
  have : kvs = [] := by cases kvs with | nil => rfl | cons _ _ => exact kr.elim
  subst this
  refine ⟨[(k, u)], ⟨strKind_is pw X.w k _, rfl, trivial⟩, hD, fun h' hD' hs => ?_⟩
  obtain ⟨o', ho', hd'⟩ := Heap.dictOf_iff.mp hD'
  exact q _ _ _ _ hp rfl (R2.own F N D l r m1 hs ho' ⟨_, hd⟩ (fun news' hm => ⟨o', _, hm, hsm, hd', ⟨⟨rfl, vu⟩, trivial⟩⟩) fun _ _ h => by cases h)
end Mine
end
section
open PySem PySem.W PyProof.Rows PySem.Calls
set_option maxHeartbeats 1000000
namespace Mine
theorem fn_FileTree_init (t : Addr) (H : HL) (ht : H t = some (.inst 375 [])) : Fn 3 192 [.ref t] H fun v H' => v = .none ∧ ∃ T', TreeAt H' t T' ∧ T'.vw = [(sSlash, none, true)] ∧ ∀ a o, H a = some o → a ≠ t → H' a = some o := by
  refine Fn.body X_FileTree_init (fun _ _ _ _ _ _ => rfl) D_FileTree_init (ps := [nSelf]) (fun s name pm us hu => ?_) (by decide +kernel) rfl rfl fun w h₀ L A' os => ?_
  · obtain ⟨u, rfl⟩ := len1 hu; exact BindsTo.of_eq rfl
  · refine B.cons (S.setAttr (W.cInt (W.var 0 rfl rfl ?_)))
    refine ⟨t, 375, _, rfl, ht, S_clock375 w, Nat.le_of_ble_eq_true rfl, ?_⟩
    refine B.cons (S.setAttr (W.neg (W.cInt ⟨1, rfl, W.var 0 rfl rfl ?_⟩)))
    refine ⟨t, 375, _, rfl, HL.set_self, S_left375 w, Nat.le_of_ble_eq_true rfl, ?_⟩
    rw [HL.set_set]
    refine B.cons (S.setAttr (W.dict1 fun d hd => ?_))
    refine W.new (k := 1) 0 rfl (C_Entry w) (N_Entry w) (Nat.le_of_ble_eq_true rfl) ?_
    refine WA.cons (W.gint 1 rfl (I_DIRECTORY w) (WA.cons (W.cNone (WA.cons (W.cInt (WA.nil fun x hx => ?_))))))
    refine Fn.turn (fn_Entry_init x _ _ _ _ HL.set_self) (Nat.le_refl _) ?_
    rw [HL.set_set]
    have hxd : x ≠ d := fun e => by rw [e, HL.set_self] at hx; cases hx
    have hdt : d ≠ t := fun e => by rw [e, HL.set_self] at hd; cases hd
    have hxt : x ≠ t := fun e => by rw [e, HL.set_ne hdt.symm, HL.set_self] at hx; cases hx
    refine ⟨rfl, by rw [HL.set_ne hxd.symm]; exact HL.set_self, W.var 0 rfl rfl ?_⟩
    refine ⟨t, 375, _, rfl, by rw [HL.set_ne hdt.symm, HL.set_ne hxt.symm, HL.set_ne hdt.symm]; exact HL.set_self, S_entries375 w, Nat.le_of_ble_eq_true rfl, B.nil ⟨rfl, ?_⟩⟩
    let E1 : Ent := { x := x, dir := true, c := 0, ns := [], stamp := 0, wr := true }
    refine ⟨{ clock := 0, e := d, L := [(sSlash, E1)] }, ⟨HL.set_self, ?_, fun p hp => ?_, ?_, ?_, Nat.le_of_ble_eq_true rfl⟩, rfl, fun a o ha hne => ?_⟩
    · rw [HL.set_ne hdt]; exact HL.set_self
    · have e := List.mem_singleton.mp hp
      subst e
      refine ⟨?_, fun h => (by cases h), Nat.zero_le _, Nat.le_of_ble_eq_true rfl⟩
      show HL.set _ _ _ x = _
      rw [HL.set_ne hxt, HL.set_ne hxd, HL.set_self]; rfl
    · exact List.nodup_cons.mpr ⟨List.not_mem_nil, List.nodup_nil⟩
    · exact List.nodup_cons.mpr ⟨List.not_mem_nil, List.nodup_nil⟩
    · have hd' : H d = none := by rwa [HL.set_ne hdt] at hd
      have hx' : H x = none := by rwa [HL.set_ne hxd, HL.set_ne hxt] at hx
      have n1 : a ≠ d := fun e => by rw [e, hd'] at ha; cases ha
      have n2 : a ≠ x := fun e => by rw [e, hx'] at ha; cases ha
      rw [HL.set_ne hne, HL.set_ne n1, HL.set_ne n2, HL.set_ne n1, HL.set_ne hne]; exact ha
/-- the last step of a name in a directory -/
def under (hd n : Str) : Option Str := if n = sSlash then none else if Txt.slice n none (some (hd.length : Int)) = hd then if (Builtin.Str.occurrences (Txt.slice n (some (hd.length : Int)) none) sSlash 0 (Txt.slice n (some (hd.length : Int)) none).length 1).isEmpty = true then some (Txt.slice n (some (hd.length : Int)) none) else none else none
def unders (hd : Str) (L : List (Str × Ent)) : List Str := L.filterMap fun q => under hd q.1
theorem fn_listed (t : Addr) (T : Tree) (H : HL) (A : TreeAt H t T) (p : Str) (hp : Scan p) (hne : p ≠ sSlash) (hl : p.length ≤ 100) (E : Ent) (hE : look p T.L = some E) (hd : E.dir = true) :
    Fn 5 297 [.ref t, .str p] H fun v H' => ∃ d ns', v = .ref d ∧ H d = none ∧ H' = H.set d (.list (ns'.map V.str)) ∧ ns'.Perm (unders (p ++ sSlash) T.L) ∧ sortedS ns' = true := by
  refine Fn.less (Fn.body X_FileTree_listed (fun _ _ _ _ _ _ => rfl) D_FileTree_listed (ps := [nSelf, nName]) (fun s name pm us hu => ?_) (by decide +kernel) rfl rfl fun w h₀ L A' os => ?_)
  · obtain ⟨u, u2, rfl⟩ := len2 hu; exact BindsTo.of_eq rfl
  · refine B.cons (S.expr (W.mcall (W.var 0 rfl rfl ?_)))
    refine ⟨t, 375, _, 262, 4, rfl, A.t, M_FileTree_need_directory w, rfl, Nat.le_of_ble_eq_true rfl, WA.cons (W.var 1 rfl rfl (WA.nil (Fn.read (fn_need_directory t T p _ A hp E hE hd) (Nat.le_refl _) ?_)))⟩
    refine B.cons (S.assign 2 rfl (W.mcall (W.var 0 rfl rfl ?_)))
    refine ⟨t, 375, _, 206, 2, rfl, A.t, M_FileTree_true_name w, rfl, Nat.le_of_ble_eq_true rfl, WA.cons (W.var 1 rfl rfl (WA.nil (Fn.read (fn_true_name t T p _ A hp) (Nat.le_refl _) ?_)))⟩
    refine B.cons (S.assign 3 rfl (W.ite (WT.cmpv (W.var 2 rfl rfl (W.cStr ⟨_, rfl, ?_⟩)))))
    refine iteF (beq_eq_false_iff_ne.mpr hne) ?_
    refine W.addStr (W.var 2 rfl rfl (W.cStr ⟨p, sSlash, rfl, rfl, by show p.length + 1 ≤ 10000; omega, ?_⟩))
    generalize hhd : p ++ sSlash = hd'
    have hlen : hd'.length ≤ 1000 := by rw [← hhd, PySem.Str.length_append]; show p.length + 1 ≤ 1000; omega
    refine B.cons (S.assign 4 rfl (W.list (WA.nil ⟨by decide, fun f hf => ?_⟩)))
    have hfe : f ≠ T.e := fun e => by rw [e, A.e] at hf; cases hf
    refine B.seq (P' := fun fl vs1 H1 => fl = .next ∧ ∃ x, vs1 = [some (.ref t), some (.str p), some (.str p), some (.str hd'), some (.ref f), x] ∧ H1 = H.set f (.list ((unders hd' T.L).map V.str))) (S.forDict 5 rfl (W.attr (W.var 0 rfl rfl ?_))) ?_
    · refine ⟨t, 375, _, _, rfl, (A.down hf).t, F_entries375 w, rfl, T.e, kvOf T.L, rfl, (A.down hf).e, fun od => ?_⟩
      refine ForL.inv (I := fun r vs1 H1 => ∃ done rest x, T.L = done ++ rest ∧ r = (kvOf rest).map (fun f => V.str f.1) ∧ vs1 = [some (.ref t), some (.str p), some (.str p), some (.str hd'), some (.ref f), x] ∧ H1 = (H.set f (.list ((unders hd' done).map V.str))).set T.e (.raw od)) ?_ ?_ ?_ _ _ _ ⟨[], T.L, _, rfl, rfl, rfl, rfl⟩
      · rintro _ _ _ ⟨done, rest, x, _, _, _, rfl⟩; exact HL.set_self
      · rintro _ _ ⟨done, rest, x, e, er, rfl, rfl⟩
        have : rest = [] := by cases rest with | nil => rfl | cons q r => cases er
        subst this
        rw [List.append_nil] at e
        subst e
        refine ⟨_, rfl, rfl, _, rfl, ?_⟩
        rw [HL.set_comm hfe, HL.set_id A.e]
      · rintro v r _ _ ⟨done, rest, x, e, er, rfl, rfl⟩ it o hit
        cases rest with
        | nil => cases er
        | cons q rest =>
          obtain ⟨rfl, rfl⟩ : v = V.str q.1 ∧ r = (kvOf rest).map (fun f => V.str f.1) := by
            have := List.cons.inj er
            exact this
          have hq : q ∈ T.L := by rw [e]; exact List.mem_append.mpr (.inr (.head _))
          have hql := (A.ent q hq).2.2.2
          have hle : (unders hd' done).length ≤ 40 := Nat.le_trans (List.length_filterMap_le _ _) (Nat.le_trans (by rw [e, List.length_append]; omega) A.len)
          have hif : it ≠ f := fun q => by rw [q, HL.set_ne hfe, HL.set_self] at hit; cases hit
          have hie : it ≠ T.e := fun q => by rw [q, HL.set_self] at hit; cases hit
          have hit1 : (H.set f (.list ((unders hd' done).map V.str))) it = none := by rwa [HL.set_ne hie] at hit
          have hfi : (((H.set f (.list ((unders hd' done).map V.str))).set T.e (.raw od)).set it (.raw o)) f = some (.list ((unders hd' done).map V.str)) := by rw [HL.set_ne hif.symm, HL.set_ne hfe]; exact HL.set_self
          have lenD : q.1.length ≤ 10000 := Nat.le_trans hql (by decide)
          refine B.cons (S.ite (WT.mono (P' := fun c H1 => H1 = ((H.set f (.list ((unders hd' done).map V.str))).set T.e (.raw od)).set it (.raw o) ∧ c = (under hd' q.1).isSome) ?_ ?_))
          · unfold under
            refine WT.and (WT.cmpv (W.var 5 rfl rfl (W.cStr ⟨_, rfl, ?_⟩)))
            by_cases h1 : q.1 = sSlash
            · refine iteF (by rw [h1]; rfl) ⟨rfl, by rw [if_pos h1]; rfl⟩
            · refine iteT (bne_iff_ne.mpr h1) ?_
              rw [if_neg h1]
              refine WT.and (WT.cmpv (W.sliceStr (W.var 5 rfl rfl ⟨q.1, rfl, lenD, W.bcall 0 rfl (B_len w) (WA.cons (W.var 3 rfl rfl (WA.nil (CB.lenStr (Nat.le_trans hlen (by decide)) ⟨_, rfl, W.var 3 rfl rfl ⟨_, rfl, ?_⟩⟩))))⟩)))
              by_cases h2 : Txt.slice q.1 none (some (hd'.length : Int)) = hd'
              · refine iteT (beq_iff_eq.mpr h2) ?_
                rw [if_pos h2]
                refine WT.and (WT.notInStr (W.cStr (W.sliceStr (W.var 5 rfl rfl ⟨q.1, rfl, lenD, W.bcall 0 rfl (B_len w) (WA.cons (W.var 3 rfl rfl (WA.nil (CB.lenStr (Nat.le_trans hlen (by decide)) ⟨_, rfl, ⟨_, _, rfl, rfl, ?_⟩⟩))))⟩))))
                cases h3 : (Builtin.Str.occurrences (Txt.slice q.1 (some (hd'.length : Int)) none) sSlash 0 (Txt.slice q.1 (some (hd'.length : Int)) none).length 1).isEmpty
                · exact iteF rfl ⟨rfl, rfl⟩
                · exact iteT rfl (WT.andNil ⟨rfl, rfl⟩)
              · refine iteF (beq_eq_false_iff_ne.mpr h2) ⟨rfl, by rw [if_neg h2]; rfl⟩
          · rintro c _ ⟨rfl, rfl⟩
            cases hu : under hd' q.1 with
            | none =>
              refine iteF rfl (B.nil (B.nil ⟨_, rfl, hit, done ++ [q], rest, _, by rw [e, List.append_assoc]; rfl, rfl, rfl, ?_⟩))
              unfold unders
              rw [List.filterMap_append, List.filterMap_cons, hu, List.filterMap_nil, List.append_nil]
            | some y =>
              have hy : y = Txt.slice q.1 (some (hd'.length : Int)) none := by
                unfold under at hu
                split at hu
                · cases hu
                · split at hu
                  · split at hu
                    · exact (Option.some.inj hu).symm
                    · cases hu
                  · cases hu
              refine iteT rfl ?_
              refine B.cons (S.expr (W.append (W.var 4 rfl rfl ⟨f, _, rfl, hfi, W.sliceStr (W.var 5 rfl rfl ⟨q.1, rfl, lenD, W.bcall 0 rfl (B_len w) (WA.cons (W.var 3 rfl rfl (WA.nil (CB.lenStr (Nat.le_trans hlen (by decide)) ⟨_, rfl, ?_⟩))))⟩)⟩)))
              refine ⟨_, hfi, by rw [List.length_map]; exact Nat.le_trans hle (by decide), ?_⟩
              refine B.nil (B.nil ⟨(H.set f (.list ((unders hd' (done ++ [q])).map V.str))).set T.e (.raw od), ?_, ?_, done ++ [q], rest, _, by rw [e, List.append_assoc]; rfl, rfl, rfl, rfl⟩)
              · have e1 : (unders hd' (done ++ [q])).map V.str = (unders hd' done).map V.str ++ [V.str (Txt.slice q.1 (some (hd'.length : Int)) none)] := by
                  unfold unders
                  rw [List.filterMap_append, List.filterMap_cons, hu, List.filterMap_nil, List.map_append, ← hy]; rfl
                rw [e1, HL.set_comm hif, HL.set_comm hfe.symm, HL.set_set]
              · rw [HL.set_ne hie, HL.set_ne hif]
                rwa [HL.set_ne hif] at hit1
    · rintro _ _ _ ⟨rfl, x, rfl, rfl⟩
      refine B.cons (S.ret (W.bcall 1 rfl (B_sorted w) (WA.cons (W.var 4 rfl rfl (WA.nil (CB.sortedStrs HL.set_self ?_ fun d ns' hdn hperm hs => ?_))))))
      · exact Nat.lt_of_le_of_lt (Nat.le_trans (List.length_filterMap_le _ _) A.len) (by decide)
      have hdf : d ≠ f := fun e => by rw [e, HL.set_self] at hdn; cases hdn
      refine ⟨H.set d (.list (ns'.map V.str)), ?_, d, ns', rfl, by rwa [HL.set_ne hdf] at hdn, rfl, hperm, hs⟩
      rw [HL.set_comm hdf.symm]
      exact .of (HL.le_set (by rw [HL.set_ne hdf.symm]; exact hf))
end Mine
end
section
open PySem PySem.W PyProof.Rows PySem.Calls
set_option maxHeartbeats 1000000
namespace Mine
theorem S.skip {X : Cx} {vs : List (Option V)} {H : HL} {t : Expr} {b o : List Stmt} {pos : Pos} {P : Fl → List (Option V) → HL → Prop} (h : WT X vs H t fun c H1 => c = false ∧ H1 = H) (k : B X vs H o P) : S X vs H (.If t b o pos) P := S.ite (WT.mono h fun c H1 ⟨e1, e2⟩ => by subst e1; subst e2; exact iteF rfl k)
theorem TreeAt.same {H : HL} {t : Addr} {T : Tree} (A : TreeAt H t T) {n : Str} {E : Ent} (hE : look n T.L = some E) : ∀ p ∈ T.L, p.2.x = E.x → p.1 = n := fun p hp e => by
  have hm := look_mem hE
  obtain ⟨i, hi⟩ := List.mem_iff_getElem?.mp hp
  obtain ⟨j, hj⟩ := List.mem_iff_getElem?.mp hm
  have h1 : (T.L.map (·.2.x))[i]? = some E.x := by rw [List.getElem?_map, hi]; exact congrArg some e
  have h2 : (T.L.map (·.2.x))[j]? = some E.x := by rw [List.getElem?_map, hj]; rfl
  have hlt : i < (T.L.map (·.2.x)).length := (List.getElem?_eq_some_iff.mp h1).1
  have := (List.getElem?_inj hlt A.xd).mp (h1.trans h2.symm)
  subst this
  rw [hi] at hj
  cases hj; rfl
theorem only_one {p : Str} : ∀ {l : List (Str × Ent)} {E : Ent}, (l.map (·.1)).Nodup → look p l = some E → (l.filter fun n => decide (n.1 = p)).map (fun n => V.str n.1) = [V.str p]
  | n :: r, E, nd, h => by
    rw [List.map_cons, List.nodup_cons] at nd
    unfold look at h
    by_cases e : n.1 = p
    · rw [List.filter_cons_of_pos (by simpa using e), List.map_cons, e]
      have : r.filter (fun n => decide (n.1 = p)) = [] := List.filter_eq_nil_iff.mpr fun x hx hxp => nd.1 (List.mem_map.mpr ⟨x, hx, (of_decide_eq_true hxp).trans e.symm⟩)
      rw [this]; rfl
    · rw [if_neg e] at h
      rw [List.filter_cons_of_neg (by simpa using e)]
      exact only_one nd.2 h
abbrev nOld : Str := ⟨#[111, 108, 100]⟩
abbrev nNew : Str := ⟨#[110, 101, 119]⟩
abbrev nOver : Str := ⟨#[105, 115, 95, 111, 118, 101, 114]⟩
abbrev nWhole : Str := ⟨#[119, 104, 111, 108, 101]⟩
abbrev nLen : Str := ⟨#[108, 101, 110]⟩
theorem fn_rename (t : Addr) (T : Tree) (H : HL) (A : TreeAt H t T) (p q : Str) (hp : Nm p) (hq : Nm q) (hpq : p ≠ q) (hqp : q ++ Txt.slice p (some (p.length : Int)) none = q) (E : Ent) (hE : look p T.L = some E) (hd : E.dir = false) (hs : ∀ n ∈ T.L, n.1 ≠ p → Txt.slice n.1 none (some ((p.length : Int) + 1)) ≠ p ++ sSlash)
    (hQ : ∀ F, look q T.L = some F → F.dir = false) (E1 : Ent) (hE1 : look (fpar p) T.L = some E1) (hd1 : E1.dir = true) (hw1 : E1.wr = true) (E2 : Ent) (hE2 : look (fpar q) T.L = some E2) (hd2 : E2.dir = true) (hw2 : E2.wr = true) :
    Fn 6 358 [.ref t, .str p, .str q, .bool true] H fun v H' => v = .none ∧ Did H t T (aput q E.vw (adel p T.vw)) H' := by
  refine Fn.body1 X_FileTree_rename (fun _ _ _ _ _ _ => rfl) D_FileTree_rename (ps := [nSelf, nOld, nNew, nOver]) (cn := nWhole) (c0 := none) (vs0 := [some (.ref t), some (.str p), some (.str q), some (.bool true), none, none, none, none, none]) (fun s name pm us hu => ?_) (fun n => by kernel_rfl) (by decide +kernel) (by decide +kernel) (fun us hu => ?_) fun w h₀ L A' os hLn => ?_
  · obtain ⟨u, u2, u3, u4, rfl⟩ := len4 hu; exact BindsTo.of_eq rfl
  · obtain ⟨u, u2, u3, u4, rfl, hu1, hu2, hu3, hu4⟩ := vrs4 hu
    refine ⟨fun i n v hi hv => ?_, by kernel_rfl⟩
    rcases i with _ | _ | _ | _ | _ | _ | _ | _ | _ | i
    · cases hi; cases hv; exact ⟨u, by kernel_rfl, hu1⟩
    · cases hi; cases hv; exact ⟨u2, by kernel_rfl, hu2⟩
    · cases hi; cases hv; exact ⟨u3, by kernel_rfl, hu3⟩
    · cases hi; cases hv; exact ⟨u4, by kernel_rfl, hu4⟩
    all_goals cases hv
  · have AL : TreeAt (H.set (L + 1) (.cell none)) t T := A.down hLn
    refine B.cons (S.asPair (W.tuple (WA.cons (W.mcall (W.var 0 rfl rfl ?_)))) (by kernel_rfl))
    refine ⟨t, 375, _, 220, 3, rfl, AL.t, M_FileTree_parent_true w, rfl, Nat.le_of_ble_eq_true rfl, WA.cons (W.var 1 rfl rfl (WA.nil (Fn.read (fn_parent_true t T p _ AL hp) (Nat.le_refl _) ?_)))⟩
    refine WA.cons (W.mcall (W.var 0 rfl rfl ?_))
    refine ⟨t, 375, _, 220, 3, rfl, AL.t, M_FileTree_parent_true w, rfl, Nat.le_of_ble_eq_true rfl, WA.cons (W.var 2 rfl rfl (WA.nil (Fn.read (fn_parent_true t T q _ AL hq) (Nat.le_refl _) ?_)))⟩
    refine WA.nil ⟨Nat.le_of_ble_eq_true rfl, fun a ha => ⟨a, _, _, rfl, HL.set_self, ?_⟩⟩
    refine Sto.less (H' := H.set (L + 1) (.cell none)) (.of (HL.le_set ha)) (Sto.cell (c := L + 1) (by kernel_rfl) (by kernel_rfl) HL.set_self (Sto.loc 4 rfl ?_))
    rw [HL.set_set]
    have A0 : TreeAt (H.set (L + 1) (.cell (some (.str p)))) t T := A.down hLn
    generalize hH0 : H.set (L + 1) (.cell (some (.str p))) = H0 at A0 ⊢
    have hcell : H0 (L + 1) = some (.cell (some (.str p))) := by rw [← hH0]; exact HL.set_self
    have f0 : Frm H H0 T := by rw [← hH0]; exact Frm.alloc hLn
    refine B.cons (S.asSwap2 (W.tuple (WA.cons (W.dget (W.attr (W.var 0 rfl rfl ?_))))) (by kernel_rfl))
    refine ⟨t, 375, _, _, rfl, A0.t, F_entries375 w, rfl, T.e, kvOf T.L, rfl, A0.e, ?_⟩
    refine W.cvar (c := L + 1) (by kernel_rfl) (by kernel_rfl) (by rfl) hcell ⟨p, rfl, W.cNone ⟨kvOf T.L, A0.e, ?_⟩⟩
    rw [getD_ent]
    refine WA.cons (W.dget (W.attr (W.var 0 rfl rfl ?_)))
    refine ⟨t, 375, _, _, rfl, A0.t, F_entries375 w, rfl, T.e, kvOf T.L, rfl, A0.e, ?_⟩
    refine W.var 4 rfl rfl ⟨q, rfl, W.cNone ⟨kvOf T.L, A0.e, ?_⟩⟩
    rw [getD_ent]
    refine WA.nil ⟨Nat.le_of_ble_eq_true rfl, fun a ha => ⟨a, _, _, rfl, HL.set_self, ?_⟩⟩
    refine Sto.less (H' := H0) (.of (HL.le_set ha)) (Sto.loc 6 rfl (Sto.loc 5 rfl ?_))
    rw [hE]
    refine B.cons (S.ite (WT.cmpv (W.var 5 rfl rfl (W.cNone ⟨_, rfl, ?_⟩))))
    refine iteF rfl (B.nil ?_)
    refine B.cons (S.ite (WT.cmpv (W.cvar (c := L + 1) (by kernel_rfl) (by kernel_rfl) (by rfl) hcell (W.cStr ⟨_, rfl, ?_⟩))))
    refine iteF (beq_eq_false_iff_ne.mpr hp.ne) (B.nil ?_)
    refine B.cons (S.skip ?_ (B.nil ?_))
    · refine WT.and (WT.cmpv (W.var 6 rfl rfl (W.cNone ⟨_, cmpNotNone, ?_⟩)))
      cases look q T.L with
      | none => exact iteF rfl ⟨rfl, rfl⟩
      | some F => exact iteT rfl (WT.and (WT.not (WT.val (W.var 3 rfl rfl ⟨_, rfl, iteF rfl ⟨rfl, rfl⟩⟩))))
    refine B.cons (S.skip ?_ (B.nil ?_))
    · refine WT.and (WT.cmpv (W.var 6 rfl rfl (W.cNone ⟨_, cmpNotNone, ?_⟩)))
      cases hF : look q T.L with
      | none => exact iteF rfl ⟨rfl, rfl⟩
      | some F =>
        refine iteT rfl (WT.and (WT.or (WT.cmpv (W.attr (W.var 6 rfl rfl ?_)))))
        refine ⟨F.x, 174, eF F, _, rfl, A0.entW hF, F_sort174 w, rfl, W.gint 1 rfl (I_DIRECTORY w) ⟨_, rfl, ?_⟩⟩
        refine iteF (by rw [hQ F hF]; rfl) (WT.or (WT.cmpv (W.attr (W.var 5 rfl rfl ?_))))
        refine ⟨E.x, 174, eF E, _, rfl, A0.entW hE, F_sort174 w, rfl, W.gint 1 rfl (I_DIRECTORY w) ⟨_, rfl, ?_⟩⟩
        exact iteF (by rw [hd]; rfl) (WT.orNil (iteF rfl ⟨rfl, rfl⟩))
    refine B.cons (S.skip ?_ (B.nil ?_))
    · refine WT.and (WT.cmpv (W.attr (W.var 5 rfl rfl ?_)))
      refine ⟨E.x, 174, eF E, _, rfl, A0.entW hE, F_sort174 w, rfl, W.gint 1 rfl (I_DIRECTORY w) ⟨_, rfl, ?_⟩⟩
      exact iteF (by rw [hd]; rfl) ⟨rfl, rfl⟩
    refine B.cons (S.expr (W.mcall (W.var 0 rfl rfl ?_)))
    refine ⟨t, 375, _, 304, 4, rfl, A0.t, M_FileTree_need_room w, rfl, Nat.le_of_ble_eq_true rfl, WA.cons (W.cvar (c := L + 1) (by kernel_rfl) (by kernel_rfl) (by rfl) hcell (WA.nil (Fn.read (fn_need_room t T p _ A0 hp E1 hE1 hd1 hw1) (Nat.le_refl _) ?_)))⟩
    refine B.cons (S.expr (W.mcall (W.var 0 rfl rfl ?_)))
    refine ⟨t, 375, _, 304, 4, rfl, A0.t, M_FileTree_need_room w, rfl, Nat.le_of_ble_eq_true rfl, WA.cons (W.var 4 rfl rfl (WA.nil (Fn.read (fn_need_room t T q _ A0 hq E2 hE2 hd2 hw2) (Nat.le_refl _) ?_)))⟩
    refine B.cons (S.expr (W.mcall (W.var 0 rfl rfl ?_)))
    refine ⟨t, 375, _, 199, 1, rfl, A0.t, M_FileTree_step w, rfl, Nat.le_of_ble_eq_true rfl, WA.nil (Fn.turn (fn_step t T _ A0) (Nat.le_refl _) ?_)⟩
    have A1 := A0.tick (T.clock + 1)
    generalize hH1 : HL.set _ t _ = H1 at A1 ⊢
    have f1 : Frm H0 H1 T := by rw [← hH1]; exact Frm.inst A0.t (.inl rfl)
    have hcell1 : H1 (L + 1) = some (.cell (some (.str p))) := f1 _ _ hcell (A0.ne_e hcell fun _ h => by cases h) (fun _ h => by cases h) (fun _ h => by cases h)
    have hce : L + 1 ≠ T.e := A1.ne_e hcell1 fun _ h => by cases h
    refine B.cons (S.skip ?_ (B.nil ?_))
    · refine WT.cmpv (W.cvar (c := L + 1) (by kernel_rfl) (by kernel_rfl) (by rfl) hcell1 (W.var 4 rfl rfl ⟨_, rfl, ?_, rfl⟩))
      exact beq_eq_false_iff_ne.mpr hpq
    -- the comprehension
    refine B.cons (S.assignCompDict 7 rfl [nLen] (cl := [(nWhole, L + 1)]) ?K (by kernel_rfl) (W.attr (W.var 0 rfl rfl ?_)))
    case K => exact ⟨by kernel_rfl, by decide +kernel, by kernel_rfl, by decide +kernel, by kernel_rfl, by kernel_rfl, by
      intro n hn
      have : n = nLen := List.mem_singleton.mp hn
      subst this
      exact ⟨by kernel_rfl, by kernel_rfl⟩⟩
    refine ⟨t, 375, _, _, rfl, A1.t, F_entries375 w, rfl, T.e, kvOf T.L, rfl, A1.e, fun od D h₀' C hDn => ?_⟩
    have hDe : D ≠ T.e := fun e => by rw [e, HL.set_self] at hDn; cases hDn
    have hD1 : H1 D = none := by rwa [HL.set_ne hDe] at hDn
    have hDc : D ≠ L + 1 := fun e => by rw [e, hcell1] at hD1; cases hD1
    refine CompL.inv (I := fun r H' => ∃ done rest, T.L = done ++ rest ∧ r = (kvOf rest).map (fun f => V.str f.1) ∧ H' = (H1.set T.e (.raw od)).set D (.list ((done.filter fun n => decide (n.1 = p)).map fun n => V.str n.1))) ?_ ?_ ?_ _ _ ⟨[], T.L, rfl, rfl, rfl⟩
    · rintro _ _ ⟨done, rest, _, _, rfl⟩; rw [HL.set_ne hDe.symm]; exact HL.set_self
    · rintro _ ⟨done, rest, e, er, rfl⟩
      have : rest = [] := by cases rest with | nil => rfl | cons q r => cases er
      subst this
      rw [List.append_nil] at e
      subst e
      rw [only_one A.nd hE]
      refine ⟨H1.set D (.list [V.str p]), HL.set_comm hDe.symm, ?_⟩
      rw [HL.set_comm hDe, HL.set_id A1.e]
      have A2 : TreeAt (H1.set D (.list [V.str p])) t { T with clock := T.clock + 1 } := A1.down hD1
      have f2 : Frm H (H1.set D (.list [V.str p])) T := (f0.trans f1 rfl).trans (T' := T) (Frm.alloc hD1) rfl
      have hcell2 : (H1.set D (.list [V.str p])) (L + 1) = some (.cell (some (.str p))) := by rw [HL.set_ne hDc.symm]; exact hcell1
      refine B.cons (S.forList 8 rfl (W.bcall 3 rfl (B_sorted w) (WA.cons (W.var 7 rfl rfl (WA.nil (CB.sortedStrs (ns := [p]) HL.set_self (Nat.le_of_ble_eq_true rfl) fun d2 ns' hd2 hperm _ => ?_))))))
      obtain rfl : ns' = [p] := List.perm_singleton.mp hperm
      have A3 := A2.down (o := .list ([p].map V.str)) hd2
      have f3 : Frm H ((H1.set D (.list [V.str p])).set d2 (.list ([p].map V.str))) T := f2.trans (T' := T) (Frm.alloc hd2) rfl
      have hcell3 := HL.le_set (o := .list ([p].map V.str)) hd2 _ _ hcell2
      refine ⟨d2, [V.str p], rfl, HL.set_self, HL.set_self, fun it o hit => ?_⟩
      generalize hG : (H1.set D (.list [V.str p])).set d2 (.list ([p].map V.str)) = G at A3 f3 hcell3 hit ⊢
      have A4 := A3.down (o := .raw o) hit
      have hcell4 := HL.le_set (o := .raw o) hit _ _ hcell3
      have hie : it ≠ T.e := fun e => by rw [e, A3.e] at hit; cases hit
      have hte : t ≠ T.e := A3.ne_e A3.t fun _ h => by cases h
      refine B.cons (S.setItem (W.dpop (W.attr (W.var 0 rfl rfl ?_))))
      refine ⟨t, 375, _, _, rfl, A4.t, F_entries375 w, rfl, T.e, kvOf T.L, rfl, A4.e, W.var 8 rfl rfl ?_⟩
      refine ⟨p, kvOf T.L, .ref E.x, rfl, A4.e, by rw [kv_len]; exact Nat.le_trans A.len (by decide), by rw [dget_kv, hE]; rfl, ?_⟩
      refine W.attr (W.var 0 rfl rfl ?_)
      refine ⟨t, 375, _, _, rfl, by rw [HL.set_ne hte]; exact A4.t, F_entries375 w, rfl, ?_⟩
      refine W.addStr (W.var 4 rfl rfl (W.sliceStr (W.var 8 rfl rfl ?_)))
      have hce4 : L + 1 ≠ T.e := A4.ne_e hcell4 fun _ h => by cases h
      refine ⟨p, rfl, Nat.le_trans hp.len (by decide), W.bcall 2 rfl (B_len w) (WA.cons (W.cvar (c := L + 1) (by kernel_rfl) (by kernel_rfl) (by rfl) (by rw [HL.set_ne hce4]; exact hcell4) (WA.nil (CB.lenStr (Nat.le_trans hp.len (by decide)) ?_))))⟩
      refine ⟨_, rfl, q, _, rfl, rfl, ?_, ?_⟩
      · have : (q ++ Txt.slice p (some (p.length : Int)) none).length = q.length := by rw [hqp]
        rw [PySem.Str.length_append] at this
        have hl := hq.len
        omega
      rw [hqp]
      refine ⟨T.e, q, _, rfl, rfl, HL.set_self, ?_, ?_⟩
      · rw [kv_del, kv_len]; exact Nat.le_trans (List.length_filter_le _ _) (Nat.le_trans A.len (by decide))
      refine B.nil ?_
      rw [HL.set_set, HL.set_comm hie]
      refine ⟨_, rfl, by rw [HL.set_ne hie]; exact hit, ?_⟩
      have hde2 : d2 ≠ T.e := fun e => by rw [e, A2.e] at hd2; cases hd2
      refine ⟨by show HL.set _ _ _ d2 = _; rw [HL.set_ne hde2, ← hG]; exact HL.set_self, ?_⟩
      have hExe : E.x ≠ T.e := A3.ne_e (A3.entW hE) fun _ h => by cases h
      have z := A3.ent _ (look_mem hE)
      have A5 := (A3.del p).put (n := q) (E := E) (by rw [HL.set_ne hExe]; exact z.1) (fun h => by rw [HL.set_ne (A3.ne_e (z.2.1 h) fun _ h => by cases h)]; exact z.2.1 h) z.2.2.1 hq.len (fun r hr _ e => (of_decide_eq_true (List.mem_filter.mp hr).2) (A3.same hE r (List.mem_filter.mp hr).1 e)) (by
        have : (adel p T.L).length < T.L.length := List.length_filter_lt_length_iff_exists.mpr ⟨_, look_mem hE, by simp⟩
        have := A.len
        show (adel p T.L).length ≤ 39
        omega)
      rw [HL.set_set] at A5
      refine B.nil ⟨rfl, { clock := T.clock + 1, e := T.e, L := aput q E (adel p T.L) }, ?_, rfl, ?_, f3.trans (T' := T) Frm.dict rfl⟩
      · rw [kv_del]; exact A5
      · show mapV Ent.vw (aput q E (adel p T.L)) = _
        rw [mapV_aput, mapV_adel]; rfl
    · rintro v r _ ⟨done, rest, e, er, rfl⟩ it o hit
      cases rest with
      | nil => cases er
      | cons n rest =>
        obtain ⟨rfl, rfl⟩ : v = V.str n.1 ∧ r = (kvOf rest).map (fun f => V.str f.1) := List.cons.inj er
        have hn : n ∈ T.L := by rw [e]; exact List.mem_append.mpr (.inr (.head _))
        have hql := (A.ent n hn).2.2.2
        have hle : (done.filter fun n => decide (n.1 = p)).length ≤ 40 := Nat.le_trans (List.length_filter_le _ _) (Nat.le_trans (by rw [e, List.length_append]; omega) A.len)
        have hiD : it ≠ D := fun q => by rw [q, HL.set_self] at hit; cases hit
        have hie : it ≠ T.e := fun q => by rw [q, HL.set_ne hDe.symm, HL.set_self] at hit; cases hit
        have hic : it ≠ L + 1 := fun q => by rw [q, HL.set_ne hDc.symm, HL.set_ne hce, hcell1] at hit; cases hit
        generalize hHx : (H1.set T.e (.raw od)).set D (.list ((done.filter fun n => decide (n.1 = p)).map fun n => V.str n.1)) = Hx at hit ⊢
        have hcx : (Hx.set it (.raw o)) (L + 1) = some (.cell (some (.str p))) := by rw [← hHx, HL.set_ne hic.symm, HL.set_ne hDc.symm, HL.set_ne hce]; exact hcell1
        have hpl : p.length ≤ 10000 := Nat.le_trans hp.len (by decide)
        refine TS.mono (P := fun c H2 => c = decide (n.1 = p) ∧ H2 = Hx.set it (.raw o)) ?_ ?_
        · show WT _ _ _ _ _
          refine WT.or (WT.cmpv (W.var 0 rfl rfl (W.cvar (c := L + 1) (by kernel_rfl) (by kernel_rfl) (by rfl) hcx ⟨_, rfl, ?_⟩)))
          by_cases hnp : n.1 = p
          · exact iteT (beq_iff_eq.mpr hnp) ⟨(decide_eq_true hnp).symm, rfl⟩
          · refine iteF (beq_eq_false_iff_ne.mpr hnp) ?_
            refine WT.or (WT.cmpv (W.sliceStr (W.var 0 rfl rfl ⟨n.1, rfl, Nat.le_trans hql (by decide), ?_⟩)))
            refine W.binv (W.bcall 0 rfl (B_len w) (WA.cons (W.cvar (c := L + 1) (by kernel_rfl) (by kernel_rfl) (by rfl) hcx (WA.nil (CB.lenStr hpl ?_)))))
            refine W.cInt ⟨_, rfl, _, rfl, ?_⟩
            refine W.addStr (W.cvar (c := L + 1) (by kernel_rfl) (by kernel_rfl) (by rfl) hcx (W.cStr ⟨p, sSlash, rfl, rfl, ?_, _, rfl, ?_⟩))
            · have := hp.len; show p.length + 1 ≤ 10000; omega
            · exact iteF (beq_eq_false_iff_ne.mpr (hs n hn hnp)) (WT.orNil ⟨(decide_eq_false hnp).symm, rfl⟩)
        · rintro c _ ⟨rfl, rfl⟩
          by_cases hnp : n.1 = p
          · refine iteT (decide_eq_true hnp) (W.var 0 rfl rfl ?_)
            refine ⟨Hx, _, rfl, hit, by rw [← hHx]; exact HL.set_self, by rw [List.length_map]; exact Nat.le_trans hle (by decide), done ++ [n], rest, by rw [e, List.append_assoc]; rfl, rfl, ?_⟩
            rw [← hHx, HL.set_set, List.filter_append, List.map_append, List.filter_cons_of_pos (by simpa using hnp)]; rfl
          · refine iteF (decide_eq_false hnp) ⟨Hx, rfl, hit, done ++ [n], rest, by rw [e, List.append_assoc]; rfl, rfl, ?_⟩
            rw [← hHx, List.filter_append, List.filter_cons_of_neg (by simpa using hnp), List.filter_nil, List.append_nil]
end Mine
end
section
open PySem PySem.W PyProof.Rows PySem.Calls
set_option maxHeartbeats 1000000
namespace Mine
abbrev sTilde : Str := ⟨#[126]⟩
abbrev sDotTilde : Str := ⟨#[46, 126]⟩
abbrev sZero : Str := ⟨#[48]⟩
abbrev sDigits : Str := ⟨#[48, 49, 50, 51, 52, 53, 54, 55, 56, 57]⟩
abbrev nOther : Str := ⟨#[111, 116, 104, 101, 114]⟩
abbrev nNumber : Str := ⟨#[110, 117, 109, 98, 101, 114]⟩
theorem fn_backup_name (x : Str) (H : HL) (hl : x.length ≤ 1000) : Fn 1 69 [.str x] H fun v H' => H' = H ∧ v = .str (x ++ sTilde) := by
  refine Fn.body X_backup_name (fun _ _ _ _ _ _ => rfl) D_backup_name (ps := [nName]) (fun s name pm us hu => ?_) (by decide +kernel) rfl rfl fun w h₀ L A os => ?_
  · obtain ⟨u, rfl⟩ := len1 hu; exact BindsTo.of_eq rfl
  · exact B.cons (S.ret (W.addStr (W.var 0 rfl rfl (W.cStr ⟨_, _, rfl, rfl, by show x.length + 1 ≤ 10000; omega, rfl, rfl⟩))))
def num (x : Str) (k : Int) : Str := x ++ sDotTilde ++ Str.ofString (toString k) ++ sTilde
theorem fn_numbered_name (x : Str) (k : Int) (H : HL) (hl : x.length ≤ 1000) (hk : k.natAbs.log2 < 1920) (hs : (Str.ofString (toString k)).length ≤ 100) : Fn 1 76 [.str x, .int k] H fun v H' => H' = H ∧ v = .str (num x k) := by
  refine Fn.body X_numbered_name (fun _ _ _ _ _ _ => rfl) D_numbered_name (ps := [nName, nNumber]) (fun s name pm us hu => ?_) (by decide +kernel) rfl rfl fun w h₀ L A os => ?_
  · obtain ⟨u, u2, rfl⟩ := len2 hu; exact BindsTo.of_eq rfl
  · refine B.cons (S.ret (W.addStr (W.addStr (W.addStr (W.var 0 rfl rfl (W.cStr ⟨x, sDotTilde, rfl, rfl, by show x.length + 2 ≤ 10000; omega, ?_⟩))))))
    refine W.tcall 0 rfl (B_str w) (WA.cons (W.var 1 rfl rfl (WA.nil (CB.strInt hk ?_))))
    refine ⟨x ++ sDotTilde, _, rfl, rfl, by rw [PySem.Str.length_append]; show x.length + 2 + _ ≤ 10000; omega, ?_⟩
    refine W.cStr ⟨_, sTilde, rfl, rfl, by rw [PySem.Str.length_append, PySem.Str.length_append]; show x.length + 2 + _ + 1 ≤ 10000; omega, rfl, rfl⟩
def isDigit (c : Nat) : Bool := !(Builtin.Str.occurrences sDigits ⟨#[c]⟩ 0 sDigits.length 1).isEmpty
def digs : List Nat → Int → Int
  | [], a => a
  | c :: r, a => if isDigit c = true then digs r (10 * a + Txt.find sDigits ⟨#[c]⟩) else 0
def digsOk : List Nat → Int → Bool
  | [], _ => true
  | c :: r, a => decide (0 ≤ a) && decide (a ≤ 100000) && (if isDigit c = true then digsOk r (10 * a + Txt.find sDigits ⟨#[c]⟩) else true)
def figs (x y : Str) : Str := Txt.slice y (some (((x ++ sDotTilde).length : Nat) : Int)) (some ((y.length : Int) - 1))
def bnum (x y : Str) : Int := if Txt.slice y none (some (((x ++ sDotTilde).length : Nat) : Int)) = x ++ sDotTilde then if Txt.slice y (some (-1)) none = sTilde then
    if figs x y = ⟨#[]⟩ then 0 else if 9 < (figs x y).length then 0 else if Txt.item (figs x y) 0 = sZero then 0 else digs (figs x y).cps.toList 0 else 0 else 0
theorem fn_backup_number (x y : Str) (H : HL) (hx : x.length ≤ 1000) (hy : y.length ≤ 1000) (ha : (figs x y).cps.all (· < 128) = true) (hf : (figs x y).length ≤ 1000) (hne : figs x y ≠ ⟨#[]⟩ → 0 < (figs x y).length) (hok : digsOk (figs x y).cps.toList 0 = true) : Fn 1 83 [.str x, .str y] H fun v H' => H' = H ∧ v = .int (bnum x y) := by
  refine Fn.body X_backup_number (fun _ _ _ _ _ _ => rfl) D_backup_number (ps := [nName, nOther]) (fun s name pm us hu => ?_) (by decide +kernel) rfl rfl fun w h₀ L A os => ?_
  · obtain ⟨u, u2, rfl⟩ := len2 hu; exact BindsTo.of_eq rfl
  · refine B.cons (S.assign 2 rfl (W.addStr (W.var 0 rfl rfl (W.cStr ⟨x, sDotTilde, rfl, rfl, by show x.length + 2 ≤ 10000; omega, ?_⟩))))
    have hhl : (x ++ sDotTilde).length ≤ 10000 := by rw [PySem.Str.length_append]; show x.length + 2 ≤ 10000; omega
    unfold bnum
    refine B.cons (S.ite (WT.or (WT.cmpv (W.sliceStr (W.var 1 rfl rfl ⟨y, rfl, by omega, W.bcall 0 rfl (B_len w) (WA.cons (W.var 2 rfl rfl (WA.nil (CB.lenStr hhl ⟨_, rfl, W.var 2 rfl rfl ⟨_, rfl, ?_⟩⟩))))⟩)))))
    by_cases h1 : Txt.slice y none (some (((x ++ sDotTilde).length : Nat) : Int)) = x ++ sDotTilde
    · refine iteF (bne_eq_false_iff_eq.mpr h1) ?_
      rw [if_pos h1]
      refine WT.or (WT.cmpv (W.sliceStr (W.var 1 rfl rfl ⟨y, rfl, by omega, W.neg (W.cInt ⟨1, rfl, _, rfl, W.cStr ⟨_, rfl, ?_⟩⟩)⟩)))
      by_cases h2 : Txt.slice y (some (-1)) none = sTilde
      · refine iteF (bne_eq_false_iff_eq.mpr h2) (WT.orNil (iteF rfl (B.nil ?_)))
        rw [if_pos h2]
        refine B.cons (S.assign 3 rfl (W.sliceStr (W.var 1 rfl rfl ⟨y, rfl, by omega, ?_⟩)))
        refine W.bcall 0 rfl (B_len w) (WA.cons (W.var 2 rfl rfl (WA.nil (CB.lenStr hhl ⟨_, rfl, ?_⟩))))
        refine W.binv (W.bcall 0 rfl (B_len w) (WA.cons (W.var 1 rfl rfl (WA.nil (CB.lenStr (by omega) ?_)))))
        refine W.cInt ⟨_, rfl, _, rfl, ?_⟩
        show B _ (List.set _ 3 (some (V.str (figs x y)))) _ _ _
        generalize hfg : figs x y = fg at ha hf hne hok ⊢
        refine B.cons (S.ite (WT.or (WT.cmpv (W.var 3 rfl rfl (W.cStr ⟨_, rfl, ?_⟩)))))
        by_cases h3 : fg = ⟨#[]⟩
        · refine iteT (beq_iff_eq.mpr h3) ?_
          rw [if_pos h3]
          exact iteT rfl (B.cons (S.ret (W.cInt ⟨rfl, rfl⟩)))
        refine iteF (beq_eq_false_iff_ne.mpr h3) ?_
        rw [if_neg h3]
        refine WT.or (WT.cmpv (W.bcall 0 rfl (B_len w) (WA.cons (W.var 3 rfl rfl (WA.nil (CB.lenStr (by omega) (W.cInt ⟨_, rfl, ?_⟩)))))))
        by_cases h4 : 9 < fg.length
        · refine iteT (decide_eq_true (by omega)) ?_
          rw [if_pos h4]
          exact iteT rfl (B.cons (S.ret (W.cInt ⟨rfl, rfl⟩)))
        refine iteF (decide_eq_false (by omega)) ?_
        rw [if_neg h4]
        refine WT.or (WT.cmpv (W.sitem (W.var 3 rfl rfl (W.cInt ?_))))
        refine ⟨fg, 0, rfl, rfl, Int.le_refl _, by have := hne h3; omega, by decide, W.cStr ⟨_, rfl, ?_⟩⟩
        by_cases h5 : Txt.item fg 0 = sZero
        · refine iteT (beq_iff_eq.mpr h5) ?_
          rw [if_pos h5]
          exact iteT rfl (B.cons (S.ret (W.cInt ⟨rfl, rfl⟩)))
        refine iteF (beq_eq_false_iff_ne.mpr h5) (WT.orNil (iteF rfl (B.nil ?_)))
        rw [if_neg h5]
        refine B.cons (S.assign 4 rfl (W.cInt ?_))
        refine B.seq (P' := fun f vs1 H1 => H1 = H ∧ match f with | .ret v => v = .int (digs fg.cps.toList 0) | .next => ∃ z, vs1 = [some (.str x), some (.str y), some (.str (x ++ sDotTilde)), some (.str fg), some (.int (digs fg.cps.toList 0)), z] | _ => False) (S.forStr 5 rfl (W.var 3 rfl rfl ⟨fg, rfl, ha, ?_⟩)) ?_
        · refine ForL.inv (I := fun r vs1 H1 => H1 = H ∧ ∃ rest a z, r = rest.map (fun c => V.str ⟨#[c]⟩) ∧ vs1 = [some (.str x), some (.str y), some (.str (x ++ sDotTilde)), some (.str fg), some (.int a), z] ∧ digs rest a = digs fg.cps.toList 0 ∧ digsOk rest a = true) (fun _ _ _ _ => trivial) ?_ ?_ _ _ _ ⟨rfl, fg.cps.toList, 0, _, rfl, rfl, rfl, hok⟩
          · rintro _ _ ⟨rfl, rest, a, z, er, rfl, e, _⟩
            have : rest = [] := by cases rest with | nil => rfl | cons q r => cases er
            subst this
            exact ⟨rfl, z, by rw [← e]; rfl⟩
          · rintro v r _ _ ⟨rfl, rest, a, z, er, rfl, e, hk⟩ it o hit
            cases rest with
            | nil => cases er
            | cons c rest =>
              obtain ⟨rfl, rfl⟩ : v = V.str ⟨#[c]⟩ ∧ r = rest.map (fun c => V.str ⟨#[c]⟩) := List.cons.inj er
              have hk' : (decide (0 ≤ a) && decide (a ≤ 100000) && (if isDigit c = true then digsOk rest (10 * a + Txt.find sDigits ⟨#[c]⟩) else true)) = true := hk
              rw [Bool.and_eq_true] at hk'
              have e' : (if isDigit c = true then digs rest (10 * a + Txt.find sDigits ⟨#[c]⟩) else 0) = digs fg.cps.toList 0 := e
              refine B.cons (S.ite (WT.notInStr (W.var 5 rfl rfl (W.glob (v := .str sDigits) 1 rfl (I_DIGITS w) ⟨_, rfl⟩ ⟨_, _, rfl, rfl, ?_⟩))))
              show if (!(isDigit c)) = true then _ else _
              cases hd : isDigit c with
              | false =>
                rw [hd, if_neg (by decide)] at e'
                exact iteT rfl (B.cons (S.ret (W.cInt ⟨_, HL.le_set hit, rfl, by rw [← e']⟩)))
              | true =>
                rw [hd, if_pos rfl] at e'
                have hk2 := hk'.2
                rw [hd, if_pos rfl] at hk2
                refine iteF rfl (B.nil ?_)
                refine B.cons (S.assign 4 rfl (W.binv (W.mul (W.cInt (W.var 4 rfl rfl ?_)))))
                refine ⟨10, a, rfl, rfl, IntMulOk.of_left (by decide), ?_⟩
                refine W.find1 (W.glob (v := .str sDigits) 1 rfl (I_DIGITS w) ⟨_, rfl⟩ ⟨_, rfl, W.var 5 rfl rfl ⟨_, rfl, _, rfl, ?_⟩⟩)
                exact B.nil ⟨_, rfl, hit, rfl, rest, _, _, rfl, rfl, e', hk2⟩
        · rintro f vs1 _ ⟨rfl, hf⟩
          cases f with
          | next => obtain ⟨z, rfl⟩ := hf; exact B.cons (S.ret (W.var 4 rfl rfl ⟨rfl, rfl⟩))
          | ret v => exact ⟨rfl, hf⟩
          | brk => exact hf.elim
          | cont => exact hf.elim
      · refine iteT (bne_iff_ne.mpr h2) ?_
        rw [if_neg h2]
        exact iteT rfl (B.cons (S.ret (W.cInt ⟨rfl, rfl⟩)))
    · refine iteT (bne_iff_ne.mpr h1) ?_
      rw [if_neg h1]
      exact iteT rfl (B.cons (S.ret (W.cInt ⟨rfl, rfl⟩)))
end Mine
end
section
open PySem PySem.W PyProof.Rows PySem.Calls
set_option maxHeartbeats 1000000
namespace Mine
abbrev nTree : Str := ⟨#[116, 114, 101, 101]⟩
abbrev sD : Str := ⟨#[47, 100]⟩
abbrev sDs : Str := ⟨#[47, 100, 47]⟩
abbrev pF : Str := ⟨#[47, 100, 47, 102]⟩
abbrev sF : Str := ⟨#[102]⟩
theorem fdir_pF : fdir pF = sDs := by decide +kernel
theorem flast_pF : flast pF = sF := by decide +kernel
theorem rf_pF : ¬ Txt.rfind pF sSlash < 0 := by decide +kernel
theorem scan_D : Scan sD := by unfold Scan; decide +kernel
/-- a last part whose number can be read -/
structure BN (y : Str) : Prop where
  hy : y.length ≤ 1000
  ha : (figs sF y).cps.all (· < 128) = true
  hf : (figs sF y).length ≤ 1000
  hne : figs sF y ≠ ⟨#[]⟩ → 0 < (figs sF y).length
  hok : digsOk (figs sF y).cps.toList 0 = true
def nums (ys : List Str) : List Int := ys.filterMap fun y => if 0 < bnum sF y then some (bnum sF y) else none
theorem fn_numbers_there (t : Addr) (T : Tree) (H : HL) (A : TreeAt H t T) (E : Ent) (hE : look sD T.L = some E) (hd : E.dir = true) (hb : ∀ y ∈ unders sDs T.L, BN y) :
    Fn 6 111 [.ref t, .str pF] H fun v H' => ∃ (d : Addr) (ns' : List Int), v = .ref d ∧ H d = none ∧ H' = H.set d (.list (ns'.map V.int)) ∧ ns'.Perm (nums (unders sDs T.L)) ∧ ns'.Pairwise (· ≤ ·) := by
  refine Fn.less (Fn.body X_numbers_there (fun _ _ _ _ _ _ => rfl) D_numbers_there (ps := [nTree, nName]) (fun s name pm us hu => ?_) (by decide +kernel) rfl rfl fun w h₀ L A' os => ?_)
  · obtain ⟨u, u2, rfl⟩ := len2 hu; exact BindsTo.of_eq rfl
  · refine B.cons (S.assign 2 rfl (W.call (k := 1) 0 rfl (G_directory_part w) (Nat.le_of_ble_eq_true rfl) (WA.cons (W.var 1 rfl rfl (WA.nil (Fn.read (fn_directory_part pF H (Nat.le_of_ble_eq_true rfl) rf_pF) (Nat.le_refl _) ?_))))))
    rw [fdir_pF]
    refine B.cons (S.assign 3 rfl (W.call (k := 1) 1 rfl (G_last_part w) (Nat.le_of_ble_eq_true rfl) (WA.cons (W.var 1 rfl rfl (WA.nil (Fn.read (fn_last_part pF H (Nat.le_of_ble_eq_true rfl)) (Nat.le_refl _) ?_))))))
    rw [flast_pF]
    refine B.cons (S.assign 4 rfl (W.list (WA.nil ⟨by decide, fun f hf => ?_⟩)))
    have A1 := A.down (o := .list []) hf
    refine B.seq (P' := fun fl vs1 H1 => fl = .next ∧ ∃ (ys : List Str) (d : Addr) (x y : Option V), ys.Perm (unders sDs T.L) ∧ vs1 = [some (.ref t), some (.str pF), some (.str sDs), some (.str sF), some (.ref f), x, y] ∧ H d = none ∧ d ≠ f ∧ H1 = (H.set f (.list ((nums ys).map V.int))).set d (.list (ys.map V.str))) (S.forList 5 rfl (W.mcall (W.var 0 rfl rfl ?_))) ?_
    · refine ⟨t, 375, _, 297, 5, rfl, A1.t, M_FileTree_listed w, rfl, Nat.le_of_ble_eq_true rfl, WA.cons (W.ite (WT.cmpv (W.var 2 rfl rfl (W.cStr ⟨_, rfl, ?_⟩))))⟩
      refine iteF (by decide +kernel) (W.sliceStr (W.var 2 rfl rfl ⟨sDs, rfl, Nat.le_of_ble_eq_true rfl, W.neg (W.cInt ⟨1, rfl, _, rfl, ?_⟩)⟩))
      have hL : Fn 5 297 [.ref t, .str (Txt.slice sDs none (some (-1)))] (H.set f (.list [])) fun v H' => ∃ (d : Addr) (ns' : List Str), v = .ref d ∧ (H.set f (.list [])) d = none ∧ H' = (H.set f (.list [])).set d (.list (ns'.map V.str)) ∧ ns'.Perm (unders (sD ++ sSlash) T.L) ∧ sortedS ns' = true := by
        rw [show Txt.slice sDs none (some (-1)) = sD from by decide +kernel]
        exact fn_listed t T _ A1 sD scan_D (by decide) (Nat.le_of_ble_eq_true rfl) E hE hd
      refine WA.nil (Fn.mono hL (Nat.le_refl _) ?_)
      rintro _ _ ⟨d, ys, rfl, hdn, rfl, hperm, _⟩
      have hperm' : ys.Perm (unders sDs T.L) := hperm
      have hdf : d ≠ f := fun e => by rw [e, HL.set_self] at hdn; cases hdn
      have hd0 : H d = none := by rwa [HL.set_ne hdf] at hdn
      refine ⟨d, ys.map V.str, rfl, HL.set_self, ?_⟩
      have hlen : ys.length ≤ 40 := by rw [hperm'.length_eq]; exact Nat.le_trans (List.length_filterMap_le _ _) A.len
      refine ForL.inv (I := fun r vs1 H1 => ∃ done rest x y, ys = done ++ rest ∧ r = rest.map V.str ∧ vs1 = [some (.ref t), some (.str pF), some (.str sDs), some (.str sF), some (.ref f), x, y] ∧ H1 = (H.set f (.list ((nums done).map V.int))).set d (.list (ys.map V.str))) ?_ ?_ ?_ _ _ _ ⟨[], ys, _, _, rfl, rfl, rfl, rfl⟩
      · rintro _ _ _ ⟨done, rest, x, y, _, _, _, rfl⟩; exact HL.set_self
      · rintro _ _ ⟨done, rest, x, y, e, er, rfl, rfl⟩
        have : rest = [] := by cases rest with | nil => rfl | cons q r => cases er
        subst this
        rw [List.append_nil] at e
        subst e
        exact ⟨rfl, _, d, x, y, hperm', rfl, hd0, hdf, rfl⟩
      · rintro v r _ _ ⟨done, rest, x, y, e, er, rfl, rfl⟩ it o hit
        cases rest with
        | nil => cases er
        | cons q rest =>
          obtain ⟨rfl, rfl⟩ : v = V.str q ∧ r = rest.map V.str := List.cons.inj er
          have hq : BN q := hb q (hperm'.mem_iff.mp (by rw [e]; exact List.mem_append.mpr (.inr (.head _))))
          have hid : it ≠ d := fun e => by rw [e, HL.set_self] at hit; cases hit
          have hif : it ≠ f := fun e => by rw [e, HL.set_ne hdf.symm, HL.set_self] at hit; cases hit
          have hnl : (nums done).length ≤ 40 := Nat.le_trans (List.length_filterMap_le _ _) (Nat.le_trans (by rw [e, List.length_append]; omega) hlen)
          have hni : nums (done ++ [q]) = nums done ++ (if 0 < bnum sF q then [bnum sF q] else []) := by
            unfold nums
            rw [List.filterMap_append, List.filterMap_cons, List.filterMap_nil]
            congr 1
            by_cases hp : 0 < bnum sF q
            · rw [if_pos hp, if_pos hp]
            · rw [if_neg hp, if_neg hp]
          refine B.cons (S.assign 6 rfl (W.call (k := 1) 2 rfl (G_backup_number w) (Nat.le_of_ble_eq_true rfl) (WA.cons (W.var 3 rfl rfl (WA.cons (W.var 5 rfl rfl (WA.nil (Fn.read (fn_backup_number sF q _ (Nat.le_of_ble_eq_true rfl) hq.hy hq.ha hq.hf hq.hne hq.hok) (Nat.le_refl _) ?_))))))))
          refine B.cons (S.ite (WT.cmpv (W.var 6 rfl rfl (W.cInt ⟨_, rfl, ?_⟩))))
          by_cases hp : 0 < bnum sF q
          · refine iteT (decide_eq_true hp) ?_
            have hfi : (((H.set f (.list ((nums done).map V.int))).set d (.list (ys.map V.str))).set it (.raw o)) f = some (.list ((nums done).map V.int)) := by rw [HL.set_ne hif.symm, HL.set_ne hdf.symm]; exact HL.set_self
            refine B.cons (S.expr (W.append (W.var 4 rfl rfl ?_)))
            refine ⟨f, _, rfl, hfi, W.var 6 rfl rfl ⟨_, hfi, by rw [List.length_map]; exact Nat.le_trans hnl (by decide), ?_⟩⟩
            refine B.nil (B.nil ⟨(H.set f (.list ((nums (done ++ [q])).map V.int))).set d (.list (ys.map V.str)), ?_, ?_, done ++ [q], rest, _, _, by rw [e, List.append_assoc]; rfl, rfl, rfl, rfl⟩)
            · rw [hni, if_pos hp, List.map_append, HL.set_comm hif, HL.set_comm hdf, HL.set_set]; rfl
            · rw [HL.set_ne hid, HL.set_ne hif]; rwa [HL.set_ne hid, HL.set_ne hif] at hit
          · refine iteF (decide_eq_false hp) (B.nil (B.nil ⟨_, rfl, hit, done ++ [q], rest, _, _, by rw [e, List.append_assoc]; rfl, rfl, rfl, ?_⟩))
            rw [hni, if_neg hp, List.append_nil]
    · rintro _ _ _ ⟨rfl, ys, d, x, y, hperm, rfl, hd0, hdf, rfl⟩
      have hfi : ((H.set f (.list ((nums ys).map V.int))).set d (.list (ys.map V.str))) f = some (.list ((nums ys).map V.int)) := by rw [HL.set_ne hdf.symm]; exact HL.set_self
      have hnl : (nums ys).length ≤ 40 := Nat.le_trans (List.length_filterMap_le _ _) (by rw [hperm.length_eq]; exact Nat.le_trans (List.length_filterMap_le _ _) A.len)
      refine B.cons (S.ret (W.bcall 3 rfl (B_sorted w) (WA.cons (W.var 4 rfl rfl (WA.nil (CB.sortedInts hfi (by omega) fun d2 ns' hd2 hp2 hs2 => ?_))))))
      have h2d : d2 ≠ d := fun e => by rw [e, HL.set_self] at hd2; cases hd2
      have h2f : d2 ≠ f := fun e => by rw [e, hfi] at hd2; cases hd2
      refine ⟨H.set d2 (.list (ns'.map V.int)), ?_, d2, ns', rfl, by rwa [HL.set_ne h2d, HL.set_ne h2f] at hd2, rfl, hp2.trans (hperm.filterMap _), hs2⟩
      refine .of fun a o ha => ?_
      by_cases e : a = d2
      · subst e; rw [HL.set_self] at ha ⊢; exact ha
      · rw [HL.set_ne e] at ha ⊢
        rw [HL.set_ne (fun q => by rw [q, hd0] at ha; cases ha), HL.set_ne (fun q => by rw [q, hf] at ha; cases ha)]
        exact ha
end Mine
end
section
open PySem PySem.W PyProof.Rows PySem.Calls
set_option maxHeartbeats 1000000
namespace Mine
abbrev pT : Str := ⟨#[47, 100, 47, 102, 46, 116, 109, 112, 48]⟩
abbrev pB : Str := ⟨#[47, 100, 47, 102, 126]⟩
/-- a number's figures, at most two -/
def figL (k : Nat) : List Nat := if k < 10 then [48 + k] else [48 + k / 10, 48 + k % 10]
def numL (k : Nat) : Str := ⟨(#[47, 100, 47, 102, 46, 126] ++ (figL k).toArray).push 126⟩
theorem num_eq : ∀ k : Nat, k ≤ 12 → num pF (k : Int) = numL k := by
  intro k hk
  have : ∀ k ≤ 12, num pF ((k : Nat) : Int) = numL k := by decide +kernel
  exact this k hk
/-- the names that may stand in the directory -/
def kids : List Str := [pF, pB, pT, numL 1, numL 2, numL 3, numL 4, numL 5, numL 6, numL 7, numL 8, numL 9, numL 10]
def names : List Str := sSlash :: sD :: kids
def scanD (p : Str) : Decidable (Scan p) := by unfold Scan; infer_instance
def scanB (p : Str) : Bool := @decide (Scan p) (scanD p)
theorem scanB_ok {p : Str} (h : scanB p = true) : Scan p := @of_decide_eq_true (Scan p) (scanD p) h
theorem kids_nm : ∀ p ∈ kids, Nm p ∧ fpar p = sD := by
  have : ∀ p ∈ kids, scanB p = true ∧ p ≠ sSlash ∧ (¬ Txt.rfind p sSlash < 0) ∧ (fdir p).length ≤ 1000 ∧ scanB (fpar p) = true ∧ (fpar p).length + (flast p).length ≤ 1000 ∧ fjoin (fpar p) (flast p) = p ∧ p.length ≤ 100 ∧ fpar p = sD := by decide +kernel
  intro p hp
  obtain ⟨a, b, c, d, e, f, g, h, i⟩ := this p hp
  exact ⟨⟨scanB_ok a, b, c, d, scanB_ok e, f, g, h⟩, i⟩
theorem names_sub : ∀ p ∈ kids, ∀ n ∈ names, n ≠ p → Txt.slice n none (some ((p.length : Int) + 1)) ≠ p ++ sSlash := by decide +kernel
theorem kids_tail : ∀ p ∈ kids, ∀ q ∈ kids, q ++ Txt.slice p (some (p.length : Int)) none = q := by decide +kernel
def bnB (y : Str) : Bool := decide (y.length ≤ 1000) && (figs sF y).cps.toList.all (· < 128) && decide ((figs sF y).length ≤ 1000) && decide (figs sF y ≠ ⟨#[]⟩ → 0 < (figs sF y).length) && digsOk (figs sF y).cps.toList 0
theorem names_bn : ∀ n ∈ names, ∀ y, under sDs n = some y → BN y := by
  have : names.all (fun n => match under sDs n with | some y => bnB y | none => true) = true := by decide +kernel
  intro n hn y hy
  have := List.all_eq_true.mp this n hn
  rw [hy] at this
  have this : bnB y = true := this
  unfold bnB at this
  simp only [Bool.and_eq_true, decide_eq_true_eq] at this
  obtain ⟨⟨⟨⟨a, b⟩, c⟩, d⟩, e⟩ := this
  exact ⟨a, by rw [← Array.all_toList]; exact b, c, d, e⟩
/-- the tree as the law keeps it -/
structure Okv (v : Vw) : Prop where
  dir : alook sD v = some (none, true)
  len : v.length ≤ 30
  sub : ∀ q ∈ v, q.1 ∈ names
theorem vw_look (T : Tree) (p : Str) : alook p T.vw = (look p T.L).map Ent.vw := by rw [look_eq]; exact alook_mapV _ _ _
theorem vDir {T : Tree} {p : Str} {w : Bool} (h : alook p T.vw = some (none, w)) : ∃ E, look p T.L = some E ∧ E.dir = true ∧ E.wr = w := by
  rw [vw_look] at h
  cases e : look p T.L with
  | none => rw [e] at h; cases h
  | some E =>
    rw [e] at h
    have h : (if E.dir = true then (Option.none : Option (List Int)) else some E.ns, E.wr) = (none, w) := Option.some.inj h
    refine ⟨E, rfl, ?_, congrArg Prod.snd h⟩
    cases hd : E.dir with
    | true => rfl
    | false => rw [hd] at h; cases congrArg Prod.fst h
theorem vFile {T : Tree} {p : Str} {w : Bool} {ns : List Int} (h : alook p T.vw = some (some ns, w)) : ∃ E, look p T.L = some E ∧ E.dir = false ∧ E.ns = ns ∧ E.wr = w := by
  rw [vw_look] at h
  cases e : look p T.L with
  | none => rw [e] at h; cases h
  | some E =>
    rw [e] at h
    have h : (if E.dir = true then (Option.none : Option (List Int)) else some E.ns, E.wr) = (some ns, w) := Option.some.inj h
    cases hd : E.dir with
    | true => rw [hd] at h; cases congrArg Prod.fst h
    | false => rw [hd] at h; exact ⟨E, rfl, hd, Option.some.inj (congrArg Prod.fst h), congrArg Prod.snd h⟩
theorem vNone {T : Tree} {p : Str} (h : alook p T.vw = none) : look p T.L = none := by
  rw [vw_look] at h
  cases e : look p T.L with
  | none => rfl
  | some E => rw [e] at h; cases h
theorem Okv.names {T : Tree} (h : Okv T.vw) : ∀ n ∈ T.L, n.1 ∈ names := fun n hn => h.sub (n.1, n.2.vw) (List.mem_map.mpr ⟨n, hn, rfl⟩)
theorem Okv.lenL {T : Tree} (h : Okv T.vw) : T.L.length ≤ 30 := by have := h.len; unfold Tree.vw mapV at this; rwa [List.length_map] at this
/-- write, at the law's names -/
theorem w_write (t a : Addr) (T : Tree) (H : HL) (A : TreeAt H t T) (O : Okv T.vw) (p : Str) (hp : p ∈ kids) (ns : List Int) (ha : H a = some (.flist (ns.map V.int))) (hl : ns.length ≤ 100) (hc : (∃ ms, alook p T.vw = some (some ms, true)) ∨ alook p T.vw = none) :
    Fn 6 311 [.ref t, .str p, .ref a] H fun v H' => v = .none ∧ Did H t T (aput p (some ns, true) T.vw) H' := by
  obtain ⟨hN, hpar⟩ := kids_nm p hp
  refine fn_write t a T H A p hN ns ha hl ?_
  rcases hc with ⟨ms, h⟩ | h
  · obtain ⟨E, h1, h2, _, h3⟩ := vFile h; exact .inl ⟨E, h1, h2, h3⟩
  · obtain ⟨E, h1, h2, h3⟩ := vDir O.dir
    exact .inr ⟨vNone h, Nat.le_trans O.lenL (by decide), E, by rw [hpar]; exact h1, h2, h3⟩
theorem w_copy (t : Addr) (T : Tree) (H : HL) (A : TreeAt H t T) (O : Okv T.vw) (p q : Str) (hp : p ∈ kids) (hq : q ∈ kids) (ms : List Int) (w : Bool) (hf : alook p T.vw = some (some ms, w)) (hc : (∃ ms, alook q T.vw = some (some ms, true)) ∨ alook q T.vw = none) :
    Fn 7 365 [.ref t, .str p, .str q, .bool true] H fun v H' => v = .none ∧ Did H t T (aput q (some ms, true) T.vw) H' := by
  obtain ⟨hN, hpar⟩ := kids_nm q hq
  obtain ⟨E, h1, h2, rfl, _⟩ := vFile hf
  refine fn_copy t T H A p q (kids_nm p hp).1 hN E h1 h2 ?_
  rcases hc with ⟨ms, h⟩ | h
  · obtain ⟨E, h1, h2, _, h3⟩ := vFile h; exact .inl ⟨E, h1, h2, h3⟩
  · obtain ⟨E, h1, h2, h3⟩ := vDir O.dir
    exact .inr ⟨vNone h, Nat.le_trans O.lenL (by decide), E, by rw [hpar]; exact h1, h2, h3⟩
theorem w_rename (t : Addr) (T : Tree) (H : HL) (A : TreeAt H t T) (O : Okv T.vw) (p q : Str) (hp : p ∈ kids) (hq : q ∈ kids) (hpq : p ≠ q) (ms : List Int) (w : Bool) (hf : alook p T.vw = some (some ms, w)) (hc : (∃ ms w, alook q T.vw = some (some ms, w)) ∨ alook q T.vw = none) :
    Fn 6 358 [.ref t, .str p, .str q, .bool true] H fun v H' => v = .none ∧ Did H t T (aput q (some ms, w) (adel p T.vw)) H' := by
  obtain ⟨hN, hpar⟩ := kids_nm p hp
  obtain ⟨hN', hpar'⟩ := kids_nm q hq
  obtain ⟨E, h1, h2, rfl, rfl⟩ := vFile hf
  obtain ⟨E', g1, g2, g3⟩ := vDir O.dir
  have := fn_rename t T H A p q hN hN' hpq (kids_tail p hp q hq) E h1 h2 (fun n hn hne => names_sub p hp n.1 (O.names n hn) hne) (fun F hF => ?_) E' (by rw [hpar]; exact g1) g2 g3 E' (by rw [hpar']; exact g1) g2 g3
  · unfold Ent.vw at this; rw [h2] at this; exact this
  · rcases hc with ⟨ms, w, h⟩ | h
    · obtain ⟨E, h1, h2, _, h3⟩ := vFile h; rw [h1] at hF; cases hF; exact h2
    · rw [vNone h] at hF; cases hF
theorem w_delete (t : Addr) (T : Tree) (H : HL) (A : TreeAt H t T) (O : Okv T.vw) (p : Str) (hp : p ∈ kids) (ms : List Int) (w : Bool) (hf : alook p T.vw = some (some ms, w)) :
    Fn 6 346 [.ref t, .str p] H fun v H' => v = .none ∧ Did H t T (adel p T.vw) H' := by
  obtain ⟨hN, hpar⟩ := kids_nm p hp
  obtain ⟨E, h1, h2, _, _⟩ := vFile hf
  obtain ⟨E', g1, g2, g3⟩ := vDir O.dir
  exact fn_delete t T H A p hN E h1 h2 E' (by rw [hpar]; exact g1) g2 g3
theorem w_make_directory (t : Addr) (T : Tree) (H : HL) (A : TreeAt H t T) (O : Okv T.vw) (p : Str) (hp : p ∈ kids) (hf : alook p T.vw = none) :
    Fn 6 332 [.ref t, .str p] H fun v H' => v = .none ∧ Did H t T (aput p (none, true) T.vw) H' := by
  obtain ⟨hN, hpar⟩ := kids_nm p hp
  obtain ⟨E', g1, g2, g3⟩ := vDir O.dir
  exact fn_make_directory t T H A p hN (vNone hf) (Nat.le_trans O.lenL (by decide)) E' (by rw [hpar]; exact g1) g2 g3
end Mine
end
section
open PySem PySem.W PyProof.Rows PySem.Calls
set_option maxHeartbeats 1000000
namespace Mine
abbrev nCodes : Str := ⟨#[99, 111, 100, 101, 115]⟩
abbrev nManner : Str := ⟨#[109, 97, 110, 110, 101, 114]⟩
theorem mem_names_of_kid {p : Str} (h : p ∈ kids) : p ∈ names := .tail _ (.tail _ h)
theorem pF_kid : pF ∈ kids := .head _
theorem pB_kid : pB ∈ kids := .tail _ (.head _)
theorem pT_kid : pT ∈ kids := .tail _ (.tail _ (.head _))
theorem sD_ne : ∀ p ∈ kids, sD ≠ p := by decide +kernel
theorem Okv.put {v : Vw} (h : Okv v) {p : Str} (hp : p ∈ kids) (x : Option (List Int) × Bool) (hl : v.length ≤ 29) : Okv (aput p x v) := by
  refine ⟨?_, Nat.le_trans aput_len (by omega), fun q hq => ?_⟩
  · rw [alook_aput, if_neg (sD_ne p hp)]; exact h.dir
  · rcases mem_aput hq with rfl | ⟨hq, _⟩
    · exact mem_names_of_kid hp
    · exact h.sub q hq
theorem Okv.del {v : Vw} (h : Okv v) {p : Str} (hp : p ∈ kids) : Okv (adel p v) := by
  refine ⟨?_, Nat.le_trans (List.length_filter_le _ _) h.len, fun q hq => h.sub q (List.mem_filter.mp hq).1⟩
  rw [alook_adel, if_neg (sD_ne p hp)]; exact h.dir
theorem fn_spare_name (t : Addr) (T : Tree) (H : HL) (A : TreeAt H t T) (hN : look pT T.L = none) : Fn 5 130 [.ref t, .str pF] H fun v H' => H' = H ∧ v = .str pT := by
  refine Fn.body X_spare_name (fun _ _ _ _ _ _ => rfl) D_spare_name (ps := [nTree, nName]) (fun s name pm us hu => ?_) (by decide +kernel) rfl rfl fun w h₀ L A' os => ?_
  · obtain ⟨u, u2, rfl⟩ := len2 hu; exact BindsTo.of_eq rfl
  · refine B.cons (S.forRange 2 0 rfl rfl (B_range w) (W.cInt ?_))
    refine ⟨1000, rfl, by decide, trivial, fun it o hi => ?_⟩
    have A2 := A.down (o := .raw o) hi
    refine B.cons (S.assign 3 rfl (W.addStr (W.addStr (W.var 1 rfl rfl (W.cStr ⟨_, _, rfl, rfl, Nat.le_of_ble_eq_true rfl, ?_⟩)))))
    refine W.tcall 1 rfl (B_str w) (WA.cons (W.var 2 rfl rfl (WA.nil (CB.strInt (by decide) ?_))))
    have e : (pF ++ ⟨#[46, 116, 109, 112]⟩ ++ Str.ofString (toString ((0 : Nat) : Int))) = pT := by decide +kernel
    refine ⟨_, _, rfl, rfl, by decide +kernel, ?_⟩
    refine B.cons (S.ite (WT.not (WT.val (W.mcall (W.var 0 rfl rfl ?_)))))
    refine ⟨t, 375, _, 234, 4, rfl, A2.t, M_FileTree_is_there w, rfl, Nat.le_of_ble_eq_true rfl, WA.cons (W.var 3 rfl rfl (WA.nil ?_))⟩
    refine Fn.read (u := .bool false) ?_ (Nat.le_refl _) ⟨_, rfl, ?_⟩
    · have := fn_is_there t T pT _ A2 (kids_nm pT pT_kid).1.sc
      rw [hN] at this
      rw [← e] at this
      exact this
    refine iteT rfl (B.cons (S.ret (W.var 3 rfl rfl ?_)))
    exact ⟨H, HL.le_set hi, rfl, congrArg V.str e⟩
theorem fn_write_precious (t a : Addr) (T : Tree) (H : HL) (A : TreeAt H t T) (O : Okv T.vw) (hz : T.vw.length ≤ 28) (ns : List Int) (ha : H a = some (.flist (ns.map V.int))) (hl : ns.length ≤ 100) (hN : alook pT T.vw = none) (hc : (∃ ms w, alook pF T.vw = some (some ms, w)) ∨ alook pF T.vw = none) :
    Fn 7 137 [.ref t, .str pF, .ref a] H fun v H' => v = .none ∧ Did H t T (aput pF (some ns, true) (adel pT (aput pT (some ns, true) T.vw))) H' := by
  refine Fn.body X_write_precious (fun _ _ _ _ _ _ => rfl) D_write_precious (ps := [nTree, nName, nCodes]) (fun s name pm us hu => ?_) (by decide +kernel) rfl rfl fun w h₀ L A' os => ?_
  · obtain ⟨u, u2, u3, rfl⟩ := len3 hu; exact BindsTo.of_eq rfl
  · refine B.cons (S.assign 3 rfl (W.call (k := 5) 0 rfl (G_spare_name w) (Nat.le_of_ble_eq_true rfl) (WA.cons (W.var 0 rfl rfl (WA.cons (W.var 1 rfl rfl (WA.nil (Fn.read (fn_spare_name t T H A (vNone hN)) (Nat.le_refl _) ?_))))))))
    refine B.cons (S.expr (W.mcall (W.var 0 rfl rfl ?_)))
    refine ⟨t, 375, _, 311, 6, rfl, A.t, M_FileTree_write w, rfl, Nat.le_of_ble_eq_true rfl, WA.cons (W.var 3 rfl rfl (WA.cons (W.var 2 rfl rfl (WA.nil (Fn.mono (w_write t a T H A O pT pT_kid ns ha hl (.inr hN)) (Nat.le_refl _) ?_)))))⟩
    rintro _ H1 ⟨rfl, T1, A1, e1, v1, f1⟩
    have O1 : Okv T1.vw := by rw [v1]; exact O.put pT_kid _ (by omega)
    refine B.cons (S.expr (W.mcall (W.var 0 rfl rfl ?_)))
    refine ⟨t, 375, _, 358, 6, rfl, A1.t, M_FileTree_rename w, rfl, Nat.le_of_ble_eq_true rfl, WA.cons (W.var 3 rfl rfl (WA.cons (W.var 1 rfl rfl (WA.cons (W.cBool (WA.nil (Fn.mono (w_rename t T1 H1 A1 O1 pT pF pT_kid pF_kid (by decide) ns true ?_ ?_) (Nat.le_refl _) ?_)))))))⟩
    · rw [v1, alook_aput, if_pos rfl]
    · rw [v1, alook_aput, if_neg (by decide)]; exact hc
    rintro _ H2 ⟨rfl, T2, A2, e2, v2, f2⟩
    exact B.nil ⟨rfl, T2, A2, e2.trans e1, by rw [v2, v1], f1.trans f2 e1⟩
end Mine
end
section
open PySem PySem.W PyProof.Rows PySem.Calls
set_option maxHeartbeats 1000000
namespace Mine
abbrev nNumbered : Str := ⟨#[110, 117, 109, 98, 101, 114, 101, 100, 95, 110, 97, 109, 101]⟩
abbrev nOwn : Str := ⟨#[111, 119, 110]⟩
structure Man where
  way : Int
  cp : Bool
  old : Int
  new : Int
  pr : Bool
abbrev sWants : Str := ⟨#[119, 97, 110, 116, 115, 95, 110, 101, 119, 108, 105, 110, 101]⟩
abbrev sBackups : Str := ⟨#[98, 97, 99, 107, 117, 112, 115]⟩
abbrev sCopying : Str := ⟨#[105, 115, 95, 99, 111, 112, 121, 105, 110, 103]⟩
abbrev sOldest : Str := ⟨#[111, 108, 100, 101, 115, 116]⟩
abbrev sNewest : Str := ⟨#[110, 101, 119, 101, 115, 116]⟩
abbrev sPrecious : Str := ⟨#[105, 115, 95, 112, 114, 101, 99, 105, 111, 117, 115]⟩
noncomputable def mF (m : Man) : List (Str × V) := [(sWants, .bool false), (sBackups, .int m.way), (sCopying, .bool m.cp), (sOldest, .int m.old), (sNewest, .int m.new), (sPrecious, .bool m.pr)]
theorem fn_Manner_init (x : Addr) (m : Man) (H : HL) (hx : H x = some (.inst 100 [])) : Fn 1 97 [.ref x, .bool false, .int m.way, .bool m.cp, .int m.old, .int m.new, .bool m.pr] H fun v H' => v = .none ∧ H' = H.set x (.inst 100 (mF m)) := by
  refine Fn.body X_Manner_init (fun _ _ _ _ _ _ => rfl) D_Manner_init (ps := [nSelf, sWants, sBackups, sCopying, sOldest, sNewest, sPrecious]) (fun s name pm us hu => ?_) (by decide +kernel) rfl rfl fun w h₀ L A' os => ?_
  · obtain ⟨u, u2, u3, u4, u5, u6, u7, rfl⟩ := len7 hu; exact BindsTo.of_eq rfl
  · refine B.cons (S.setAttr (W.var 1 rfl rfl (W.var 0 rfl rfl ?_)))
    refine ⟨x, 100, _, rfl, hx, S_wants_newline100 w, Nat.le_of_ble_eq_true rfl, ?_⟩
    refine B.cons (S.setAttr (W.var 2 rfl rfl (W.var 0 rfl rfl ?_)))
    refine ⟨x, 100, _, rfl, HL.set_self, S_backups100 w, Nat.le_of_ble_eq_true rfl, ?_⟩
    refine B.cons (S.setAttr (W.var 3 rfl rfl (W.var 0 rfl rfl ?_)))
    refine ⟨x, 100, _, rfl, HL.set_self, S_is_copying100 w, Nat.le_of_ble_eq_true rfl, ?_⟩
    refine B.cons (S.setAttr (W.var 4 rfl rfl (W.var 0 rfl rfl ?_)))
    refine ⟨x, 100, _, rfl, HL.set_self, S_oldest100 w, Nat.le_of_ble_eq_true rfl, ?_⟩
    refine B.cons (S.setAttr (W.var 5 rfl rfl (W.var 0 rfl rfl ?_)))
    refine ⟨x, 100, _, rfl, HL.set_self, S_newest100 w, Nat.le_of_ble_eq_true rfl, ?_⟩
    refine B.cons (S.setAttr (W.var 6 rfl rfl (W.var 0 rfl rfl ?_)))
    refine ⟨x, 100, _, rfl, HL.set_self, S_is_precious100 w, Nat.le_of_ble_eq_true rfl, B.nil ⟨rfl, ?_⟩⟩
    rw [HL.set_set, HL.set_set, HL.set_set, HL.set_set, HL.set_set]; rfl
def islice (l : List Int) (lo hi : Option Int) : List Int := ((sliceRange (sliceBounds lo hi none l.length).1 (sliceBounds lo hi none l.length).2.1 (sliceBounds lo hi none l.length).2.2).filterMap (l[·]?))
theorem lslice_ints (l : List Int) (lo hi : Option Int) : lslice (l.map V.int) lo hi = (islice l lo hi).map V.int := by
  unfold lslice islice
  rw [List.length_map, List.map_filterMap]
  congr 1
  funext i
  rw [List.getElem?_map]
def every (nb : List Int) : List Int := nb ++ [match nb.getLast? with | some k => k + 1 | none => 1]
def plan (m : Man) (nb : List Int) : Str × List Str :=
  if m.way = 0 then (⟨#[]⟩, []) else if m.way = 1 ∨ (m.way = 3 ∧ nb = []) then (pB, []) else
    (num pF (match nb.getLast? with | some k => k + 1 | none => 1), (islice (every nb) (some m.old) (some (let a := ((every nb).length : Int) - (if m.new > 1 then m.new else 1); if a > m.old then a else m.old))).map (num pF))
def GivesPlan (H : HL) (pl : Str × List Str) (v : V) (H' : HL) : Prop := ∃ a b, v = .ref a ∧ H' a = some (.tup [.str pl.1, .ref b]) ∧ H' b = some (.list (pl.2.map V.str)) ∧ (∀ x y, H x = some y → H' x = some y)
theorem TS.nil {X : Cx} {vs : List (Option V)} {H : HL} {P : Bool → HL → Prop} (h : P true H) : TS X vs H [] P := h
theorem S.test {X : Cx} {vs : List (Option V)} {H : HL} {t : Expr} {b o : List Stmt} {pos : Pos} {P : Fl → List (Option V) → HL → Prop} (c0 : Bool) (h : WT X vs H t fun c H1 => c = c0 ∧ ∀ x y, H x = some y → H1 x = some y) (k : if c0 = true then B X vs H b P else B X vs H o P) : S X vs H (.If t b o pos) P := S.ite (WT.mono h fun c H1 ⟨e1, le⟩ => by
  subst e1
  cases c
  · unfold IT; rw [if_neg (by decide)] at k ⊢; exact B.less (.of le) k
  · unfold IT; rw [if_pos rfl] at k ⊢; exact B.less (.of le) k)
theorem fn_backup_plan (t g : Addr) (T : Tree) (H : HL) (A : TreeAt H t T) (O : Okv T.vw) (m : Man) (hg : H g = some (.inst 100 (mF m))) (hm : 0 ≤ m.old ∧ m.old ≤ 2 ∧ 0 ≤ m.new ∧ m.new ≤ 2) (nb : List Int) (hnb : ∀ ns' : List Int, ns'.Perm (nums (unders sDs T.L)) → ns'.Pairwise (· ≤ ·) → ns' = nb) (hle : nb.length ≤ 3) (hk : ∀ k ∈ every nb, 0 ≤ k ∧ k ≤ 10) (hil : (plan m nb).2.length ≤ 100) :
    Fn 7 116 [.ref t, .str pF, .ref g] H (GivesPlan H (plan m nb)) := by
  obtain ⟨E, hE, hEd, _⟩ := vDir O.dir
  refine Fn.body1 X_backup_plan (fun _ _ _ _ _ _ => rfl) D_backup_plan (ps := [nTree, nName, nManner]) (cn := nName) (c0 := some (.str pF)) (vs0 := [some (.ref t), some (.ref g), none, none, none, none]) (fun s name pm us hu => ?_) (fun n => by kernel_rfl) (by decide +kernel) (by decide +kernel) (fun us hu => ?_) fun w h₀ L A' os hLn => ?_
  · obtain ⟨u, u2, u3, rfl⟩ := len3 hu; exact BindsTo.of_eq rfl
  · obtain ⟨u, u2, u3, rfl, hu1, hu2, hu3⟩ := vrs3 hu
    refine ⟨fun i n v hi hv => ?_, u2, by kernel_rfl, hu2⟩
    rcases i with _ | _ | _ | _ | _ | _ | i
    · cases hi; cases hv; exact ⟨u, by kernel_rfl, hu1⟩
    · cases hi; cases hv; exact ⟨u3, by kernel_rfl, hu3⟩
    all_goals cases hv
  · have AL : TreeAt (H.set (L + 1) (.cell (some (.str pF)))) t T := A.down hLn
    have hgL := HL.le_set (o := .cell (some (.str pF))) hLn _ _ hg
    have leL := HL.le_set (o := .cell (some (.str pF))) hLn
    generalize hH0 : H.set (L + 1) (.cell (some (.str pF))) = H0 at AL hgL leL ⊢
    have hcell : H0 (L + 1) = some (.cell (some (.str pF))) := by rw [← hH0]; exact HL.set_self
    unfold plan at hil ⊢
    refine B.cons (S.ite (WT.cmpv (W.attr (W.var 1 rfl rfl ?_))))
    refine ⟨g, 100, _, _, rfl, hgL, F_backups100 w, rfl, W.gint 0 rfl (I_NEVER w) ⟨_, rfl, ?_⟩⟩
    by_cases h0 : m.way = 0
    · refine iteT (beq_iff_eq.mpr h0) (B.cons (S.ret (W.tuple (WA.cons (W.cStr (WA.cons (W.list (WA.nil ⟨by decide, fun b hb => WA.nil ⟨Nat.le_of_ble_eq_true rfl, fun a ha => ?_⟩⟩))))))))
      rw [if_pos h0]
      have hab : b ≠ a := fun e => by rw [← e, HL.set_self] at ha; cases ha
      exact ⟨a, b, rfl, HL.set_self, by rw [HL.set_ne hab]; exact HL.set_self, fun x y e => HL.le_set ha _ _ (HL.le_set hb _ _ (leL _ _ e))⟩
    refine iteF (beq_eq_false_iff_ne.mpr h0) (B.nil ?_)
    rw [if_neg h0] at hil ⊢
    refine B.cons (S.assign 2 rfl (W.call (k := 6) 1 rfl (G_numbers_there w) (Nat.le_of_ble_eq_true rfl) (WA.cons (W.var 0 rfl rfl (WA.cons (W.cvar (c := L + 1) (by kernel_rfl) (by kernel_rfl) (by rfl) hcell (WA.nil (Fn.mono (fn_numbers_there t T H0 AL E hE hEd fun y hy => ?_) (Nat.le_refl _) ?_))))))))
    · obtain ⟨n, hn, hu⟩ := List.mem_filterMap.mp hy
      exact names_bn n.1 (O.names n hn) y hu
    rintro _ _ ⟨d, ns', rfl, hd, rfl, hp, hs⟩
    obtain rfl := hnb ns' hp hs
    have A1 := AL.down (o := .list (ns'.map V.int)) hd
    have hc1 := HL.le_set (o := .list (ns'.map V.int)) hd _ _ hcell
    have hg1 := HL.le_set (o := .list (ns'.map V.int)) hd _ _ hgL
    have le1 : ∀ x y, H x = some y → (H0.set d (.list (ns'.map V.int))) x = some y := fun x y e => HL.le_set hd _ _ (leL _ _ e)
    have hd1 : (H0.set d (.list (ns'.map V.int))) d = some (.list (ns'.map V.int)) := HL.set_self
    generalize H0.set d (.list (ns'.map V.int)) = H1 at A1 hc1 hg1 le1 hd1 ⊢
    refine B.cons (S.test (decide (m.way = 1 ∨ (m.way = 3 ∧ ns' = []))) (WT.or (WT.cmpv (W.attr (W.var 1 rfl rfl ?_)))) ?_)
    · refine ⟨g, 100, _, _, rfl, hg1, F_backups100 w, rfl, W.gint 2 rfl (I_SINGLE w) ⟨_, rfl, ?_⟩⟩
      by_cases h1 : m.way = 1
      · exact iteT (beq_iff_eq.mpr h1) ⟨(decide_eq_true (.inl h1)).symm, fun _ _ e => e⟩
      refine iteF (beq_eq_false_iff_ne.mpr h1) (WT.or (WT.and (WT.cmpv (W.attr (W.var 1 rfl rfl ?_)))))
      refine ⟨g, 100, _, _, rfl, hg1, F_backups100 w, rfl, W.gint 3 rfl (I_AS_BEFORE w) ⟨_, rfl, ?_⟩⟩
      by_cases h3 : m.way = 3
      · refine iteT (beq_iff_eq.mpr h3) (WT.and (WT.eqInts (W.var 2 rfl rfl (W.list (WA.nil ⟨by decide, fun b hb => ?_⟩)))))
        refine ⟨d, b, ns', [], rfl, rfl, HL.le_set hb _ _ hd1, HL.set_self, ?_⟩
        by_cases hn : ns' = []
        · refine iteT (decide_eq_true hn) (WT.andNil (iteT rfl ⟨(decide_eq_true (.inr ⟨h3, hn⟩)).symm, fun _ _ e => HL.le_set hb _ _ e⟩))
        · refine iteF (decide_eq_false hn) (iteF rfl (WT.orNil ⟨(decide_eq_false (by rintro (h | ⟨_, h⟩); exact h1 h; exact hn h)).symm, fun _ _ e => HL.le_set hb _ _ e⟩))
      · exact iteF (beq_eq_false_iff_ne.mpr h3) (iteF rfl (WT.orNil ⟨(decide_eq_false (by rintro (h | ⟨h, _⟩); exact h1 h; exact h3 h)).symm, fun _ _ e => e⟩))
    by_cases hs1 : m.way = 1 ∨ (m.way = 3 ∧ ns' = [])
    · refine iteT (decide_eq_true hs1) ?_
      rw [if_pos hs1]
      refine B.cons (S.ret (W.tuple (WA.cons (W.call (k := 1) 4 rfl (G_backup_name w) (Nat.le_of_ble_eq_true rfl) (WA.cons (W.cvar (c := L + 1) (by kernel_rfl) (by kernel_rfl) (by rfl) hc1 (WA.nil (Fn.read (fn_backup_name pF H1 (Nat.le_of_ble_eq_true rfl)) (Nat.le_refl _) ?_))))))))
      refine WA.cons (W.list (WA.nil ⟨by decide, fun b hb => WA.nil ⟨Nat.le_of_ble_eq_true rfl, fun a ha => ?_⟩⟩))
      have hab : b ≠ a := fun e => by rw [← e, HL.set_self] at ha; cases ha
      refine ⟨a, b, rfl, ?_, by rw [HL.set_ne hab]; exact HL.set_self, fun x y e => HL.le_set ha _ _ (HL.le_set hb _ _ (le1 _ _ e))⟩
      rw [HL.set_self, show pF ++ sTilde = pB from by decide +kernel]
    refine iteF (decide_eq_false hs1) (B.nil ?_)
    rw [if_neg hs1] at hil ⊢
    have hlen : ns'.length ≤ 40 := by omega
    generalize hnum : (match ns'.getLast? with | some k => k + 1 | none => (1 : Int)) = k0
    have hk0 : 0 ≤ k0 ∧ k0 ≤ 10 := hk k0 (by unfold every; rw [hnum]; exact List.mem_append.mpr (.inr (.head _)))
    refine B.seq (P' := fun f vs1 H' => f = .next ∧ vs1 = [some (.ref t), some (.ref g), some (.ref d), some (.int k0), none, none] ∧ ∀ x y, H1 x = some y → H' x = some y) (S.assign 3 rfl (W.ite (WT.neInts (W.var 2 rfl rfl (W.list (WA.nil ⟨by decide, fun b hb => ?_⟩)))))) ?_
    · refine ⟨d, b, ns', [], rfl, rfl, HL.le_set hb _ _ hd1, HL.set_self, ?_⟩
      by_cases hn : ns' = []
      · refine iteF (by rw [decide_eq_true hn]; rfl) (W.cInt ⟨rfl, ?_, fun _ _ e => HL.le_set hb _ _ e⟩)
        subst hn
        rw [← hnum]; rfl
      · refine iteT (by rw [decide_eq_false hn]; rfl) (W.binv (W.llast (W.var 2 rfl rfl (W.neg (W.cInt ⟨1, rfl, ?_⟩)))))
        obtain ⟨z, hz⟩ : ∃ z, ns'.getLast? = some z := by
          cases hq : ns'.getLast? with
          | none => exact absurd (List.getLast?_eq_none_iff.mp hq) hn
          | some z => exact ⟨z, rfl⟩
        refine ⟨d, ns'.map V.int, .int z, rfl, rfl, HL.le_set hb _ _ hd1, by rw [List.length_map]; omega, by rw [List.getLast?_map, hz]; rfl, ?_⟩
        refine W.cInt ⟨_, rfl, rfl, ?_, fun _ _ e => HL.le_set hb _ _ e⟩
        rw [hz] at hnum
        rw [← hnum]; rfl
    rintro _ _ H' ⟨rfl, rfl, le⟩
    refine B.less (H' := H1) (.of le) ?_
    refine B.cons (S.assign 4 rfl (W.addList (W.var 2 rfl rfl (W.list (WA.cons (W.var 3 rfl rfl (WA.nil ⟨Nat.le_of_ble_eq_true rfl, fun b hb => ?_⟩)))))))
    refine ⟨d, b, ns'.map V.int, [.int k0], rfl, rfl, HL.le_set hb _ _ hd1, HL.set_self, by rw [List.length_map]; show ns'.length + 1 ≤ 1000; omega, fun e he => ?_⟩
    have heb : e ≠ b := fun q => by rw [q, HL.set_self] at he; cases he
    have he1 : H1 e = none := by rwa [HL.set_ne heb] at he
    have hev : ns'.map V.int ++ [.int k0] = (every ns').map V.int := by unfold every; rw [hnum, List.map_append]; rfl
    rw [hev]
    refine B.less (H' := H1.set e (.list ((every ns').map V.int))) (.of fun x y q => ?_) ?_
    · by_cases h : x = e
      · subst h; rw [HL.set_self] at q ⊢; exact q
      · rw [HL.set_ne h] at q ⊢; exact HL.le_set hb _ _ q
    have le2 := HL.le_set (o := .list ((every ns').map V.int)) he1
    have hee : (H1.set e (.list ((every ns').map V.int))) e = some (.list ((every ns').map V.int)) := HL.set_self
    generalize H1.set e (.list ((every ns').map V.int)) = H2 at le2 hee ⊢
    have hevl : (every ns').length = ns'.length + 1 := by unfold every; rw [List.length_append]; rfl
    refine B.cons (S.assign 5 rfl (W.bcall 5 rfl (B_max w) (WA.cons (W.attr (W.var 1 rfl rfl ?_)))))
    refine ⟨g, 100, _, _, rfl, le2 _ _ hg1, F_oldest100 w, rfl, WA.cons (W.binv (W.bcall 6 rfl (B_len w) (WA.cons (W.var 4 rfl rfl (WA.nil (CB.lenList hee (by rw [List.length_map]; omega) ?_))))))⟩
    refine W.bcall 5 rfl (B_max w) (WA.cons (W.cInt (WA.cons (W.attr (W.var 1 rfl rfl ?_)))))
    refine ⟨g, 100, _, _, rfl, le2 _ _ hg1, F_newest100 w, rfl, WA.nil (CB.max2 ⟨_, rfl, WA.nil (CB.max2 ?_)⟩)⟩
    rw [List.length_map]
    have hc2 := le2 _ _ hc1
    generalize hlast : (if _ > m.old then _ else m.old) = last
    have strOk : ∀ k : Int, 0 ≤ k → k ≤ 10 → k.natAbs.log2 < 1920 ∧ (Str.ofString (toString k)).length ≤ 100 := by
      have : ∀ k ≤ 10, ((k : Nat) : Int).natAbs.log2 < 1920 ∧ (Str.ofString (toString ((k : Nat) : Int))).length ≤ 100 := by decide +kernel
      intro k h0 h1
      have e : ((k.toNat : Nat) : Int) = k := Int.toNat_of_nonneg h0
      have := this k.toNat (by omega)
      rwa [e] at this
    refine B.cons (S.ret (W.tuple (WA.cons (W.call (k := 1) 7 rfl (G_numbered_name w) (Nat.le_of_ble_eq_true rfl) (WA.cons (W.cvar (c := L + 1) (by kernel_rfl) (by kernel_rfl) (by rfl) hc2 (WA.cons (W.var 3 rfl rfl (WA.nil (Fn.read (fn_numbered_name pF k0 H2 (Nat.le_of_ble_eq_true rfl) (strOk k0 hk0.1 hk0.2).1 (strOk k0 hk0.1 hk0.2).2) (Nat.le_refl _) ?_))))))))))
    refine WA.cons (W.comp [nNumbered] (cl := [(nName, L + 1)]) ?K (W.sliceList (W.var 4 rfl rfl ?_)))
    case K => exact ⟨by kernel_rfl, by decide +kernel, by kernel_rfl, by decide +kernel, by kernel_rfl, by kernel_rfl, by
      intro n hn
      have : n = nNumbered := List.mem_singleton.mp hn
      subst this
      exact ⟨by kernel_rfl, by kernel_rfl⟩⟩
    refine ⟨e, rfl, W.attr (W.var 1 rfl rfl ?_)⟩
    refine ⟨g, 100, _, _, rfl, le2 _ _ hg1, F_oldest100 w, rfl, m.old, rfl, W.var 5 rfl rfl ⟨last, rfl, _, hee, by rw [List.length_map]; omega, fun d3 hd3 => ?_⟩⟩
    rw [lslice_ints]
    refine ⟨d3, _, rfl, HL.set_self, fun D h₀' C hD => ?_⟩
    have hD3 : D ≠ d3 := fun q => by rw [q, HL.set_self] at hD; cases hD
    have hc3 := HL.le_set (o := .list ((islice (every ns') (some m.old) (some last)).map V.int)) hd3 _ _ hc2
    have le3 := HL.le_set (o := .list ((islice (every ns') (some m.old) (some last)).map V.int)) hd3
    have hl3 : (H2.set d3 (.list ((islice (every ns') (some m.old) (some last)).map V.int))) d3 = some (.list ((islice (every ns') (some m.old) (some last)).map V.int)) := HL.set_self
    have hsub : ∀ k ∈ islice (every ns') (some m.old) (some last), k ∈ every ns' := fun k hk => by
      unfold islice at hk
      obtain ⟨i, _, hi⟩ := List.mem_filterMap.mp hk
      exact List.mem_of_getElem? hi
    have hil' : (islice (every ns') (some m.old) (some last)).length ≤ 100 := by
      rw [← hlast]
      rw [List.length_map] at hil
      exact hil
    refine CompL.inv (I := fun r H' => ∃ done rest, islice (every ns') (some m.old) (some last) = done ++ rest ∧ r = rest.map V.int ∧ H' = (H2.set d3 (.list ((islice (every ns') (some m.old) (some last)).map V.int))).set D (.list (done.map fun k => V.str (num pF k)))) ?_ ?_ ?_ _ _ ⟨[], _, rfl, rfl, rfl⟩
    · rintro _ _ ⟨done, rest, _, _, rfl⟩; rw [HL.set_ne hD3.symm]; exact hl3
    · rintro _ ⟨done, rest, e1, er, rfl⟩
      have : rest = [] := by cases rest with | nil => rfl | cons q r => cases er
      subst this
      rw [List.append_nil] at e1
      refine WA.nil ⟨Nat.le_of_ble_eq_true rfl, fun a ha => ?_⟩
      have hDa : D ≠ a := fun q => by rw [← q, HL.set_self] at ha; cases ha
      refine ⟨a, D, rfl, HL.set_self, ?_, fun x y q => HL.le_set ha _ _ (HL.le_set hD _ _ (le3 _ _ (le2 _ _ (le1 _ _ q))))⟩
      rw [HL.set_ne hDa, HL.set_self, ← e1]
      show some (Mine.O.list _) = some (Mine.O.list (List.map V.str (List.map (num pF) (islice (every ns') (some m.old) (some _)))))
      rw [List.map_map, ← hlast]; rfl
    · rintro v r _ ⟨done, rest, e1, er, rfl⟩ it o hit
      cases rest with
      | nil => cases er
      | cons k rest =>
        obtain ⟨rfl, rfl⟩ : v = V.int k ∧ r = rest.map V.int := List.cons.inj er
        have hkm := hk k (hsub k (by rw [e1]; exact List.mem_append.mpr (.inr (.head _))))
        have hdl : done.length ≤ 100 := Nat.le_trans (by rw [e1, List.length_append]; omega) hil'
        have hiD : it ≠ D := fun q => by rw [q, HL.set_self] at hit; cases hit
        have hcD := HL.le_set (o := .raw o) hit _ _ (show ((H2.set d3 (.list ((islice (every ns') (some m.old) (some last)).map V.int))).set D (.list (done.map fun k => V.str (num pF k)))) (L + 1) = some (.cell (some (.str pF))) from by
          rw [HL.set_ne (fun q => by rw [← q, hc3] at hD; cases hD)]; exact hc3)
        refine TS.nil ?_
        refine iteT rfl (W.call (k := 1) 0 rfl (G_numbered_name w) (Nat.le_of_ble_eq_true rfl) (WA.cons (W.cvar (c := L + 1) (by kernel_rfl) (by kernel_rfl) (by rfl) hcD (WA.cons (W.var 0 rfl rfl (WA.nil (Fn.read (fn_numbered_name pF k _ (Nat.le_of_ble_eq_true rfl) (strOk k hkm.1 hkm.2).1 (strOk k hkm.1 hkm.2).2) (Nat.le_refl _) ?_)))))))
        refine ⟨_, done.map fun k => V.str (num pF k), rfl, hit, HL.set_self, by rw [List.length_map]; omega, done ++ [k], rest, by rw [e1, List.append_assoc]; rfl, rfl, ?_⟩
        rw [HL.set_set, List.map_append]; rfl
end Mine
end
section
open PySem PySem.W PyProof.Rows PySem.Calls
set_option maxHeartbeats 1000000
namespace Mine
/-- the view behind a backup, and what make_backup gives back -/
def noBackup (v : Vw) (o : Str) : Bool := decide (o = ⟨#[]⟩) || (match alook o v with | some (none, _) => true | _ => false)
def afterB (m : Man) (v : Vw) (o : Str) (ms : List Int) : Vw := if noBackup v o = true then v else if (m.cp || m.pr) = true then aput o (some ms, true) v else aput o (some ms, true) (adel pF v)
def madeB (v : Vw) (pl : Str × List Str) : Str × List Str := if noBackup v pl.1 = true then (⟨#[]⟩, []) else pl
theorem isDir_vw (T : Tree) (p : Str) : isDir (look p T.L) = (match alook p T.vw with | some (none, _) => true | _ => false) := by
  rw [vw_look]
  cases look p T.L with
  | none => rfl
  | some E => show E.dir = _; unfold Ent.vw; cases h : E.dir <;> simp [h]
theorem fn_make_backup (t g : Addr) (T : Tree) (H : HL) (A : TreeAt H t T) (O : Okv T.vw) (hz : T.vw.length ≤ 26) (m : Man) (hg : H g = some (.inst 100 (mF m))) (hm : 0 ≤ m.old ∧ m.old ≤ 2 ∧ 0 ≤ m.new ∧ m.new ≤ 2) (nb : List Int) (hnb : ∀ ns' : List Int, ns'.Perm (nums (unders sDs T.L)) → ns'.Pairwise (· ≤ ·) → ns' = nb) (hle : nb.length ≤ 3) (hk : ∀ k ∈ every nb, 0 ≤ k ∧ k ≤ 10) (hil : (plan m nb).2.length ≤ 100)
    (ms : List Int) (hF : alook pF T.vw = some (some ms, true)) (hpo : (plan m nb).1 = ⟨#[]⟩ ∨ ((plan m nb).1 ∈ kids ∧ (plan m nb).1 ≠ pF)) (hw : ∀ q ns w, alook q T.vw = some (ns, w) → w = true) :
    Fn 8 123 [.ref t, .str pF, .ref g] H fun v H' => ∃ a b T', v = .ref a ∧ H' a = some (.tup [.str (madeB T.vw (plan m nb)).1, .ref b]) ∧ H' b = some (.list ((madeB T.vw (plan m nb)).2.map V.str)) ∧ TreeAt H' t T' ∧ T'.e = T.e ∧ T'.vw = afterB m T.vw (plan m nb).1 ms ∧ Frm H H' T := by
  refine Fn.body X_make_backup (fun _ _ _ _ _ _ => rfl) D_make_backup (ps := [nTree, nName, nManner]) (fun s name pm us hu => ?_) (by decide +kernel) rfl rfl fun w h₀ L A' os => ?_
  · obtain ⟨u, u2, u3, rfl⟩ := len3 hu; exact BindsTo.of_eq rfl
  · refine B.cons (S.asTup2 (W.call (k := 7) 0 rfl (G_backup_plan w) (Nat.le_of_ble_eq_true rfl) (WA.cons (W.var 0 rfl rfl (WA.cons (W.var 1 rfl rfl (WA.cons (W.var 2 rfl rfl (WA.nil (Fn.mono (fn_backup_plan t g T H A O m hg hm nb hnb hle hk hil) (Nat.le_refl _) ?_))))))))))
    rintro _ H1 ⟨a, b, rfl, ha, hb, le⟩
    refine ⟨a, _, _, rfl, ha, Sto.loc 3 rfl (Sto.loc 4 rfl ?_)⟩
    have A1 := A.le le
    have f1 : Frm H H1 T := fun x y e _ _ _ => le _ _ e
    generalize plan m nb = pl at hb hpo ⊢
    refine B.cons (S.test (noBackup T.vw pl.1) (WT.or (WT.cmpv (W.var 3 rfl rfl (W.cStr ⟨_, rfl, ?_⟩)))) ?_)
    · unfold noBackup
      by_cases h0 : pl.1 = ⟨#[]⟩
      · exact iteT (beq_iff_eq.mpr h0) ⟨by rw [decide_eq_true h0]; rfl, fun _ _ e => e⟩
      · refine iteF (beq_eq_false_iff_ne.mpr h0) (WT.or (WT.val (W.mcall (W.var 0 rfl rfl ?_))))
        obtain ⟨hkid, _⟩ := hpo.resolve_left h0
        refine ⟨t, 375, _, 241, 4, rfl, A1.t, M_FileTree_is_directory w, rfl, Nat.le_of_ble_eq_true rfl, WA.cons (W.var 3 rfl rfl (WA.nil (Fn.read (fn_is_directory t T pl.1 _ A1 (kids_nm _ hkid).1.sc) (Nat.le_refl _) ⟨_, rfl, ?_⟩)))⟩
        rw [isDir_vw, decide_eq_false h0, Bool.false_or]
        cases (match alook pl.1 T.vw with | some (none, _) => true | _ => false)
        · exact iteF rfl (WT.orNil ⟨rfl, fun _ _ e => e⟩)
        · exact iteT rfl ⟨rfl, fun _ _ e => e⟩
    unfold madeB afterB
    cases hnB : noBackup T.vw pl.1 with
    | true =>
      refine iteT rfl (B.cons (S.ret (W.tuple (WA.cons (W.cStr (WA.cons (W.list (WA.nil ⟨by decide, fun b' hb' => WA.nil ⟨Nat.le_of_ble_eq_true rfl, fun a' ha' => ?_⟩⟩))))))))
      have hab : b' ≠ a' := fun e => by rw [← e, HL.set_self] at ha'; cases ha'
      exact ⟨a', b', T, rfl, HL.set_self, by rw [HL.set_ne hab]; exact HL.set_self, (A1.down hb').down ha', rfl, rfl, (f1.trans (T' := T) (Frm.alloc hb') rfl).trans (T' := T) (Frm.alloc ha') rfl⟩
    | false =>
      have h0 : pl.1 ≠ ⟨#[]⟩ := fun e => by unfold noBackup at hnB; rw [decide_eq_true e] at hnB; cases hnB
      obtain ⟨hkid, hne⟩ := hpo.resolve_left h0
      have hc : (∃ ms, alook pl.1 T.vw = some (some ms, true)) ∨ alook pl.1 T.vw = none := by
        unfold noBackup at hnB
        rw [decide_eq_false h0, Bool.false_or] at hnB
        cases hq : alook pl.1 T.vw with
        | none => exact .inr rfl
        | some y =>
          obtain ⟨y1, y2⟩ := y
          have hy := hw _ _ _ hq
          subst hy
          cases y1 with
          | none => rw [hq] at hnB; cases hnB
          | some z => exact .inl ⟨z, rfl⟩
      refine iteF rfl (B.nil ?_)
      have fin : ∀ (H2 : HL) (v2 : Vw), Did H1 t T v2 H2 → ∃ T', TreeAt H2 t T' ∧ T'.e = T.e ∧ T'.vw = v2 ∧ Frm H H2 T ∧ H2 b = some (.list (pl.2.map V.str)) := fun H2 v2 ⟨T', A2, e2, hv2, f2⟩ =>
        ⟨T', A2, e2, hv2, f1.trans f2 rfl, f2 b _ hb (A1.ne_e hb fun _ h => by cases h) (fun _ h => by cases h) (fun _ h => by cases h)⟩
      refine B.cons (S.mono (P' := fun f vs1 H2 => f = .next ∧ vs1 = [some (.ref t), some (.str pF), some (.ref g), some (.str pl.1), some (.ref b)] ∧ Did H1 t T (if (m.cp || m.pr) = true then aput pl.1 (some ms, true) T.vw else aput pl.1 (some ms, true) (adel pF T.vw)) H2) (S.test (m.cp || m.pr) (WT.or (WT.val (W.attr (W.var 2 rfl rfl ?_)))) ?_) ?_)
      · refine ⟨g, 100, _, _, rfl, le _ _ hg, F_is_copying100 w, rfl, _, rfl, ?_⟩
        cases hcp : m.cp with
        | true => exact iteT rfl ⟨rfl, fun _ _ e => e⟩
        | false =>
          refine iteF rfl (WT.or (WT.val (W.attr (W.var 2 rfl rfl ?_))))
          refine ⟨g, 100, _, _, rfl, le _ _ hg, F_is_precious100 w, rfl, _, rfl, ?_⟩
          cases hpr : m.pr with
          | true => exact iteT rfl ⟨rfl, fun _ _ e => e⟩
          | false =>
            refine iteF rfl (WT.or (WT.cmpv (W.mcall (W.var 0 rfl rfl ?_))))
            refine ⟨t, 375, _, 290, 4, rfl, A1.t, M_FileTree_link_text w, rfl, Nat.le_of_ble_eq_true rfl, WA.cons (W.var 1 rfl rfl (WA.nil (Fn.read (fn_link_text t T pF _ A1 (kids_nm _ pF_kid).1) (Nat.le_refl _) (W.cNone ⟨_, rfl, ?_⟩))))⟩
            exact iteF rfl (WT.orNil ⟨rfl, fun _ _ e => e⟩)
      · cases (m.cp || m.pr) with
        | true =>
          refine iteT rfl (B.cons (S.expr (W.mcall (W.var 0 rfl rfl ?_))))
          refine ⟨t, 375, _, 365, 7, rfl, A1.t, M_FileTree_copy w, rfl, Nat.le_of_ble_eq_true rfl, WA.cons (W.var 1 rfl rfl (WA.cons (W.var 3 rfl rfl (WA.cons (W.cBool (WA.nil (Fn.mono (w_copy t T H1 A1 O pF pl.1 pF_kid hkid ms true hF hc) (Nat.le_refl _) ?_)))))))⟩
          rintro _ H2 ⟨rfl, hD⟩
          exact B.nil ⟨rfl, rfl, hD⟩
        | false =>
          refine iteF rfl (B.cons (S.expr (W.mcall (W.var 0 rfl rfl ?_))))
          refine ⟨t, 375, _, 358, 6, rfl, A1.t, M_FileTree_rename w, rfl, Nat.le_of_ble_eq_true rfl, WA.cons (W.var 1 rfl rfl (WA.cons (W.var 3 rfl rfl (WA.cons (W.cBool (WA.nil (Fn.mono (w_rename t T H1 A1 O pF pl.1 pF_kid hkid (Ne.symm hne) ms true hF ?_) (Nat.le_refl _) ?_)))))))⟩
          · rcases hc with ⟨z, h⟩ | h
            · exact .inl ⟨z, true, h⟩
            · exact .inr h
          rintro _ H2 ⟨rfl, hD⟩
          exact B.nil ⟨rfl, rfl, hD⟩
      · rintro f vs1 H2 ⟨rfl, rfl, hD⟩
        obtain ⟨T', A2, e2, hv2, f2, hb2⟩ := fin _ _ hD
        refine B.cons (S.ret (W.tuple (WA.cons (W.var 3 rfl rfl (WA.cons (W.var 4 rfl rfl (WA.nil ⟨Nat.le_of_ble_eq_true rfl, fun a' ha' => ?_⟩)))))))
        have hba : b ≠ a' := fun e => by rw [← e, hb2] at ha'; cases ha'
        exact ⟨a', b, T', rfl, HL.set_self, by rw [HL.set_ne hba]; exact hb2, A2.down ha', e2, hv2, f2.trans (T' := T) (Frm.alloc ha') rfl⟩
end Mine
end
section
open PySem PySem.W PyProof.Rows PySem.Calls
set_option maxHeartbeats 1000000
namespace Mine
def isFileV (v : Vw) (o : Str) : Bool := match alook o v with | some (some _, _) => true | _ => false
def delAll : List Str → Vw → Vw
  | [], v => v
  | o :: r, v => delAll r (if isFileV v o = true then adel o v else v)
theorem isFile_vw (T : Tree) (p : Str) : isFile (look p T.L) = isFileV T.vw p := by
  unfold isFileV
  rw [vw_look]
  cases look p T.L with
  | none => rfl
  | some E => show (!E.dir) = _; unfold Ent.vw; cases h : E.dir <;> simp [h]
/-- the view behind the writing of a text -/
def afterW (pr : Bool) (v : Vw) (ns : List Int) : Vw := if pr = true then aput pF (some ns, true) (adel pT (aput pT (some ns, true) v)) else aput pF (some ns, true) v
theorem Okv.afterW {pr : Bool} {v : Vw} {ns : List Int} (O : Okv v) (hz : v.length ≤ 26) : Okv (afterW pr v ns) ∧ (afterW pr v ns).length ≤ 28 := by
  unfold Mine.afterW
  cases pr
  · rw [if_neg (by decide)]
    exact ⟨O.put pF_kid _ (by omega), Nat.le_trans aput_len (by omega)⟩
  · rw [if_pos rfl]
    have h1 := O.put pT_kid (some ns, true) (by omega)
    have l1 : (aput pT (some ns, true) v).length ≤ 27 := Nat.le_trans aput_len (by omega)
    have l2 : (adel pT (aput pT (some ns, true) v)).length ≤ 27 := Nat.le_trans (List.length_filter_le _ _) l1
    exact ⟨(h1.del pT_kid).put pF_kid _ (by omega), Nat.le_trans aput_len (by omega)⟩
/-- for own in extra: if tree.is_plain(own): tree.delete(own); the loop, whatever stands around -/
theorem isFileV_get {v : Vw} {o : Str} (h : isFileV v o = true) : ∃ ms w, alook o v = some (some ms, w) := by
  unfold isFileV at h
  split at h
  · rename_i ms w e; exact ⟨ms, w, e⟩
  · cases h
theorem delAll_ok : ∀ (es : List Str) {v : Vw}, (∀ e ∈ es, e ∈ kids) → Okv v → Okv (delAll es v)
  | [], v, _, O => O
  | e :: r, v, h, O => by
    unfold delAll
    refine delAll_ok r (fun x hx => h x (.tail _ hx)) ?_
    split
    · exact O.del (h e (.head _))
    · exact O
def madeW (v : Vw) (m : Man) (pl : Str × List Str) (bu : Bool) : Bool := if (!bu && isFileV v pF) = true then (decide ((madeB v pl).1 ≠ ⟨#[]⟩) || decide (m.way = 0)) else bu
def extraW (v : Vw) (pl : Str × List Str) (bu : Bool) : List Str := if (!bu && isFileV v pF) = true then (madeB v pl).2 else []
def viewW (v : Vw) (m : Man) (pl : Str × List Str) (bu : Bool) (ms ns : List Int) : Vw := delAll (extraW v pl bu) (afterW m.pr (if (!bu && isFileV v pF) = true then afterB m v pl.1 ms else v) ns)
theorem afterB_ok {m : Man} {v : Vw} {o : Str} {ms : List Int} (O : Okv v) (hz : v.length ≤ 24) (hT : alook pT v = none) (hF : alook pF v = some (some ms, true) ∨ alook pF v = none) (ho : noBackup v o = false → o ∈ kids ∧ o ≠ pF ∧ o ≠ pT) :
    Okv (afterB m v o ms) ∧ (afterB m v o ms).length ≤ 25 ∧ alook pT (afterB m v o ms) = none ∧ (alook pF (afterB m v o ms) = some (some ms, true) ∨ alook pF (afterB m v o ms) = none) := by
  unfold afterB
  cases hn : noBackup v o with
  | true => rw [if_pos rfl]; exact ⟨O, by omega, hT, hF⟩
  | false =>
    obtain ⟨h1, h2, h3⟩ := ho hn
    rw [if_neg (by decide)]
    split
    · refine ⟨O.put h1 _ (by omega), Nat.le_trans aput_len (by omega), ?_, ?_⟩
      · rw [alook_aput, if_neg (Ne.symm h3)]; exact hT
      · rw [alook_aput, if_neg (Ne.symm h2)]; exact hF
    · have hl : (adel pF v).length ≤ 24 := Nat.le_trans (List.length_filter_le _ _) hz
      refine ⟨(O.del pF_kid).put h1 _ (by omega), Nat.le_trans aput_len (by omega), ?_, .inr ?_⟩
      · rw [alook_aput, if_neg (Ne.symm h3), alook_adel, if_neg (by decide)]; exact hT
      · rw [alook_aput, if_neg (Ne.symm h2), alook_adel, if_pos rfl]
def HL.hide (H : HL) (it : Addr) : HL := fun a => if a = it then none else H a
theorem HL.hide_self {H : HL} {it : Addr} : H.hide it it = none := if_pos rfl
theorem HL.hide_ne {H : HL} {it a : Addr} (h : a ≠ it) : H.hide it a = H a := if_neg h
theorem HL.hide_set {H : HL} {it : Addr} {o : O} (h : H it = some o) : (H.hide it).set it o = H := by
  funext a
  by_cases e : a = it
  · subst e; rw [HL.set_self, h]
  · rw [HL.set_ne e, HL.hide_ne e]
theorem TreeAt.hide {H : HL} {t it : Addr} {T : Tree} {o : Obj} (A : TreeAt H t T) (h : H it = some (.raw o)) : TreeAt (H.hide it) t T := by
  have ne : ∀ a y, H a = some y → y ≠ .raw o → (H.hide it) a = some y := fun a y e hy => by
    rw [HL.hide_ne]
    · exact e
    · rintro rfl; rw [h] at e; exact hy (Option.some.inj e).symm
  exact ⟨ne _ _ A.t (fun e => by cases e), ne _ _ A.e (fun e => by cases e), fun p hp => ⟨ne _ _ (A.ent p hp).1 (fun e => by cases e), fun hd => ne _ _ ((A.ent p hp).2.1 hd) (fun e => by cases e), (A.ent p hp).2.2⟩, A.nd, A.xd, A.len⟩
/-- what a backup leans on -/
structure Bk (T : Tree) (m : Man) (nb : List Int) : Prop where
  hnb : ∀ ns' : List Int, ns'.Perm (nums (unders sDs T.L)) → ns'.Pairwise (· ≤ ·) → ns' = nb
  hle : nb.length ≤ 3
  hk : ∀ k ∈ every nb, 0 ≤ k ∧ k ≤ 10
  hil : (plan m nb).2.length ≤ 100
  hpo : (plan m nb).1 = ⟨#[]⟩ ∨ ((plan m nb).1 ∈ kids ∧ (plan m nb).1 ≠ pF ∧ (plan m nb).1 ≠ pT)
  hpe : ∀ e ∈ (plan m nb).2, e ∈ kids
theorem fn_write_file (t c g : Addr) (T : Tree) (H : HL) (A : TreeAt H t T) (O : Okv T.vw) (hz : T.vw.length ≤ 24) (m : Man) (hg : H g = some (.inst 100 (mF m))) (hm : 0 ≤ m.old ∧ m.old ≤ 2 ∧ 0 ≤ m.new ∧ m.new ≤ 2) (nb : List Int)
    (ms : List Int) (hF : alook pF T.vw = some (some ms, true) ∨ alook pF T.vw = none) (hw : ∀ q ns w, alook q T.vw = some (ns, w) → w = true) (hT : alook pT T.vw = none)
    (bu : Bool) (hbk : bu = false → Bk T m nb) (ns : List Int) (hc : H c = some (.flist (ns.map V.int))) (hl : ns.length ≤ 100) :
    Fn 9 144 [.ref t, .str pF, .ref c, .ref g, .bool bu] H fun v H' => v = .bool (madeW T.vw m (plan m nb) bu) ∧ Did H t T (viewW T.vw m (plan m nb) bu ms ns) H' := by
  refine Fn.body X_write_file (fun _ _ _ _ _ _ => rfl) D_write_file (ps := [nTree, nName, nCodes, nManner, ⟨#[105, 115, 95, 98, 97, 99, 107, 101, 100, 95, 117, 112]⟩]) (fun s name pm us hu => ?_) (by decide +kernel) rfl rfl fun w h₀ L A' os => ?_
  · obtain ⟨u, u2, u3, u4, u5, rfl⟩ := len5 hu; exact BindsTo.of_eq rfl
  · refine B.cons (S.skip (WT.and (WT.val (W.mcall (W.var 0 rfl rfl ?_)))) (B.nil ?_))
    · refine ⟨t, 375, _, 248, 4, rfl, A.t, M_FileTree_is_plain w, rfl, Nat.le_of_ble_eq_true rfl, WA.cons (W.var 1 rfl rfl (WA.nil (Fn.read (fn_is_plain t T pF _ A (kids_nm _ pF_kid).1.sc) (Nat.le_refl _) ⟨_, rfl, ?_⟩)))⟩
      rw [isFile_vw]
      rcases hF with h | h
      · obtain ⟨E, h1, h2, _, h3⟩ := vFile h
        refine iteT (by unfold isFileV; rw [h]) (WT.and (WT.not (WT.val (W.mcall (W.var 0 rfl rfl ?_)))))
        refine ⟨t, 375, _, 283, 4, rfl, A.t, M_FileTree_may_write w, rfl, Nat.le_of_ble_eq_true rfl, WA.cons (W.var 1 rfl rfl (WA.nil (Fn.read (fn_may_write t T pF _ A (kids_nm _ pF_kid).1.sc E h1) (Nat.le_refl _) ⟨_, rfl, ?_⟩)))⟩
        rw [h2, h3]
        exact iteF rfl ⟨rfl, rfl⟩
      · exact iteF (by unfold isFileV; rw [h]) ⟨rfl, rfl⟩
    refine B.cons (S.asSwap2 (W.tuple (WA.cons (W.var 4 rfl rfl (WA.cons (W.list (WA.nil ⟨by decide, fun b hb => WA.nil ⟨Nat.le_of_ble_eq_true rfl, fun a ha => ?_⟩⟩)))))) (by kernel_rfl))
    refine ⟨a, _, _, rfl, HL.set_self, Sto.less (H' := H.set b (.list [])) (.of (HL.le_set ha)) (Sto.loc 6 rfl (Sto.loc 5 rfl ?_))⟩
    have A1 := A.down (o := .list []) hb
    have f1 : Frm H (H.set b (.list [])) T := Frm.alloc hb
    have hg1 := HL.le_set (o := .list []) hb _ _ hg
    have hb1 : (H.set b (.list [])) b = some (.list (([] : List Str).map V.str)) := HL.set_self
    generalize H.set b (.list []) = H1 at A1 f1 hg1 hb1 ⊢
    refine B.seq (P' := fun f vs1 H' => f = .next ∧ ∃ o7 b' T1, vs1 = [some (.ref t), some (.str pF), some (.ref c), some (.ref g), some (.bool bu), some (.bool (madeW T.vw m (plan m nb) bu)), some (.ref b'), o7, none] ∧ H' b' = some (.list ((extraW T.vw (plan m nb) bu).map V.str)) ∧ TreeAt H' t T1 ∧ T1.e = T.e ∧ T1.vw = (if (!bu && isFileV T.vw pF) = true then afterB m T.vw (plan m nb).1 ms else T.vw) ∧ Frm H H' T) (S.test (!bu && isFileV T.vw pF) (WT.and (WT.not (WT.val (W.var 4 rfl rfl ⟨_, rfl, ?_⟩)))) ?_) ?_
    · cases bu with
      | true => exact iteF rfl ⟨rfl, fun _ _ e => e⟩
      | false =>
        refine iteT rfl (WT.and (WT.val (W.mcall (W.var 0 rfl rfl ?_))))
        refine ⟨t, 375, _, 248, 4, rfl, A1.t, M_FileTree_is_plain w, rfl, Nat.le_of_ble_eq_true rfl, WA.cons (W.var 1 rfl rfl (WA.nil (Fn.read (fn_is_plain t T pF _ A1 (kids_nm _ pF_kid).1.sc) (Nat.le_refl _) ⟨_, rfl, ?_⟩)))⟩
        rw [isFile_vw]
        cases isFileV T.vw pF
        · exact iteF rfl ⟨rfl, fun _ _ e => e⟩
        · exact iteT rfl (WT.andNil ⟨rfl, fun _ _ e => e⟩)
    · cases hB : (!bu && isFileV T.vw pF) with
      | false =>
        refine iteF rfl (B.nil ⟨rfl, none, b, T, ?_, ?_, A1, rfl, ?_, f1⟩)
        · unfold madeW; rw [hB, if_neg (by decide)]; rfl
        · unfold extraW; rw [hB, if_neg (by decide)]; exact hb1
        · rw [if_neg (by decide)]
      | true =>
        have hFl : alook pF T.vw = some (some ms, true) := by
          rcases hF with h | h
          · exact h
          · rw [Bool.and_eq_true] at hB
            have := hB.2
            unfold isFileV at this
            rw [h] at this; cases this
        have hbu : bu = false := by cases bu with | false => rfl | true => cases hB
        have ⟨hnb, hle, hk, hil, hpo, hpe⟩ := hbk hbu
        refine iteT rfl (B.cons (S.asTup2 (W.call (k := 8) 1 rfl (G_make_backup w) (Nat.le_of_ble_eq_true rfl) (WA.cons (W.var 0 rfl rfl (WA.cons (W.var 1 rfl rfl (WA.cons (W.var 3 rfl rfl (WA.nil (Fn.mono (fn_make_backup t g T H1 A1 O (by omega) m hg1 hm nb hnb hle hk hil ms hFl (hpo.imp_right fun h => ⟨h.1, h.2.1⟩) hw) (Nat.le_refl _) ?_)))))))))))
        rintro _ H2 ⟨a2, b2, T2, rfl, ha2, hb2, A2, e2, v2, f2⟩
        refine ⟨a2, _, _, rfl, ha2, Sto.loc 7 rfl (Sto.loc 6 rfl ?_)⟩
        have hg2 := f2 g _ hg1 (A1.ne_e hg1 fun _ h => by cases h) (fun _ h => by cases h) (fun _ h => by cases h)
        refine B.cons (S.assign 5 rfl (W.or (W.cmpv (W.var 7 rfl rfl (W.cStr ⟨_, rfl, _, rfl, ?_⟩)))))
        have goal : ∀ z : Bool, z = (decide ((madeB T.vw (plan m nb)).1 ≠ ⟨#[]⟩) || decide (m.way = 0)) → z = madeW T.vw m (plan m nb) bu := fun z hz => by unfold madeW; rw [hB, if_pos rfl]; exact hz
        have ex : H2 b2 = some (.list ((extraW T.vw (plan m nb) bu).map V.str)) := by unfold extraW; rw [hB, if_pos rfl]; exact hb2
        by_cases hne : (madeB T.vw (plan m nb)).1 = ⟨#[]⟩
        · refine iteF (bne_eq_false_iff_eq.mpr hne) (W.op1 (W.cmpv (W.attr (W.var 3 rfl rfl ?_))))
          refine ⟨g, 100, _, _, rfl, hg2, F_backups100 w, rfl, W.gint 2 rfl (I_NEVER w) ⟨_, rfl, B.nil ⟨rfl, some (.str (madeB T.vw (plan m nb)).1), b2, T2, ?_, ex, A2, e2, by rw [if_pos rfl]; exact v2, f1.trans f2 rfl⟩⟩⟩
          rw [← goal (m.way == 0) (by rw [decide_eq_false (fun h => h hne)]; rfl)]; rfl
        · refine iteT (bne_iff_ne.mpr hne) (B.nil ⟨rfl, some (.str (madeB T.vw (plan m nb)).1), b2, T2, ?_, ex, A2, e2, by rw [if_pos rfl]; exact v2, f1.trans f2 rfl⟩)
          rw [← goal true (by rw [decide_eq_true hne]; rfl)]; rfl
    rintro f vs1 H2 ⟨rfl, o7, b', T1, rfl, hb', A2, e2, v2, f2⟩
    have hB1 : Okv T1.vw ∧ T1.vw.length ≤ 25 ∧ alook pT T1.vw = none ∧ (alook pF T1.vw = some (some ms, true) ∨ alook pF T1.vw = none) := by
      rw [v2]
      split
      · rename_i hB
        have hpo := (hbk (by cases bu with | false => rfl | true => cases hB)).hpo
        refine afterB_ok O hz hT hF fun hn => ?_
        rcases hpo with h | h
        · unfold noBackup at hn; rw [decide_eq_true h] at hn; cases hn
        · exact h
      · exact ⟨O, by omega, hT, hF⟩
    obtain ⟨O2, z2, hT2, hF2⟩ := hB1
    have ne2 : ∀ {x o}, H x = some o → (∀ kv, o ≠ .dict kv) → (∀ fs, o ≠ .inst 375 fs) → (∀ fs, o ≠ .inst 174 fs) → H2 x = some o := fun h n1 n2 n3 => f2 _ _ h (A.ne_e h n1) n2 n3
    have hg2 := ne2 hg (fun _ h => by cases h) (fun _ h => by cases h) (fun _ h => by cases h)
    have hc2 := ne2 hc (fun _ h => by cases h) (fun _ h => by cases h) (fun _ h => by cases h)
    refine B.seq (P' := fun f vs1 H' => f = .next ∧ vs1 = [some (.ref t), some (.str pF), some (.ref c), some (.ref g), some (.bool bu), some (.bool (madeW T.vw m (plan m nb) bu)), some (.ref b'), o7, none] ∧ Did H2 t T1 (afterW m.pr T1.vw ns) H') (S.test m.pr (WT.and (WT.val (W.attr (W.var 3 rfl rfl ?_)))) ?_) ?_
    · refine ⟨g, 100, _, _, rfl, hg2, F_is_precious100 w, rfl, _, rfl, ?_⟩
      cases m.pr with
      | false => exact iteF rfl ⟨rfl, fun _ _ e => e⟩
      | true =>
        refine iteT rfl (WT.and (WT.cmpv (W.mcall (W.var 0 rfl rfl ?_))))
        refine ⟨t, 375, _, 290, 4, rfl, A2.t, M_FileTree_link_text w, rfl, Nat.le_of_ble_eq_true rfl, WA.cons (W.var 1 rfl rfl (WA.nil (Fn.read (fn_link_text t T1 pF _ A2 (kids_nm _ pF_kid).1) (Nat.le_refl _) (W.cNone ⟨_, rfl, ?_⟩))))⟩
        exact iteT rfl (WT.andNil ⟨rfl, fun _ _ e => e⟩)
    · unfold afterW
      cases m.pr with
      | true =>
        refine iteT rfl (B.cons (S.expr (W.call (k := 7) 3 rfl (G_write_precious w) (Nat.le_of_ble_eq_true rfl) (WA.cons (W.var 0 rfl rfl (WA.cons (W.var 1 rfl rfl (WA.cons (W.var 2 rfl rfl (WA.nil (Fn.mono (fn_write_precious t c T1 H2 A2 O2 (by omega) ns hc2 hl hT2 (hF2.imp_left fun h => ⟨ms, true, h⟩)) (Nat.le_refl _) ?_)))))))))))
        rintro _ H3 ⟨rfl, hD⟩
        exact B.nil ⟨rfl, rfl, hD⟩
      | false =>
        refine iteF rfl (B.cons (S.expr (W.mcall (W.var 0 rfl rfl ?_))))
        refine ⟨t, 375, _, 311, 6, rfl, A2.t, M_FileTree_write w, rfl, Nat.le_of_ble_eq_true rfl, WA.cons (W.var 1 rfl rfl (WA.cons (W.var 2 rfl rfl (WA.nil (Fn.mono (w_write t c T1 H2 A2 O2 pF pF_kid ns hc2 hl (hF2.imp_left fun h => ⟨ms, h⟩)) (Nat.le_refl _) ?_)))))⟩
        rintro _ H3 ⟨rfl, hD⟩
        exact B.nil ⟨rfl, rfl, hD⟩
    rintro f vs1 H3 ⟨rfl, rfl, T3, A3, e3, v3, f3⟩
    have O3 : Okv T3.vw := by rw [v3]; exact (O2.afterW (by omega)).1
    have hb3 : H3 b' = some (.list ((extraW T.vw (plan m nb) bu).map V.str)) := f3 _ _ hb' (A2.ne_e hb' fun _ h => by cases h) (fun _ h => by cases h) (fun _ h => by cases h)
    have hex : ∀ e ∈ extraW T.vw (plan m nb) bu, e ∈ kids := fun e he => by
      unfold extraW at he
      split at he
      · rename_i hB
        have hpe := (hbk (by cases bu with | false => rfl | true => cases hB)).hpe
        unfold madeB at he
        split at he
        · cases he
        · exact hpe e he
      · cases he
    generalize hes : extraW T.vw (plan m nb) bu = es at hb3 hex
    refine B.seq (P' := fun f vs1 H' => f = .next ∧ (∃ x8, vs1 = [some (.ref t), some (.str pF), some (.ref c), some (.ref g), some (.bool bu), some (.bool (madeW T.vw m (plan m nb) bu)), some (.ref b'), o7, x8]) ∧ Did H3 t T3 (delAll es T3.vw) H') (S.forList 8 rfl (W.var 6 rfl rfl ⟨b', _, rfl, hb3, ?_⟩)) ?_
    · refine ForL.inv (I := fun r vs1 H' => ∃ rest T4 x8, r = rest.map V.str ∧ vs1 = [some (.ref t), some (.str pF), some (.ref c), some (.ref g), some (.bool bu), some (.bool (madeW T.vw m (plan m nb) bu)), some (.ref b'), o7, x8] ∧ TreeAt H' t T4 ∧ T4.e = T3.e ∧ (∀ e ∈ rest, e ∈ kids) ∧ Okv T4.vw ∧ delAll rest T4.vw = delAll es T3.vw ∧ Frm H3 H' T3) ?_ ?_ ?_ _ _ _ ⟨es, T3, none, rfl, rfl, A3, rfl, hex, O3, rfl, Frm.refl _ _⟩
      · rintro _ _ H' ⟨rest, T4, x8, _, _, A4, e4, _, _, _, f4⟩
        exact f4 _ _ hb3 (A3.ne_e hb3 fun _ h => by cases h) (fun _ h => by cases h) (fun _ h => by cases h)
      · rintro _ H' ⟨rest, T4, x8, er, rfl, A4, e4, _, _, d4, f4⟩
        have : rest = [] := by cases rest with | nil => rfl | cons q r => cases er
        subst this
        exact ⟨rfl, ⟨x8, rfl⟩, T4, A4, e4, d4, f4⟩
      · rintro v r _ H' ⟨rest, T4, x8, er, rfl, A4, e4, hk4, O4, d4, f4⟩ it o hit
        cases rest with
        | nil => cases er
        | cons e rest =>
          obtain ⟨rfl, rfl⟩ : v = V.str e ∧ r = rest.map V.str := List.cons.inj er
          have hkid := hk4 e (.head _)
          have A5 := A4.down (o := .raw o) hit
          have d4' : delAll rest (if isFileV T4.vw e = true then adel e T4.vw else T4.vw) = delAll es T3.vw := d4
          refine B.cons (S.ite (WT.val (W.mcall (W.var 0 rfl rfl ?_))))
          refine ⟨t, 375, _, 248, 4, rfl, A5.t, M_FileTree_is_plain w, rfl, Nat.le_of_ble_eq_true rfl, WA.cons (W.var 8 rfl rfl (WA.nil (Fn.read (fn_is_plain t T4 e _ A5 (kids_nm _ hkid).1.sc) (Nat.le_refl _) ⟨_, rfl, ?_⟩)))⟩
          rw [isFile_vw]
          cases hfv : isFileV T4.vw e with
          | false =>
            rw [hfv, if_neg (by decide)] at d4'
            exact iteF rfl (B.nil (B.nil ⟨H', rfl, hit, rest, T4, _, rfl, rfl, A4, e4, fun x hx => hk4 x (.tail _ hx), O4, d4', f4⟩))
          | true =>
            rw [hfv, if_pos rfl] at d4'
            obtain ⟨ms', w', hf'⟩ := isFileV_get hfv
            refine iteT rfl (B.cons (S.expr (W.mcall (W.var 0 rfl rfl ?_))))
            refine ⟨t, 375, _, 346, 6, rfl, A5.t, M_FileTree_delete w, rfl, Nat.le_of_ble_eq_true rfl, WA.cons (W.var 8 rfl rfl (WA.nil (Fn.mono (w_delete t T4 _ A5 O4 e hkid ms' w' hf') (Nat.le_refl _) ?_)))⟩
            rintro _ H6 ⟨rfl, T6, A6, e6, v6, f6⟩
            have h6 : H6 it = some (.raw o) := f6 _ _ HL.set_self (A5.ne_e HL.set_self fun _ h => by cases h) (fun _ h => by cases h) (fun _ h => by cases h)
            refine B.nil (B.nil ⟨H6.hide it, (HL.hide_set h6).symm, HL.hide_self, rest, T6, _, rfl, rfl, A6.hide h6, e6.trans e4, fun x hx => hk4 x (.tail _ hx), by rw [v6]; exact O4.del hkid, by rw [v6]; exact d4', fun x y hx n1 n2 n3 => ?_⟩)
            have hx4 := f4 x y hx n1 n2 n3
            have hxi : x ≠ it := fun q => by rw [q, hit] at hx4; cases hx4
            rw [HL.hide_ne hxi]
            exact f6 x y (by rw [HL.set_ne hxi]; exact hx4) (by rw [e4]; exact n1) n2 n3
    · rintro f vs1 H' ⟨rfl, ⟨x8, rfl⟩, T4, A4, e4, v4, f4⟩
      refine B.cons (S.ret (W.var 5 rfl rfl ⟨rfl, T4, A4, e4.trans (e3.trans e2), ?_, (f2.trans f3 e2).trans f4 (e3.trans e2)⟩))
      rw [v4, v3, v2]
      unfold viewW
      rw [hes]
end Mine
end
section
open PySem PySem.W PyProof.Rows PySem.Calls
set_option maxHeartbeats 1000000
namespace Mine
section
variable {X : Cx} {vs : List (Option V)} {H : HL} {s : Shared} {P : V → HL → Prop}
theorem strsOf : ∀ {us : List Value} {ks : List Str}, us.length = ks.length → (∀ (j : Nat) (u : Value), us[j]? = some u → ∃ k t, ks[j]? = some k ∧ u = .str k t) → StrsAre us ks
  | [], [], _, _ => .nil
  | u :: us, k :: ks, hl, h => by
    obtain ⟨k', t, e, rfl⟩ := h 0 u rfl
    cases e
    exact .cons _ _ (strsOf (Nat.succ.inj hl) fun j u' e' => h (j + 1) u' (by rw [List.getElem?_cons_succ]; exact e'))
theorem CB.sortedDict {d : Addr} {kv : List (Str × V)} (hd : H d = some (.dict kv)) (hl : kv.length < 64) (h : ∀ a (ns' : List Str), H a = Option.none → ns'.Perm (kv.map (·.1)) → sortedS ns' = true → P (.ref a) (H.set a (.list (ns'.map V.str)))) : CB X vs H (.builtin "sorted") [.ref d] P := fun O s us Q E R vr q => by
  obtain ⟨u, rfl, hu⟩ := vrs1 vr
  obtain rfl : u = .ref d := hu
  obtain ⟨m, news, δ, F, N, D, lr, r⟩ := R.ex
  obtain ⟨od, kvs, m1, hsm, ho, kr, hD⟩ := isDict (m := m) N r hd
  obtain ⟨ep, hat⟩ := hD.dictAt
  refine kdu_sorted (kdl_dict (knd := PySem.strKind pw X.w) (kvs := kvs) (ep := ep) hsm) O.handled F N hat (by rw [← kr.length, sizeLine_eq]; omega) fun B h' tk ws F' N' l1 hlw hv => ?_
  have hS : StrsAre ws (kv.map (·.1)) := strsOf (by rw [hlw, List.length_map, kr.length]) fun j u hu => by
    obtain ⟨k, x, hx, hk⟩ := hv j u hu
    obtain ⟨t, rfl⟩ := strKey hk
    have hj : j < kv.length := by rw [kr.length]; exact (List.getElem?_eq_some_iff.mp hx).1
    obtain ⟨e, he, e1, _⟩ := KVR.at_ kr (List.getElem?_eq_getElem hj)
    rw [hx] at he
    cases he
    exact ⟨k, t, by rw [List.getElem?_map, List.getElem?_eq_getElem hj]; exact congrArg some e1, rfl⟩
  have hoB := (N' _ (.head _)).1
  refine wpAny_call_entry slot_list_sort ⟨_, hoB, rfl⟩ entry_list_sort (list_sort_treeK strKind_oneLt (a := B) (vs := ws) (n := 0) hoB hS.keysOf (fun v₁ v₂ rest e => keyKind_strs (by rw [← e]; exact hS)) (by rw [hlw, ← kr.length]; exact hl) fun st' hp hs => ⟨_, rfl, ?_⟩) (args_list_sort _)
  obtain ⟨ss', h1, h2, h3⟩ := sorted_out_str hS hp hs
  obtain ⟨e, he⟩ := sortedHeap_at (vs := ws) (out := (arrOf st').map (·.2)) hoB
  have old : ∀ b o, b ≠ B → h'.get? b = some o → (sortedHeap h' B ws ((arrOf st').map (·.2))).get? b = some o := fun b o hb g => (sortedHeap_old hb (Heap.lt_size g)).trans g
  have hBL := (N' _ (.head _)).2
  obtain ⟨oL, es, ep', hL, hr⟩ := F'.ns
  have F2 : Fr X.h₀ X.L (sortedHeap h' B ws ((arrOf st').map (·.2))) m := ⟨⟨oL, es, ep', old _ _ (Ne.symm hBL.1) hL, hr⟩, fun b o g => old b o (fun q => by subst q; rw [hBL.2] at g; cases g) (F'.keep b o g), F'.above⟩
  have N2 : News X.h₀ X.L (sortedHeap h' B ws ((arrOf st').map (·.2))) ((B, seqObj "list" ((arrOf st').map (·.2)) e) :: news) := fun p hp => by
    rcases List.mem_cons.mp hp with rfl | hp
    · exact ⟨he, hBL⟩
    · exact ⟨old _ _ (Nat.ne_of_lt (l1 p hp)) (N' p (.tail _ hp)).1, (N' p (.tail _ hp)).2⟩
  obtain ⟨fr, R2⟩ := R.make (k := tk) F2 N2 D lr r l1 (ob := .list (ss'.map V.str)) (fun news' hm => ⟨_, _, hm, vrsStrs h1⟩) (fun _ _ h => by cases h)
  exact q _ _ _ _ (h B ss' fr h2 h3) rfl R2
end
end Mine
end
section
open PySem PySem.W PyProof.Rows PySem.Calls
set_option maxHeartbeats 1000000
namespace Mine
abbrev Row := Str × Option (List Int)
def Row.d (r : Row) : PyData := .tuple [.str r.1, match r.2 with | none => .none | some ns => .list (ns.map .int)]
def rowsD (rs : List Row) : PyData := .list (rs.map Row.d)
/-- a value that shows a file's text, or None -/
def TextV (H : HL) (v : V) : Option (List Int) → Prop
  | none => v = .none
  | some ns => ∃ c, v = .ref c ∧ (H c = some (.list (ns.map V.int)) ∨ H c = some (.flist (ns.map V.int)))
def RowV (H : HL) (v : V) (r : Row) : Prop := ∃ t w, v = .ref t ∧ H t = some (.tup [.str r.1, w]) ∧ TextV H w r.2
def RowsV (H : HL) : List V → List Row → Prop
  | [], [] => True
  | v :: vs, r :: rs => RowV H v r ∧ RowsV H vs rs
  | _, _ => False
section
variable {X : Cx} {vs : List (Option V)} {H : HL} {s : Shared}
theorem readsInts : ∀ {us : List Value} {ns : List Int} {h : Heap}, VRs (ns.map V.int) us → ReadsAll h us (ns.map .int) []
  | [], [], _, _ => .nil
  | u :: us, n :: ns, h, ⟨⟨t, e⟩, r⟩ => by subst e; exact .cons (as := []) (.int _ _) (readsInts r)
theorem readsText {m : Str → Option Value} {news : List (Addr × Obj)} {δ : Addr → Addr} (N : News X.h₀ X.L s.heap news) (r : HR X.w δ H news) {v : V} {u : Value} {o : Option (List Int)} (h : TextV H v o) (vu : VR v u) : ∃ as, Reads s.heap u (match o with | none => .none | some ns => .list (ns.map .int)) as := by
  cases o with
  | none => obtain rfl : v = .none := h; obtain rfl : u = .none := vu; exact ⟨[], .none⟩
  | some ns =>
    obtain ⟨c, rfl, hc⟩ := h
    obtain rfl : u = .ref c := vu
    have : ∃ its n, (c, listOf its n) ∈ news ∧ VRs (ns.map V.int) its.toList := by
      rcases hc with hc | hc
      · exact r.at_ c _ hc
      · exact r.at_ c _ hc
    obtain ⟨its, n, m1, vr⟩ := this
    exact ⟨_, .list (N _ m1).1 rfl rfl (readsInts vr)⟩
theorem readsRows {m : Str → Option Value} {news : List (Addr × Obj)} {δ : Addr → Addr} (N : News X.h₀ X.L s.heap news) (r : HR X.w δ H news) : ∀ {l : List V} {us : List Value} {rs : List Row}, RowsV H l rs → VRs l us → ∃ as, ReadsAll s.heap us (rs.map Row.d) as
  | [], [], [], _, _ => ⟨[], .nil⟩
  | v :: l, u :: us, x :: rs, ⟨⟨t, w, e, ht, hw⟩, h⟩, ⟨vu, vr⟩ => by
    subst e
    obtain rfl : u = .ref t := vu
    obtain ⟨its, n, m1, vr'⟩ := r.at_ t _ ht
    obtain ⟨as, ha⟩ := readsRows (m := m) N r h vr
    match hi : its.toList, vr' with
    | [u1, u2], ⟨⟨t1, e1⟩, w2, _⟩ =>
      subst e1
      obtain ⟨bs, hb⟩ := readsText (m := m) N r hw w2
      exact ⟨_, .cons (.tuple (N _ m1).1 rfl rfl (by rw [hi]; exact .cons (.str _ _) (.cons hb .nil))) ha⟩
end
theorem rowEqv (a b : Row) : (Row.d a).eqv (Row.d b) = decide (a = b) := by
  obtain ⟨x, o⟩ := a
  obtain ⟨y, p⟩ := b
  have hx : ∀ z : PyData, (x == y) = decide (x = y) := fun _ => by by_cases h : x = y <;> simp [h]
  unfold Row.d
  cases o <;> cases p <;> simp [PyData.eqv, PyData.eqvAll, ked_eqvAll, hx .none]
theorem rowsEqv : ∀ (as bs : List Row), PyData.eqvAll (as.map Row.d) (bs.map Row.d) = decide (as = bs)
  | [], [] => by simp [PyData.eqvAll]
  | [], _ :: _ => by simp [PyData.eqvAll]
  | _ :: _, [] => by simp [PyData.eqvAll]
  | a :: r, b :: t => by
    simp only [List.map_cons, PyData.eqvAll, rowEqv, rowsEqv r t]
    by_cases h : a = b <;> by_cases h' : r = t <;> simp [h, h']
theorem rowsD_eqv (as bs : List Row) : (rowsD as).eqv (rowsD bs) = decide (as = bs) := by
  unfold rowsD
  simp only [PyData.eqv, rowsEqv]
theorem row_shape (r : Row) (h : PyData.strOk r.1 = true) : (Row.d r).canLay0 = true ∧ (Row.d r).depth ≤ 2 := by
  obtain ⟨x, o⟩ := r
  unfold Row.d
  cases o with
  | none => simp [PyData.canLay0, PyData.canLayAll0, PyData.depth, PyData.depthAll, show PyData.strOk x = true from h]
  | some ns => simp [PyData.canLay0, PyData.canLayAll0, PyData.depth, PyData.depthAll, show PyData.strOk x = true from h, ke_canLayAll0, ke_depthAll]
theorem rows_shape : ∀ (rs : List Row), (∀ r ∈ rs, PyData.strOk r.1 = true) → PyData.canLayAll0 (rs.map Row.d) = true ∧ PyData.depthAll (rs.map Row.d) ≤ 2
  | [], _ => by simp [PyData.canLayAll0, PyData.depthAll]
  | r :: rs, h => by
    have h1 := row_shape r (h r (.head _))
    have h2 := rows_shape rs fun x hx => h x (.tail _ hx)
    simp only [List.map_cons, PyData.canLayAll0, PyData.depthAll, h1.1, h2.1, Bool.and_self, true_and]
    exact Nat.max_le.mpr ⟨h1.2, h2.2⟩
theorem rowsD_shaped {rs : List Row} (h : ∀ r ∈ rs, PyData.strOk r.1 = true) : SeqAt.shaped (rowsD rs) = true := by
  have := rows_shape rs h
  unfold SeqAt.shaped rowsD
  rw [Bool.and_eq_true]
  refine ⟨by rw [PyData.canLay0]; exact this.1, decide_eq_true ?_⟩
  rw [PyData.depth]
  have h2 := this.2
  omega
section
variable {X : Cx} {vs : List (Option V)} {H : HL} {s : Shared}
theorem WT.neRows {l r : Expr} {pos : Pos} {P : Bool → HL → Prop} (h : W X vs H l fun a H1 => W X vs H1 r fun b H2 => ∃ (x y : Addr) (l1 l2 : List V) (as bs : List Row), a = .ref x ∧ b = .ref y ∧ H2 x = some (.list l1) ∧ H2 y = some (.list l2) ∧ RowsV H2 l1 as ∧ RowsV H2 l2 bs ∧ (∀ r ∈ as, PyData.strOk r.1 = true) ∧ (∀ r ∈ bs, PyData.strOk r.1 = true) ∧ P (!decide (as = bs)) H2) (hm : behindInMarks .NotEq r = false := by rfl) : WT X vs H (.Compare l [.NotEq] [r] pos) P :=
  WT.cmp (fun O s Q E R q => h O s _ E R fun a u H1 s1 h1 va R1 => q a u H1 s1 (fun O s2 Q2 E2 R2 q2 => h1 O s2 _ E2 R2 fun b w H2 s3 h2 vb R3 => q2 b w H2 s3 (fun u w hu hw O s4 Q4 E4 R4 q4 => by
    obtain ⟨x, y, l1, l2, as, bs, rfl, rfl, hx, hy, r1, r2, o1, o2, hp⟩ := h2
    obtain rfl : u = .ref x := hu
    obtain rfl : w = .ref y := hw
    obtain ⟨m, news, δ, F, N, D, lr, r⟩ := R4.ex
    obtain ⟨its, n, m1, vr⟩ := r.at_ x _ hx
    obtain ⟨its', n', m2, vr'⟩ := r.at_ y _ hy
    obtain ⟨ad, ra⟩ := readsRows (m := m) N r r1 vr
    obtain ⟨bd, rb⟩ := readsRows (m := m) N r r2 vr'
    exact ne_dataH (da := rowsD as) (db := rowsD bs) (.list (N _ m1).1 rfl rfl ra) (.list (N _ m2).1 rfl rfl rb) (rowsD_shaped o1) (rowsD_shaped o2) (by have := O.units; omega) (q4 (.bool (!decide (as = bs))) _ _ _ ⟨_, rfl, hp⟩ (by rw [rowsD_eqv]; rfl) R4)) vb R3) va R1) hm
theorem W.eqRows {l r : Expr} {pos : Pos} {P : V → HL → Prop} (h : W X vs H l fun a H1 => W X vs H1 r fun b H2 => ∃ (x y : Addr) (l1 l2 : List V) (as bs : List Row), a = .ref x ∧ b = .ref y ∧ H2 x = some (.list l1) ∧ H2 y = some (.list l2) ∧ RowsV H2 l1 as ∧ RowsV H2 l2 bs ∧ (∀ r ∈ as, PyData.strOk r.1 = true) ∧ (∀ r ∈ bs, PyData.strOk r.1 = true) ∧ P (.bool (decide (as = bs))) H2) (hm : behindInMarks .Eq r = false := by rfl) : W X vs H (.Compare l [.Eq] [r] pos) P :=
  W.cmp (fun O s Q E R q => h O s _ E R fun a u H1 s1 h1 va R1 => q a u H1 s1 (fun O s2 Q2 E2 R2 q2 => h1 O s2 _ E2 R2 fun b w H2 s3 h2 vb R3 => q2 b w H2 s3 (fun u w hu hw O s4 Q4 E4 R4 q4 => by
    obtain ⟨x, y, l1, l2, as, bs, rfl, rfl, hx, hy, r1, r2, o1, o2, hp⟩ := h2
    obtain rfl : u = .ref x := hu
    obtain rfl : w = .ref y := hw
    obtain ⟨m, news, δ, F, N, D, lr, r⟩ := R4.ex
    obtain ⟨its, n, m1, vr⟩ := r.at_ x _ hx
    obtain ⟨its', n', m2, vr'⟩ := r.at_ y _ hy
    obtain ⟨ad, ra⟩ := readsRows (m := m) N r r1 vr
    obtain ⟨bd, rb⟩ := readsRows (m := m) N r r2 vr'
    exact eq_dataH (da := rowsD as) (db := rowsD bs) (.list (N _ m1).1 rfl rfl ra) (.list (N _ m2).1 rfl rfl rb) (rowsD_shaped o1) (rowsD_shaped o2) (by have := O.units; omega) (q4 (.bool (decide (as = bs))) _ _ _ hp (by rw [rowsD_eqv]; rfl) R4)) vb R3) va R1) hm
end
end Mine
end
section
open PySem PySem.W PyProof.Rows PySem.Calls
set_option maxHeartbeats 1000000
namespace Mine
abbrev nDeck : Str := ⟨#[100, 101, 99, 107]⟩
abbrev nMany : Str := ⟨#[109, 97, 110, 121]⟩
def draw (ds : List Int) (k : Int) : Int := match ds with | [] => 0 | d :: _ => d.fmod k
theorem fn_law_draw (a : Addr) (ds : List Int) (k : Int) (hk : k ≠ 0) (H : HL) (ha : H a = some (.list (ds.map V.int))) (hl : ds.length ≤ 100) : Fn 1 400 [.ref a, .int k] H fun v H' => v = .int (draw ds k) ∧ H' = H.set a (.list (ds.tail.map V.int)) := by
  refine Fn.less (Fn.body X_law_draw (fun _ _ _ _ _ _ => rfl) D_law_draw (ps := [nDeck, nMany]) (fun s name pm us hu => ?_) (by decide +kernel) rfl rfl fun w h₀ L A' os => ?_)
  · obtain ⟨u, u2, rfl⟩ := len2 hu; exact BindsTo.of_eq rfl
  · refine B.cons (S.ret (W.ite (WT.neInts (W.var 0 rfl rfl (W.list (WA.nil ⟨by decide, fun b hb => ?_⟩))))))
    have hab : a ≠ b := fun e => by rw [e, hb] at ha; cases ha
    have ha1 := HL.le_set (o := .list []) hb _ _ ha
    refine ⟨a, b, ds, [], rfl, rfl, ha1, HL.set_self, ?_⟩
    cases ds with
    | nil =>
      refine iteF rfl (W.cInt ⟨H, .of (HL.le_set hb), rfl, (HL.set_id ha).symm⟩)
    | cons d r =>
      refine iteT rfl (W.mod (W.pop0 (W.var 0 rfl rfl ?_)))
      refine ⟨a, .int d, r.map V.int, rfl, ha1, by rw [List.length_map]; exact Nat.le_trans (Nat.le_of_succ_le hl) (by decide), W.var 1 rfl rfl ⟨d, k, rfl, rfl, hk, H.set a (.list (r.map V.int)), ?_, rfl, rfl⟩⟩
      rw [HL.set_comm hab.symm]
      exact .of (HL.le_set (by rw [HL.set_ne hab.symm]; exact hb))
end Mine
end
section
open PySem PySem.W PyProof.Rows PySem.Calls
set_option maxHeartbeats 1000000
namespace Mine
def TextF (H : HL) (v : V) : Option (List Int) → Prop
  | none => v = .none
  | some ns => ∃ c, v = .ref c ∧ H c = some (.flist (ns.map V.int))
/-- the tuples and the frozen lists stand -/
def TF (H H' : HL) : Prop := (∀ a l, H a = some (.tup l) → H' a = some (.tup l)) ∧ ∀ a l, H a = some (.flist l) → H' a = some (.flist l)
def RowF (H : HL) (v : V) (r : Row) : Prop := ∃ t w, v = .ref t ∧ H t = some (.tup [.str r.1, w]) ∧ TextF H w r.2
def RowsF (H : HL) : List V → List Row → Prop
  | [], [] => True
  | v :: vs, r :: rs => RowF H v r ∧ RowsF H vs rs
  | _, _ => False
theorem TextF.mono {H H' : HL} {v : V} {o : Option (List Int)} (h : ∀ a l, H a = some (.flist l) → H' a = some (.flist l)) (t : TextF H v o) : TextF H' v o := by
  cases o with
  | none => exact t
  | some ns => obtain ⟨c, e, hc⟩ := t; exact ⟨c, e, h _ _ hc⟩
theorem TextF.text {H : HL} {v : V} {o : Option (List Int)} (t : TextF H v o) : TextV H v o := by
  cases o with
  | none => exact t
  | some ns => obtain ⟨c, e, hc⟩ := t; exact ⟨c, e, .inr hc⟩
theorem TF.of {H H' : HL} (h : ∀ a o, H a = some o → H' a = some o) : TF H H' := ⟨fun a l => h a _, fun a l => h a _⟩
theorem RowsF.mono {H H' : HL} (h : TF H H') : ∀ {l : List V} {rs : List Row}, RowsF H l rs → RowsF H' l rs
  | [], [], _ => trivial
  | v :: l, r :: rs, ⟨⟨t, w, e, ht, hw⟩, k⟩ => ⟨⟨t, w, e, h.1 _ _ ht, hw.mono h.2⟩, RowsF.mono h k⟩
theorem RowsF.rows {H : HL} : ∀ {l : List V} {rs : List Row}, RowsF H l rs → RowsV H l rs
  | [], [], _ => trivial
  | v :: l, r :: rs, ⟨⟨t, w, e, ht, hw⟩, k⟩ => ⟨⟨t, w, e, ht, hw.text⟩, RowsF.rows k⟩
theorem RowsF.app {H : HL} {v : V} {r : Row} (hv : RowF H v r) : ∀ {l : List V} {rs : List Row}, RowsF H l rs → RowsF H (l ++ [v]) (rs ++ [r])
  | [], [], _ => ⟨hv, trivial⟩
  | x :: l, y :: rs, ⟨h, k⟩ => ⟨h, RowsF.app hv k⟩
theorem RowsF.len {H : HL} : ∀ {l : List V} {rs : List Row}, RowsF H l rs → l.length = rs.length
  | [], [], _ => rfl
  | x :: l, y :: rs, ⟨h, k⟩ => congrArg (· + 1) (RowsF.len k)
theorem WA.less {X : Cx} {vs : List (Option V)} {H H' : HL} {pos : Pos} {es : List Expr} {P : List V → HL → Prop} (le : Le H' H) (h : WA X vs H' pos es P) : WA X vs H pos es P := fun O s Q E R q => h O s Q E (R.down le) q
theorem freeze_le {H : HL} {d : Addr} {l : List V} : Le (H.set d (.flist l)) (H.set d (.list l)) := fun a o e => by
  by_cases h : a = d
  · subst h; rw [HL.set_self] at e; cases e; exact .inr ⟨l, rfl, HL.set_self⟩
  · rw [HL.set_ne h] at e ⊢; exact .inl e
def textOf (v : Vw) (p : Str) : Option (List Int) := match alook p v with
  | some (some ns, _) => some ns
  | _ => none
def rowsOf (v : Vw) (ns : List Str) : List Row := ns.map fun n => (n, textOf v (sDs ++ n))
theorem names_under : ∀ p ∈ names, ∀ y, under sDs p = some y → sDs ++ y = p ∧ p ∈ kids ∧ y.length ≤ 100 ∧ PyData.strOk y = true := by
  have : names.all (fun p => match under sDs p with | some y => decide (sDs ++ y = p) && decide (p ∈ kids) && decide (y.length ≤ 100) && PyData.strOk y | none => true) = true := by decide +kernel
  intro p hp y hy
  have := List.all_eq_true.mp this p hp
  rw [hy] at this
  simp only [Bool.and_eq_true, decide_eq_true_eq] at this
  exact ⟨this.1.1.1, this.1.1.2, this.1.2, this.2⟩
theorem under_mem {T : Tree} (O : Okv T.vw) {y : Str} (hy : y ∈ unders sDs T.L) : ∃ E, (sDs ++ y, E) ∈ T.L ∧ sDs ++ y ∈ kids ∧ y.length ≤ 100 ∧ PyData.strOk y = true := by
  obtain ⟨q, hq, hu⟩ := List.mem_filterMap.mp hy
  obtain ⟨h1, h2, h3⟩ := names_under q.1 (O.names q hq) y hu
  exact ⟨q.2, by rw [h1]; exact hq, by rw [h1]; exact h2, h3⟩
theorem look_some {n : Str} {E : Ent} : ∀ {L : List (Str × Ent)}, (n, E) ∈ L → ∃ F, look n L = some F
  | p :: r, h => by
    unfold look
    by_cases e : p.1 = n
    · rw [if_pos e]; exact ⟨_, rfl⟩
    · rw [if_neg e]
      rcases List.mem_cons.mp h with q | q
      · subst q; exact absurd rfl e
      · exact look_some q
theorem textOf_look {T : Tree} {p : Str} {E : Ent} (h : look p T.L = some E) : textOf T.vw p = if E.dir = true then none else some E.ns := by
  unfold textOf
  rw [vw_look, h]
  show (match some (if E.dir = true then (none : Option (List Int)) else some E.ns, E.wr) with | some (some ns, _) => some ns | _ => none) = _
  cases E.dir <;> rfl
theorem fn_law_stands (t : Addr) (T : Tree) (H : HL) (A : TreeAt H t T) (O : Okv T.vw) :
    Fn 6 407 [.ref t] H fun v H' => ∃ d l ns', v = .ref d ∧ H d = none ∧ H' d = some (.list l) ∧ ns'.Perm (unders sDs T.L) ∧ sortedS ns' = true ∧ RowsF H' l (rowsOf T.vw ns') ∧ (∀ a o, H a = some o → H' a = some o) := by
  obtain ⟨E0, hE0, hd0, _⟩ := vDir O.dir
  refine Fn.body X_law_stands (fun _ _ _ _ _ _ => rfl) D_law_stands (ps := [nTree]) (fun s name pm us hu => ?_) (by decide +kernel) rfl rfl fun w h₀ L A' os => ?_
  · obtain ⟨u, rfl⟩ := len1 hu; exact BindsTo.of_eq rfl
  · refine B.cons (S.assign 1 rfl (W.list (WA.nil ⟨by decide, fun f hf => ?_⟩)))
    have A1 := A.down (o := .list []) hf
    refine B.seq (P' := fun fl vs1 H' => fl = .next ∧ ∃ x ns' H1 l, vs1 = [some (.ref t), some (.ref f), x] ∧ H' = H1.set f (.list l) ∧ H1 f = none ∧ ns'.Perm (unders sDs T.L) ∧ sortedS ns' = true ∧ RowsF H1 l (rowsOf T.vw ns') ∧ (∀ a o, H a = some o → H1 a = some o)) (S.forList 2 rfl (W.mcall (W.var 0 rfl rfl ?_))) ?_
    · refine ⟨t, 375, _, 297, 5, rfl, A1.t, M_FileTree_listed w, rfl, Nat.le_of_ble_eq_true rfl, WA.cons (W.cStr (WA.nil (Fn.mono (fn_listed t T _ A1 sD scan_D (by decide) (Nat.le_of_ble_eq_true rfl) E0 hE0 hd0) (Nat.le_refl _) ?_)))⟩
      rintro _ _ ⟨d, ns', rfl, hdn, rfl, hperm, hs⟩
      have hperm : ns'.Perm (unders sDs T.L) := hperm
      have hlen : ns'.length ≤ 40 := by rw [hperm.length_eq]; exact Nat.le_trans (List.length_filterMap_le _ _) A.len
      have hdf : d ≠ f := fun e => by rw [e, HL.set_self] at hdn; cases hdn
      have hd1 : H d = none := by rwa [HL.set_ne hdf] at hdn
      refine ⟨d, ns'.map V.str, rfl, HL.set_self, ?_⟩
      refine ForL.inv (I := fun r vs1 H' => ∃ done rest x H1 l, ns' = done ++ rest ∧ r = rest.map V.str ∧ vs1 = [some (.ref t), some (.ref f), x] ∧ H' = H1.set f (.list l) ∧ H1 f = none ∧ H1 d = some (.list (ns'.map V.str)) ∧ RowsF H1 l (rowsOf T.vw done) ∧ (∀ a o, H a = some o → H1 a = some o)) ?_ ?_ ?_ _ _ _ ⟨[], ns', none, H.set d (.list (ns'.map V.str)), [], rfl, rfl, rfl, HL.set_comm hdf.symm, by rw [HL.set_ne hdf.symm]; exact hf, HL.set_self, trivial, HL.le_set hd1⟩
      · rintro _ _ _ ⟨done, rest, x, H1, l, _, _, _, rfl, _, h, _⟩; rw [HL.set_ne hdf]; exact h
      · rintro _ _ ⟨done, rest, x, H1, l, e, er, rfl, rfl, h1, h2, h3, h4⟩
        have : rest = [] := by cases rest with | nil => rfl | cons q r => cases er
        subst this
        rw [List.append_nil] at e
        subst e
        exact ⟨rfl, x, ns', H1, l, rfl, rfl, h1, hperm, hs, h3, h4⟩
      · rintro v r _ _ ⟨done, rest, x, H1, l, e, er, rfl, rfl, h1, h2, h3, h4⟩ it o hit
        cases rest with
        | nil => cases er
        | cons n rest =>
          obtain ⟨rfl, rfl⟩ : v = V.str n ∧ r = rest.map V.str := List.cons.inj er
          have hmem : n ∈ unders sDs T.L := hperm.mem_iff.mp (by rw [e]; exact List.mem_append.mpr (.inr (.head _)))
          obtain ⟨E1, hE1, hkid, hn1, _⟩ := under_mem O hmem
          obtain ⟨E, hE⟩ := look_some hE1
          have hif : it ≠ f := fun q => by rw [q, HL.set_self] at hit; cases hit
          have hi1 : H1 it = none := by rwa [HL.set_ne hif] at hit
          have A2 : TreeAt ((H1.set f (.list l)).set it (.raw o)) t T := ((A.le h4).down h1).down hit
          have hll : l.length ≤ 100 := by
            rw [h3.len]
            unfold rowsOf
            rw [List.length_map]
            have : done.length ≤ ns'.length := by rw [e, List.length_append]; omega
            omega
          have hadd : sDs.length + n.length ≤ 10000 := by show 3 + n.length ≤ 10000; omega
          have hfi : ((H1.set f (.list l)).set it (.raw o)) f = some (.list l) := by rw [HL.set_ne hif.symm]; exact HL.set_self
          have fin : ∀ (H1' : HL) (w0 : V), (∀ a y, H1 a = some y → H1' a = some y) → H1' f = none → H1' it = none → TextF H1' w0 (textOf T.vw (sDs ++ n)) →
              ∀ tt, ((H1'.set f (.list l)).set it (.raw o)) tt = none → ∃ H5 : HL, (((H1'.set f (.list l)).set it (.raw o)).set tt (.tup [.str n, w0])).set f (.list (l ++ [.ref tt])) = H5.set it (.raw o) ∧ H5 it = none ∧ ∃ done rest' x H1 l, ns' = done ++ rest' ∧ rest.map V.str = rest'.map V.str ∧ [some (V.ref t), some (.ref f), some (.str n)] = [some (.ref t), some (.ref f), x] ∧ H5 = H1.set f (.list l) ∧ H1 f = none ∧ H1 d = some (.list (ns'.map V.str)) ∧ RowsF H1 l (rowsOf T.vw done) ∧ (∀ a o, H a = some o → H1 a = some o) := by
            intro H1' w0 le hf' hi' hw tt htt
            have ne1 : tt ≠ it := fun q => by rw [q, HL.set_self] at htt; cases htt
            have ne2 : tt ≠ f := fun q => by rw [q, HL.set_ne hif.symm, HL.set_self] at htt; cases htt
            have ht' : H1' tt = none := by rwa [HL.set_ne ne1, HL.set_ne ne2] at htt
            have k2 := HL.le_set (o := .tup [.str n, w0]) ht'
            refine ⟨(H1'.set tt (.tup [.str n, w0])).set f (.list (l ++ [.ref tt])), ?_, ?_, done ++ [n], rest, _, _, _, by rw [e, List.append_assoc]; rfl, rfl, rfl, rfl, ?_, k2 _ _ (le _ _ h2), ?_, fun a y q => k2 _ _ (le _ _ (h4 _ _ q))⟩
            · funext x; simp only [HL.set]; grind
            · rw [HL.set_ne hif, HL.set_ne ne1.symm]; exact hi'
            · rw [HL.set_ne ne2.symm]; exact hf'
            · unfold rowsOf
              rw [List.map_append]
              refine RowsF.app (r := (n, textOf T.vw (sDs ++ n))) (H := H1'.set tt (.tup [.str n, w0])) ⟨tt, w0, rfl, HL.set_self, ?_⟩ (RowsF.mono (H' := H1'.set tt (.tup [.str n, w0])) (TF.of fun a y q => k2 _ _ (le _ _ q)) h3)
              show TextF _ w0 (textOf T.vw (sDs ++ n))
              exact hw.mono fun a l q => k2 _ _ q
          refine B.cons (S.expr (W.append (W.var 1 rfl rfl ⟨f, l, rfl, hfi, W.tuple (WA.cons (W.var 2 rfl rfl (WA.cons (W.ite (WT.val (W.mcall (W.var 0 rfl rfl ?_))))))) ⟩)))
          refine ⟨t, 375, _, 241, 4, rfl, A2.t, M_FileTree_is_directory w, rfl, Nat.le_of_ble_eq_true rfl, WA.cons (W.addStr (W.cStr (W.var 2 rfl rfl ⟨sDs, n, rfl, rfl, hadd, WA.nil (Fn.read (fn_is_directory t T (sDs ++ n) _ A2 (kids_nm _ hkid).1.sc) (Nat.le_refl _) ⟨_, rfl, ?_⟩)⟩)))⟩
          rw [hE]
          show if E.dir = true then _ else _
          cases hEd : E.dir with
          | true =>
            refine iteT rfl (W.cNone (WA.nil ⟨Nat.le_of_ble_eq_true rfl, fun tt htt => ?_⟩))
            refine ⟨l, ?_, by omega, B.nil ?_⟩
            · rw [HL.set_ne (fun q => by rw [← q, hfi] at htt; cases htt)]; exact hfi
            · exact fin H1 .none (fun _ _ y => y) h1 hi1 (by rw [textOf_look hE, hEd]; rfl) tt htt
          | false =>
            refine iteF rfl (W.mcall (W.var 0 rfl rfl ?_))
            refine ⟨t, 375, _, 269, 5, rfl, A2.t, M_FileTree_read w, rfl, Nat.le_of_ble_eq_true rfl, WA.cons (W.addStr (W.cStr (W.var 2 rfl rfl ⟨sDs, n, rfl, rfl, hadd, WA.nil (Fn.mono (fn_read t T (sDs ++ n) _ A2 (kids_nm _ hkid).1.sc E hE hEd) (Nat.le_refl _) ?_)⟩)))⟩
            rintro _ _ ⟨c, rfl, hcn, rfl⟩
            refine WA.less freeze_le (WA.nil ⟨Nat.le_of_ble_eq_true rfl, fun tt htt => ?_⟩)
            have hfc := HL.le_set (o := .flist (E.ns.map V.int)) hcn _ _ hfi
            refine ⟨l, ?_, by omega, B.nil ?_⟩
            · rw [HL.set_ne (fun q => by rw [← q, hfc] at htt; cases htt)]; exact hfc
            · have nci : c ≠ it := fun q => by rw [q, HL.set_self] at hcn; cases hcn
              have ncf : c ≠ f := fun q => by rw [q, hfi] at hcn; cases hcn
              have hc1 : H1 c = none := by rwa [HL.set_ne nci, HL.set_ne ncf] at hcn
              have eq : ((H1.set f (.list l)).set it (.raw o)).set c (.flist (E.ns.map V.int)) = ((H1.set c (.flist (E.ns.map V.int))).set f (.list l)).set it (.raw o) := by funext x; simp only [HL.set]; grind
              rw [eq] at htt ⊢
              exact fin (H1.set c (.flist (E.ns.map V.int))) (.ref c) (HL.le_set hc1) (by rw [HL.set_ne ncf.symm]; exact h1) (by rw [HL.set_ne nci.symm]; exact hi1) (by rw [textOf_look hE, hEd]; exact ⟨c, rfl, HL.set_self⟩) tt htt
    · rintro fl vs1 H' ⟨rfl, x, ns', H1, l, rfl, rfl, h1, hp, hs, h3, h4⟩
      exact B.cons (S.ret (W.var 1 rfl rfl ⟨f, l, ns', rfl, hf, HL.set_self, hp, hs, h3.mono (TF.of (HL.le_set h1)), fun a o e => HL.le_set h1 _ _ (h4 _ _ e)⟩))
end Mine
end
section
open PySem PySem.W PyProof.Rows PySem.Calls
set_option maxHeartbeats 1000000
namespace Mine
abbrev St := List (Str × Option (List Int))
def StV (H : HL) : List (Str × V) → St → Prop
  | [], [] => True
  | f :: kv, e :: st => (f.1 = e.1 ∧ TextF H f.2 e.2) ∧ StV H kv st
  | _, _ => False
theorem StV.mono {H H' : HL} (h : ∀ a l, H a = some (.flist l) → H' a = some (.flist l)) : ∀ {kv : List (Str × V)} {st : St}, StV H kv st → StV H' kv st
  | [], [], _ => trivial
  | _ :: _, _ :: _, ⟨⟨a, b⟩, r⟩ => ⟨⟨a, b.mono h⟩, StV.mono h r⟩
theorem StV.len {H : HL} : ∀ {kv : List (Str × V)} {st : St}, StV H kv st → kv.length = st.length
  | [], [], _ => rfl
  | _ :: _, _ :: _, ⟨_, r⟩ => congrArg (· + 1) (StV.len r)
theorem StV.keys {H : HL} : ∀ {kv : List (Str × V)} {st : St}, StV H kv st → kv.map (·.1) = st.map (·.1)
  | [], [], _ => rfl
  | f :: _, e :: _, ⟨⟨a, _⟩, r⟩ => by rw [List.map_cons, List.map_cons, a, StV.keys r]
theorem StV.get {H : HL} {n : Str} : ∀ {kv : List (Str × V)} {st : St}, StV H kv st → match alook n st with | none => dget n kv = none | some o => ∃ v, dget n kv = some v ∧ TextF H v o
  | [], [], _ => rfl
  | f :: kv, e :: st, ⟨⟨a, b⟩, r⟩ => by
    have ih := StV.get (n := n) r
    unfold alook dget
    by_cases q : e.1 = n
    · rw [if_pos q, if_pos (a.trans q)]; exact ⟨_, rfl, b⟩
    · rw [if_neg q, if_neg (fun z => q (a.symm.trans z))]; exact ih
theorem StV.any {H : HL} {n : Str} : ∀ {kv : List (Str × V)} {st : St}, StV H kv st → kv.any (fun f => decide (f.1 = n)) = st.any (fun f => decide (f.1 = n))
  | [], [], _ => rfl
  | f :: kv, e :: st, ⟨⟨a, b⟩, r⟩ => by rw [List.any_cons, List.any_cons, StV.any r, a]
theorem StV.map {H : HL} {n : Str} {v : V} {o : Option (List Int)} (hv : TextF H v o) : ∀ {kv : List (Str × V)} {st : St}, StV H kv st → StV H (kv.map fun f => if f.1 = n then (f.1, v) else f) (st.map fun f => if f.1 = n then (f.1, o) else f)
  | [], [], _ => trivial
  | f :: kv, e :: st, ⟨⟨a, b⟩, r⟩ => by
    refine ⟨?_, StV.map hv r⟩
    show (if f.1 = n then (f.1, v) else f).1 = (if e.1 = n then (e.1, o) else e).1 ∧ TextF H (if f.1 = n then (f.1, v) else f).2 (if e.1 = n then (e.1, o) else e).2
    by_cases q : e.1 = n
    · rw [if_pos q, if_pos (a.trans q)]; exact ⟨a, hv⟩
    · rw [if_neg q, if_neg (fun z => q (a.symm.trans z))]; exact ⟨a, b⟩
theorem StV.app {H : HL} {n : Str} {v : V} {o : Option (List Int)} (hv : TextF H v o) : ∀ {kv : List (Str × V)} {st : St}, StV H kv st → StV H (kv ++ [(n, v)]) (st ++ [(n, o)])
  | [], [], _ => ⟨⟨rfl, hv⟩, trivial⟩
  | f :: kv, e :: st, ⟨h, r⟩ => ⟨h, StV.app hv r⟩
theorem StV.put {H : HL} {n : Str} {v : V} {o : Option (List Int)} (hv : TextF H v o) {kv : List (Str × V)} {st : St} (h : StV H kv st) : StV H (dput n v kv) (aput n o st) := by
  unfold dput aput
  rw [h.any (n := n)]
  split
  · exact h.map hv
  · exact h.app hv
theorem StV.del {H : HL} {n : Str} : ∀ {kv : List (Str × V)} {st : St}, StV H kv st → StV H (ddel n kv) (adel n st)
  | [], [], _ => trivial
  | f :: kv, e :: st, ⟨⟨a, b⟩, r⟩ => by
    have ih := StV.del (n := n) r
    unfold ddel adel at *
    rw [List.filter_cons, List.filter_cons]
    by_cases q : e.1 = n
    · rw [if_neg (by simpa using a.trans q), if_neg (by simpa using q)]; exact ih
    · rw [if_pos (by simpa using fun z => q (a.symm.trans z)), if_pos (by simpa using q)]; exact ⟨⟨a, b⟩, ih⟩
theorem isTextNone {H : HL} {v : V} {o : Option (List Int)} (t : TextF H v o) : cmpV .Is v .none = some (decide (o = none)) := by
  cases o with
  | none => obtain rfl : v = .none := t; rfl
  | some ns => obtain ⟨c, rfl, _⟩ := t; rfl
theorem isTextNot {H : HL} {v : V} {o : Option (List Int)} (t : TextF H v o) : cmpV .IsNot v .none = some (!decide (o = none)) := by
  cases o with
  | none => obtain rfl : v = .none := t; rfl
  | some ns => obtain ⟨c, rfl, _⟩ := t; rfl
abbrev sFt : Str := ⟨#[102, 126]⟩
abbrev sFdt : Str := ⟨#[102, 46, 126]⟩
def numS (k : Int) : Str := sFdt ++ Str.ofString (toString k) ++ sTilde
def nextN (ns : List Int) : Int := match ns.getLast? with | some k => k + 1 | none => 1
def way2 (way : Int) (ns : List Int) : Int := if way = 3 then (if ns = [] then 1 else 2) else way
def lbk (way : Int) (st : St) (ns : List Int) : Str :=
  if way2 way ns = 0 then ⟨#[]⟩ else match alook sF st with
    | some (some _) => if way2 way ns = 1 then (if alook sFt st = some none then ⟨#[]⟩ else sFt) else numS (nextN ns)
    | _ => ⟨#[]⟩
theorem strOk10 : ∀ k : Int, 0 ≤ k → k ≤ 10 → k.natAbs.log2 < 1920 ∧ (Str.ofString (toString k)).length ≤ 100 := by
  have : ∀ k ≤ 10, ((k : Nat) : Int).natAbs.log2 < 1920 ∧ (Str.ofString (toString ((k : Nat) : Int))).length ≤ 100 := by decide +kernel
  intro k h0 h1
  have e : ((k.toNat : Nat) : Int) = k := Int.toNat_of_nonneg h0
  have := this k.toNat (by omega)
  rwa [e] at this
theorem maxNext {ns : List Int} (hs : ns.Pairwise (· < ·)) (hp : ∀ k ∈ ns, 0 < k) {M : Int} (hM : M ∈ 0 :: ns) (hA : ∀ x ∈ 0 :: ns, x ≤ M) : M + 1 = nextN ns := by
  unfold nextN
  cases h : ns.getLast? with
  | none =>
    have := List.getLast?_eq_none_iff.mp h
    subst this
    have := List.mem_singleton.mp hM
    subst this; rfl
  | some k =>
    have hk : k ∈ ns := List.mem_of_getLast? h
    have h1 := hA k (.tail _ hk)
    have : M ≤ k := by
      rcases List.mem_cons.mp hM with e | hM
      · subst e; exact Int.le_of_lt (hp k hk)
      · obtain ⟨l, rfl⟩ := List.getLast?_eq_some_iff.mp h
        rcases List.mem_append.mp hM with q | q
        · exact Int.le_of_lt ((List.pairwise_append.mp hs).2.2 M q k (List.mem_singleton.mpr rfl))
        · rw [List.mem_singleton.mp q]; exact Int.le_refl _
    show M + 1 = k + 1
    omega
abbrev nWay : Str := ⟨#[119, 97, 121]⟩
abbrev nStands : Str := ⟨#[115, 116, 97, 110, 100, 115]⟩
abbrev nNumbers : Str := ⟨#[110, 117, 109, 98, 101, 114, 115]⟩
theorem fn_law_backup (way : Int) (dS aN : Addr) (kv : List (Str × V)) (st : St) (ns : List Int) (H : HL) (hd : H dS = some (.dict kv)) (hst : StV H kv st) (ha : H aN = some (.list (ns.map V.int))) (hs : ns.Pairwise (· < ·)) (hp : ∀ k ∈ ns, 0 < k) (hl : ns.length ≤ 100) (hk : nextN ns ≤ 10) :
    Fn 1 421 [.int way, .ref dS, .ref aN] H fun v H' => v = .str (lbk way st ns) ∧ H' = H := by
  refine Fn.less (Fn.body X_law_backup (fun _ _ _ _ _ _ => rfl) D_law_backup (ps := [nWay, nStands, nNumbers]) (fun s name pm us hu => ?_) (by decide +kernel) rfl rfl fun w h₀ L A' os => ?_)
  · obtain ⟨u, u2, u3, rfl⟩ := len3 hu; exact BindsTo.of_eq rfl
  · refine B.seq (P' := fun f vs1 H1 => f = .next ∧ vs1 = [some (.int (way2 way ns)), some (.ref dS), some (.ref aN)] ∧ ∀ x y, H x = some y → H1 x = some y) (S.ite (WT.cmpv (W.var 0 rfl rfl (W.gint 0 rfl (I_AS_BEFORE w) ⟨_, rfl, ?_⟩)))) ?_
    · by_cases h3 : way = 3
      · refine iteT (beq_iff_eq.mpr h3) (B.cons (S.assign 0 rfl (W.ite (WT.neInts (W.var 2 rfl rfl (W.list (WA.nil ⟨by decide, fun b hb => ?_⟩)))))))
        refine ⟨aN, b, ns, [], rfl, rfl, HL.le_set hb _ _ ha, HL.set_self, ?_⟩
        by_cases hn : ns = []
        · refine iteF (by rw [decide_eq_true hn]; rfl) (W.gint 2 rfl (I_SINGLE w) (B.nil ⟨rfl, ?_, HL.le_set hb⟩))
          unfold way2; rw [if_pos h3, if_pos hn]; rfl
        · refine iteT (by rw [decide_eq_false hn]; rfl) (W.gint 1 rfl (I_NUMBERED w) (B.nil ⟨rfl, ?_, HL.le_set hb⟩))
          unfold way2; rw [if_pos h3, if_neg hn]; rfl
      · refine iteF (beq_eq_false_iff_ne.mpr h3) (B.nil ⟨rfl, ?_, fun _ _ e => e⟩)
        unfold way2; rw [if_neg h3]; rfl
    rintro _ _ H1 ⟨rfl, rfl, le⟩
    refine B.less (H' := H) (.of le) ?_
    have g := hst.get (n := sF)
    unfold lbk
    generalize way2 way ns = wy
    refine B.cons (S.test (decide (wy = 0) || decide ((alook sF st).getD none = none)) (WT.or (WT.cmpv (W.var 0 rfl rfl (W.gint 3 rfl (I_NEVER w) ⟨_, rfl, ?_⟩)))) ?_)
    · by_cases h0 : wy = 0
      · exact iteT (beq_iff_eq.mpr h0) ⟨by rw [decide_eq_true h0]; rfl, fun _ _ e => e⟩
      refine iteF (beq_eq_false_iff_ne.mpr h0) (WT.or (WT.cmpv (W.dget (W.var 1 rfl rfl ⟨dS, kv, rfl, hd, W.cStr ⟨sF, rfl, W.cNone ⟨kv, hd, W.cNone ?_⟩⟩⟩))))
      rw [decide_eq_false h0, Bool.false_or]
      cases hq : alook sF st with
      | none => rw [hq] at g; rw [show dget sF kv = none from g]; exact ⟨true, rfl, rfl, fun _ _ e => e⟩
      | some o =>
        rw [hq] at g
        obtain ⟨v, hv, t⟩ := g
        rw [hv]
        refine ⟨_, isTextNone t, ?_⟩
        cases o with
        | none => exact iteT rfl ⟨rfl, fun _ _ e => e⟩
        | some z => exact iteF rfl (WT.orNil ⟨rfl, fun _ _ e => e⟩)
    by_cases h0 : wy = 0
    · refine iteT (by rw [decide_eq_true h0]; rfl) (B.cons (S.ret (W.cStr ⟨H, .refl _, by rw [if_pos h0], rfl⟩)))
    rw [if_neg h0]
    cases hq : alook sF st with
    | none => exact iteT (by rw [decide_eq_false h0]; rfl) (B.cons (S.ret (W.cStr ⟨H, .refl _, rfl, rfl⟩)))
    | some o =>
      cases o with
      | none => exact iteT (by rw [decide_eq_false h0]; rfl) (B.cons (S.ret (W.cStr ⟨H, .refl _, rfl, rfl⟩)))
      | some z =>
        refine iteF (by rw [decide_eq_false h0]; rfl) (B.nil ?_)
        refine B.cons (S.ite (WT.cmpv (W.var 0 rfl rfl (W.gint 2 rfl (I_SINGLE w) ⟨_, rfl, ?_⟩))))
        by_cases h1 : wy = 1
        · refine iteT (beq_iff_eq.mpr h1) (B.cons (S.ret (W.ite (WT.and (WT.inDict (W.cStr (W.var 1 rfl rfl ⟨sFt, dS, kv, rfl, rfl, hd, ?_⟩)))))))
          have g2 := hst.get (n := sFt)
          cases hq2 : alook sFt st with
          | none =>
            rw [hq2] at g2
            rw [show dget sFt kv = none from g2]
            refine iteF rfl (iteF rfl (W.cStr ⟨H, .refl _, ?_, rfl⟩))
            simp [h1, hq2]
          | some o2 =>
            rw [hq2] at g2
            obtain ⟨v, hv, t⟩ := g2
            rw [hv]
            refine iteT rfl (WT.and (WT.cmpv (W.ditem (W.var 1 rfl rfl (W.cStr ⟨dS, sFt, kv, v, rfl, rfl, hd, hv, W.cNone ⟨_, isTextNone t, ?_⟩⟩)))))
            cases o2 with
            | none => exact iteT rfl (WT.andNil (iteT rfl (W.cStr ⟨H, .refl _, by simp [h1, hq2], rfl⟩)))
            | some z2 => exact iteF rfl (iteF rfl (W.cStr ⟨H, .refl _, by simp [h1, hq2], rfl⟩))
        · refine iteF (beq_eq_false_iff_ne.mpr h1) (B.nil (B.cons (S.ret (W.addStr (W.addStr (W.cStr ?_))))))
          refine W.tcall 4 rfl (B_str w) (WA.cons (W.binv (W.bcall 5 rfl (B_max w) (WA.cons (W.addList (W.list (WA.cons (W.cInt (WA.nil ⟨Nat.le_of_ble_eq_true rfl, fun b hb => ?_⟩)))))))))
          refine W.var 2 rfl rfl ⟨b, aN, [.int 0], ns.map V.int, rfl, rfl, HL.set_self, HL.le_set hb _ _ ha, by rw [List.length_map]; show 1 + ns.length ≤ 1000; omega, fun e he => ?_⟩
          refine WA.nil (CB.maxList (ns := 0 :: ns) HL.set_self (Nat.succ_pos _) fun M hM hA => ?_)
          refine W.cInt ⟨_, rfl, WA.nil ?_⟩
          rw [maxNext hs hp hM hA]
          have h01 : 0 ≤ nextN ns := by have := hA 0 (.head _); have := maxNext hs hp hM hA; omega
          refine CB.strInt (strOk10 _ h01 hk).1 ⟨_, _, rfl, rfl, by have := (strOk10 _ h01 hk).2; show 3 + _ ≤ 10000; omega, W.cStr ⟨_, _, rfl, rfl, by have := (strOk10 _ h01 hk).2; rw [PySem.Str.length_append]; show 3 + _ + 1 ≤ 10000; omega, ?_⟩⟩
          refine ⟨H, .of fun x y q => HL.le_set he _ _ (HL.le_set hb _ _ q), ?_, rfl⟩
          rw [if_neg h1]; rfl
end Mine
end
section
open PySem PySem.W PyProof.Rows PySem.Calls
set_option maxHeartbeats 1000000
namespace Mine
section
variable {X : Cx} {vs : List (Option V)} {H : HL} {s : Shared}
theorem S.tryOk {body orelse : List Stmt} {h₀ : ExceptHandler} {hs : List ExceptHandler} {pos : Pos} {P : Fl → List (Option V) → HL → Prop} (h : B X vs H body fun f vs1 H1 => ∃ v, f = .ret v ∧ P f vs1 H1) : S X vs H (.Try body (h₀ :: hs) orelse [] pos) P := fun O s Q E R q =>
  wpAny_Try_except (h O s _ _ R fun f g vs' H' s' hp fg R' => by
    obtain ⟨v, rfl, hp⟩ := hp
    obtain ⟨u, rfl, vu⟩ := fg
    exact q _ _ _ _ _ hp ⟨u, rfl, vu⟩ R')
theorem W.not {e : Expr} {pos : Pos} {P : V → HL → Prop} (h : W X vs H e fun v H1 => ∃ b, v = .bool b ∧ P (.bool (!b)) H1) : W X vs H (.UnaryOp .Not e pos) P := fun O s Q E R q =>
  UnaryOp_ (h O s _ _ R fun v u H1 s1 h1 vu R1 => by
    obtain ⟨b, rfl, hp⟩ := h1
    obtain rfl : u = .bool b := vu
    exact not_of (wpAny_truthy_bool (q _ _ _ _ hp rfl R1)))
end
theorem fn_law_saved (t c g : Addr) (T : Tree) (H : HL) (A : TreeAt H t T) (O : Okv T.vw) (hz : T.vw.length ≤ 24) (m : Man) (hg : H g = some (.inst 100 (mF m))) (hm : 0 ≤ m.old ∧ m.old ≤ 2 ∧ 0 ≤ m.new ∧ m.new ≤ 2) (nb : List Int)
    (ms : List Int) (hF : alook pF T.vw = some (some ms, true) ∨ alook pF T.vw = none) (hw : ∀ q ns w, alook q T.vw = some (ns, w) → w = true) (hT : alook pT T.vw = none)
    (bu : Bool) (hbk : bu = false → Bk T m nb) (ns : List Int) (hc : H c = some (.flist (ns.map V.int))) (hl : ns.length ≤ 100) :
    Fn 10 414 [.ref t, .ref c, .ref g, .bool bu] H fun v H' => v = .bool (madeW T.vw m (plan m nb) bu) ∧ Did H t T (viewW T.vw m (plan m nb) bu ms ns) H' := by
  refine Fn.body X_law_saved (fun _ _ _ _ _ _ => rfl) D_law_saved (ps := [nTree, nCodes, nManner, ⟨#[105, 115, 95, 98, 97, 99, 107, 101, 100, 95, 117, 112]⟩]) (fun s name pm us hu => ?_) (by decide +kernel) rfl rfl fun w h₀ L A' os => ?_
  · obtain ⟨u, u2, u3, u4, rfl⟩ := len4 hu; exact BindsTo.of_eq rfl
  · refine B.cons (S.tryOk (B.cons (S.ret (W.call (k := 9) 0 rfl (G_write_file w) (Nat.le_of_ble_eq_true rfl) (WA.cons (W.var 0 rfl rfl (WA.cons (W.cStr (WA.cons (W.var 1 rfl rfl (WA.cons (W.var 2 rfl rfl (WA.cons (W.var 3 rfl rfl (WA.nil (Fn.mono (fn_write_file t c g T H A O hz m hg hm nb ms hF hw hT bu hbk ns hc hl) (Nat.le_refl _) ?_))))))))))))))))
    rintro _ H1 ⟨rfl, hD⟩
    exact ⟨_, rfl, rfl, hD⟩
end Mine
end
section
open PySem PySem.W PyProof.Rows PySem.Calls
set_option maxHeartbeats 1000000
namespace Mine
/-- the count of a run that rises all along -/
theorem ascRun {cmp : Nat → Nat → (Bool → Shared → Prop) → Shared → Prop} {N : Nat} {Q : Nat → Shared → Prop} {s : Shared} (hc : ∀ i, 1 ≤ i → i < N → ∀ C : Bool → Shared → Prop, C false s → cmp i (i - 1) C s) : ∀ f n, n + f = N → 1 ≤ n → Q N s → (kas_asc (List.toArray (List.range N)) f n).kasWp cmp Q s
  | 0, n, e, _, q => by
    have : n = N := by omega
    subst this; exact q
  | f + 1, n, e, h1, q => by
    have g : ∀ i, i < N → (List.toArray (List.range N)).getD i 0 = i := fun i hi => by simp [Array.getD, hi]
    show cmp ((List.toArray (List.range N)).getD n 0) ((List.toArray (List.range N)).getD (n - 1) 0) (fun b s' => (if b = true then KasT.ret n else kas_asc (List.toArray (List.range N)) f (n + 1)).kasWp cmp Q s') s
    rw [g n (by omega), g (n - 1) (by omega)]
    refine hc n h1 (by omega) _ ?_
    rw [if_neg (by decide)]
    exact ascRun hc f (n + 1) (by omega) (by omega) q
theorem ascSort {cmp : Nat → Nat → (Bool → Shared → Prop) → Shared → Prop} {N : Nat} {Q : Array Nat → Shared → Prop} {s : Shared} (h2 : 2 ≤ N) (hc : ∀ i, 1 ≤ i → i < N → ∀ C : Bool → Shared → Prop, C false s → cmp i (i - 1) C s) (q : Q (List.toArray (List.range N)) s) : (kas_sort N).kasWp cmp Q s := by
  unfold kas_sort kas_count
  rw [KasT.kasWp_bind, KasT.kasWp_bind]
  refine ascRun hc (N - 1) 1 (by omega) (by omega) ?_
  rw [if_pos (beq_self_eq_true N)]
  show (if N < N then _ else KasT.ret (List.toArray (List.range N))).kasWp cmp Q s
  rw [if_neg (Nat.lt_irrefl _)]
  exact q
theorem pick_all (vs : List Value) : (List.toArray (List.range vs.length)).toList.map (fun i => vs.getD i Value.none) = vs := by
  apply List.ext_getElem?
  intro i
  simp only [List.getElem?_map]
  by_cases h : i < vs.length
  · rw [List.getElem?_range h]; simp [h]
  · simp [h]
section
variable {prog : Program} {w : World} {A : Around} {E : Value → Shared → Prop} {s : Shared}
theorem sortOne {a : Addr} {u : Value} {n : Nat} {P : PySem.Fin → Shared → Prop} (ho : s.heap.get? a = some (seqObj "list" [u].toArray n)) (h : P (.done (.ret .none)) { s with heap := sortedHeap s.heap a [u] #[u] }) :
    wpAny (model prog w) A (Builtin.«list.sort» ⟨[.ref a], []⟩) P E s := by
  rw [list_sort_plain]
  have ha : a < s.heap.objs.size := Heap.lt_size ho
  refine wpAny_bind (listItems_at ho rfl ?_)
  refine wpAny_bind (listUpdate_at ho rfl ?_ (by show 1 ≤ _; rw [sizeLine_eq]; omega) (Nat.zero_le _))
  obtain ⟨e1, ho1⟩ : ∃ e1, (s.heap.update a (Obj.mapSeq fun _ => #[])).get? a = some (seqObj "list" #[] e1) := ⟨_, get?_update_seq ho (fun _ => #[])⟩
  refine wpAny_bind (seqEpoch_at ho1 rfl (wpAny_bind (wpAny_newTuple (wpAny_bind (wpAny_newList (wpAny_holding ?_) (Nat.zero_le _))) (by show 1 ≤ _; rw [sizeLine_eq]; omega))))
  have ho6 : (((s.heap.update a (Obj.mapSeq fun _ => #[])).push (seqObj "tuple" [u].toArray 0)).push (seqObj "list" #[] 0)).get? a = some (seqObj "list" #[] e1) := by
    rw [Heap.get?_push_ne _ _ _ (by rw [size_push', Heap.size_update]; exact Nat.ne_of_lt (Nat.lt_succ_of_lt ha)), Heap.get?_push_ne _ _ _ (by rw [Heap.size_update]; exact Nat.ne_of_lt ha)]
    exact ho1
  show wpAny (model prog w) A _ P E { s with heap := ((s.heap.update a (Obj.mapSeq fun _ => #[])).push (seqObj "tuple" [u].toArray 0)).push (seqObj "list" #[] 0) }
  dsimp only
  have hn2 : [u].toArray.size < 2 := Nat.lt_succ_self 1
  rw [if_pos hn2, if_pos hn2]
  refine wpAny_bind (wpAny_pure ?_)
  rw [StateT.run_pure]
  refine wpAny_bind (wpAny_pure ?_)
  dsimp only
  have ee : (arrOf (SortSt.mk' general' ([u].toArray.zip [u].toArray) #[] 7 none)).map (·.2) = #[u] := by
    show ([u].toArray.zip [u].toArray).map (·.2) = #[u]
    simp
  rw [ee]
  refine wpAny_bind (seqEpoch_at ho6 rfl (wpAny_bind (listUpdate_at ho6 rfl ?_ (Nat.zero_le _) (by show 1 ≤ _; rw [sizeLine_eq]; omega))))
  simp only [bne_self_eq_false, Bool.false_eq_true, if_false]
  exact wpAny_pure h
end
section
variable {X : Cx} {vs : List (Option V)} {H : HL} {s : Shared} {P : V → HL → Prop}
theorem katTups {ts : List Addr} {news : List (Addr × Obj)} {δ : Addr → Addr} {h : Heap} (N : ∀ p ∈ news, h.get? p.1 = some p.2) (r : ∀ a o, H a = some o → OR X.w δ news a o) : ∀ {ks : List Int}, (∀ (i : Nat) (t : Addr) (k : Int), ts[i]? = some t → ks[i]? = some k → ∃ y, H t = some (.tup [.int k, y])) → ts.length = ks.length → ∃ fs, KatTups h (ts.map Value.ref) fs ∧ fs.length = ks.length ∧ ∀ v ∈ fs, ∃ k t, v = .int k t := by
  induction ts with
  | nil =>
    intro ks _ hl
    cases ks with
    | nil => exact ⟨[], trivial, rfl, fun v hv => by cases hv⟩
    | cons _ _ => cases hl
  | cons t ts ih =>
    intro ks ht hl
    cases ks with
    | nil => cases hl
    | cons k ks =>
    obtain ⟨y, hy⟩ := ht 0 t k rfl rfl
    obtain ⟨its, n, m1, vr⟩ := r t _ hy
    obtain ⟨fs, h1, h2, h3⟩ := ih (ks := ks) (fun i t' k' e1 e2 => ht (i + 1) t' k' (by rw [List.getElem?_cons_succ]; exact e1) (by rw [List.getElem?_cons_succ]; exact e2)) (Nat.succ.inj hl)
    obtain ⟨u1, u2, e12, ⟨t1, w1⟩, _⟩ := vrs2 vr
    refine ⟨u1 :: fs, ⟨⟨t, _, its, n, rfl, N _ m1, rfl, rfl, ?_⟩, h1⟩, congrArg (· + 1) h2, fun v hv => ?_⟩
    · rw [← Array.getElem?_toList, e12]; rfl
    · rcases List.mem_cons.mp hv with rfl | hv
      · exact ⟨k, t1, w1⟩
      · exact h3 v hv
theorem CB.sortedPairs {a : Addr} {ts : List Addr} {ks : List Int} (ha : H a = some (.list (ts.map V.ref))) (hl : ts.length = ks.length) (ht : ∀ (i : Nat) (t : Addr) (k : Int), ts[i]? = some t → ks[i]? = some k → ∃ y, H t = some (.tup [.int k, y])) (hs : ks.Pairwise (· < ·)) (h1 : 1 ≤ ks.length) (h4 : ks.length ≤ 40) (h : ∀ d, H d = Option.none → P (.ref d) (H.set d (.list (ts.map V.ref)))) : CB X vs H (.builtin "sorted") [.ref a] P := fun O s us Q E R vr q => by
  obtain ⟨u, rfl, hu⟩ := vrs1 vr
  obtain rfl : u = .ref a := hu
  obtain ⟨m, news, δ, F, N, D, lr, r⟩ := R.ex
  obtain ⟨us, n, m1, vr', hL, hg⟩ := isListAt (m := m) N r ha
  have hus : us = ts.map Value.ref := by
    clear hL hg m1 ha ht
    revert us
    generalize ts = l
    induction l with
    | nil => intro us vr; cases us with | nil => rfl | cons _ _ => exact vr.elim
    | cons t l ih => intro us vr; cases us with | nil => exact vr.elim | cons u us => rw [ih _ vr.2, show u = .ref t from vr.1]; rfl
  subst hus
  have hlen : (ts.map Value.ref).length = ks.length := by rw [List.length_map, hl]
  have vrT : VRs (ts.map V.ref) (ts.map Value.ref) := vr'
  by_cases h2 : 2 ≤ ks.length
  · refine kat_sorted F N hL (by omega) (by omega) fun B e1 h' F' N' l1 => ?_
    obtain ⟨fs, k1, k2, k3⟩ := katTups (h := h') (fun p hp => (N' p (.tail _ hp)).1) (fun a o e => r.at_ a o e) ht hl
    refine kat_kind (T := .type "int") k1 (by omega) (fun v hv => ?_) rfl ?_
    · obtain ⟨k, t, rfl⟩ := k3 v hv; exact Looks.of_pure rfl
    refine ascSort (by omega) (fun i hi1 hi2 C hC => ?_) ?_
    · rw [hlen] at hi2
      have hti : i < ts.length := by omega
      have hti' : i - 1 < ts.length := by omega
      obtain ⟨y, hy⟩ := ht i ts[i] ks[i] (List.getElem?_eq_getElem hti) (List.getElem?_eq_getElem hi2)
      obtain ⟨y', hy'⟩ := ht (i - 1) ts[i - 1] (ks[i - 1]'(by omega)) (List.getElem?_eq_getElem hti') (List.getElem?_eq_getElem (by omega))
      obtain ⟨xs, n1, g1, v1⟩ := r.at_ _ _ hy
      obtain ⟨xs', n2, g2, v2⟩ := r.at_ _ _ hy'
      unfold kas_ask
      have e1 : (ts.map Value.ref).getD i Value.none = .ref ts[i] := by simp [hti]
      have e2 : (ts.map Value.ref).getD (i - 1) Value.none = .ref ts[i - 1] := by simp [hti']
      rw [e1, e2]
      refine kat_lt (N' _ (.tail _ g1)).1 rfl (N' _ (.tail _ g2)).1 rfl ?_
      obtain ⟨p1, p2, ep, ⟨t1, w1⟩, _⟩ := vrs2 v1
      obtain ⟨q1, q2, eq, ⟨t2, w2⟩, _⟩ := vrs2 v2
      rw [ep, eq, w1, w2]
      refine kat_cons (wpAny_eqBool_int ?_)
      have lt : ks[i - 1]'(by omega) < ks[i] := List.pairwise_iff_getElem.mp hs (i - 1) i (by omega) hi2 (by omega)
      have ne : (ks[i] == ks[i - 1]'(by omega)) = false := beq_eq_false_iff_ne.mpr (by omega)
      rw [ne]
      refine kat_no ?_
      show wpAny _ _ (oneLt' true _ _) _ _ _
      refine oneLt_int ?_
      rw [decide_eq_false (by omega)]
      exact hC
    · rw [pick_all]
      refine KasFin.intro F' N' (.head fun p hp => Nat.ne_of_lt (l1 p hp)) fun h2 c F2 N2 => ?_
      obtain ⟨fr, R2⟩ := R.make (k := s.toks) F2 N2 D lr r l1 (ob := .list (ts.map V.ref)) (fun news' hm => ⟨_, _, hm, by simpa using vrT⟩) (fun _ _ h => by cases h)
      exact q _ _ _ _ (h B fr) rfl R2
  · obtain ⟨t, rfl⟩ : ∃ t, ts = [t] := by
      match ts, hl, h1, h2 with
      | [t], _, _, _ => exact ⟨t, rfl⟩
      | [], hl, h1, _ => have : (0 : Nat) = ks.length := hl; omega
      | _ :: _ :: r, hl, _, h2 => have : r.length + 1 + 1 = ks.length := hl; omega
    have hL1 : s.heap.IsList a [Value.ref t].toArray := hL
    refine Calls.call_function_entry kind_sorted plain_sorted entry_sorted (args_sorted1 _) ?_
    unfold Builtin.«sorted»
    refine wpAny_bind (m := checkCount "sorted" 1 1 _) (wpAny_pure ?_)
    refine wpAny_bind (collect_list hL1 ?_ (by show 1 ≤ _; rw [sizeLine_eq]; omega))
    refine wpAny_bind (wpAny_newList ?_ (by show 1 ≤ _; rw [sizeLine_eq]; omega))
    have hsz : ((s.heap.push (seqObj "list" #[] 0)).update s.heap.objs.size (Obj.mapSeq (· ++ [Value.ref t].toArray))).objs.size = s.heap.objs.size + 1 := by
      rw [Heap.size_update, size_push']
    have hoL : (((s.heap.push (seqObj "list" #[] 0)).update s.heap.objs.size (Obj.mapSeq (· ++ [Value.ref t].toArray))).push (seqObj "list" [Value.ref t].toArray 0)).get? (s.heap.objs.size + 1) = some (seqObj "list" [Value.ref t].toArray 0) := by
      rw [← hsz]; exact Heap.get?_push_size _ rfl
    show wpAny _ _ _ _ _ { s with heap := ((s.heap.push (seqObj "list" #[] 0)).update s.heap.objs.size (Obj.mapSeq (· ++ [Value.ref t].toArray))).push (seqObj "list" [Value.ref t].toArray 0) }
    rw [hsz]
    refine wpAny_bind (wpAny_holding (wpAny_call_entry slot_list_sort ⟨_, hoL, rfl⟩ entry_list_sort (sortOne hoL ⟨_, rfl, wpAny_pure ⟨_, rfl, ?_⟩⟩) (args_list_sort _)))
    obtain ⟨e, he⟩ := sortedAll_at s.heap [Value.ref t] #[Value.ref t]
    obtain ⟨fr, R2⟩ := R.make (k := s.toks) (F.kept fun _ _ => sortedAll_old) (N.kept_cons F (fun _ _ => sortedAll_old) (Nat.le_succ _) he) D lr r (fun p hp => Nat.lt_succ_of_lt (Heap.lt_size (N p hp).1)) (ob := .list [V.ref t]) (fun news' hm => ⟨_, _, hm, by simpa using vrT⟩) (fun _ _ h => by cases h)
    exact q _ _ _ _ (h _ fr) rfl R2
end
end Mine
end
section
open PySem PySem.W PyProof.Rows PySem.Calls
set_option maxHeartbeats 1000000
namespace Mine
def pairD (rs : List Row) (k : Int) : PyData := .tuple [rowsD rs, .int k]
theorem pairD_eqv (as bs : List Row) (k j : Int) : (pairD as k).eqv (pairD bs j) = (decide (as = bs) && decide (k = j)) := by
  unfold pairD
  simp only [PyData.eqv, PyData.eqvAll, rowsD_eqv, Bool.and_true]
  congr 1
theorem pairD_shaped {rs : List Row} {k : Int} (h : ∀ r ∈ rs, PyData.strOk r.1 = true) : SeqAt.shaped (pairD rs k) = true := by
  have := rows_shape rs h
  unfold SeqAt.shaped pairD rowsD
  rw [Bool.and_eq_true]
  have h2 := this.2
  refine ⟨by simp only [PyData.canLay0, PyData.canLayAll0, this.1, Bool.and_self], decide_eq_true ?_⟩
  simp only [PyData.depth, PyData.depthAll]
  omega
section
variable {X : Cx} {vs : List (Option V)} {H : HL} {s : Shared}
theorem W.eqPair {l r : Expr} {pos : Pos} {P : V → HL → Prop} (h : W X vs H l fun a H1 => W X vs H1 r fun b H2 => ∃ (x y xr yr : Addr) (l1 l2 : List V) (as bs : List Row) (k j : Int), a = .ref x ∧ b = .ref y ∧ H2 x = some (.tup [.ref xr, .int k]) ∧ H2 y = some (.tup [.ref yr, .int j]) ∧ H2 xr = some (.list l1) ∧ H2 yr = some (.list l2) ∧ RowsV H2 l1 as ∧ RowsV H2 l2 bs ∧ (∀ r ∈ as, PyData.strOk r.1 = true) ∧ (∀ r ∈ bs, PyData.strOk r.1 = true) ∧ P (.bool (decide (as = bs) && decide (k = j))) H2) (hm : behindInMarks .Eq r = false := by rfl) : W X vs H (.Compare l [.Eq] [r] pos) P :=
  W.cmp (fun O s Q E R q => h O s _ E R fun a u H1 s1 h1 va R1 => q a u H1 s1 (fun O s2 Q2 E2 R2 q2 => h1 O s2 _ E2 R2 fun b w H2 s3 h2 vb R3 => q2 b w H2 s3 (fun u w hu hw O s4 Q4 E4 R4 q4 => by
    obtain ⟨x, y, xr, yr, l1, l2, as, bs, k, j, rfl, rfl, hx, hy, hxr, hyr, r1, r2, o1, o2, hp⟩ := h2
    obtain rfl : u = .ref x := hu
    obtain rfl : w = .ref y := hw
    obtain ⟨m, news, δ, F, N, D, lr, r⟩ := R4.ex
    obtain ⟨tx, nx, mx, vx⟩ := r.at_ x _ hx
    obtain ⟨ty, ny, my, vy⟩ := r.at_ y _ hy
    obtain ⟨its, n, m1, vr⟩ := r.at_ xr _ hxr
    obtain ⟨its', n', m2, vr'⟩ := r.at_ yr _ hyr
    obtain ⟨ad, ra⟩ := readsRows (m := m) N r r1 vr
    obtain ⟨bd, rb⟩ := readsRows (m := m) N r r2 vr'
    obtain ⟨u1, u2, e12, w1, ⟨t1, w2⟩⟩ := vrs2 vx
    obtain ⟨z1, z2, f12, w3, ⟨t2, w4⟩⟩ := vrs2 vy
    obtain rfl : u1 = .ref xr := w1
    obtain rfl : z1 = .ref yr := w3
    subst w2
    subst w4
    exact eq_dataH (da := pairD as k) (db := pairD bs j) (.tuple (N _ mx).1 rfl rfl (by rw [e12]; exact .cons (.list (N _ m1).1 rfl rfl ra) (.cons (.int _ _) .nil))) (.tuple (N _ my).1 rfl rfl (by rw [f12]; exact .cons (.list (N _ m2).1 rfl rfl rb) (.cons (.int _ _) .nil))) (pairD_shaped o1) (pairD_shaped o2) (by have := O.units; omega) (q4 (.bool (decide (as = bs) && decide (k = j))) _ _ _ hp (by rw [pairD_eqv]; rfl) R4)) vb R3) va R1) hm
end
end Mine
end
section
open PySem PySem.W PyProof.Rows PySem.Calls
set_option maxHeartbeats 1000000
namespace Mine
def le2 (a b : Str) : Prop := ¬ b.cps.toList < a.cps.toList
theorem rising_pw : ∀ (p : Str) (l : List Str), risingS p l = true → (p :: l).Pairwise le2
  | p, [], _ => List.pairwise_cons.mpr ⟨fun _ h => (by cases h), .nil⟩
  | p, x :: r, h => by
    unfold risingS at h
    rw [Bool.and_eq_true, Bool.not_eq_true', ltCps_eq, decide_eq_false_iff_not] at h
    have ih := rising_pw x r h.2
    refine List.pairwise_cons.mpr ⟨fun y hy => ?_, ih⟩
    rcases List.mem_cons.mp hy with rfl | hy
    · exact h.1
    · exact List.not_lt.mpr (List.le_trans (List.not_lt.mp h.1) (List.not_lt.mp ((List.pairwise_cons.mp ih).1 y hy)))
theorem sorted_pw : ∀ {l : List Str}, sortedS l = true → l.Pairwise le2
  | [], _ => .nil
  | x :: r, h => rising_pw x r h
theorem sorted_unique {l r : List Str} (hp : l.Perm r) (hl : sortedS l = true) (hr : sortedS r = true) : l = r :=
  hp.eq_of_pairwise (le := le2) (fun a b _ _ h1 h2 => by
    have e : a.cps.toList = b.cps.toList := List.le_antisymm (List.not_lt.mp h1) (List.not_lt.mp h2)
    obtain ⟨⟨x⟩⟩ := a
    obtain ⟨⟨y⟩⟩ := b
    have e : x = y := e
    rw [e]) (sorted_pw hl) (sorted_pw hr)
/-- the names that may stand in the law's dict -/
noncomputable def stN : List Str := [sF, sFt, numS 1, numS 2, numS 3, numS 4, numS 5, numS 6, numS 7, numS 8, numS 9, numS 10]
theorem stN_kid : ∀ n ∈ stN, sDs ++ n ∈ kids ∧ sDs ++ n ≠ pT ∧ under sDs (sDs ++ n) = some n ∧ PyData.strOk n = true ∧ (sDs ++ n = pF → n = sF) ∧ n.length ≤ 100 ∧ n ≠ ⟨#[]⟩ := by decide +kernel
theorem stN_inj : ∀ n ∈ stN, ∀ m ∈ stN, sDs ++ n = sDs ++ m → n = m := by decide +kernel
theorem under_stN : ∀ p ∈ names, p ≠ pT → ∀ y, under sDs p = some y → y ∈ stN ∧ sDs ++ y = p := by
  have : names.all (fun p => decide (p = pT) || match under sDs p with | some y => decide (y ∈ stN) && decide (sDs ++ y = p) | none => true) = true := by decide +kernel
  intro p hp hne y hy
  have := List.all_eq_true.mp this p hp
  rw [hy, decide_eq_false hne] at this
  simpa using this
theorem numS_eq : ∀ k : Int, 0 ≤ k → k ≤ 10 → num pF k = sDs ++ numS k ∧ bnum sF (numS k) = k ∧ (1 ≤ k → numS k ∈ stN) ∧ numS k ≠ sF ∧ numS k ≠ sFt ∧ numS k ≠ ⟨#[]⟩ := by
  have : ∀ k ≤ 10, num pF ((k : Nat) : Int) = sDs ++ numS ((k : Nat) : Int) ∧ bnum sF (numS ((k : Nat) : Int)) = ((k : Nat) : Int) ∧ (1 ≤ ((k : Nat) : Int) → numS ((k : Nat) : Int) ∈ stN) ∧ numS ((k : Nat) : Int) ≠ sF ∧ numS ((k : Nat) : Int) ≠ sFt ∧ numS ((k : Nat) : Int) ≠ ⟨#[]⟩ := by decide +kernel
  intro k h0 h1
  have e : ((k.toNat : Nat) : Int) = k := Int.toNat_of_nonneg h0
  have := this k.toNat (by omega)
  rwa [e] at this
theorem numS_inj {k j : Int} (h0 : 0 ≤ k) (h1 : k ≤ 10) (g0 : 0 ≤ j) (g1 : j ≤ 10) (e : numS k = numS j) : k = j := by
  have a := (numS_eq k h0 h1).2.1
  rw [e, (numS_eq j g0 g1).2.1] at a
  exact a.symm
theorem stN_bn : ∀ n ∈ stN, 0 < bnum sF n → bnum sF n ≤ 10 ∧ n = numS (bnum sF n) := by decide +kernel
theorem alook_mem {α : Type} {n : Str} : ∀ {l : List (Str × α)}, (alook n l).isSome = true ↔ n ∈ l.map (·.1)
  | [] => by simp [alook]
  | f :: l => by
    unfold alook
    rw [List.map_cons, List.mem_cons]
    by_cases q : f.1 = n
    · rw [if_pos q]; exact ⟨fun _ => .inl q.symm, fun _ => rfl⟩
    · rw [if_neg q, alook_mem (l := l)]
      exact ⟨fun h => .inr h, fun h => h.resolve_left fun z => q z.symm⟩
def Same (v : Vw) (st : St) : Prop := ∀ n ∈ stN, alook (sDs ++ n) v = (alook n st).map fun o => (o, true)
/-- the tree and the law's dict -/
structure Twin (v : Vw) (st : St) : Prop where
  okv : Okv v
  noT : alook pT v = none
  same : Same v st
  nd : (st.map (·.1)).Nodup
  sub : ∀ n ∈ st.map (·.1), n ∈ stN
  wr : ∀ q x w, alook q v = some (x, w) → w = true
theorem unders_nodup {L : List (Str × Ent)} (hn : ∀ p ∈ L, p.1 ∈ names) (nd : (L.map (·.1)).Nodup) : (unders sDs L).Nodup := by
  unfold unders
  have : L.Pairwise fun a b => a.1 ≠ b.1 ∧ a.1 ∈ names ∧ b.1 ∈ names := by
    have h1 : L.Pairwise fun a b => a.1 ≠ b.1 := List.pairwise_map.mp nd
    exact h1.imp_of_mem fun ha hb h => ⟨h, hn _ ha, hn _ hb⟩
  refine List.Pairwise.filterMap _ (fun a b h y hy y' hy' e => ?_) this
  subst e
  exact h.1 ((names_under a.1 h.2.1 y hy).1.symm.trans (names_under b.1 h.2.2 y hy').1)
theorem Twin.perm {T : Tree} {st : St} (W : Twin T.vw st) (nd : (T.L.map (·.1)).Nodup) : (unders sDs T.L).Perm (st.map (·.1)) := by
  refine (List.perm_ext_iff_of_nodup (unders_nodup W.okv.names nd) W.nd).mpr fun n => ⟨fun h => ?_, fun h => ?_⟩
  · obtain ⟨q, hq, hu⟩ := List.mem_filterMap.mp h
    have hv : (alook q.1 T.vw).isSome = true := alook_mem.mpr (List.mem_map.mpr ⟨(q.1, q.2.vw), List.mem_map.mpr ⟨q, hq, rfl⟩, rfl⟩)
    obtain ⟨h1, h2⟩ := under_stN q.1 (W.okv.names q hq) (fun e => by rw [e, W.noT] at hv; cases hv) n hu
    rw [← h2, W.same n h1, Option.isSome_map] at hv
    exact alook_mem.mp hv
  · have hk := W.sub n h
    have hv : (alook (sDs ++ n) T.vw).isSome = true := by rw [W.same n hk, Option.isSome_map]; exact alook_mem.mpr h
    obtain ⟨y, hy, e⟩ := List.mem_map.mp (alook_mem.mp hv)
    obtain ⟨q, hq, rfl⟩ := List.mem_map.mp hy
    exact List.mem_filterMap.mpr ⟨q, hq, by rw [show q.1 = sDs ++ n from e]; exact (stN_kid n hk).2.2.1⟩
theorem Twin.text {v : Vw} {st : St} (W : Twin v st) {n : Str} (h : n ∈ st.map (·.1)) : textOf v (sDs ++ n) = (alook n st).getD none := by
  unfold textOf
  rw [W.same n (W.sub n h)]
  cases hq : alook n st with
  | none => have := alook_mem.mpr h; rw [hq] at this; cases this
  | some o => cases o <;> rfl
def rowsSt (st : St) (ns : List Str) : List Row := ns.map fun n => (n, (alook n st).getD none)
theorem Twin.rows {T : Tree} {st : St} (W : Twin T.vw st) (nd : (T.L.map (·.1)).Nodup) {l r : List Str} (hl : l.Perm (unders sDs T.L)) (sl : sortedS l = true) (hr : r.Perm (st.map (·.1))) (sr : sortedS r = true) : rowsOf T.vw l = rowsSt st r := by
  have e : l = r := sorted_unique ((hl.trans (W.perm nd)).trans hr.symm) sl sr
  subst e
  exact List.map_congr_left fun n hn => by rw [W.text (hr.mem_iff.mp hn)]
theorem rowsSt_ok {st : St} {l : List Str} (h : ∀ n ∈ l, n ∈ stN) : ∀ r ∈ rowsSt st l, PyData.strOk r.1 = true := fun r hr => by
  obtain ⟨n, hn, rfl⟩ := List.mem_map.mp hr
  exact (stN_kid n (h n hn)).2.2.2.1
/-- the numbers of the dict -/
structure Nums (st : St) (ns : List Int) : Prop where
  asc : ns.Pairwise (· < ·)
  rng : ∀ k ∈ ns, 1 ≤ k ∧ k ≤ 9
  len : ns.length ≤ 3
  iff_ : ∀ k, 1 ≤ k → k ≤ 10 → ((alook (numS k) st).isSome = true ↔ k ∈ ns)
theorem Twin.nums {T : Tree} {st : St} {ns : List Int} (W : Twin T.vw st) (N : Nums st ns) (nd : (T.L.map (·.1)).Nodup) {l : List Int} (hl : l.Perm (Mine.nums (unders sDs T.L))) (sl : l.Pairwise (· ≤ ·)) : l = ns := by
  have h1 : (Mine.nums (unders sDs T.L)).Perm (Mine.nums (st.map (·.1))) := (W.perm nd).filterMap _
  have pos : ∀ k, k ∈ Mine.nums (st.map (·.1)) ↔ k ∈ ns := fun k => by
    unfold Mine.nums
    rw [List.mem_filterMap]
    constructor
    · rintro ⟨n, hn, h⟩
      split at h
      · rename_i hp
        cases h
        obtain ⟨h2, h3⟩ := stN_bn n (W.sub n hn) hp
        refine (N.iff_ _ (by omega) h2).mp ?_
        rw [← h3]; exact alook_mem.mpr hn
      · cases h
    · intro hk
      obtain ⟨h2, h3⟩ := N.rng k hk
      refine ⟨numS k, alook_mem.mp ((N.iff_ k h2 (by omega)).mpr hk), ?_⟩
      rw [(numS_eq k (by omega) (by omega)).2.1, if_pos (by omega)]
  have hn : (Mine.nums (st.map (·.1))).Nodup := by
    unfold Mine.nums
    have : (st.map (·.1)).Pairwise fun a b => a ≠ b ∧ a ∈ stN ∧ b ∈ stN := W.nd.imp_of_mem fun ha hb h => ⟨h, W.sub _ ha, W.sub _ hb⟩
    refine List.Pairwise.filterMap _ (fun a b h y hy y' hy' e => ?_) this
    subst e
    split at hy
    · split at hy'
      · rename_i p1 p2
        obtain ⟨_, e1⟩ := stN_bn a h.2.1 p1
        obtain ⟨_, e2⟩ := stN_bn b h.2.2 p2
        cases hy
        rw [Option.some.inj hy'] at e2
        exact h.1 (e1.trans e2.symm)
      · cases hy'
    · cases hy
  have h2 : (Mine.nums (st.map (·.1))).Perm ns := (List.perm_ext_iff_of_nodup hn (N.asc.imp fun h => Int.ne_of_lt h)).mpr pos
  exact ((hl.trans h1).trans h2).eq_of_pairwise (le := (· ≤ ·)) (fun a b _ _ => Int.le_antisymm) sl (N.asc.imp Int.le_of_lt)
end Mine
end
section
open PySem PySem.W PyProof.Rows PySem.Calls
set_option maxHeartbeats 1000000
namespace Mine
def lastOf (m : Man) (ns : List Int) : Int := let a := ((every ns).length : Int) - (if m.new > 1 then m.new else 1); if a > m.old then a else m.old
def gone (m : Man) (ns : List Int) : List Int := islice (every ns) (some m.old) (some (lastOf m ns))
theorem every_eq (ns : List Int) : every ns = ns ++ [nextN ns] := rfl
theorem plan_eq (m : Man) (ns : List Int) : plan m ns = if m.way = 0 then (⟨#[]⟩, []) else if m.way = 1 ∨ (m.way = 3 ∧ ns = []) then (pB, []) else (num pF (nextN ns), (gone m ns).map (num pF)) := rfl
theorem islice_mem {l : List Int} {lo hi : Option Int} {k : Int} (h : k ∈ islice l lo hi) : k ∈ l := by
  unfold islice at h
  obtain ⟨i, _, hi⟩ := List.mem_filterMap.mp h
  exact List.mem_of_getElem? hi
theorem islice_len (l : List Int) (lo hi : Option Int) : (islice l lo hi).length ≤ l.length := by
  unfold islice
  refine Nat.le_trans (List.length_filterMap_le _ _) ?_
  unfold sliceRange sliceBounds
  simp only [Option.getD_none, List.length_map, List.length_range]
  rw [if_pos (by decide)]
  cases lo <;> cases hi <;> simp <;> split <;> omega
def isText : Option (Option (List Int)) → Bool
  | some (some _) => true
  | _ => false
def pop1 (g : List Int) (k : Int) (st : St) : St := if (decide (k ∈ g) && isText (alook (numS k) st)) = true then adel (numS k) st else st
def popL (g : List Int) : List Int → St → St
  | [], st => st
  | k :: r, st => popL g r (pop1 g k st)
theorem alook_pop1 {g : List Int} {k : Int} {st : St} {n : Str} : alook n (pop1 g k st) = if (decide (n = numS k) && decide (k ∈ g) && isText (alook n st)) = true then none else alook n st := by
  unfold pop1
  by_cases h1 : n = numS k
  · subst h1
    by_cases h2 : k ∈ g <;> cases h3 : isText (alook (numS k) st) <;> simp [h2, alook_adel]
  · simp only [decide_eq_false h1, Bool.false_and, Bool.false_eq_true, if_false]
    split
    · rw [alook_adel, if_neg h1]
    · rfl
theorem popStep {a b c : Bool} {x : Option (Option (List Int))} : (if (c && isText (if (a && b && isText x) = true then none else x)) = true then none else (if (a && b && isText x) = true then none else x)) = if ((a && b || c) && isText x) = true then none else x := by
  rcases x with _ | _ | _ <;> cases a <;> cases b <;> cases c <;> rfl
theorem alook_popL {g : List Int} {n : Str} : ∀ {l : List Int} {st : St}, alook n (popL g l st) = if (decide (n ∈ (l.filter fun k => decide (k ∈ g)).map numS) && isText (alook n st)) = true then none else alook n st
  | [], st => by simp [popL]
  | k :: r, st => by
    have e : decide (n ∈ ((k :: r).filter fun k => decide (k ∈ g)).map numS) = (decide (n = numS k) && decide (k ∈ g) || decide (n ∈ (r.filter fun k => decide (k ∈ g)).map numS)) := by
      rw [List.filter_cons]
      by_cases h2 : k ∈ g
      · rw [if_pos (decide_eq_true h2), List.map_cons, decide_eq_true h2, Bool.and_true, ← Bool.decide_or]
        exact decide_eq_decide.mpr List.mem_cons
      · rw [if_neg (by simpa using h2), decide_eq_false h2, Bool.and_false, Bool.false_or]
    unfold popL
    rw [alook_popL (l := r), alook_pop1, e]
    exact popStep
theorem popL_keys {g : List Int} : ∀ {l : List Int} {st : St}, ((st.map (·.1)).Nodup → ((popL g l st).map (·.1)).Nodup) ∧ (∀ n ∈ (popL g l st).map (·.1), n ∈ st.map (·.1))
  | [], st => ⟨fun h => h, fun n h => h⟩
  | k :: r, st => by
    have p1 : ((st.map (·.1)).Nodup → ((pop1 g k st).map (·.1)).Nodup) ∧ (∀ n ∈ (pop1 g k st).map (·.1), n ∈ st.map (·.1)) := by
      unfold pop1
      split
      · exact ⟨fun h => h.sublist (List.filter_sublist.map _), fun n h => (List.filter_sublist.map _).subset h⟩
      · exact ⟨fun h => h, fun n h => h⟩
    have ih := popL_keys (g := g) (l := r) (st := pop1 g k st)
    exact ⟨fun h => ih.1 (p1.1 h), fun n h => p1.2 n (ih.2 n h)⟩
theorem isFileV_eq (v : Vw) (q : Str) : isFileV v q = match alook q v with | some (some _, _) => true | _ => false := by
  unfold isFileV
  cases alook q v with
  | none => rfl
  | some y => obtain ⟨o, w⟩ := y; cases o <;> rfl
theorem delStep {a c : Bool} {x : Option (Option (List Int) × Bool)} : (if (c && (match (if (a && (match x with | some (some _, _) => true | _ => false)) = true then none else x) with | some (some _, _) => true | _ => false)) = true then none else (if (a && (match x with | some (some _, _) => true | _ => false)) = true then none else x)) = if ((a || c) && (match x with | some (some _, _) => true | _ => false)) = true then none else x := by
  rcases x with _ | ⟨_ | _, _⟩ <;> cases a <;> cases c <;> rfl
theorem alook_delAll {q : Str} : ∀ {es : List Str} {v : Vw}, alook q (delAll es v) = if (decide (q ∈ es) && (match alook q v with | some (some _, _) => true | _ => false)) = true then none else alook q v
  | [], v => by simp [delAll]
  | e :: r, v => by
    unfold delAll
    have a1 : alook q (if isFileV v e = true then adel e v else v) = if (decide (q = e) && (match alook q v with | some (some _, _) => true | _ => false)) = true then none else alook q v := by
      rw [← isFileV_eq]
      by_cases h1 : q = e
      · subst h1
        cases h : isFileV v q
        · simp
        · simp [alook_adel]
      · simp only [decide_eq_false h1, Bool.false_and, Bool.false_eq_true, if_false]
        split
        · rw [alook_adel, if_neg h1]
        · rfl
    rw [alook_delAll (es := r), a1, show decide (q ∈ e :: r) = (decide (q = e) || decide (q ∈ r)) by simp]
    exact delStep
theorem alook_afterW {pr : Bool} {v : Vw} {ns : List Int} {q : Str} : alook q (afterW pr v ns) = if q = pF then some (some ns, true) else if pr = true ∧ q = pT then none else alook q v := by
  unfold afterW
  cases pr
  · rw [if_neg (by decide), alook_aput]; simp
  · rw [if_pos rfl, alook_aput, alook_adel, alook_aput]
    by_cases h : q = pT <;> simp [h]
theorem alook_afterB {m : Man} {v : Vw} {o q : Str} {ms : List Int} : alook q (afterB m v o ms) = if noBackup v o = true then alook q v else if q = o then some (some ms, true) else if (m.cp || m.pr) = false ∧ q = pF then none else alook q v := by
  unfold afterB
  split
  · rfl
  · split
    · rename_i h; rw [alook_aput]; simp [h]
    · rename_i h; rw [alook_aput, alook_adel]; simp [h]
end Mine
end
section
open PySem PySem.W PyProof.Rows PySem.Calls
set_option maxHeartbeats 1000000
namespace Mine
theorem Nums.next {st : St} {ns : List Int} (N : Nums st ns) : 1 ≤ nextN ns ∧ nextN ns ≤ 10 ∧ nextN ns ∉ ns ∧ ∀ k ∈ ns, k < nextN ns := by
  have key : ∀ k ∈ ns, k < nextN ns := fun k hk => by
    unfold nextN
    cases h : ns.getLast? with
    | none => rw [List.getLast?_eq_none_iff.mp h] at hk; cases hk
    | some z =>
      obtain ⟨l, rfl⟩ := List.getLast?_eq_some_iff.mp h
      show k < z + 1
      rcases List.mem_append.mp hk with q | q
      · have := (List.pairwise_append.mp N.asc).2.2 k q z (List.mem_singleton.mpr rfl); omega
      · rw [List.mem_singleton.mp q]; omega
  refine ⟨?_, ?_, fun h => Int.lt_irrefl _ (key _ h), key⟩
  · unfold nextN
    cases h : ns.getLast? with
    | none => exact Int.le_refl _
    | some z => have := N.rng z (List.mem_of_getLast? h); show 1 ≤ z + 1; omega
  · unfold nextN
    cases h : ns.getLast? with
    | none => show (1 : Int) ≤ 10; omega
    | some z => have := N.rng z (List.mem_of_getLast? h); show z + 1 ≤ 10; omega
theorem Nums.every {st : St} {ns : List Int} (N : Nums st ns) : (∀ k ∈ every ns, 1 ≤ k ∧ k ≤ 10) ∧ (Mine.every ns).length ≤ 4 ∧ (Mine.every ns).Pairwise (· < ·) := by
  obtain ⟨h1, h2, _, h4⟩ := N.next
  rw [every_eq]
  refine ⟨fun k hk => ?_, by rw [List.length_append]; have := N.len; show _ + 1 ≤ 4; omega, List.pairwise_append.mpr ⟨N.asc, List.pairwise_singleton _ _, fun a ha b hb => by rw [List.mem_singleton.mp hb]; exact h4 a ha⟩⟩
  rcases List.mem_append.mp hk with q | q
  · have := N.rng k q; omega
  · rw [List.mem_singleton.mp q]; omega
theorem mkBk {T : Tree} {st : St} {m : Man} {ns : List Int} (W : Twin T.vw st) (N : Nums st ns) (nd : (T.L.map (·.1)).Nodup) : Bk T m ns := by
  obtain ⟨h1, h2, _, h4⟩ := N.next
  obtain ⟨e1, e2, _⟩ := N.every
  have hn := numS_eq (nextN ns) (by omega) h2
  refine ⟨fun ns' hp hs => W.nums N nd hp hs, N.len, fun k hk => by have := e1 k hk; omega, ?_, ?_, ?_⟩
  · rw [plan_eq]
    split
    · exact Nat.zero_le _
    · split
      · exact Nat.zero_le _
      · show ((gone m ns).map _).length ≤ 100
        rw [List.length_map]
        exact Nat.le_trans (islice_len _ _ _) (by omega)
  · rw [plan_eq]
    split
    · exact .inl rfl
    · split
      · exact .inr ⟨pB_kid, by decide +kernel, by decide +kernel⟩
      · right
        show num pF (nextN ns) ∈ kids ∧ num pF (nextN ns) ≠ pF ∧ num pF (nextN ns) ≠ pT
        obtain ⟨k1, k2, _, _, k3, _⟩ := stN_kid _ (hn.2.2.1 h1)
        rw [hn.1]
        exact ⟨k1, fun e => hn.2.2.2.1 (k3 e), k2⟩
  · intro e he
    rw [plan_eq] at he
    split at he
    · cases he
    · split at he
      · cases he
      · obtain ⟨k, hk, rfl⟩ := List.mem_map.mp he
        have := e1 k (islice_mem hk)
        have hk' := numS_eq k (by omega) (by omega)
        rw [hk'.1]
        exact (stN_kid _ (hk'.2.2.1 this.1)).1
/-- the law's dict behind a backup -/
def stepB (st : St) (m : Man) (ns : List Int) (ms : List Int) : St :=
  let name := lbk m.way st ns
  if name = ⟨#[]⟩ then st else if name = sFt then aput sFt (some ms) st else popL (gone m ns) (every ns) (aput name (some ms) st)
/-- the law's name of the backup, told by the plan -/
theorem lbk_plan {v : Vw} {st : St} {ns : List Int} {m : Man} {ms : List Int} (W : Twin v st) (N : Nums st ns) (hf : alook sF st = some (some ms)) (hw : 0 ≤ m.way ∧ m.way ≤ 3) :
    (noBackup v (plan m ns).1 = true ∧ lbk m.way st ns = ⟨#[]⟩) ∨
    (noBackup v (plan m ns).1 = false ∧ (plan m ns).1 = pB ∧ (plan m ns).2 = [] ∧ lbk m.way st ns = sFt ∧ alook sFt st ≠ some none) ∨
    (noBackup v (plan m ns).1 = false ∧ (plan m ns).1 = num pF (nextN ns) ∧ (plan m ns).2 = (gone m ns).map (num pF) ∧ lbk m.way st ns = numS (nextN ns)) := by
  obtain ⟨h1, h2, h3, _⟩ := N.next
  have hn := numS_eq (nextN ns) (by omega) h2
  unfold lbk
  rw [hf, plan_eq]
  by_cases w0 : m.way = 0
  · left
    have : way2 m.way ns = 0 := by unfold way2; rw [if_neg (by omega)]; exact w0
    rw [if_pos w0, if_pos this]
    exact ⟨by unfold noBackup; rfl, rfl⟩
  rw [if_neg w0]
  have z0 : way2 m.way ns ≠ 0 := by
    unfold way2
    split
    · split <;> decide
    · exact w0
  rw [if_neg z0]
  by_cases w1 : m.way = 1 ∨ (m.way = 3 ∧ ns = [])
  · have z1 : way2 m.way ns = 1 := by
      unfold way2
      rcases w1 with w | ⟨w, e⟩
      · rw [if_neg (by omega)]; exact w
      · rw [if_pos w, if_pos e]
    rw [if_pos w1, if_pos z1]
    have sm := W.same sFt (by decide +kernel)
    rw [show sDs ++ sFt = pB from by decide +kernel] at sm
    have nb : noBackup v pB = decide (alook sFt st = some none) := by
      unfold noBackup
      rw [sm]
      cases alook sFt st with
      | none => rfl
      | some o => cases o <;> rfl
    by_cases hq : alook sFt st = some none
    · left; rw [if_pos hq]; exact ⟨by rw [nb]; exact decide_eq_true hq, rfl⟩
    · right; left; rw [if_neg hq]; exact ⟨by rw [nb]; exact decide_eq_false hq, rfl, rfl, rfl, hq⟩
  · have z1 : way2 m.way ns ≠ 1 := by
      unfold way2
      split
      · rename_i w3
        rw [if_neg fun e => w1 (.inr ⟨w3, e⟩)]; decide
      · exact fun w => w1 (.inl w)
    rw [if_neg w1, if_neg z1]
    right; right
    refine ⟨?_, rfl, rfl, rfl⟩
    have sm := W.same _ (hn.2.2.1 h1)
    rw [← hn.1] at sm
    have no : alook (numS (nextN ns)) st = none := by
      cases hq : alook (numS (nextN ns)) st with
      | none => rfl
      | some o => exact absurd ((N.iff_ _ h1 h2).mp (by rw [hq]; rfl)) h3
    unfold noBackup
    show (decide (num pF (nextN ns) = ⟨#[]⟩) || match alook (num pF (nextN ns)) v with | some (none, _) => true | _ => false) = false
    rw [sm, no, decide_eq_false]
    · rfl
    · have : sDs ++ numS (nextN ns) ≠ ⟨#[]⟩ := by
        have : ∀ k ≤ 10, sDs ++ numS ((k : Nat) : Int) ≠ ⟨#[]⟩ := by decide +kernel
        have e : ((nextN ns).toNat : Int) = nextN ns := Int.toNat_of_nonneg (by omega)
        have := this (nextN ns).toNat (by omega)
        rwa [e] at this
      rw [hn.1]; exact this
theorem file_twin {v : Vw} {st : St} (W : Twin v st) : alook pF v = (alook sF st).map fun o => (o, true) := by
  have := W.same sF (by decide +kernel)
  rwa [show sDs ++ sF = pF from by decide +kernel] at this
theorem Twin.put {v v' : Vw} {st : St} (W : Twin v st) {n : Str} (hn : n ∈ stN) {o : Option (List Int)} (O : Okv v') (e : ∀ q, alook q v' = if q = sDs ++ n then some (o, true) else alook q v) : Twin v' (aput n o st) := by
  refine ⟨O, ?_, fun n' hn' => ?_, aput_names W.nd, fun x hx => ?_, fun q x w h => ?_⟩
  · rw [e, if_neg (Ne.symm (stN_kid n hn).2.1)]; exact W.noT
  · rw [e, alook_aput]
    by_cases q : n' = n
    · subst q; rw [if_pos rfl, if_pos rfl]; rfl
    · rw [if_neg fun z => q (stN_inj _ hn' _ hn z), if_neg q]; exact W.same n' hn'
  · obtain ⟨p, hp, rfl⟩ := List.mem_map.mp hx
    rcases mem_aput hp with rfl | ⟨hp, _⟩
    · exact hn
    · exact W.sub _ (List.mem_map.mpr ⟨p, hp, rfl⟩)
  · rw [e] at h
    split at h
    · cases h; rfl
    · exact W.wr q x w h
end Mine
end
section
open PySem PySem.W PyProof.Rows PySem.Calls
set_option maxHeartbeats 1000000
namespace Mine
theorem vw_len {T : Tree} (O : Okv T.vw) (nd : (T.L.map (·.1)).Nodup) : T.vw.length ≤ 15 := by
  have h1 : (T.L.map (·.1)).length ≤ names.length := nd.length_le_of_subset fun n hn => by
    obtain ⟨q, hq, rfl⟩ := List.mem_map.mp hn
    exact O.names q hq
  rw [List.length_map] at h1
  show (T.L.map _).length ≤ 15
  rw [List.length_map]
  exact h1
theorem sDF : sDs ++ sF = pF := by decide +kernel
theorem sF_st : sF ∈ stN := .head _
/-- the text is written -/
theorem Twin.write {v v1 : Vw} {st : St} {pr : Bool} {ns : List Int} (W : Twin v st) (O : Okv (afterW pr v1 ns)) (e : ∀ q, q ≠ pF → alook q v1 = alook q v) : Twin (afterW pr v1 ns) (aput sF (some ns) st) := by
  refine W.put sF_st O fun q => ?_
  rw [alook_afterW, sDF]
  by_cases h : q = pF
  · rw [if_pos h, if_pos h]
  · rw [if_neg h, if_neg h]
    split
    · rename_i hq; rw [hq.2, W.noT]
    · exact e q h
theorem Twin.pops {v : Vw} {st : St} {g l : List Int} {ns : List Int} (W : Twin v (aput sF (some ns) st)) (nd : (st.map (·.1)).Nodup) (hl : ∀ k ∈ l, 1 ≤ k ∧ k ≤ 10) (hg : ∀ k ∈ g, k ∈ l) : Twin (delAll (g.map (num pF)) v) (aput sF (some ns) (popL g l st)) := by
  have ex : ∀ n ∈ stN, (sDs ++ n ∈ g.map (num pF)) = (n ∈ (l.filter fun k => decide (k ∈ g)).map numS) := fun n hn => by
    apply propext
    constructor
    · intro h
      obtain ⟨k, hk, e⟩ := List.mem_map.mp h
      have hk' := hl k (hg k hk)
      obtain ⟨z1, _, z2, _⟩ := numS_eq k (by omega) hk'.2
      rw [z1] at e
      exact List.mem_map.mpr ⟨k, List.mem_filter.mpr ⟨hg k hk, decide_eq_true hk⟩, stN_inj _ (z2 hk'.1) _ hn e⟩
    · intro h
      obtain ⟨k, hk, rfl⟩ := List.mem_map.mp h
      obtain ⟨h1, h2⟩ := List.mem_filter.mp hk
      have hk' := hl k h1
      exact List.mem_map.mpr ⟨k, of_decide_eq_true h2, (numS_eq k (by omega) hk'.2).1⟩
  refine ⟨delAll_ok _ (fun e he => ?_) W.okv, ?_, fun n hn => ?_, aput_names (popL_keys.1 nd), fun x hx => ?_, fun q x w h => ?_⟩
  · obtain ⟨k, hk, rfl⟩ := List.mem_map.mp he
    have hk' := hl k (hg k hk)
    obtain ⟨z1, _, z2, _⟩ := numS_eq k (by omega) hk'.2
    rw [z1]; exact (stN_kid _ (z2 hk'.1)).1
  · rw [alook_delAll, W.noT]; simp
  · rw [alook_delAll, W.same n hn, alook_aput, alook_aput]
    by_cases h : n = sF
    · subst h
      rw [if_pos rfl, if_pos rfl, decide_eq_false]
      · rfl
      · intro h
        rw [ex _ sF_st] at h
        obtain ⟨k, hk, e⟩ := List.mem_map.mp h
        have hk' := hl k (List.mem_filter.mp hk).1
        exact (numS_eq k (by omega) hk'.2).2.2.2.1 e
    · rw [if_neg h, if_neg h, alook_popL]
      have e1 : decide (sDs ++ n ∈ g.map (num pF)) = decide (n ∈ (l.filter fun k => decide (k ∈ g)).map numS) := decide_eq_decide.mpr (iff_of_eq (ex n hn))
      rw [e1]
      cases decide (n ∈ (l.filter fun k => decide (k ∈ g)).map numS) <;> rcases alook n st with _ | _ | _ <;> rfl
  · obtain ⟨p, hp, rfl⟩ := List.mem_map.mp hx
    rcases mem_aput hp with rfl | ⟨hp, _⟩
    · exact sF_st
    · have := popL_keys.2 _ (List.mem_map.mpr ⟨p, hp, rfl⟩)
      refine W.sub _ ?_
      have := alook_mem.mpr this
      refine alook_mem.mp ?_
      rw [alook_aput]; split
      · rfl
      · exact this
  · rw [alook_delAll] at h
    generalize hc : (decide (q ∈ g.map (num pF)) && _) = c at h
    cases c
    · rw [if_neg (by decide)] at h; exact W.wr q x w h
    · rw [if_pos rfl] at h; cases h
/-- the first save: what stands is what the law says -/
theorem save1 {v : Vw} {st : St} {ns : List Int} {m : Man} {ms tx : List Int} (W : Twin v st) (N : Nums st ns) (hz : v.length ≤ 24) (hw : 0 ≤ m.way ∧ m.way ≤ 3) (hf : alook sF st = some (some ms) ∨ alook sF st = none) :
    Twin (viewW v m (plan m ns) false ms tx) (aput sF (some tx) (stepB st m ns ms)) ∧ madeW v m (plan m ns) false = (decide (lbk m.way st ns ≠ ⟨#[]⟩) || (decide (m.way = 0) && (alook sF st).isSome)) := by
  have fv := file_twin W
  obtain ⟨n1, n2, n3, _⟩ := N.next
  obtain ⟨k1, k2, _⟩ := N.every
  have hn := numS_eq (nextN ns) (by omega) n2
  have plain : ∀ v1, v1 = v → Twin (afterW m.pr v1 tx) (aput sF (some tx) st) := fun v1 e => by
    subst e; exact W.write (W.okv.afterW (by omega)).1 fun _ _ => rfl
  unfold viewW extraW madeW
  rcases hf with hf | hf
  · have isf : isFileV v pF = true := by rw [isFileV_eq, fv, hf]; rfl
    have hF : alook pF v = some (some ms, true) := by rw [fv, hf]; rfl
    simp only [isf, Bool.not_false, Bool.and_self, if_true]
    unfold stepB
    rcases lbk_plan (ms := ms) W N hf hw with ⟨b1, b2⟩ | ⟨b1, b2, b3, b4, b5⟩ | ⟨b1, b2, b3, b4⟩
    · rw [b2]
      unfold madeB afterB
      rw [if_pos b1, if_pos b1]
      refine ⟨plain v rfl, ?_⟩
      simp [hf]
    · have O1 := afterB_ok (m := m) (ms := ms) W.okv hz W.noT (.inl hF) (o := (plan m ns).1) fun _ => by rw [b2]; exact ⟨pB_kid, by decide +kernel, by decide +kernel⟩
      have lk := fun q => alook_afterB (m := m) (v := v) (o := (plan m ns).1) (q := q) (ms := ms)
      generalize afterB m v (plan m ns).1 ms = v1 at O1 lk ⊢
      unfold madeB
      rw [b4, if_neg (by rw [b1]; decide), b3, if_neg (by decide), if_pos rfl]
      refine ⟨?_, ?_⟩
      · have W2 : Twin (aput pB (some ms, true) v) (aput sFt (some ms) st) := W.put (by decide +kernel) (W.okv.put pB_kid _ (by omega)) fun q => by
          rw [alook_aput, show sDs ++ sFt = pB from by decide +kernel]
        refine W2.write (O1.1.afterW (by have := O1.2.1; omega)).1 fun q hq => ?_
        rw [lk, alook_aput, if_neg (by rw [b1]; decide), b2]
        split
        · rfl
        · rw [if_neg fun z => hq z.2]
      · simp [show (plan m ns).1 ≠ ⟨#[]⟩ from by rw [b2]; decide]
    · have kid := stN_kid _ (hn.2.2.1 n1)
      have O1 := afterB_ok (m := m) (ms := ms) W.okv hz W.noT (.inl hF) (o := (plan m ns).1) fun _ => by rw [b2, hn.1]; exact ⟨kid.1, fun e => hn.2.2.2.1 (kid.2.2.2.2.1 e), kid.2.1⟩
      have lk := fun q => alook_afterB (m := m) (v := v) (o := (plan m ns).1) (q := q) (ms := ms)
      generalize afterB m v (plan m ns).1 ms = v1 at O1 lk ⊢
      unfold madeB
      rw [b4, if_neg (by rw [b1]; decide), b3, if_neg hn.2.2.2.2.2, if_neg hn.2.2.2.2.1]
      refine ⟨?_, ?_⟩
      · have W2 : Twin (aput (num pF (nextN ns)) (some ms, true) v) (aput (numS (nextN ns)) (some ms) st) := W.put (hn.2.2.1 n1) (W.okv.put (by rw [hn.1]; exact kid.1) _ (by omega)) fun q => by
          rw [alook_aput, hn.1]
        have W3 : Twin (afterW m.pr v1 tx) (aput sF (some tx) (aput (numS (nextN ns)) (some ms) st)) := W2.write (O1.1.afterW (by have := O1.2.1; omega)).1 fun q hq => by
          rw [lk, alook_aput, if_neg (by rw [b1]; decide), b2]
          split
          · rfl
          · rw [if_neg fun z => hq z.2]
        exact W3.pops W2.nd k1 fun k hk => islice_mem hk
      · have : (plan m ns).1 ≠ ⟨#[]⟩ := by
          rw [b2, hn.1]
          have : ∀ k ≤ 10, sDs ++ numS ((k : Nat) : Int) ≠ ⟨#[]⟩ := by decide +kernel
          have e : ((nextN ns).toNat : Int) = nextN ns := Int.toNat_of_nonneg (by omega)
          have := this (nextN ns).toNat (by omega)
          rwa [e] at this
        simp [this, hn.2.2.2.2.2]
  · have isf : isFileV v pF = false := by rw [isFileV_eq, fv, hf]; rfl
    have lb : lbk m.way st ns = ⟨#[]⟩ := by unfold lbk; rw [hf]; split <;> rfl
    simp only [isf, Bool.not_false, Bool.and_false, Bool.false_eq_true, if_false]
    unfold stepB
    rw [lb, if_pos rfl]
    refine ⟨plain v rfl, ?_⟩
    simp [hf]
/-- the second save -/
theorem save2 {v : Vw} {st : St} {pl : Str × List Str} {m : Man} {ms tx : List Int} (W : Twin v st) (hz : v.length ≤ 24) : Twin (viewW v m pl true ms tx) (aput sF (some tx) st) := by
  unfold viewW extraW
  simp only [Bool.not_true, Bool.false_and, Bool.false_eq_true, if_false]
  exact W.write (W.okv.afterW (by omega)).1 fun _ _ => rfl
end Mine
end
section
open PySem PySem.W PyProof.Rows PySem.Calls
set_option maxHeartbeats 1000000
namespace Mine
/-- what stands while the law runs -/
structure LawAt (H : HL) (L t dS aD : Addr) (T : Tree) (kv : List (Str × V)) (st : St) (ds : List Int) : Prop where
  tree : TreeAt H t T
  cell : H (L + 1) = some (.cell (some (.ref dS)))
  dict : H dS = some (.dict kv)
  stv : StV H kv st
  deck : H aD = some (.list (ds.map V.int))
  dlen : ds.length ≤ 100
  ne : dS ≠ T.e
/-- all but the lists stands -/
def NL (H H' : HL) : Prop := ∀ a o, H a = some o → (∀ l, o ≠ .list l) → H' a = some o
theorem NL.set {H : HL} {a : Addr} {l l' : List V} (h : H a = some (.list l)) : NL H (H.set a (.list l')) := fun b o e n => by
  rw [HL.set_ne]
  · exact e
  · rintro rfl; rw [h] at e; exact n l (Option.some.inj e).symm
theorem TreeAt.nl {H H' : HL} {t : Addr} {T : Tree} (A : TreeAt H t T) (h : NL H H') : TreeAt H' t T :=
  ⟨h _ _ A.t fun _ h => (by cases h), h _ _ A.e fun _ h => (by cases h), fun p hp => ⟨h _ _ (A.ent p hp).1 fun _ h => (by cases h), fun hd => h _ _ ((A.ent p hp).2.1 hd) fun _ h => (by cases h), (A.ent p hp).2.2⟩, A.nd, A.xd, A.len⟩
theorem TreeAt.offDict {H : HL} {t d : Addr} {T : Tree} {kv kv' : List (Str × V)} (A : TreeAt H t T) (h : H d = some (.dict kv)) (ne : d ≠ T.e) : TreeAt (H.set d (.dict kv')) t T := by
  have k : ∀ a o, H a = some o → (∀ kv, o ≠ .dict kv) → (H.set d (.dict kv')) a = some o := fun a o e n => by
    rw [HL.set_ne]
    · exact e
    · rintro rfl; rw [h] at e; exact n kv (Option.some.inj e).symm
  exact ⟨k _ _ A.t fun _ h => (by cases h), by rw [HL.set_ne (Ne.symm ne)]; exact A.e, fun p hp => ⟨k _ _ (A.ent p hp).1 fun _ h => (by cases h), fun hd => k _ _ ((A.ent p hp).2.1 hd) fun _ h => (by cases h), (A.ent p hp).2.2⟩, A.nd, A.xd, A.len⟩
section
variable {H H' : HL} {L t dS aD : Addr} {T : Tree} {kv : List (Str × V)} {st : St} {ds : List Int}
theorem LawAt.le (A : LawAt H L t dS aD T kv st ds) (h : ∀ a o, H a = some o → H' a = some o) : LawAt H' L t dS aD T kv st ds :=
  ⟨A.tree.le h, h _ _ A.cell, h _ _ A.dict, A.stv.mono fun a l e => h _ _ e, h _ _ A.deck, A.dlen, A.ne⟩
theorem LawAt.new (A : LawAt H L t dS aD T kv st ds) {a : Addr} {o : O} (h : H a = none) : LawAt (H.set a o) L t dS aD T kv st ds := A.le (HL.le_set h)
theorem LawAt.draw (A : LawAt H L t dS aD T kv st ds) : LawAt (H.set aD (.list (ds.tail.map V.int))) L t dS aD T kv st ds.tail := by
  have n : NL H (H.set aD (.list (ds.tail.map V.int))) := NL.set A.deck
  exact ⟨A.tree.nl n, n _ _ A.cell fun _ h => (by cases h), n _ _ A.dict fun _ h => (by cases h), A.stv.mono fun a l e => n _ _ e fun _ h => (by cases h), HL.set_self, by have := A.dlen; rw [List.length_tail]; omega, A.ne⟩
theorem LawAt.nl (A : LawAt H L t dS aD T kv st ds) {a : Addr} {l l' : List V} (h : H a = some (.list l)) (hne : a ≠ aD) : LawAt (H.set a (.list l')) L t dS aD T kv st ds := by
  have n : NL H (H.set a (.list l')) := NL.set h
  exact ⟨A.tree.nl n, n _ _ A.cell fun _ h => (by cases h), n _ _ A.dict fun _ h => (by cases h), A.stv.mono fun a l e => n _ _ e fun _ h => (by cases h), by rw [HL.set_ne hne.symm]; exact A.deck, A.dlen, A.ne⟩
theorem LawAt.off (A : LawAt H L t dS aD T kv st ds) {a : Addr} {o : O} (h : H a = some o) (hd : ∀ kv, o ≠ .dict kv) : a ≠ T.e := A.tree.ne_e h hd
theorem LawAt.did {vw : Vw} (A : LawAt H L t dS aD T kv st ds) (D : Did H t T vw H') : ∃ T', LawAt H' L t dS aD T' kv st ds ∧ T'.vw = vw ∧ T'.e = T.e ∧ Frm H H' T := by
  obtain ⟨T', A', e, v, f⟩ := D
  exact ⟨T', ⟨A', f _ _ A.cell (A.off A.cell fun _ h => by cases h) (fun _ h => by cases h) (fun _ h => by cases h), f _ _ A.dict A.ne (fun _ h => by cases h) (fun _ h => by cases h),
    A.stv.mono fun a l q => f _ _ q (A.off q fun _ h => by cases h) (fun _ h => by cases h) (fun _ h => by cases h), f _ _ A.deck (A.off A.deck fun _ h => by cases h) (fun _ h => by cases h) (fun _ h => by cases h), A.dlen, by rw [e]; exact A.ne⟩, v, e, f⟩
/-- a store into the law's dict -/
theorem LawAt.put (A : LawAt H L t dS aD T kv st ds) {n : Str} {v : V} {o : Option (List Int)} (hv : TextF H v o) : LawAt (H.set dS (.dict (dput n v kv))) L t dS aD T (dput n v kv) (aput n o st) ds := by
  have k : ∀ a y, H a = some y → (∀ kv, y ≠ .dict kv) → (H.set dS (.dict (dput n v kv))) a = some y := fun a y e q => by
    rw [HL.set_ne]
    · exact e
    · rintro rfl; rw [A.dict] at e; exact q kv (Option.some.inj e).symm
  have kf : ∀ a l, H a = some (.flist l) → (H.set dS (.dict (dput n v kv))) a = some (.flist l) := fun a l e => k _ _ e fun _ h => by cases h
  exact ⟨A.tree.offDict A.dict A.ne, k _ _ A.cell fun _ h => (by cases h), HL.set_self, StV.put (hv.mono kf) (A.stv.mono kf), k _ _ A.deck fun _ h => (by cases h), A.dlen, A.ne⟩
theorem LawAt.pop (A : LawAt H L t dS aD T kv st ds) {n : Str} : LawAt (H.set dS (.dict (ddel n kv))) L t dS aD T (ddel n kv) (adel n st) ds := by
  have k : ∀ a y, H a = some y → (∀ kv, y ≠ .dict kv) → (H.set dS (.dict (ddel n kv))) a = some y := fun a y e q => by
    rw [HL.set_ne]
    · exact e
    · rintro rfl; rw [A.dict] at e; exact q kv (Option.some.inj e).symm
  exact ⟨A.tree.offDict A.dict A.ne, k _ _ A.cell fun _ h => (by cases h), HL.set_self, StV.del (A.stv.mono fun a l e => k _ _ e fun _ h => by cases h), k _ _ A.deck fun _ h => (by cases h), A.dlen, A.ne⟩
end
abbrev nDraw : Str := ⟨#[95, 108, 97, 119, 95, 100, 114, 97, 119]⟩
theorem W.draw {X : Cx} {vs : List (Option V)} {H : HL} {P : V → HL → Prop} {p1 p2 p3 p4 : Pos} {ck : Nat} {aD : Addr} {ds : List Int} {k : Int} (i j : Nat) (hi : X.gs[i]? = some nDraw) (hj : X.ns[j]? = some nDeck) (hv : vs[j]? = some (some (.ref aD))) (hd : 1 ≤ X.d) (ha : H aD = some (.list (ds.map V.int))) (hl : ds.length ≤ 100) (hk : k ≠ 0) (h : P (.int (draw ds k)) (H.set aD (.list (ds.tail.map V.int)))) :
    W X vs H ((Expr.Name nDraw p1).Call [.Name nDeck p2, .Constant (.int k) ck p3] [] p4) P :=
  W.call (k := 1) i hi (G_law_draw X.w) hd (WA.cons (W.var j hj hv (WA.cons (W.cInt (WA.nil (Fn.turn (fn_law_draw aD ds k hk H ha hl) (Nat.le_refl _) h))))))
theorem draw_rng (ds : List Int) {k : Int} (hk : 0 < k) : 0 ≤ draw ds k ∧ draw ds k < k := by
  unfold draw
  cases ds with
  | nil => exact ⟨Int.le_refl _, hk⟩
  | cons d r => exact ⟨Int.fmod_nonneg_of_pos d hk, Int.fmod_lt_of_pos d hk⟩
end Mine
end
section
open PySem PySem.W PyProof.Rows PySem.Calls
set_option maxHeartbeats 1000000
namespace Mine
noncomputable abbrev lb : List Stmt := fnBody (stAt 38)
/-- the law's frame; abs is a name of the comprehension's scope alone -/
noncomputable abbrev LX (w : World) (h₀ : Heap) (L : Addr) (A : Around) (os : OsState) : Cx := { X_law w h₀ L A 10 os with gs := [⟨#[70, 105, 108, 101, 84, 114, 101, 101]⟩, ⟨#[95, 108, 97, 119, 95, 100, 114, 97, 119]⟩, ⟨#[114, 97, 110, 103, 101]⟩, ⟨#[115, 116, 114]⟩, ⟨#[115, 111, 114, 116, 101, 100]⟩, ⟨#[83, 73, 78, 71, 76, 69]⟩, ⟨#[78, 85, 77, 66, 69, 82, 69, 68]⟩, ⟨#[65, 83, 95, 66, 69, 70, 79, 82, 69]⟩, ⟨#[78, 69, 86, 69, 82]⟩, ⟨#[77, 97, 110, 110, 101, 114]⟩, ⟨#[95, 108, 97, 119, 95, 115, 116, 97, 110, 100, 115]⟩, ⟨#[95, 108, 97, 119, 95, 115, 97, 118, 101, 100]⟩, ⟨#[95, 108, 97, 119, 95, 98, 97, 99, 107, 117, 112]⟩, ⟨#[109, 97, 120]⟩, ⟨#[108, 101, 110]⟩, ⟨#[105, 115, 105, 110, 115, 116, 97, 110, 99, 101]⟩, ⟨#[98, 111, 111, 108]⟩] }
abbrev nAbs : Str := ⟨#[97, 98, 115]⟩
theorem nm_D : Nm sD ∧ fpar sD = sSlash ∧ sD.length ≤ 100 := by
  have : scanB sD = true ∧ sD ≠ sSlash ∧ (¬ Txt.rfind sD sSlash < 0) ∧ (fdir sD).length ≤ 1000 ∧ scanB (fpar sD) = true ∧ (fpar sD).length + (flast sD).length ≤ 1000 ∧ fjoin (fpar sD) (flast sD) = sD ∧ sD.length ≤ 100 ∧ fpar sD = sSlash := by decide +kernel
  obtain ⟨a, b, c, d, e, f, g, h, i⟩ := this
  exact ⟨⟨scanB_ok a, b, c, d, scanB_ok e, f, g, h⟩, i, h⟩
variable {w : World} {h₀ : Heap} {L : Addr} {A : Around} {os : OsState} {P : Fl → List (Option V) → HL → Prop}
/-- a slice of a list that stood before -/
theorem W.sliceOld {X : Cx} {vs : List (Option V)} {H : HL} {P : V → HL → Prop} {e : Expr} {lo up : Option Expr} {p pos : Pos} {us : List Value} {ns : List Int} (h : W X vs H e fun v H1 => ∃ a, v = .ref a ∧ X.h₀.IsList a us.toArray ∧ IntsAre us ns ∧ us.length ≤ 1000 ∧ Bnd X vs H1 lo fun i H2 => Bnd X vs H2 up fun j H3 => ∀ d, H3 d = Option.none → P (.ref d) (H3.set d (.list ((islice ns i j).map V.int))))
    (hs : ∀ a b, subscripted (.Slice lo up none p) false (.ref a) (.ref b) = operate [.ref b, .ref a] (getItem (.ref a) (.ref b)) := by intro _ _; with_unfolding_all rfl)
    (ht : ∀ (o r : Value), letTemporaryGo e o r = pure () := by intro _ _; rfl) : W X vs H (.Subscript e (.Slice lo up none p) pos) P := fun O s Q E R q => by
  refine Subscript_ (h O s _ _ R fun v u H1 s1 h1 vu R1 => ?_)
  obtain ⟨a, rfl, hL0, hI, hz, hb⟩ := h1
  obtain rfl : u = .ref a := vu
  have part : ∀ (o : Option Expr) (s : Shared) (H : HL) (Q' : Value → Shared → Prop) (P' : Option Int → HL → Prop), Bnd X vs H o P' → Rel X vs H s → (∀ i H' s', P' i H' → Rel X vs H' s' → ∀ t, Q' (match i with | Option.none => Value.none | some i => .int i t) s') → wpAny (Md X) X.A (evalPart o X.env) Q' E s := by
    intro o s H Q' P' hb R q'
    cases o with
    | none => exact wpAny_evalPart_none (q' none _ _ hb R 0)
    | some e => exact wpAny_evalPart_some (hb O s _ _ R fun v u H1 s1 h1 vu R1 => by
        obtain ⟨i, rfl, hp⟩ := h1
        obtain ⟨t, rfl⟩ := vu
        exact q' (some i) H1 s1 hp R1 t)
  refine wpAny_Slice (part lo s1 H1 _ _ hb R1 fun i H2 s2 h2 R2 ti => part up s2 H2 _ _ h2 R2 fun j H3 s3 h3 R3 tj => ?_)
  refine wpAny_evalPart_none ?_
  obtain ⟨m, news, δ, F, N, D, lr, r⟩ := R3.ex
  have hL : s3.heap.IsList a us.toArray := let ⟨o, g, c⟩ := hL0; ⟨o, F.keep _ _ g, c⟩
  refine slice_list (lo := i) (hi := j) F N hL (by cases i <;> constructor) (by cases j <;> constructor) (fun h' F' N' => ?_) (hs _ _) (fun r => ht _ r) (by rw [List.size_toArray, sizeLine_eq]; omega)
  obtain ⟨fr, R4⟩ := R3.make (k := s3.toks) F' N' D lr r (fun p hp => Nat.lt_succ_of_lt (Heap.lt_size (N p hp).1)) (ob := .list ((islice ns i j).map V.int)) (fun news' hm => ⟨_, _, hm, by rw [← lslice_ints]; exact (vrsInts hI).slice i j⟩) (fun _ _ h => by cases h)
  exact q _ _ _ _ (h3 _ fr) rfl R4
theorem segA (a0 : Addr) (us : List Value) (xs : List Int) (hl : xs.length ≤ 100) (H : HL) (hx : h₀.IsList a0 us.toArray) (hI : IntsAre us xs) (hc : H (L + 1) = some (.cell none))
    (k : ∀ H' t dS aD T ds, LawAt H' L t dS aD T [] [] ds → T.vw = [(sSlash, none, true), (sD, none, true)] → B (LX w h₀ L A os) [some (.ref a0), some (.ref aD), some (.ref t), none, none, none, none, none, none, none, none, none, none, none, none] H' (lb.drop 2) P) :
    B (LX w h₀ L A os) [some (.ref a0), none, none, none, none, none, none, none, none, none, none, none, none, none, none] H lb P := by
  refine B.cons (S.asTup3 (W.tuple (WA.cons (W.comp [nAbs] (cl := []) ?K (W.sliceOld (us := us) (ns := xs) (W.var 0 rfl rfl ?_))))) (by kernel_rfl))
  case K => exact ⟨by kernel_rfl, by decide +kernel, by kernel_rfl, by decide +kernel, by kernel_rfl, by kernel_rfl, by
    intro n hn
    have : n = nAbs := List.mem_singleton.mp hn
    subst this
    exact ⟨by kernel_rfl, by kernel_rfl⟩⟩
  refine ⟨a0, rfl, hx, hI, by rw [← (vrsInts hI).length, List.length_map]; omega, W.cInt ⟨40, rfl, fun d1 hd1 => ?_⟩⟩
  have hil : (islice xs none (some 40)).length ≤ 100 := Nat.le_trans (islice_len _ _ _) hl
  generalize islice xs none (some 40) = ys at hil ⊢
  refine ⟨d1, _, rfl, HL.set_self, fun D h₀' C hD => ?_⟩
  have hD1 : D ≠ d1 := fun q => by rw [q, HL.set_self] at hD; cases hD
  refine CompL.inv (I := fun r H' => ∃ done rest, ys = done ++ rest ∧ r = rest.map V.int ∧ H' = (H.set d1 (.list (ys.map V.int))).set D (.list ((done.map fun i => if i < 0 then -i else i).map V.int))) ?_ ?_ ?_ _ _ ⟨[], _, rfl, rfl, rfl⟩
  · rintro _ _ ⟨done, rest, _, _, rfl⟩; rw [HL.set_ne hD1.symm]; exact HL.set_self
  · rintro _ ⟨done, rest, e1, er, rfl⟩
    have : rest = [] := by cases rest with | nil => rfl | cons q r => cases er
    subst this
    rw [List.append_nil] at e1
    subst e1
    have le0 : ∀ x y, H x = some y → ((H.set d1 (.list (ys.map V.int))).set D (.list ((ys.map fun i => if i < 0 then -i else i).map V.int))) x = some y := fun x y q => HL.le_set hD _ _ (HL.le_set hd1 _ _ q)
    have hDD : ((H.set d1 (.list (ys.map V.int))).set D (.list ((ys.map fun i => if i < 0 then -i else i).map V.int))) D = some (.list ((ys.map fun i => if i < 0 then -i else i).map V.int)) := HL.set_self
    have hlz : (ys.map fun i => if i < 0 then -i else i).length ≤ 100 := by rw [List.length_map]; exact hil
    generalize (H.set d1 (.list (ys.map V.int))).set D (.list ((ys.map fun i => if i < 0 then -i else i).map V.int)) = H1 at le0 hDD ⊢
    generalize (ys.map fun i => if i < 0 then -i else i) = ds at hDD hlz ⊢
    refine WA.cons (W.new (k := 3) 0 rfl (C_FileTree w) (N_FileTree w) (Nat.le_of_ble_eq_true rfl) (WA.nil fun t ht => Fn.mono (fn_FileTree_init t _ HL.set_self) (Nat.le_refl _) ?_))
    rintro _ H2 ⟨rfl, T, AT, vT, le1⟩
    refine ⟨rfl, WA.cons (W.dict0 fun dS hdS => WA.nil ⟨Nat.le_of_ble_eq_true rfl, fun tp htp => ?_⟩)⟩
    have le2 : ∀ x y, H1 x = some y → H2 x = some y := fun x y q => le1 x y (HL.le_set ht _ _ q) fun e => by rw [e, ht] at q; cases q
    have hLc := le2 _ _ (le0 _ _ hc)
    have neS : dS ≠ T.e := fun e => by rw [e, AT.e] at hdS; cases hdS
    have neL : L + 1 ≠ dS := fun e => by rw [e, hdS] at hLc; cases hLc
    have neL2 : L + 1 ≠ tp := fun e => by rw [← e, HL.set_ne neL, hLc] at htp; cases htp
    refine ⟨tp, _, _, _, rfl, HL.set_self, Sto.loc 1 rfl (Sto.loc 2 rfl (Sto.cell (c := L + 1) (x := none) (by kernel_rfl) (by kernel_rfl) (by rw [HL.set_ne neL2, HL.set_ne neL]; exact hLc) ?_))⟩
    have LA : LawAt ((((H2.set dS (.dict [])).set tp (.tup [.ref D, .ref t, .ref dS])).set (L + 1) (.cell (some (.ref dS))))) L t dS D T [] [] ds := by
      have k1 : ∀ x y, H2 x = some y → x ≠ L + 1 → (((H2.set dS (.dict [])).set tp (.tup [.ref D, .ref t, .ref dS])).set (L + 1) (.cell (some (.ref dS)))) x = some y := fun x y q n => by
        rw [HL.set_ne n]; exact HL.le_set htp _ _ (HL.le_set hdS _ _ q)
      have ncell : ∀ x y, H2 x = some y → (∀ v, y ≠ .cell v) → x ≠ L + 1 := fun x y q n e => by rw [e, hLc] at q; exact n none (Option.some.inj q).symm
      have k2 : ∀ x y, H2 x = some y → (∀ v, y ≠ .cell v) → (((H2.set dS (.dict [])).set tp (.tup [.ref D, .ref t, .ref dS])).set (L + 1) (.cell (some (.ref dS)))) x = some y := fun x y q n => k1 x y q (ncell x y q n)
      refine ⟨⟨k2 _ _ AT.t fun _ h => (by cases h), k2 _ _ AT.e fun _ h => (by cases h), fun p hp => ⟨k2 _ _ (AT.ent p hp).1 fun _ h => (by cases h), fun hd => k2 _ _ ((AT.ent p hp).2.1 hd) fun _ h => (by cases h), (AT.ent p hp).2.2⟩, AT.nd, AT.xd, AT.len⟩, HL.set_self, ?_, trivial, k2 _ _ (le2 _ _ hDD) fun _ h => (by cases h), hlz, neS⟩
      rw [HL.set_ne neL.symm]
      exact HL.le_set htp _ _ HL.set_self
    generalize ((H2.set dS (.dict [])).set tp (.tup [.ref D, .ref t, .ref dS])).set (L + 1) (.cell (some (.ref dS))) = H3 at LA ⊢
    refine B.cons (S.expr (W.mcall (W.var 2 rfl rfl ?_)))
    have h0 : alook sSlash T.vw = some (none, true) := by rw [vT]; rfl
    obtain ⟨E, e1, e2, e3⟩ := vDir h0
    refine ⟨t, 375, _, 332, 6, rfl, LA.tree.t, M_FileTree_make_directory w, rfl, Nat.le_of_ble_eq_true rfl, WA.cons (W.cStr (WA.nil (Fn.mono (fn_make_directory t T H3 LA.tree sD nm_D.1 (vNone (by rw [vT]; rfl)) (by
      have : T.vw.length = 1 := by rw [vT]; rfl
      unfold Tree.vw mapV at this
      rw [List.length_map] at this
      omega) E (by rw [nm_D.2.1]; exact e1) e2 e3) (Nat.le_refl _) ?_)))⟩
    rintro _ H4 ⟨rfl, hDid⟩
    obtain ⟨T4, LA4, v4, _, _⟩ := LA.did hDid
    refine k H4 t dS D T4 ds LA4 ?_
    rw [v4, vT]; rfl
  · rintro v r _ ⟨done, rest, e1, er, rfl⟩ it o hit
    cases rest with
    | nil => cases er
    | cons i rest =>
      obtain ⟨rfl, rfl⟩ : v = V.int i ∧ r = rest.map V.int := List.cons.inj er
      have hiD : it ≠ D := fun q => by rw [q, HL.set_self] at hit; cases hit
      have hdl : done.length ≤ 100 := Nat.le_trans (by rw [e1, List.length_append]; omega) hil
      refine TS.nil (iteT rfl (W.bcall 0 rfl (B_abs w) (WA.cons (W.var 0 rfl rfl (WA.nil (CB.abs ?_))))))
      refine ⟨_, (done.map fun i => if i < 0 then -i else i).map V.int, rfl, hit, HL.set_self, by rw [List.length_map, List.length_map]; omega, done ++ [i], rest, by rw [e1, List.append_assoc]; rfl, rfl, ?_⟩
      rw [HL.set_set, List.map_append, List.map_append]; rfl
end Mine
end
section
open PySem PySem.W PyProof.Rows PySem.Calls
set_option maxHeartbeats 1000000
namespace Mine
variable {w : World} {h₀ : Heap} {L : Addr} {A : Around} {os : OsState} {P : Fl → List (Option V) → HL → Prop}
theorem twin0 : Twin [(sSlash, none, true), (sD, none, true)] [] := by
  refine ⟨⟨rfl, by decide, by decide +kernel⟩, rfl, by unfold Same; decide +kernel, List.nodup_nil, fun n hn => (by cases hn), fun q x w h => ?_⟩
  unfold alook at h
  split at h
  · cases h; rfl
  · unfold alook at h
    split at h
    · cases h; rfl
    · cases h
theorem rep1 (k : Nat) : (List.replicate k [V.int 1]).flatten = (List.replicate k (1 : Int)).map V.int := by
  induction k with
  | zero => rfl
  | succ k ih => rw [List.replicate_succ, List.flatten_cons, ih]; rfl
/-- the file's own text -/
structure FSt (st : St) (v : Vw) : Prop where
  tw : Twin v st
  ff : alook sF st = none ∨ ∃ ms : List Int, alook sF st = some (some ms) ∧ ms.length ≤ 100
  only : ∀ n, n ≠ sF → alook n st = none
  ls : st.length ≤ 1
  lv : v.length ≤ 3
/-- the law's cell -/
theorem W.stands {vs : List (Option V)} {H : HL} {pos : Pos} {dS : Addr} {Q : V → HL → Prop} (hc : H (L + 1) = some (.cell (some (.ref dS)))) (h : Q (.ref dS) H) : W (LX w h₀ L A os) vs H (.Name nStands pos) Q :=
  W.cvar (c := L + 1) (by kernel_rfl) (by kernel_rfl) (by rfl) hc h
theorem segB (a0 t dS aD : Addr) (T : Tree) (ds : List Int) (H : HL) (LA : LawAt H L t dS aD T [] [] ds) (hv : T.vw = [(sSlash, none, true), (sD, none, true)])
    (k : ∀ H' T' kv' st' ds', LawAt H' L t dS aD T' kv' st' ds' → FSt st' T'.vw → B (LX w h₀ L A os) [some (.ref a0), some (.ref aD), some (.ref t), none, none, none, none, none, none, none, none, none, none, none, none] H' (lb.drop 3) P) :
    B (LX w h₀ L A os) [some (.ref a0), some (.ref aD), some (.ref t), none, none, none, none, none, none, none, none, none, none, none, none] H (lb.drop 2) P := by
  refine B.cons (S.ite (WT.cmpv (W.draw 1 1 rfl rfl rfl (Nat.le_of_ble_eq_true rfl) LA.deck LA.dlen (by decide) (W.cInt ⟨_, rfl, ?_⟩))))
  have LA1 := LA.draw
  generalize H.set aD (.list (ds.tail.map V.int)) = H1 at LA1 ⊢
  generalize ds.tail = ds1 at LA1 ⊢
  by_cases h3 : draw ds 4 < 3
  · refine iteT (decide_eq_true h3) (B.cons (S.setItem (W.mulList (W.list (WA.cons (W.cInt (WA.nil ⟨Nat.le_of_ble_eq_true rfl, fun d1 hd1 => ?_⟩)))))))
    have LA2 := LA1.new (o := .list [.int 1]) hd1
    have hd1' : (H1.set d1 (.list [.int 1])) d1 = some (.list [.int 1]) := HL.set_self
    have hda : d1 ≠ aD := fun e => by rw [e, LA1.deck] at hd1; cases hd1
    generalize H1.set d1 (.list [.int 1]) = H2 at LA2 hd1' ⊢
    refine W.draw 1 1 rfl rfl rfl (Nat.le_of_ble_eq_true rfl) LA2.deck LA2.dlen (by decide) ?_
    have LA3 := LA2.draw
    have hd1'' : (H2.set aD (.list (ds1.tail.map V.int))) d1 = some (.list [.int 1]) := by rw [HL.set_ne hda]; exact hd1'
    generalize H2.set aD (.list (ds1.tail.map V.int)) = H3 at LA3 hd1'' ⊢
    obtain ⟨g1, g2⟩ := draw_rng ds1 (show (0 : Int) < 3 by decide)
    generalize draw ds1 3 = kk at g1 g2 ⊢
    refine ⟨d1, _, kk, rfl, rfl, hd1'', rfl, g1, by omega, fun d2 hd2 => ?_⟩
    rw [rep1]
    have hz : (List.replicate kk.toNat (1 : Int)).length ≤ 100 := by rw [List.length_replicate]; omega
    generalize List.replicate kk.toNat (1 : Int) = z at hz ⊢
    refine W.less Le.freeze ?_
    have LA4 := LA3.new (o := .flist (z.map V.int)) hd2
    have hd2' : (H3.set d2 (.flist (z.map V.int))) d2 = some (.flist (z.map V.int)) := HL.set_self
    generalize H3.set d2 (.flist (z.map V.int)) = H4 at LA4 hd2' ⊢
    refine W.stands LA4.cell (W.cStr ⟨dS, sF, [], rfl, rfl, LA4.dict, Nat.zero_le _, ?_⟩)
    have LA5 := LA4.put (n := sF) (v := .ref d2) (o := some z) ⟨d2, rfl, hd2'⟩
    generalize H4.set dS (.dict (dput sF (.ref d2) [])) = H5 at LA5 ⊢
    have g := LA5.stv.get (n := sF)
    rw [alook_aput, if_pos rfl] at g
    obtain ⟨u, hu, c, rfl, hc⟩ := g
    refine B.cons (S.expr (W.mcall (W.var 2 rfl rfl ?_)))
    refine ⟨t, 375, _, 311, 6, rfl, LA5.tree.t, M_FileTree_write w, rfl, Nat.le_of_ble_eq_true rfl, WA.cons (W.cStr (WA.cons (W.ditem (W.stands LA5.cell (W.cStr ⟨dS, sF, _, _, rfl, rfl, LA5.dict, hu, WA.nil ?_⟩)))))⟩
    have tw : Twin T.vw [] := by rw [hv]; exact twin0
    refine Fn.mono (w_write t c T H5 LA5.tree tw.okv pF pF_kid z hc hz (.inr (by rw [hv]; rfl))) (Nat.le_refl _) ?_
    rintro _ H6 ⟨rfl, hDid⟩
    obtain ⟨T6, LA6, v6, _, _⟩ := LA5.did hDid
    refine B.nil (k H6 T6 _ _ _ LA6 ⟨?_, ?_, fun n hn => ?_, Nat.le_refl _, ?_⟩)
    · rw [v6]
      exact tw.put sF_st (tw.okv.put pF_kid _ (by rw [hv]; decide)) fun q => by rw [alook_aput, sDF]
    · exact .inr ⟨z, by rw [alook_aput, if_pos rfl], hz⟩
    · rw [alook_aput, if_neg hn]; rfl
    · rw [v6, hv]; exact aput_len
  · refine iteF (decide_eq_false h3) (B.nil (k H1 T [] [] ds1 LA1 ⟨by rw [hv]; exact twin0, .inl rfl, fun _ _ => rfl, Nat.zero_le _, by rw [hv]; decide⟩))
end Mine
end
section
open PySem PySem.W PyProof.Rows PySem.Calls
set_option maxHeartbeats 1000000
namespace Mine
structure LawN (H : HL) (L t dS aD aN : Addr) (T : Tree) (kv : List (Str × V)) (st : St) (ds ns : List Int) : Prop where
  la : LawAt H L t dS aD T kv st ds
  num : H aN = some (.list (ns.map V.int))
  nea : aN ≠ aD
section
variable {H H' : HL} {L t dS aD aN : Addr} {T : Tree} {kv : List (Str × V)} {st : St} {ds ns : List Int}
theorem LawN.le (A : LawN H L t dS aD aN T kv st ds ns) (h : ∀ a o, H a = some o → H' a = some o) : LawN H' L t dS aD aN T kv st ds ns := ⟨A.la.le h, h _ _ A.num, A.nea⟩
theorem LawN.new (A : LawN H L t dS aD aN T kv st ds ns) {a : Addr} {o : O} (h : H a = none) : LawN (H.set a o) L t dS aD aN T kv st ds ns := A.le (HL.le_set h)
theorem LawN.draw (A : LawN H L t dS aD aN T kv st ds ns) : LawN (H.set aD (.list (ds.tail.map V.int))) L t dS aD aN T kv st ds.tail ns := ⟨A.la.draw, by rw [HL.set_ne A.nea]; exact A.num, A.nea⟩
theorem LawN.did {vw : Vw} (A : LawN H L t dS aD aN T kv st ds ns) (D : Did H t T vw H') : ∃ T', LawN H' L t dS aD aN T' kv st ds ns ∧ T'.vw = vw ∧ T'.e = T.e ∧ Frm H H' T := by
  obtain ⟨T', B, v, e, f⟩ := A.la.did D
  exact ⟨T', ⟨B, f _ _ A.num (A.la.off A.num fun _ h => by cases h) (fun _ h => by cases h) (fun _ h => by cases h), A.nea⟩, v, e, f⟩
theorem LawAt.offS (A : LawAt H L t dS aD T kv st ds) {a : Addr} {y : O} (h : H a = some y) (q : ∀ kv, y ≠ .dict kv) {kv' : List (Str × V)} : (H.set dS (.dict kv')) a = some y := by
  rw [HL.set_ne]
  · exact h
  · rintro rfl; rw [A.dict] at h; exact q kv (Option.some.inj h).symm
theorem LawN.put (A : LawN H L t dS aD aN T kv st ds ns) {n : Str} {v : V} {o : Option (List Int)} (hv : TextF H v o) : LawN (H.set dS (.dict (dput n v kv))) L t dS aD aN T (dput n v kv) (aput n o st) ds ns :=
  ⟨A.la.put hv, A.la.offS A.num fun _ h => (by cases h), A.nea⟩
theorem LawN.pop (A : LawN H L t dS aD aN T kv st ds ns) {n : Str} : LawN (H.set dS (.dict (ddel n kv))) L t dS aD aN T (ddel n kv) (adel n st) ds ns :=
  ⟨A.la.pop, A.la.offS A.num fun _ h => (by cases h), A.nea⟩
theorem LawN.app (A : LawN H L t dS aD aN T kv st ds ns) {k : Int} : LawN (H.set aN (.list (ns.map V.int ++ [.int k]))) L t dS aD aN T kv st ds (ns ++ [k]) :=
  ⟨A.la.nl A.num A.nea, by rw [HL.set_self, List.map_append]; rfl, A.nea⟩
theorem LawAt.hide (A : LawAt H L t dS aD T kv st ds) {it : Addr} {o : Obj} (h : H it = some (.raw o)) : LawAt (H.hide it) L t dS aD T kv st ds := by
  have ne : ∀ a y, H a = some y → y ≠ .raw o → (H.hide it) a = some y := fun a y e hy => by
    rw [HL.hide_ne]
    · exact e
    · rintro rfl; rw [h] at e; exact hy (Option.some.inj e).symm
  exact ⟨A.tree.hide h, ne _ _ A.cell fun h => (by cases h), ne _ _ A.dict fun h => (by cases h), A.stv.mono fun a l e => ne _ _ e fun h => (by cases h), ne _ _ A.deck fun h => (by cases h), A.dlen, A.ne⟩
theorem LawN.hide (A : LawN H L t dS aD aN T kv st ds ns) {it : Addr} {o : Obj} (h : H it = some (.raw o)) : LawN (H.hide it) L t dS aD aN T kv st ds ns :=
  ⟨A.la.hide h, by rw [HL.hide_ne (fun e => by rw [← e, A.num] at h; cases h)]; exact A.num, A.nea⟩
end
/-- the dict behind the numbered ones -/
structure CSt (st0 st : St) (ns : List Int) : Prop where
  nums : Nums st ns
  nd : (st.map (·.1)).Nodup
  sub : ∀ n ∈ st.map (·.1), n ∈ stN
  ff : alook sF st = alook sF st0
  noFt : alook sFt st = none
  len : st.length ≤ 1 + ns.length
  tl : ∀ n z, alook n st = some (some z) → z.length ≤ 100
theorem CSt.step {st0 st : St} {ns : List Int} (C : CSt st0 st ns) {k : Int} {o : Option (List Int)} (h1 : 1 ≤ k) (h9 : k ≤ 9) (hk : ∀ j ∈ ns, j < k) (hl : ns.length ≤ 2) (ho : ∀ z, o = some z → z.length ≤ 100) : CSt st0 (aput (numS k) o st) (ns ++ [k]) := by
  obtain ⟨_, _, e3, e4, e5, _⟩ := numS_eq k (by omega) (by omega)
  refine ⟨⟨List.pairwise_append.mpr ⟨C.nums.asc, List.pairwise_singleton _ _, fun a ha b hb => by rw [List.mem_singleton.mp hb]; exact hk a ha⟩, fun j hj => ?_, by rw [List.length_append]; show _ + 1 ≤ 3; omega, fun j h0 h10 => ?_⟩, aput_names C.nd, fun n hn => ?_, ?_, ?_, ?_, fun n z h => ?_⟩
  · rcases List.mem_append.mp hj with q | q
    · exact C.nums.rng j q
    · rw [List.mem_singleton.mp q]; exact ⟨h1, h9⟩
  · rw [alook_aput, List.mem_append, List.mem_singleton]
    by_cases q : numS j = numS k
    · rw [if_pos q]
      exact ⟨fun _ => .inr (numS_inj (by omega) h10 (by omega) (by omega) q), fun _ => rfl⟩
    · rw [if_neg q, C.nums.iff_ j h0 h10]
      exact ⟨.inl, fun h => h.resolve_right fun z => q (by rw [z])⟩
  · obtain ⟨p, hp, rfl⟩ := List.mem_map.mp hn
    rcases mem_aput hp with rfl | ⟨hp, _⟩
    · exact e3 h1
    · exact C.sub _ (List.mem_map.mpr ⟨p, hp, rfl⟩)
  · rw [alook_aput, if_neg (Ne.symm e4)]; exact C.ff
  · rw [alook_aput, if_neg (Ne.symm e5)]; exact C.noFt
  · rw [List.length_append]
    have := aput_len (n := numS k) (v := o) (l := st)
    have := C.len
    show _ ≤ 1 + (ns.length + 1)
    omega
  · rw [alook_aput] at h
    split at h
    · exact ho z (Option.some.inj h)
    · exact C.tl n z h
variable {w : World} {h₀ : Heap} {L : Addr} {A : Around} {os : OsState} {P : Fl → List (Option V) → HL → Prop}
/-- is_protected, numbers -/
theorem segC (a0 t dS aD : Addr) (T : Tree) (kv : List (Str × V)) (st : St) (ds : List Int) (H : HL) (LA : LawAt H L t dS aD T kv st ds) (F : FSt st T.vw)
    (k : ∀ H' aN pr ds', LawN H' L t dS aD aN T kv st ds' [] → (pr = true → (alook sF st).isSome = true) → B (LX w h₀ L A os) [some (.ref a0), some (.ref aD), some (.ref t), some (.bool pr), some (.ref aN), none, none, none, none, none, none, none, none, none, none] H' (lb.drop 5) P) :
    B (LX w h₀ L A os) [some (.ref a0), some (.ref aD), some (.ref t), none, none, none, none, none, none, none, none, none, none, none, none] H (lb.drop 3) P := by
  refine B.seq (P' := fun f vs1 H1 => f = .next ∧ ∃ pr ds', vs1 = [some (.ref a0), some (.ref aD), some (.ref t), some (.bool pr), none, none, none, none, none, none, none, none, none, none, none] ∧ LawAt H1 L t dS aD T kv st ds' ∧ (pr = true → (alook sF st).isSome = true)) (S.assign 3 rfl (W.and (W.cmpv (W.draw 1 1 rfl rfl rfl (Nat.le_of_ble_eq_true rfl) LA.deck LA.dlen (by decide) (W.cInt ⟨_, rfl, _, rfl, ?_⟩))))) ?_
  · have LA1 := LA.draw
    generalize H.set aD (.list (ds.tail.map V.int)) = H1 at LA1 ⊢
    by_cases h1 : draw ds 3 = 1
    · refine iteT (beq_iff_eq.mpr h1) (W.op1 (W.inDict (W.cStr (W.stands LA1.cell ⟨sF, dS, kv, rfl, rfl, LA1.dict, rfl, (dget sF kv).isSome, ds.tail, rfl, LA1, fun h => ?_⟩))))
      have g := LA1.stv.get (n := sF)
      cases hq : alook sF st with
      | none => rw [hq] at g; rw [show dget sF kv = none from g] at h; cases h
      | some o => rfl
    · exact iteF (beq_eq_false_iff_ne.mpr h1) ⟨rfl, false, ds.tail, rfl, LA1, fun h => by cases h⟩
  rintro _ _ H1 ⟨rfl, pr, ds', rfl, LA1, hp⟩
  refine B.cons (S.assign 4 rfl (W.list (WA.nil ⟨by decide, fun aN haN => ?_⟩)))
  have hne : aN ≠ aD := fun e => by rw [e, LA1.deck] at haN; cases haN
  exact k _ aN pr ds' ⟨LA1.new haN, HL.set_self, hne⟩ hp
end Mine
end
section
open PySem PySem.W PyProof.Rows PySem.Calls
set_option maxHeartbeats 1000000
namespace Mine
variable {w : World} {h₀ : Heap} {L : Addr} {A : Around} {os : OsState} {P : Fl → List (Option V) → HL → Prop}
theorem FSt.cst {st : St} {v : Vw} (F : FSt st v) : CSt st st [] := by
  refine ⟨⟨.nil, fun k hk => (by cases hk), Nat.zero_le _, fun k h1 h2 => ?_⟩, F.tw.nd, F.tw.sub, rfl, F.only sFt (by decide), by have := F.ls; show st.length ≤ 1 + 0; omega, fun n z h => ?_⟩
  · rw [F.only _ (numS_eq k (by omega) h2).2.2.2.1]
    exact ⟨fun h => (by cases h), fun h => (by cases h)⟩
  · by_cases e : n = sF
    · subst e
      rcases F.ff with h' | ⟨ms, h', hl⟩
      · rw [h'] at h; cases h
      · rw [h'] at h; cases h; exact hl
    · rw [F.only n e] at h; cases h
theorem range_map (k : Nat) : (List.range k).map (fun (t : Nat) => V.int (t : Int)) = (List.range' 0 k).map (fun (t : Nat) => V.int (t : Int)) := by rw [List.range_eq_range']
/-- the numbered ones -/
theorem segD (a0 t dS aD aN : Addr) (pr : Bool) (T : Tree) (kv : List (Str × V)) (st : St) (ds : List Int) (H : HL) (LN : LawN H L t dS aD aN T kv st ds []) (F : FSt st T.vw)
    (k : ∀ H' x5 x6 kv' st' ds' ns, LawN H' L t dS aD aN T kv' st' ds' ns → CSt st st' ns → B (LX w h₀ L A os) [some (.ref a0), some (.ref aD), some (.ref t), some (.bool pr), some (.ref aN), x5, x6, none, none, none, none, none, none, none, none] H' (lb.drop 6) P) :
    B (LX w h₀ L A os) [some (.ref a0), some (.ref aD), some (.ref t), some (.bool pr), some (.ref aN), none, none, none, none, none, none, none, none, none, none] H (lb.drop 5) P := by
  refine B.seq (P' := fun f vs1 H1 => f = .next ∧ ∃ x5 x6 kv' st' ds' ns, vs1 = [some (.ref a0), some (.ref aD), some (.ref t), some (.bool pr), some (.ref aN), x5, x6, none, none, none, none, none, none, none, none] ∧ LawN H1 L t dS aD aN T kv' st' ds' ns ∧ CSt st st' ns) (S.forRange 5 2 rfl rfl (B_range w) (W.draw 1 1 rfl rfl rfl (Nat.le_of_ble_eq_true rfl) LN.la.deck LN.la.dlen (by decide) ?_)) ?_
  · have LN1 := LN.draw
    generalize H.set aD (.list (ds.tail.map V.int)) = H1 at LN1 ⊢
    generalize ds.tail = ds1 at LN1 ⊢
    obtain ⟨g1, g2⟩ := draw_rng ds (show (0 : Int) < 4 by decide)
    generalize draw ds 4 = kk at g1 g2 ⊢
    refine ⟨kk.toNat, by rw [Int.toNat_of_nonneg g1], by omega, ?_⟩
    have hk3 : kk.toNat ≤ 3 := by omega
    rw [range_map]
    generalize kk.toNat = K at hk3 ⊢
    refine ForL.inv (I := fun r vs1 H' => ∃ (i n : Nat) (x5 x6 : Option V) (kv' : List (Str × V)) (st' : St) (ds' ns : List Int), i + n = K ∧ r = (List.range' i n).map (fun (t : Nat) => V.int (t : Int)) ∧ vs1 = [some (.ref a0), some (.ref aD), some (.ref t), some (.bool pr), some (.ref aN), x5, x6, none, none, none, none, none, none, none, none] ∧ LawN H' L t dS aD aN T kv' st' ds' ns ∧ CSt st st' ns ∧ ns.length = i ∧ ∀ j ∈ ns, j ≤ 3 * (i : Int)) (fun _ _ _ _ => trivial) ?_ ?_ _ _ _ ⟨0, K, none, none, kv, st, ds1, [], by omega, rfl, rfl, LN1, F.cst, rfl, fun j hj => by cases hj⟩
    · rintro _ H' ⟨i, n, x5, x6, kv', st', ds', ns, e, er, rfl, LN', C, _, _⟩
      exact ⟨rfl, x5, x6, kv', st', ds', ns, rfl, LN', C⟩
    · rintro v r _ H' ⟨i, n, x5, x6, kv', st', ds', ns, e, er, rfl, LN', C, hi, hle⟩ it o hit
      cases n with
      | zero => cases er
      | succ n =>
        rw [List.range'_succ] at er
        obtain ⟨rfl, rfl⟩ := List.cons.inj er
        have LN2 := LN'.new (o := .raw o) hit
        have hraw : (H'.set it (.raw o)) it = some (.raw o) := HL.set_self
        have hitD : it ≠ aD := fun q => by rw [q, LN'.la.deck] at hit; cases hit
        have hitN : it ≠ aN := fun q => by rw [q, LN'.num] at hit; cases hit
        have hitS : it ≠ dS := fun q => by rw [q, LN'.la.dict] at hit; cases hit
        generalize H'.set it (.raw o) = H2 at LN2 hraw ⊢
        refine B.cons (S.expr (W.append (W.var 4 rfl rfl ⟨aN, _, rfl, LN2.num, W.binv (W.binv (W.mul (W.cInt (W.var 5 rfl rfl ⟨3, (i : Int), rfl, rfl, IntMulOk.of_left (by decide), W.cInt ⟨_, rfl, ?_⟩⟩))))⟩)))
        refine W.draw 1 1 rfl rfl rfl (Nat.le_of_ble_eq_true rfl) LN2.la.deck LN2.la.dlen (by decide) ⟨_, rfl, ?_⟩
        have LN3 := LN2.draw
        have hraw3 : (H2.set aD (.list (ds'.tail.map V.int))) it = some (.raw o) := by rw [HL.set_ne hitD]; exact hraw
        generalize H2.set aD (.list (ds'.tail.map V.int)) = H3 at LN3 hraw3 ⊢
        obtain ⟨g3, g4⟩ := draw_rng ds' (show (0 : Int) < 3 by decide)
        generalize draw ds' 3 = dd at g3 g4 ⊢
        generalize ds'.tail = ds2 at LN3 ⊢
        generalize hkN : (3 * (i : Int) + 1 + dd) = kN
        refine ⟨_, LN3.num, by rw [List.length_map]; omega, ?_⟩
        have LN4 := LN3.app (k := kN)
        have hraw4 : (H3.set aN (.list (ns.map V.int ++ [.int kN]))) it = some (.raw o) := by rw [HL.set_ne hitN]; exact hraw3
        generalize H3.set aN (.list (ns.map V.int ++ [.int kN])) = H4 at LN4 hraw4 ⊢
        have hk10 := strOk10 kN (by omega) (by omega)
        refine B.cons (S.assign 6 rfl (W.addStr (W.addStr (W.cStr (W.tcall 3 rfl (B_str w) (WA.cons (W.llast (W.var 4 rfl rfl (W.neg (W.cInt ⟨1, rfl, ?_⟩))))))))))
        refine ⟨aN, _, .int kN, rfl, rfl, LN4.num, by rw [List.length_map, List.length_append]; show ns.length + 1 ≤ 1000; omega, by rw [List.getLast?_map, List.getLast?_concat]; rfl, WA.nil (CB.strInt hk10.1 ⟨_, _, rfl, rfl, by have := hk10.2; show 3 + _ ≤ 10000; omega, W.cStr ⟨_, _, rfl, rfl, by have := hk10.2; rw [PySem.Str.length_append]; show 3 + _ + 1 ≤ 10000; omega, ?_⟩⟩)⟩
        show B _ (List.set _ 6 (some (V.str (numS kN)))) _ _ _
        have fin : ∀ (H5 : HL) (v : V) (oo : Option (List Int)) (ds3 : List Int), LawN H5 L t dS aD aN T kv' st' ds3 (ns ++ [kN]) → H5 it = some (.raw o) → TextF H5 v oo → (∀ z, oo = some z → z.length ≤ 100) →
            ∃ H6 : HL, H5.set dS (.dict (dput (numS kN) v kv')) = H6.set it (.raw o) ∧ H6 it = none ∧ ∃ (i' n' : Nat) (x5 x6 : Option V) (kv' : List (Str × V)) (st' : St) (ds' ns : List Int), i' + n' = K ∧ (List.range' (i + 1) n).map (fun (t : Nat) => V.int (t : Int)) = (List.range' i' n').map (fun (t : Nat) => V.int (t : Int)) ∧ [some (V.ref a0), some (.ref aD), some (.ref t), some (.bool pr), some (.ref aN), some (.int (i : Int)), some (.str (numS kN)), none, none, none, none, none, none, none, none] = [some (.ref a0), some (.ref aD), some (.ref t), some (.bool pr), some (.ref aN), x5, x6, none, none, none, none, none, none, none, none] ∧ LawN H6 L t dS aD aN T kv' st' ds' ns ∧ CSt st st' ns ∧ ns.length = i' ∧ ∀ j ∈ ns, j ≤ 3 * (i' : Int) := by
          intro H5 v oo ds3 LN5 hraw5 tv ho
          have LN6 := LN5.put (n := numS kN) tv
          have hraw6 : (H5.set dS (.dict (dput (numS kN) v kv'))) it = some (.raw o) := by rw [HL.set_ne hitS]; exact hraw5
          refine ⟨HL.hide _ it, (HL.hide_set hraw6).symm, HL.hide_self, i + 1, n, _, _, _, _, _, _, by omega, rfl, rfl, LN6.hide hraw6, C.step (by omega) (by omega) (fun j hj => by have := hle j hj; omega) (by omega) ho, by rw [List.length_append]; show _ + 1 = _; omega, fun j hj => ?_⟩
          rcases List.mem_append.mp hj with q | q
          · have := hle j q; omega
          · rw [List.mem_singleton.mp q]; omega
        have kvl : kv'.length ≤ 1000 := by rw [LN4.la.stv.len]; have := C.len; omega
        refine B.cons (S.setItem (W.ite (WT.cmpv (W.draw 1 1 rfl rfl rfl (Nat.le_of_ble_eq_true rfl) LN4.la.deck LN4.la.dlen (by decide) (W.cInt ⟨_, rfl, ?_⟩)))))
        have LN5 := LN4.draw
        have hraw5 : (H4.set aD (.list (ds2.tail.map V.int))) it = some (.raw o) := by rw [HL.set_ne hitD]; exact hraw4
        generalize H4.set aD (.list (ds2.tail.map V.int)) = H5 at LN5 hraw5 ⊢
        by_cases hz : draw ds2 2 = 1
        · exact iteT (beq_iff_eq.mpr hz) (W.cNone (W.stands LN5.la.cell (W.var 6 rfl rfl ⟨dS, numS kN, kv', rfl, rfl, LN5.la.dict, kvl, B.nil (fin H5 .none none _ LN5 hraw5 rfl fun z h => by cases h)⟩)))
        · refine iteF (beq_eq_false_iff_ne.mpr hz) (W.list (WA.cons (W.binv (W.cInt (W.var 5 rfl rfl ⟨_, rfl, WA.nil ⟨Nat.le_of_ble_eq_true rfl, fun c hc => W.less Le.freeze ?_⟩⟩)))))
          have LN6 := LN5.new (o := .flist [.int (100 + (i : Int))]) hc
          have hraw6 := HL.le_set (o := .flist [.int (100 + (i : Int))]) hc _ _ hraw5
          have hcc : (H5.set c (.flist [.int (100 + (i : Int))])) c = some (.flist ([100 + (i : Int)].map V.int)) := HL.set_self
          generalize H5.set c (.flist [.int (100 + (i : Int))]) = H6 at LN6 hraw6 hcc ⊢
          exact W.stands LN6.la.cell (W.var 6 rfl rfl ⟨dS, numS kN, kv', rfl, rfl, LN6.la.dict, kvl, B.nil (fin H6 (.ref c) (some [100 + (i : Int)]) _ LN6 hraw6 ⟨c, rfl, hcc⟩ fun z h => by cases h; exact Nat.le_of_ble_eq_true rfl)⟩)
  · rintro _ _ H1 ⟨rfl, x5, x6, kv', st', ds', ns, rfl, LN', C⟩
    exact k H1 x5 x6 kv' st' ds' ns LN' C
end Mine
end
section
open PySem PySem.W PyProof.Rows PySem.Calls
set_option maxHeartbeats 1000000
namespace Mine
variable {w : World} {h₀ : Heap} {L : Addr} {A : Around} {os : OsState} {P : Fl → List (Option V) → HL → Prop}
/-- the whole dict -/
structure DSt (st0 st : St) (ns : List Int) : Prop where
  nums : Nums st ns
  nd : (st.map (·.1)).Nodup
  sub : ∀ n ∈ st.map (·.1), n ∈ stN
  ff : alook sF st = alook sF st0
  len : st.length ≤ 5
  tl : ∀ n z, alook n st = some (some z) → z.length ≤ 100
theorem CSt.dst {st0 st : St} {ns : List Int} (C : CSt st0 st ns) : DSt st0 st ns := ⟨C.nums, C.nd, C.sub, C.ff, by have := C.len; have := C.nums.len; omega, C.tl⟩
theorem CSt.single {st0 st : St} {ns : List Int} (C : CSt st0 st ns) {o : Option (List Int)} (ho : ∀ z, o = some z → z.length ≤ 100) : DSt st0 (aput sFt o st) ns := by
  refine ⟨⟨C.nums.asc, C.nums.rng, C.nums.len, fun k h1 h2 => ?_⟩, aput_names C.nd, fun n hn => ?_, ?_, ?_, fun n z h => ?_⟩
  · rw [alook_aput, if_neg (numS_eq k (by omega) h2).2.2.2.2.1]; exact C.nums.iff_ k h1 h2
  · obtain ⟨p, hp, rfl⟩ := List.mem_map.mp hn
    rcases mem_aput hp with rfl | ⟨hp, _⟩
    · exact .tail _ (.head _)
    · exact C.sub _ (List.mem_map.mpr ⟨p, hp, rfl⟩)
  · rw [alook_aput, if_neg (by decide)]; exact C.ff
  · have := aput_len (n := sFt) (v := o) (l := st)
    have := C.len
    have := C.nums.len
    omega
  · rw [alook_aput] at h
    split at h
    · exact ho z (Option.some.inj h)
    · exact C.tl n z h
theorem segE (a0 t dS aD aN : Addr) (pr : Bool) (x5 x6 : Option V) (T : Tree) (kv : List (Str × V)) (st0 st : St) (ds ns : List Int) (H : HL) (LN : LawN H L t dS aD aN T kv st ds ns) (C : CSt st0 st ns)
    (k : ∀ H' x7 kv' st' ds', LawN H' L t dS aD aN T kv' st' ds' ns → DSt st0 st' ns → B (LX w h₀ L A os) [some (.ref a0), some (.ref aD), some (.ref t), some (.bool pr), some (.ref aN), x5, x6, x7, none, none, none, none, none, none, none] H' (lb.drop 8) P) :
    B (LX w h₀ L A os) [some (.ref a0), some (.ref aD), some (.ref t), some (.bool pr), some (.ref aN), x5, x6, none, none, none, none, none, none, none, none] H (lb.drop 6) P := by
  refine B.cons (S.assign 7 rfl (W.draw 1 1 rfl rfl rfl (Nat.le_of_ble_eq_true rfl) LN.la.deck LN.la.dlen (by decide) ?_))
  have LN1 := LN.draw
  generalize H.set aD (.list (ds.tail.map V.int)) = H1 at LN1 ⊢
  generalize ds.tail = ds1 at LN1 ⊢
  generalize draw ds 3 = x
  have kvl : kv.length ≤ 1000 := by rw [LN1.la.stv.len]; have := C.len; have := C.nums.len; omega
  refine B.cons (S.ite (WT.cmpv (W.var 7 rfl rfl (W.cInt ⟨_, rfl, ?_⟩))))
  by_cases h0 : 0 < x
  · refine iteT (decide_eq_true h0) (B.cons (S.setItem (W.ite (WT.cmpv (W.var 7 rfl rfl (W.cInt ⟨_, rfl, ?_⟩))))))
    by_cases h1 : x = 1
    · refine iteT (beq_iff_eq.mpr h1) (W.list (WA.cons (W.cInt (WA.nil ⟨Nat.le_of_ble_eq_true rfl, fun c hc => W.less Le.freeze ?_⟩))))
      have LN2 := LN1.new (o := .flist [.int 99]) hc
      have hcc : (H1.set c (.flist [.int 99])) c = some (.flist ([99].map V.int)) := HL.set_self
      generalize H1.set c (.flist [.int 99]) = H2 at LN2 hcc ⊢
      refine W.stands LN2.la.cell (W.cStr ⟨dS, sFt, kv, rfl, rfl, LN2.la.dict, kvl, B.nil ?_⟩)
      exact k _ _ _ _ _ (LN2.put (n := sFt) (v := .ref c) (o := some [99]) ⟨c, rfl, hcc⟩) (C.single fun z h => by cases h; exact Nat.le_of_ble_eq_true rfl)
    · refine iteF (beq_eq_false_iff_ne.mpr h1) (W.cNone (W.stands LN1.la.cell (W.cStr ⟨dS, sFt, kv, rfl, rfl, LN1.la.dict, kvl, B.nil ?_⟩)))
      exact k _ _ _ _ _ (LN1.put (n := sFt) (v := .none) (o := none) rfl) (C.single fun z h => by cases h)
  · exact iteF (decide_eq_false h0) (B.nil (k H1 _ kv st ds1 LN1 C.dst))
/-- the tree, as far as it is built -/
structure Part (st : St) (done : List Str) (v : Vw) : Prop where
  okv : Okv v
  noT : alook pT v = none
  wr : ∀ q x w, alook q v = some (x, w) → w = true
  len : v.length ≤ 3 + done.length
  at_ : ∀ n ∈ stN, alook (sDs ++ n) v = if n = sF ∨ n ∈ done then (alook n st).map (fun o => (o, true)) else none
theorem Part.step {st : St} {done : List Str} {v : Vw} (Q : Part st done v) {n : Str} {o : Option (List Int)} (hn : n ∈ stN) (ho : alook n st = some o) (hf : n ≠ sF) (hz : v.length ≤ 20) : Part st (done ++ [n]) (aput (sDs ++ n) (o, true) v) := by
  have kd := stN_kid n hn
  refine ⟨Q.okv.put kd.1 _ (by omega), ?_, fun q x w h => ?_, ?_, fun m hm => ?_⟩
  · rw [alook_aput, if_neg (Ne.symm kd.2.1)]; exact Q.noT
  · rw [alook_aput] at h
    split at h
    · cases h; rfl
    · exact Q.wr q x w h
  · have := aput_len (n := sDs ++ n) (v := (o, true)) (l := v)
    have := Q.len
    rw [List.length_append]; show _ ≤ 3 + (done.length + 1); omega
  · rw [alook_aput]
    by_cases e : m = n
    · subst e; rw [if_pos rfl, if_pos (.inr (List.mem_append.mpr (.inr (.head _)))), ho]; rfl
    · rw [if_neg fun z => e (stN_inj _ hm _ hn z), Q.at_ m hm]
      have : (m = sF ∨ m ∈ done ++ [n]) ↔ (m = sF ∨ m ∈ done) := by simp [e]
      simp only [this]
theorem Part.skip {st : St} {done : List Str} {v : Vw} (Q : Part st done v) : Part st (done ++ [sF]) v := by
  refine ⟨Q.okv, Q.noT, Q.wr, by have := Q.len; rw [List.length_append]; omega, fun m hm => ?_⟩
  rw [Q.at_ m hm]
  have : (m = sF ∨ m ∈ done ++ [sF]) ↔ (m = sF ∨ m ∈ done) := by simp only [List.mem_append, List.mem_singleton]; exact ⟨fun h => h.elim .inl fun h => h.elim .inr .inl, fun h => h.imp_right .inl⟩
  simp only [this]
theorem Part.start {st0 st : St} {ns : List Int} {v : Vw} (F : FSt st0 v) (D : DSt st0 st ns) : Part st [] v := by
  refine ⟨F.tw.okv, F.tw.noT, F.tw.wr, F.lv, fun n hn => ?_⟩
  rw [F.tw.same n hn]
  by_cases e : n = sF
  · subst e; rw [if_pos (.inl rfl), D.ff]
  · rw [F.only n e, if_neg]
    · rfl
    · rintro (h | h)
      · exact e h
      · cases h
theorem Part.twin {st0 st : St} {ns : List Int} {done : List Str} {v : Vw} (Q : Part st done v) (D : DSt st0 st ns) (hp : done.Perm (st.map (·.1))) : Twin v st := by
  refine ⟨Q.okv, Q.noT, fun n hn => ?_, D.nd, D.sub, Q.wr⟩
  rw [Q.at_ n hn]
  split
  · rfl
  · rename_i h
    cases hq : alook n st with
    | none => rfl
    | some o => exact absurd (.inr (hp.mem_iff.mpr (alook_mem.mp (by rw [hq]; rfl)))) h
end Mine
end
section
open PySem PySem.W PyProof.Rows PySem.Calls
set_option maxHeartbeats 1000000
namespace Mine
variable {w : World} {h₀ : Heap} {L : Addr} {A : Around} {os : OsState} {P : Fl → List (Option V) → HL → Prop}
theorem segF (a0 t dS aD aN : Addr) (pr : Bool) (x5 x6 x7 : Option V) (T : Tree) (kv : List (Str × V)) (st0 st : St) (ds ns : List Int) (H : HL) (LN : LawN H L t dS aD aN T kv st ds ns) (F : FSt st0 T.vw) (D : DSt st0 st ns)
    (k : ∀ H' T' x6', LawN H' L t dS aD aN T' kv st ds ns → Twin T'.vw st → B (LX w h₀ L A os) [some (.ref a0), some (.ref aD), some (.ref t), some (.bool pr), some (.ref aN), x5, x6', x7, none, none, none, none, none, none, none] H' (lb.drop 9) P) :
    B (LX w h₀ L A os) [some (.ref a0), some (.ref aD), some (.ref t), some (.bool pr), some (.ref aN), x5, x6, x7, none, none, none, none, none, none, none] H (lb.drop 8) P := by
  refine B.seq (P' := fun f vs1 H1 => f = .next ∧ ∃ T' x6', vs1 = [some (.ref a0), some (.ref aD), some (.ref t), some (.bool pr), some (.ref aN), x5, x6', x7, none, none, none, none, none, none, none] ∧ LawN H1 L t dS aD aN T' kv st ds ns ∧ Twin T'.vw st) (S.forList 6 rfl (W.bcall 4 rfl (B_sorted w) (WA.cons (W.stands LN.la.cell (WA.nil (CB.sortedDict LN.la.dict (by rw [LN.la.stv.len]; have := D.len; omega) fun a ns' ha hp hs => ⟨a, _, rfl, HL.set_self, ?_⟩)))))) ?_
  · rw [LN.la.stv.keys] at hp
    have hlen : ns'.length ≤ 5 := by rw [hp.length_eq, List.length_map]; exact D.len
    have hnd : ns'.Nodup := hp.nodup_iff.mpr D.nd
    refine ForL.inv (I := fun r vs1 H' => ∃ done rest T' x6', ns' = done ++ rest ∧ r = rest.map V.str ∧ vs1 = [some (.ref a0), some (.ref aD), some (.ref t), some (.bool pr), some (.ref aN), x5, x6', x7, none, none, none, none, none, none, none] ∧ LawN H' L t dS aD aN T' kv st ds ns ∧ H' a = some (.list (ns'.map V.str)) ∧ Part st done T'.vw) ?_ ?_ ?_ _ _ _ ⟨[], ns', T, x6, rfl, rfl, rfl, LN.new ha, HL.set_self, Part.start F D⟩
    · rintro _ _ H' ⟨done, rest, T', x6', _, _, _, _, h, _⟩; exact h
    · rintro _ H' ⟨done, rest, T', x6', e, er, rfl, LN', h, Q⟩
      have : rest = [] := by cases rest with | nil => rfl | cons q r => cases er
      subst this
      rw [List.append_nil] at e
      subst e
      exact ⟨rfl, T', x6', rfl, LN', Q.twin D hp⟩
    · rintro v r _ H' ⟨done, rest, T', x6', e, er, rfl, LN', h, Q⟩ it o hit
      cases rest with
      | nil => cases er
      | cons n rest =>
        obtain ⟨rfl, rfl⟩ : v = V.str n ∧ r = rest.map V.str := List.cons.inj er
        have hmem : n ∈ st.map (·.1) := hp.mem_iff.mp (by rw [e]; exact List.mem_append.mpr (.inr (.head _)))
        have hstN := D.sub n hmem
        have kd := stN_kid n hstN
        have hnd' : n ∉ done := by
          rw [e] at hnd
          exact fun hd => (List.nodup_append.mp hnd).2.2 n hd n (.head _) rfl
        have hdl : done.length ≤ 5 := by rw [e, List.length_append] at hlen; omega
        have hvl : T'.vw.length ≤ 20 := by have := Q.len; omega
        have LN2 := LN'.new (o := .raw o) hit
        have hraw : (H'.set it (.raw o)) it = some (.raw o) := HL.set_self
        have ha2 := HL.le_set (o := .raw o) hit _ _ h
        have hia : it ≠ a := fun q => by rw [q, h] at hit; cases hit
        generalize H'.set it (.raw o) = H2 at LN2 hraw ha2 ⊢
        have g := LN2.la.stv.get (n := n)
        cases hq : alook n st with
        | none => have := alook_mem.mpr hmem; rw [hq] at this; cases this
        | some oo =>
          rw [hq] at g
          obtain ⟨u, hu, tv⟩ := g
          have fin : ∀ (H3 : HL) (vw : Vw), Did H2 t T' vw H3 → Part st (done ++ [n]) vw →
              ∃ H4 : HL, H3 = H4.set it (.raw o) ∧ H4 it = none ∧ ∃ done rest' T' x6', ns' = done ++ rest' ∧ rest.map V.str = rest'.map V.str ∧ [some (V.ref a0), some (.ref aD), some (.ref t), some (.bool pr), some (.ref aN), x5, some (.str n), x7, none, none, none, none, none, none, none] = [some (.ref a0), some (.ref aD), some (.ref t), some (.bool pr), some (.ref aN), x5, x6', x7, none, none, none, none, none, none, none] ∧ LawN H4 L t dS aD aN T' kv st ds ns ∧ H4 a = some (.list (ns'.map V.str)) ∧ Part st done T'.vw := by
            intro H3 vw hD hP
            obtain ⟨T3, LN3, v3, _, f3⟩ := LN2.did hD
            have hraw3 := f3 _ _ hraw (LN2.la.off hraw fun _ h => by cases h) (fun _ h => by cases h) (fun _ h => by cases h)
            have ha3 := f3 _ _ ha2 (LN2.la.off ha2 fun _ h => by cases h) (fun _ h => by cases h) (fun _ h => by cases h)
            exact ⟨HL.hide H3 it, (HL.hide_set hraw3).symm, HL.hide_self, done ++ [n], rest, T3, _, by rw [e, List.append_assoc]; rfl, rfl, rfl, LN3.hide hraw3, by rw [HL.hide_ne hia.symm]; exact ha3, by rw [v3]; exact hP⟩
          refine B.cons (S.ite (WT.cmpv (W.ditem (W.stands LN2.la.cell (W.var 6 rfl rfl ⟨dS, n, kv, u, rfl, rfl, LN2.la.dict, hu, W.cNone ⟨_, isTextNone tv, ?_⟩⟩)))))
          cases oo with
          | none =>
            have hnf : n ≠ sF := by
              rintro rfl
              rw [D.ff] at hq
              rcases F.ff with h' | ⟨ms, h', _⟩ <;> (rw [h'] at hq; cases hq)
            have hno : alook (sDs ++ n) T'.vw = none := by rw [Q.at_ n hstN, if_neg (by rintro (h | h); exact hnf h; exact hnd' h)]
            refine iteT rfl (B.cons (S.expr (W.mcall (W.var 2 rfl rfl ?_))))
            refine ⟨t, 375, _, 332, 6, rfl, LN2.la.tree.t, M_FileTree_make_directory w, rfl, Nat.le_of_ble_eq_true rfl, WA.cons (W.addStr (W.cStr (W.var 6 rfl rfl ⟨sDs, n, rfl, rfl, by have := kd.2.2.2.2.2.1; show 3 + n.length ≤ 10000; omega, WA.nil (Fn.mono (w_make_directory t T' H2 LN2.la.tree Q.okv (sDs ++ n) kd.1 hno) (Nat.le_refl _) ?_)⟩)))⟩
            rintro _ H3 ⟨rfl, hD⟩
            exact B.nil (B.nil (fin H3 _ hD (Q.step hstN hq hnf hvl)))
          | some z =>
            refine iteF rfl (B.cons (S.ite (WT.cmpv (W.var 6 rfl rfl (W.cStr ⟨_, rfl, ?_⟩)))))
            by_cases hnf : n = sF
            · subst hnf
              exact iteF rfl (B.nil (B.nil (B.nil (fin H2 T'.vw ⟨T', LN2.la.tree, rfl, rfl, Frm.refl _ _⟩ Q.skip))))
            · have hno : alook (sDs ++ n) T'.vw = none := by rw [Q.at_ n hstN, if_neg (by rintro (h | h); exact hnf h; exact hnd' h)]
              obtain ⟨c, rfl, hc⟩ := tv
              refine iteT (bne_iff_ne.mpr hnf) (B.cons (S.expr (W.mcall (W.var 2 rfl rfl ?_))))
              refine ⟨t, 375, _, 311, 6, rfl, LN2.la.tree.t, M_FileTree_write w, rfl, Nat.le_of_ble_eq_true rfl, WA.cons (W.addStr (W.cStr (W.var 6 rfl rfl ⟨sDs, n, rfl, rfl, by have := kd.2.2.2.2.2.1; show 3 + n.length ≤ 10000; omega, WA.cons (W.ditem (W.stands LN2.la.cell (W.var 6 rfl rfl ⟨dS, n, kv, _, rfl, rfl, LN2.la.dict, hu, WA.nil (Fn.mono (w_write t c T' H2 LN2.la.tree Q.okv (sDs ++ n) kd.1 z hc (D.tl n z hq) (.inr hno)) (Nat.le_refl _) ?_)⟩)))⟩)))⟩
              rintro _ H3 ⟨rfl, hD⟩
              exact B.nil (B.nil (B.nil (fin H3 _ hD (Q.step hstN hq hnf hvl))))
  · rintro _ _ H1 ⟨rfl, T', x6', rfl, LN', W'⟩
    exact k H1 T' x6' LN' W'
end Mine
end
section
open PySem PySem.W PyProof.Rows PySem.Calls
set_option maxHeartbeats 1000000
namespace Mine
variable {w : World} {h₀ : Heap} {L : Addr} {A : Around} {os : OsState} {P : Fl → List (Option V) → HL → Prop}
structure ManOk (m : Man) : Prop where
  way : 0 ≤ m.way ∧ m.way ≤ 3
  on : 0 ≤ m.old ∧ m.old ≤ 2 ∧ 0 ≤ m.new ∧ m.new ≤ 2
theorem segG (a0 t dS aD aN : Addr) (pr : Bool) (x5 x6 x7 : Option V) (T : Tree) (kv : List (Str × V)) (st : St) (ds ns : List Int) (H : HL) (LN : LawN H L t dS aD aN T kv st ds ns)
    (k : ∀ H' g m ds', LawN H' L t dS aD aN T kv st ds' ns → H' g = some (.inst 100 (mF m)) → ManOk m → B (LX w h₀ L A os) [some (.ref a0), some (.ref aD), some (.ref t), some (.bool pr), some (.ref aN), x5, x6, x7, some (.int m.way), some (.ref g), none, none, none, none, none] H' (lb.drop 11) P) :
    B (LX w h₀ L A os) [some (.ref a0), some (.ref aD), some (.ref t), some (.bool pr), some (.ref aN), x5, x6, x7, none, none, none, none, none, none, none] H (lb.drop 9) P := by
  refine B.seq (P' := fun f vs1 H1 => f = .next ∧ ∃ way ds', vs1 = [some (.ref a0), some (.ref aD), some (.ref t), some (.bool pr), some (.ref aN), x5, x6, x7, some (.int way), none, none, none, none, none, none] ∧ LawN H1 L t dS aD aN T kv st ds' ns ∧ 0 ≤ way ∧ way ≤ 3) (S.assign 8 rfl (W.litem (W.list (WA.cons (W.gint 5 rfl (I_SINGLE w) (WA.cons (W.gint 6 rfl (I_NUMBERED w) (WA.cons (W.gint 7 rfl (I_AS_BEFORE w) (WA.cons (W.gint 8 rfl (I_NEVER w) (WA.nil ⟨Nat.le_of_ble_eq_true rfl, fun b hb => ?_⟩)))))))))))) ?_
  · have LN1 := LN.new (o := .list [.int 1, .int 2, .int 3, .int 0]) hb
    have hbb : (H.set b (.list [.int 1, .int 2, .int 3, .int 0])) b = some (.list [.int 1, .int 2, .int 3, .int 0]) := HL.set_self
    have hba : b ≠ aD := fun q => by rw [q, LN.la.deck] at hb; cases hb
    generalize H.set b (.list [.int 1, .int 2, .int 3, .int 0]) = H1 at LN1 hbb ⊢
    refine W.draw 1 1 rfl rfl rfl (Nat.le_of_ble_eq_true rfl) LN1.la.deck LN1.la.dlen (by decide) ?_
    obtain ⟨g1, g2⟩ := draw_rng ds (show (0 : Int) < 4 by decide)
    have LN2 := LN1.draw
    have hb2 : (H1.set aD (.list (ds.tail.map V.int))) b = some (.list [.int 1, .int 2, .int 3, .int 0]) := by rw [HL.set_ne hba]; exact hbb
    generalize draw ds 4 = kk at g1 g2 ⊢
    obtain ⟨q, hq, hq4⟩ : ∃ q : Nat, kk = q ∧ q < 4 := ⟨kk.toNat, (Int.toNat_of_nonneg g1).symm, by omega⟩
    subst hq
    match q, hq4 with
    | 0, _ => exact ⟨b, _, _, .int 1, rfl, rfl, hb2, g1, by omega, rfl, rfl, 1, _, rfl, LN2, by decide, by decide⟩
    | 1, _ => exact ⟨b, _, _, .int 2, rfl, rfl, hb2, g1, by omega, rfl, rfl, 2, _, rfl, LN2, by decide, by decide⟩
    | 2, _ => exact ⟨b, _, _, .int 3, rfl, rfl, hb2, g1, by omega, rfl, rfl, 3, _, rfl, LN2, by decide, by decide⟩
    | 3, _ => exact ⟨b, _, _, .int 0, rfl, rfl, hb2, g1, by omega, rfl, rfl, 0, _, rfl, LN2, by decide, by decide⟩
  rintro _ _ H1 ⟨rfl, way, ds1, rfl, LN1, w0, w3⟩
  refine B.cons (S.assign 9 rfl (W.new (k := 1) 9 rfl (C_Manner w) (N_Manner w) (Nat.le_of_ble_eq_true rfl) (WA.cons (W.cBool (WA.cons (W.var 8 rfl rfl (WA.cons (W.cmpv (W.draw 1 1 rfl rfl rfl (Nat.le_of_ble_eq_true rfl) LN1.la.deck LN1.la.dlen (by decide) (W.cInt ⟨_, rfl, ?_⟩))))))))))
  have LN2 := LN1.draw
  refine WA.cons (W.draw 1 1 rfl rfl rfl (Nat.le_of_ble_eq_true rfl) LN2.la.deck LN2.la.dlen (by decide) ?_)
  have LN3 := LN2.draw
  refine WA.cons (W.draw 1 1 rfl rfl rfl (Nat.le_of_ble_eq_true rfl) LN3.la.deck LN3.la.dlen (by decide) ?_)
  have LN4 := LN3.draw
  refine WA.cons (W.cmpv (W.draw 1 1 rfl rfl rfl (Nat.le_of_ble_eq_true rfl) LN4.la.deck LN4.la.dlen (by decide) (W.cInt ⟨_, rfl, ?_⟩)))
  have LN5 := LN4.draw
  obtain ⟨o1, o2⟩ := draw_rng ds1.tail (show (0 : Int) < 3 by decide)
  obtain ⟨n1, n2⟩ := draw_rng ds1.tail.tail (show (0 : Int) < 3 by decide)
  generalize HL.set _ aD (.list (ds1.tail.tail.tail.tail.map V.int)) = H5 at LN5 ⊢
  refine WA.nil fun x hx => Fn.mono (fn_Manner_init x { way := way, cp := (draw ds1 2 == 1), old := draw ds1.tail 3, new := draw ds1.tail.tail 3, pr := (draw ds1.tail.tail.tail 2 == 1) } _ HL.set_self) (Nat.le_refl _) ?_
  rintro _ _ ⟨rfl, rfl⟩
  rw [HL.set_set]
  exact ⟨rfl, k _ x { way := way, cp := (draw ds1 2 == 1), old := draw ds1.tail 3, new := draw ds1.tail.tail 3, pr := (draw ds1.tail.tail.tail 2 == 1) } _ (LN5.new hx) HL.set_self ⟨⟨w0, w3⟩, o1, by show draw ds1.tail 3 ≤ 2; omega, n1, by show draw ds1.tail.tail 3 ≤ 2; omega⟩⟩
/-- a contract that is called from the lowest def alone -/
def FnR (k : Nat) (f : Addr) (args : List V) (H : HL) (P : V → HL → Prop) : Prop :=
  ∀ (X : Cx) (vs : List (Option V)), X.Ok → X.A.frames = some [X.env] → X.env.frame = some X.L → k ≤ X.d → ∀ (s : Shared) (us : List Value) (R : Result → Shared → Prop), Rel X vs H s → VRs args us →
    (∀ v u H' s', P v H' → VR v u → Rel X vs H' s' → R (.ok (.ret u)) s') → codeAny (Md X) X.A (.call (.ref f) ⟨us, []⟩) R s
theorem FnR.mono {k k' : Nat} {f : Addr} {args : List V} {H : HL} {P P' : V → HL → Prop} (h : FnR k f args H P) (hk : k ≤ k') (hp : ∀ v H', P v H' → P' v H') : FnR k' f args H P' :=
  fun X vs O f1 f2 hd s us R r vr q => h X vs O f1 f2 (Nat.le_trans hk hd) s us R r vr fun v u H' s' p => q v u H' s' (hp v H' p)
theorem W.callR {X : Cx} {vs : List (Option V)} {H : HL} {P : V → HL → Prop} {n : Str} {npos pos : Pos} {args : List Expr} {f : Addr} {k : Nat} (f1 : X.A.frames = some [X.env]) (f2 : X.env.frame = some X.L) (i : Nat) (hi : X.gs[i]? = some n) (hn : GFn X.w n f) (hk : k ≤ X.d)
    (h : WA X vs H pos args fun l H2 => FnR k f l H2 P) (hp : plainArgs pos args := by (intro _; refine ⟨by rfl, fun _ _ h => ?_⟩; first | (cases h; done) | (cases h; exact ⟨rfl, rfl⟩))) : W X vs H ((Expr.Name n npos).Call args [] pos) P := fun O s Q E R q => by
  refine Call_ ?_
  refine W.glob (v := .ref f) (P := fun v H1 => v = .ref f ∧ H1 = H) i hi hn.ns rfl ⟨rfl, rfl⟩ O s _ E R fun v u H1 s1 h1 vu R1 => ?_
  obtain ⟨rfl, rfl⟩ := h1
  obtain rfl : u = .ref f := vu
  exact callArgs O R1 hn.keep hp fun O' s2 Q2 E2 R2 q2 => h O' s2 Q2 E2 R2 fun l us H2 s3 hF vr R3 => q2 l us H2 s3 (fun us' s4 vr' R4 => wpAny_call (hF X vs O f1 f2 hk s4 us' _ R4 vr' fun v u H' s' p vu R' => q v u H' s' p vu R')) vr R3
end Mine
end
section
open PySem PySem.W PyProof.Rows PySem.Calls
set_option maxHeartbeats 1000000
namespace Mine
variable {w : World} {h₀ : Heap} {L : Addr} {A : Around} {os : OsState} {P : Fl → List (Option V) → HL → Prop}
abbrev sFE : Str := ⟨#[102, 105, 108, 101, 45, 101, 114, 114, 111, 114]⟩
/-- a protected file's save raises, is caught, and all stands -/
def SavedRaises : Prop := ∀ (t c g : Addr) (T : Tree) (H : HL) (bu : Bool), TreeAt H t T → Okv T.vw → (∃ ms, alook pF T.vw = some (some ms, false)) → FnR 10 414 [.ref t, .ref c, .ref g, .bool bu] H fun v H' => v = .str sFE ∧ H' = H
theorem rowsOf_ok {T : Tree} (O : Okv T.vw) {l : List Str} (hl : l.Perm (unders sDs T.L)) : ∀ r ∈ rowsOf T.vw l, PyData.strOk r.1 = true := fun r hr => by
  obtain ⟨n, hn, rfl⟩ := List.mem_map.mp hr
  obtain ⟨_, _, _, _, h⟩ := under_mem O (hl.mem_iff.mp hn)
  exact h
theorem segH (SR : SavedRaises) (fr : A.frames = some [(LX w h₀ L A os).env]) (a0 t dS aD aN g : Addr) (pr : Bool) (x5 x6 x7 : Option V) (m : Man) (T : Tree) (kv : List (Str × V)) (st : St) (ds ns : List Int) (H : HL) (LN : LawN H L t dS aD aN T kv st ds ns) (hg : H g = some (.inst 100 (mF m))) (TW : Twin T.vw st)
    (hp : pr = true → ∃ ms, alook sF st = some (some ms)) (hret : ∀ vs' H', P (.ret (.bool true)) vs' H')
    (k : B (LX w h₀ L A os) [some (.ref a0), some (.ref aD), some (.ref t), some (.bool false), some (.ref aN), x5, x6, x7, some (.int m.way), some (.ref g), none, none, none, none, none] H (lb.drop 12) P) :
    B (LX w h₀ L A os) [some (.ref a0), some (.ref aD), some (.ref t), some (.bool pr), some (.ref aN), x5, x6, x7, some (.int m.way), some (.ref g), none, none, none, none, none] H (lb.drop 11) P := by
  refine B.cons (S.ite (WT.val (W.var 3 rfl rfl ⟨pr, rfl, ?_⟩)))
  cases pr with
  | false => exact iteF rfl (B.nil k)
  | true =>
    obtain ⟨ms, hms⟩ := hp rfl
    have hF : alook pF T.vw = some (some ms, true) := by rw [file_twin TW, hms]; rfl
    obtain ⟨E, e1, e2, e3, _⟩ := vFile hF
    refine iteT rfl (B.cons (S.expr (W.mcall (W.var 2 rfl rfl ?_))))
    refine ⟨t, 375, _, 372, 6, rfl, LN.la.tree.t, M_FileTree_set_writable w, rfl, Nat.le_of_ble_eq_true rfl, WA.cons (W.cStr (WA.cons (W.cBool (WA.nil (Fn.mono (fn_set_writable t T H LN.la.tree pF (kids_nm _ pF_kid).1 false E e1) (Nat.le_refl _) ?_)))))⟩
    rintro _ H1 ⟨rfl, hD⟩
    have vE : E.vw.1 = some ms := by unfold Ent.vw; rw [e2, e3]; rfl
    rw [vE] at hD
    obtain ⟨T1, LN1, v1, _, f1⟩ := LN.did hD
    have hg1 := f1 _ _ hg (LN.la.off hg fun _ h => by cases h) (fun _ h => by cases h) (fun _ h => by cases h)
    have O1 : Okv T1.vw := by
      rw [v1]
      refine ⟨by rw [alook_aput, if_neg (by decide)]; exact TW.okv.dir, ?_, fun q hq => ?_⟩
      · have := aput_len (n := pF) (v := (some ms, false)) (l := T.vw)
        have := vw_len TW.okv LN.la.tree.nd
        omega
      · rcases mem_aput hq with rfl | ⟨hq, _⟩
        · exact mem_names_of_kid pF_kid
        · exact TW.okv.sub q hq
    have hF1 : alook pF T1.vw = some (some ms, false) := by rw [v1, alook_aput, if_pos rfl]
    obtain ⟨E1, j1, j2, _, j4⟩ := vFile hF1
    have clk : ∀ {H' : HL} {vs : List (Option V)} {pos : Pos} {p1 : Pos} {Q : V → HL → Prop} (hv : vs[2]? = some (some (.ref t))), TreeAt H' t T1 → Q (.int T1.clock) H' → W (LX w h₀ L A os) vs H' ((Expr.Name nTree pos).Attribute sClock p1) Q := fun hv AT q => W.attr (W.var 2 rfl hv ⟨t, 375, _, _, rfl, AT.t, F_clock375 w, rfl, q⟩)
    refine B.cons (S.assign 10 rfl (W.tuple (WA.cons (W.call (k := 6) 10 rfl (G_law_stands w) (Nat.le_of_ble_eq_true rfl) (WA.cons (W.var 2 rfl rfl (WA.nil (Fn.mono (fn_law_stands t T1 H1 LN1.la.tree O1) (Nat.le_refl _) ?_))))))))
    rintro _ H2 ⟨d1, l1, n1, rfl, hdn, hd1, p1, s1, r1, le2⟩
    refine WA.cons (clk rfl (LN1.la.tree.le le2) (WA.nil ⟨Nat.le_of_ble_eq_true rfl, fun b1 hb1 => ?_⟩))
    have LN2 := (LN1.le le2).new (o := .tup [.ref d1, .int T1.clock]) hb1
    have hd2 := HL.le_set (o := .tup [.ref d1, .int T1.clock]) hb1 _ _ hd1
    have r2 := r1.mono (TF.of (HL.le_set (o := .tup [.ref d1, .int T1.clock]) hb1))
    have hg2 := HL.le_set (o := .tup [.ref d1, .int T1.clock]) hb1 _ _ (le2 _ _ hg1)
    have hb2 : (H2.set b1 (.tup [.ref d1, .int T1.clock])) b1 = some (.tup [.ref d1, .int T1.clock]) := HL.set_self
    have nd1 : d1 ≠ aD := fun e => by rw [e, LN1.la.deck] at hdn; cases hdn
    generalize H2.set b1 (.tup [.ref d1, .int T1.clock]) = H3 at LN2 hd2 r2 hb2 hg2 ⊢
    refine B.cons (S.ite (WT.cmpv (W.callR (k := 10) (by exact fr) rfl 11 rfl (G_law_saved w) (Nat.le_of_ble_eq_true rfl) (WA.cons (W.var 2 rfl rfl (WA.cons (W.list (WA.cons (W.cInt (WA.nil ⟨Nat.le_of_ble_eq_true rfl, fun c hc => WA.less freeze_le (WA.cons (W.var 9 rfl rfl (WA.cons (W.cmpv (W.draw 1 1 rfl rfl rfl (Nat.le_of_ble_eq_true rfl) (LN2.new (o := .flist [.int 7]) hc).la.deck LN2.la.dlen (by decide) (W.cInt ⟨_, rfl, WA.nil ?_⟩))))))⟩))))))))))
    have LN3 := (LN2.new (o := .flist [.int 7]) hc).draw
    have le3 := HL.le_set (o := .flist [.int 7]) hc
    have n3 := NL.set (l' := ds.tail.map V.int) (LN2.new (o := .flist [.int 7]) hc).la.deck
    have tf3 : TF H3 ((H3.set c (.flist [.int 7])).set aD (.list (ds.tail.map V.int))) := ⟨fun a l q => n3 _ _ (le3 _ _ q) fun _ h => (by cases h), fun a l q => n3 _ _ (le3 _ _ q) fun _ h => (by cases h)⟩
    have hd3 : ((H3.set c (.flist [.int 7])).set aD (.list (ds.tail.map V.int))) d1 = some (.list l1) := by rw [HL.set_ne nd1]; exact le3 _ _ hd2
    have r3 := r2.mono tf3
    have hb3 := tf3.1 _ _ hb2
    generalize (H3.set c (.flist [.int 7])).set aD (.list (ds.tail.map V.int)) = H4 at LN3 hd3 r3 hb3 ⊢
    refine FnR.mono (SR t c g T1 H4 _ LN3.la.tree O1 ⟨ms, hF1⟩) (Nat.le_refl _) ?_
    rintro _ Hx ⟨rfl, ex⟩
    rw [ex]
    clear ex Hx
    refine W.cStr ⟨_, rfl, iteF rfl (B.nil ?_)⟩
    refine B.cons (S.ret (W.and (W.eqPair (W.tuple (WA.cons (W.call (k := 6) 10 rfl (G_law_stands w) (Nat.le_of_ble_eq_true rfl) (WA.cons (W.var 2 rfl rfl (WA.nil (Fn.mono (fn_law_stands t T1 H4 LN3.la.tree O1) (Nat.le_refl _) ?_))))))))))
    rintro _ H5 ⟨d2, l2, n2, rfl, _, hd5, p2, s2, r5, le5⟩
    refine WA.cons (clk rfl (LN3.la.tree.le le5) (WA.nil ⟨Nat.le_of_ble_eq_true rfl, fun b2 hb2' => ?_⟩))
    have le6 := HL.le_set (o := .tup [.ref d2, .int T1.clock]) hb2'
    have e12 : n2 = n1 := sorted_unique (p2.trans p1.symm) s2 s1
    subst e12
    refine W.var 10 rfl rfl ⟨b2, b1, d2, d1, l2, l1, _, _, T1.clock, T1.clock, rfl, rfl, HL.set_self, le6 _ _ (le5 _ _ hb3), le6 _ _ hd5, le6 _ _ (le5 _ _ hd3), (r5.mono (TF.of le6)).rows, (r3.mono (TF.of fun a o q => le6 _ _ (le5 _ _ q))).rows, rowsOf_ok O1 p2, rowsOf_ok O1 p1, _, rfl, ?_⟩
    refine iteT (by simp) (W.op1 (W.not (W.mcall (W.var 2 rfl rfl ?_))))
    have A6 := (LN3.la.tree.le le5).le le6
    refine ⟨t, 375, _, 283, 4, rfl, A6.t, M_FileTree_may_write w, rfl, Nat.le_of_ble_eq_true rfl, WA.cons (W.cStr (WA.nil (Fn.read (fn_may_write t T1 pF _ A6 (kids_nm _ pF_kid).1.sc E1 j1) (Nat.le_refl _) ⟨_, rfl, ?_⟩)))⟩
    rw [j4]
    exact hret _ _
end Mine
end
section
open PySem PySem.W PyProof.Rows PySem.Calls
set_option maxHeartbeats 1000000
namespace Mine
theorem islice_at {l : List Int} {lo hi : Int} (h0 : 0 ≤ lo) (h1 : 0 ≤ hi) {k : Int} : k ∈ islice l (some lo) (some hi) ↔ ∃ i : Nat, lo ≤ i ∧ (i : Int) < hi ∧ l[i]? = some k := by
  unfold islice
  rw [List.mem_filterMap]
  have idx : ∀ i : Nat, i < l.length → (i ∈ sliceRange (sliceBounds (some lo) (some hi) none l.length).1 (sliceBounds (some lo) (some hi) none l.length).2.1 (sliceBounds (some lo) (some hi) none l.length).2.2 ↔ lo ≤ i ∧ (i : Int) < hi) := fun i hi' => by
    unfold sliceRange sliceBounds
    simp only [Option.getD_none, List.mem_map, List.mem_range]
    have e1 : ¬ lo < 0 := by omega
    have e2 : ¬ hi < 0 := by omega
    simp only [e1, e2, if_false, show (1 : Int) > 0 from by decide, if_true, Int.ediv_one, Int.one_mul]
    constructor
    · rintro ⟨j, hj, rfl⟩
      split at hj
      · omega
      · simp at hj
    · rintro ⟨a, b⟩
      refine ⟨(i - (max 0 (min lo l.length)).toNat), ?_, by omega⟩
      rw [if_pos (by omega)]
      omega
  constructor
  · rintro ⟨i, hi', e⟩
    have hl := (List.getElem?_eq_some_iff.mp e).1
    obtain ⟨a, b⟩ := (idx i hl).mp hi'
    exact ⟨i, a, b, e⟩
  · rintro ⟨i, a, b, e⟩
    have hl := (List.getElem?_eq_some_iff.mp e).1
    exact ⟨i, (idx i hl).mpr ⟨a, b⟩, e⟩
theorem lastOf_eq (m : Man) (ns : List Int) : lastOf m ns = if ((every ns).length : Int) - (if m.new > 1 then m.new else 1) > m.old then ((every ns).length : Int) - (if m.new > 1 then m.new else 1) else m.old := rfl
/-- what the law keeps is what the plan keeps -/
theorem gone_at {m : Man} {ns : List Int} {i : Nat} {k : Int} (ho : 0 ≤ m.old) (he : (every ns)[i]? = some k) (hn : (every ns).Nodup) : decide (k ∈ gone m ns) = !(decide ((i : Int) < m.old) || decide ((((every ns).length : Int) - (if m.new > 1 then m.new else 1)) ≤ i)) := by
  have hl : 0 ≤ lastOf m ns := by rw [lastOf_eq]; generalize ((every ns).length : Int) - (if m.new > 1 then m.new else 1) = z; split <;> omega
  have key : k ∈ gone m ns ↔ m.old ≤ i ∧ (i : Int) < lastOf m ns := by
    unfold gone
    rw [islice_at ho hl]
    constructor
    · rintro ⟨j, a, b, e⟩
      have : i = j := (List.getElem?_inj (List.getElem?_eq_some_iff.mp he).1 hn).mp (he.trans e.symm)
      subst this; exact ⟨a, b⟩
    · rintro ⟨a, b⟩; exact ⟨i, a, b, he⟩
  have k2 : k ∈ gone m ns ↔ ¬ ((i : Int) < m.old ∨ (((every ns).length : Int) - (if m.new > 1 then m.new else 1)) ≤ i) := by
    rw [key, lastOf_eq]
    generalize ((every ns).length : Int) - (if m.new > 1 then m.new else 1) = z
    split <;> omega
  generalize ((every ns).length : Int) - (if m.new > 1 then m.new else 1) = z at k2
  by_cases h : k ∈ gone m ns
  · have := k2.mp h
    rw [decide_eq_true h, decide_eq_false (fun q => this (.inl q)), decide_eq_false (fun q => this (.inr q))]; rfl
  · have h2 : (i : Int) < m.old ∨ z ≤ i := Classical.byContradiction fun q => h (k2.mpr q)
    rw [decide_eq_false h]
    rcases h2 with q | q
    · rw [decide_eq_true q]; rfl
    · rw [decide_eq_true q, Bool.or_true]; rfl
end Mine
end
section
open PySem PySem.W PyProof.Rows PySem.Calls
set_option maxHeartbeats 1000000
namespace Mine
variable {w : World} {h₀ : Heap} {L : Addr} {A : Around} {os : OsState} {P : Fl → List (Option V) → HL → Prop}
theorem segI (a0 t dS aD aN g : Addr) (x5 x6 x7 : Option V) (m : Man) (hm : ManOk m) (T : Tree) (kv : List (Str × V)) (st : St) (ds ns ms : List Int) (H : HL) (LN : LawN H L t dS aD aN T kv st ds ns) (hg : H g = some (.inst 100 (mF m))) (TW : Twin T.vw st) (N : Nums st ns)
    (hf : alook sF st = some (some ms) ∨ alook sF st = none)
    (k : ∀ H' T' x11, LawN H' L t dS aD aN T' kv st ds ns → H' g = some (.inst 100 (mF m)) → Twin T'.vw (aput sF (some [7]) (stepB st m ns ms)) → B (LX w h₀ L A os) [some (.ref a0), some (.ref aD), some (.ref t), some (.bool false), some (.ref aN), x5, some (.str (lbk m.way st ns)), x7, some (.int m.way), some (.ref g), none, x11, none, none, none] H' (lb.drop 15) P) :
    B (LX w h₀ L A os) [some (.ref a0), some (.ref aD), some (.ref t), some (.bool false), some (.ref aN), x5, x6, x7, some (.int m.way), some (.ref g), none, none, none, none, none] H (lb.drop 12) P := by
  obtain ⟨n1, n2, _, _⟩ := N.next
  refine B.cons (S.assign 6 rfl (W.call (k := 1) 12 rfl (G_law_backup w) (Nat.le_of_ble_eq_true rfl) (WA.cons (W.var 8 rfl rfl (WA.cons (W.stands LN.la.cell (WA.cons (W.var 4 rfl rfl (WA.nil (Fn.mono (fn_law_backup m.way dS aN kv st ns H LN.la.dict LN.la.stv LN.num N.asc (fun k hk => by have := N.rng k hk; omega) (by have := N.len; omega) n2) (Nat.le_refl _) ?_))))))))))
  rintro _ Hx ⟨rfl, ex⟩
  rw [ex]
  clear ex Hx
  have S1 := save1 (m := m) (tx := [7]) TW N (Nat.le_trans (vw_len TW.okv LN.la.tree.nd) (by decide)) hm.way hf
  refine B.seq (P' := fun f vs1 H1 => f = .next ∧ H1 = H ∧ vs1 = [some (.ref a0), some (.ref aD), some (.ref t), some (.bool false), some (.ref aN), x5, some (.str (lbk m.way st ns)), x7, some (.int m.way), some (.ref g), none, some (.bool (madeW T.vw m (plan m ns) false)), none, none, none]) (S.assign 11 rfl (W.or (W.cmpv (W.var 6 rfl rfl (W.cStr ⟨_, rfl, _, rfl, ?_⟩))))) ?_
  · rw [S1.2]
    by_cases hn : lbk m.way st ns = ⟨#[]⟩
    · refine iteF (bne_eq_false_iff_eq.mpr hn) (W.op1 (W.and (W.cmpv (W.var 8 rfl rfl (W.gint 8 rfl (I_NEVER w) ⟨_, rfl, _, rfl, ?_⟩)))))
      rw [decide_eq_false (fun h => h hn), Bool.false_or]
      by_cases h0 : m.way = 0
      · refine iteT (beq_iff_eq.mpr h0) (W.op1 (W.inDict (W.cStr (W.stands LN.la.cell ⟨sF, dS, kv, rfl, rfl, LN.la.dict, rfl, rfl, ?_⟩))))
        have gg := LN.la.stv.get (n := sF)
        rw [decide_eq_true h0, Bool.true_and]
        cases hq : alook sF st with
        | none => rw [hq] at gg; rw [show dget sF kv = none from gg]; rfl
        | some o => rw [hq] at gg; obtain ⟨v, hv, _⟩ := gg; rw [hv]; rfl
      · refine iteF (beq_eq_false_iff_ne.mpr h0) ⟨rfl, rfl, ?_⟩
        rw [decide_eq_false h0]; rfl
    · refine iteT (bne_iff_ne.mpr hn) ⟨rfl, rfl, ?_⟩
      rw [decide_eq_true hn]; rfl
  rintro _ _ Hx ⟨rfl, ex, rfl⟩
  rw [ex]
  clear ex Hx
  refine B.cons (S.ite (WT.cmpv (W.call (k := 10) 11 rfl (G_law_saved w) (Nat.le_of_ble_eq_true rfl) (WA.cons (W.var 2 rfl rfl (WA.cons (W.list (WA.cons (W.cInt (WA.nil ⟨Nat.le_of_ble_eq_true rfl, fun c hc => WA.less freeze_le (WA.cons (W.var 9 rfl rfl (WA.cons (W.cBool (WA.nil ?_)))))⟩))))))))))
  have LN1 := LN.new (o := .flist [.int 7]) hc
  have hg1 := HL.le_set (o := .flist [.int 7]) hc _ _ hg
  have hcc : (H.set c (.flist [.int 7])) c = some (.flist ([7].map V.int)) := HL.set_self
  generalize H.set c (.flist [.int 7]) = H1 at LN1 hg1 hcc ⊢
  have hF : alook pF T.vw = some (some ms, true) ∨ alook pF T.vw = none := by
    rw [file_twin TW]
    exact hf.imp (fun h => by rw [h]; rfl) (fun h => by rw [h]; rfl)
  refine Fn.mono (fn_law_saved t c g T H1 LN1.la.tree TW.okv (Nat.le_trans (vw_len TW.okv LN.la.tree.nd) (by decide)) m hg1 hm.on ns ms hF TW.wr TW.noT false (fun _ => mkBk TW N LN.la.tree.nd) [7] hcc (by decide)) (Nat.le_refl _) ?_
  rintro _ H2 ⟨rfl, hD⟩
  obtain ⟨T2, LN2, v2, _, f2⟩ := LN1.did hD
  have hg2 := f2 _ _ hg1 (LN1.la.off hg1 fun _ h => by cases h) (fun _ h => by cases h) (fun _ h => by cases h)
  refine W.var 11 rfl rfl ⟨_, rfl, iteF (by simp) (B.nil ?_)⟩
  exact k H2 T2 _ LN2 hg2 (by rw [v2]; exact S1.1)
end Mine
end
section
open PySem PySem.W PyProof.Rows PySem.Calls
set_option maxHeartbeats 1000000
namespace Mine
variable {w : World} {h₀ : Heap} {L : Addr} {A : Around} {os : OsState} {P : Fl → List (Option V) → HL → Prop}
abbrev nStr : Str := ⟨#[115, 116, 114]⟩
/-- the sorted pairs -/
structure Pairs (H : HL) (dE : Addr) (ks : List Int) : Prop where
  ex : ∃ ts : List Addr, H dE = some (.list (ts.map V.ref)) ∧ ts.length = ks.length ∧ ∀ (i : Nat) (t : Addr) (k : Int), ts[i]? = some t → ks[i]? = some k → H t = some (.tup [.int k, .str (numS k)])
theorem bkeep {H H' : HL} {a : Addr} {l : List V} (h : ∀ x y, H x = some y → x ≠ a → H' x = some y) (ha : H a = some (.list l)) : NL H H' := fun x y e n => h x y e fun q => by subst q; rw [ha] at e; exact n l (Option.some.inj e).symm
noncomputable def blk15 : List Stmt := match lb.drop 15 with | .If _ b _ _ :: _ => b | _ => []
/-- every = sorted([..]) -/
theorem segEvery (vs : List (Option V)) (aN : Addr) (st : St) (ns : List Int) (H : HL) (hv : vs[4]? = some (some (.ref aN))) (hN : H aN = some (.list (ns.map V.int))) (N : Nums st ns)
    (k : ∀ (H' : HL) (dE : Addr), (∀ x y, H x = some y → H' x = some y) → H dE = none → Pairs H' dE (every ns) → B (LX w h₀ L A os) (vs.set 12 (some (.ref dE))) H' (blk15.drop 2) P) : B (LX w h₀ L A os) vs H (blk15.drop 1) P := by
  obtain ⟨e1, e2, e3⟩ := N.every
  obtain ⟨n1, n2, n3, _⟩ := N.next
  have hnl := N.len
  refine B.cons (S.assign 12 rfl (W.bcall 4 rfl (B_sorted w) (WA.cons (W.comp [nStr] (cl := []) ?K (W.addList (W.var 4 rfl hv (W.list (WA.cons (W.binv (W.bcall 13 rfl (B_max w) (WA.cons (W.addList (W.list (WA.cons (W.cInt (WA.nil ⟨Nat.le_of_ble_eq_true rfl, fun b hb => ?_⟩))))))))))))))))
  case K => exact ⟨by kernel_rfl, by decide +kernel, by kernel_rfl, by decide +kernel, by kernel_rfl, by kernel_rfl, by
    intro n hn
    have : n = nStr := List.mem_singleton.mp hn
    subst this
    exact ⟨by kernel_rfl, by kernel_rfl⟩⟩
  refine W.var 4 rfl hv ⟨b, aN, [.int 0], ns.map V.int, rfl, rfl, HL.set_self, HL.le_set hb _ _ hN, by rw [List.length_map]; show 1 + ns.length ≤ 1000; omega, fun e he => ?_⟩
  refine WA.nil (CB.maxList (ns := 0 :: ns) HL.set_self (Nat.succ_pos _) fun M hM hA => ?_)
  refine W.cInt ⟨_, rfl, WA.nil ⟨Nat.le_of_ble_eq_true rfl, fun f hf => ?_⟩⟩
  rw [maxNext N.asc (fun k hk => by have := N.rng k hk; omega) hM hA]
  have le1 : ∀ x y, H x = some y → (((H.set b (.list [.int 0])).set e (.list ([.int 0] ++ ns.map V.int))).set f (.list [.int (nextN ns)])) x = some y := fun x y q => HL.le_set hf _ _ (HL.le_set he _ _ (HL.le_set hb _ _ q))
  have hff : (((H.set b (.list [.int 0])).set e (.list ([.int 0] ++ ns.map V.int))).set f (.list [.int (nextN ns)])) f = some (.list [.int (nextN ns)]) := HL.set_self
  generalize ((H.set b (.list [.int 0])).set e (.list ([.int 0] ++ ns.map V.int))).set f (.list [.int (nextN ns)]) = H1 at le1 hff ⊢
  refine ⟨aN, f, ns.map V.int, [.int (nextN ns)], rfl, rfl, le1 _ _ hN, hff, by rw [List.length_map]; show ns.length + 1 ≤ 1000; omega, fun it0 hit0 => ?_⟩
  have hev : ns.map V.int ++ [.int (nextN ns)] = (every ns).map V.int := by rw [every_eq, List.map_append]; rfl
  rw [hev]
  have le2 : ∀ x y, H x = some y → (H1.set it0 (.list ((every ns).map V.int))) x = some y := fun x y q => HL.le_set hit0 _ _ (le1 _ _ q)
  have h0 : (H1.set it0 (.list ((every ns).map V.int))) it0 = some (.list ((every ns).map V.int)) := HL.set_self
  generalize H1.set it0 (.list ((every ns).map V.int)) = H2 at le2 h0 ⊢
  refine ⟨it0, _, rfl, h0, fun D h₀' C hD => ?_⟩
  have hDi : D ≠ it0 := fun q => by rw [q, h0] at hD; cases hD
  refine CompL.inv (I := fun r H' => ∃ (done rest : List Int) (ts : List Addr), every ns = done ++ rest ∧ r = rest.map V.int ∧ H' D = some (.list (ts.map V.ref)) ∧ ts.length = done.length ∧ (∀ (i : Nat) (t : Addr) (k : Int), ts[i]? = some t → done[i]? = some k → H' t = some (.tup [.int k, .str (numS k)])) ∧ ∀ x y, H2 x = some y → H' x = some y) ?_ ?_ ?_ _ _ ⟨[], _, [], rfl, rfl, HL.set_self, rfl, fun i t k h => (by cases h), HL.le_set hD⟩
  · rintro _ H' ⟨done, rest, ts, _, _, _, _, _, le⟩; exact le _ _ h0
  · rintro H' ⟨done, rest, ts, e, er, hDD, hl, ht, le⟩
    have : rest = [] := by cases rest with | nil => rfl | cons q r => cases er
    subst this
    rw [List.append_nil] at e
    subst e
    refine WA.nil (CB.sortedPairs hDD hl (fun i t k a b => ⟨_, ht i t k a b⟩) e3 (by rw [every_eq, List.length_append]; exact Nat.le_add_left 1 _) (by omega) fun d hd => ?_)
    refine k _ d (fun x y q => HL.le_set hd _ _ (le _ _ (le2 _ _ q))) ?_ ⟨ts, HL.set_self, hl, fun i t k a b => HL.le_set hd _ _ (ht i t k a b)⟩
    cases q : H d with
    | none => rfl
    | some y => rw [le _ _ (le2 _ _ q)] at hd; cases hd
  · rintro v r H' ⟨done, rest, ts, e, er, hDD, hl, ht, le⟩ it o hit
    cases rest with
    | nil => cases er
    | cons kk rest =>
      obtain ⟨rfl, rfl⟩ : v = V.int kk ∧ r = rest.map V.int := List.cons.inj er
      have hkr := e1 kk (by rw [e]; exact List.mem_append.mpr (.inr (.head _)))
      have hk10 := strOk10 kk (by omega) (by omega)
      have hiD : it ≠ D := fun q => by rw [q, hDD] at hit; cases hit
      have hdl : done.length ≤ 4 := Nat.le_trans (by rw [e, List.length_append]; omega) e2
      refine TS.nil (iteT rfl (W.tuple (WA.cons (W.var 0 rfl rfl (WA.cons (W.addStr (W.addStr (W.cStr (W.tcall 0 rfl (B_str w) (WA.cons (W.var 0 rfl rfl (WA.nil (CB.strInt hk10.1 ⟨_, _, rfl, rfl, by have := hk10.2; show 3 + _ ≤ 10000; omega, W.cStr ⟨_, _, rfl, rfl, by have := hk10.2; rw [PySem.Str.length_append]; show 3 + _ + 1 ≤ 10000; omega, WA.nil ⟨Nat.le_of_ble_eq_true rfl, fun tt htt => ?_⟩⟩⟩)))))))))))))
      have nti : tt ≠ it := fun q => by rw [q, HL.set_self] at htt; cases htt
      have htH : H' tt = none := by rwa [HL.set_ne nti] at htt
      have ntD : tt ≠ D := fun q => by rw [q, hDD] at htH; cases htH
      refine ⟨H'.set tt (.tup [.int kk, .str (numS kk)]), ts.map V.ref, HL.set_comm nti.symm, by rw [HL.set_ne nti.symm]; exact hit, by rw [HL.set_ne ntD.symm]; exact hDD, by rw [List.length_map]; omega, done ++ [kk], rest, ts ++ [tt], by rw [e, List.append_assoc]; rfl, rfl, by rw [HL.set_self, List.map_append]; rfl, by rw [List.length_append, List.length_append, hl]; rfl, fun i t k a b => ?_, fun x y q => ?_⟩
      · by_cases hi : i < ts.length
        · rw [List.getElem?_append_left hi] at a
          rw [List.getElem?_append_left (by omega)] at b
          have := ht i t k a b
          rw [HL.set_ne (fun q => by rw [q, hDD] at this; cases this)]
          exact HL.le_set htH _ _ this
        · have hi2 : i = ts.length := by have := (List.getElem?_eq_some_iff.mp a).1; rw [List.length_append] at this; have : i < ts.length + 1 := this; omega
          subst hi2
          rw [List.getElem?_concat_length] at a
          rw [hl, List.getElem?_concat_length] at b
          cases a; cases b
          rw [HL.set_ne ntD, HL.set_self]
      · rw [HL.set_ne (fun q' => by rw [q'] at q; rw [hD] at q; cases q)]
        exact HL.le_set htH _ _ (le _ _ q)
end Mine
end
section
open PySem PySem.W PyProof.Rows PySem.Calls
set_option maxHeartbeats 1000000
namespace Mine
variable {w : World} {h₀ : Heap} {L : Addr} {A : Around} {os : OsState} {P : Fl → List (Option V) → HL → Prop}
theorem Pairs.mono {H H' : HL} {dE : Addr} {ks : List Int} (Q : Pairs H dE ks) (h : ∀ a y, H a = some y → ((∃ l, y = .list l) ∨ ∃ l, y = .tup l) → H' a = some y) : Pairs H' dE ks := by
  obtain ⟨ts, h1, h2, h3⟩ := Q.ex
  exact ⟨ts, h _ _ h1 (.inl ⟨_, rfl⟩), h2, fun i t k a b => h _ _ (h3 i t k a b) (.inr ⟨_, rfl⟩)⟩
theorem lbk_text {way : Int} {st : St} {ns ms : List Int} (hf : alook sF st = some (some ms) ∨ alook sF st = none) (h : lbk way st ns ≠ ⟨#[]⟩) : alook sF st = some (some ms) := by
  rcases hf with hf | hf
  · exact hf
  · exfalso
    apply h
    unfold lbk
    rw [hf]
    split <;> rfl
noncomputable def loop15 : List Stmt := match blk15.drop 2 with | .For _ _ b _ _ :: _ => b | _ => []
theorem segLoop (a0 t dS aD aN g dE : Addr) (x5 x7 x11 x13 x14 : Option V) (nm : Str) (m : Man) (hm : ManOk m) (T : Tree) (kv : List (Str × V)) (st1 : St) (ds ns : List Int) (ev gn : List Int) (H : HL) (LN : LawN H L t dS aD aN T kv st1 ds ns) (hg : H g = some (.inst 100 (mF m))) (hE : Pairs H dE ev)
    (hev : ev.Pairwise (· < ·)) (hel : ev.length ≤ 4) (her : ∀ k ∈ ev, 1 ≤ k ∧ k ≤ 10) (hgone : ∀ (i : Nat) (k : Int), ev[i]? = some k → decide (k ∈ gn) = !(decide ((i : Int) < m.old) || decide (((ev.length : Int) - (if m.new > 1 then m.new else 1)) ≤ i))) (hall : ∀ k ∈ ev, (alook (numS k) st1).isSome = true) (hsl : st1.length ≤ 6)
    (k : ∀ H' kv' x13 x14, LawN H' L t dS aD aN T kv' (popL gn ev st1) ds ns → H' g = some (.inst 100 (mF m)) → P .next [some (.ref a0), some (.ref aD), some (.ref t), some (.bool false), some (.ref aN), x5, some (.str nm), x7, some (.int m.way), some (.ref g), none, x11, some (.ref dE), x13, x14] H') :
    ForL (LX w h₀ L A os) 13 loop15 P (fun _ => True) ((List.range ev.length).map fun (t : Nat) => V.int (t : Int)) [some (.ref a0), some (.ref aD), some (.ref t), some (.bool false), some (.ref aN), x5, some (.str nm), x7, some (.int m.way), some (.ref g), none, x11, some (.ref dE), x13, x14] H := by
  rw [range_map]
  refine ForL.inv (I := fun r vs1 H' => ∃ (i n : Nat) (x13 x14 : Option V) (kv' : List (Str × V)) (st' : St), i + n = ev.length ∧ r = (List.range' i n).map (fun (t : Nat) => V.int (t : Int)) ∧ vs1 = [some (.ref a0), some (.ref aD), some (.ref t), some (.bool false), some (.ref aN), x5, some (.str nm), x7, some (.int m.way), some (.ref g), none, x11, some (.ref dE), x13, x14] ∧ LawN H' L t dS aD aN T kv' st' ds ns ∧ H' g = some (.inst 100 (mF m)) ∧ Pairs H' dE ev ∧ popL gn (ev.drop i) st' = popL gn ev st1 ∧ (∀ k ∈ ev.drop i, (alook (numS k) st').isSome = true) ∧ st'.length ≤ 6) (fun _ _ _ _ => trivial) ?_ ?_ _ _ _ ⟨0, ev.length, x13, x14, kv, st1, by omega, rfl, rfl, LN, hg, hE, rfl, hall, hsl⟩
  · rintro _ H' ⟨i, n, x13, x14, kv', st', e, er, rfl, LN', hg', _, hp, _, _⟩
    cases n with
    | succ n => rw [List.range'_succ] at er; cases er
    | zero =>
      rw [List.drop_eq_nil_of_le (by omega)] at hp
      exact k H' kv' x13 x14 (by rw [← hp]; exact LN') hg'
  · rintro v r _ H' ⟨i, n, x13, x14, kv', st', e, er, rfl, LN', hg', hP, hp, ha, hsl'⟩ it o hit
    cases n with
    | zero => cases er
    | succ n =>
      rw [List.range'_succ] at er
      obtain ⟨rfl, rfl⟩ := List.cons.inj er
      have hi : i < ev.length := by omega
      have hdrop : ev.drop i = ev[i] :: ev.drop (i + 1) := List.drop_eq_getElem_cons hi
      have hget : ev[i]? = some ev[i] := List.getElem?_eq_getElem hi
      have hkr := her ev[i] (List.getElem_mem hi)
      have hgo := hgone i ev[i] hget
      have hnot : ev[i] ∉ ev.drop (i + 1) := fun hm' => by
        have := hev.sublist (List.drop_sublist i ev)
        rw [hdrop] at this
        exact Int.lt_irrefl _ ((List.pairwise_cons.mp this).1 _ hm')
      have hsome := ha ev[i] (by rw [hdrop]; exact .head _)
      rw [hdrop] at hp ha
      generalize ev[i] = kk at *
      have LN2 := LN'.new (o := .raw o) hit
      have hraw : (H'.set it (.raw o)) it = some (.raw o) := HL.set_self
      have hitS : it ≠ dS := fun q => by rw [q, LN'.la.dict] at hit; cases hit
      have hg2 := HL.le_set (o := .raw o) hit _ _ hg'
      have hP2 := hP.mono fun a y q _ => HL.le_set (o := .raw o) hit _ _ q
      generalize H'.set it (.raw o) = H2 at LN2 hraw hg2 hP2 ⊢
      obtain ⟨ts, q1, q2, q3⟩ := hP2.ex
      have hti : i < ts.length := by omega
      obtain ⟨tt, htt⟩ : ∃ tt, ts[i]? = some tt := ⟨_, List.getElem?_eq_getElem hti⟩
      have htup := q3 i tt kk htt hget
      have g1 := LN2.la.stv.get (n := numS kk)
      cases hq : alook (numS kk) st' with
      | none => rw [hq] at hsome; cases hsome
      | some oo =>
        rw [hq] at g1
        obtain ⟨u, hu, tv⟩ := g1
        generalize hkept : (decide ((i : Int) < m.old) || decide (((ev.length : Int) - (if m.new > 1 then m.new else 1)) ≤ i)) = kept at hgo
        refine B.seq (P' := fun f vs1 H1 => f = .next ∧ H1 = H2 ∧ vs1 = [some (.ref a0), some (.ref aD), some (.ref t), some (.bool false), some (.ref aN), x5, some (.str nm), x7, some (.int m.way), some (.ref g), none, x11, some (.ref dE), some (.int (i : Int)), some (.bool kept)]) (S.assign 14 rfl (W.or (W.cmpv (W.var 13 rfl rfl (W.attr (W.var 9 rfl rfl ⟨g, 100, _, _, rfl, hg2, F_oldest100 w, rfl, _, rfl, _, rfl, ?_⟩)))))) ?_
        · by_cases h1 : (i : Int) < m.old
          · refine iteT (decide_eq_true h1) ⟨rfl, rfl, ?_⟩
            rw [← hkept, decide_eq_true h1]; rfl
          · refine iteF (decide_eq_false h1) (W.op1 (W.cmpv (W.var 13 rfl rfl (W.binv (W.bcall 14 rfl (B_len w) (WA.cons (W.var 12 rfl rfl (WA.nil (CB.lenList q1 (by rw [List.length_map]; omega) ?_)))))))))
            refine W.bcall 13 rfl (B_max w) (WA.cons (W.cInt (WA.cons (W.attr (W.var 9 rfl rfl ⟨g, 100, _, _, rfl, hg2, F_newest100 w, rfl, WA.nil (CB.max2 ⟨_, rfl, _, rfl, rfl, rfl, ?_⟩)⟩)))))
            rw [← hkept, decide_eq_false h1, Bool.false_or, List.length_map, q2]; rfl
        rintro _ _ Hx ⟨rfl, ex, rfl⟩
        rw [ex]
        clear ex Hx
        have item : ∀ {vs : List (Option V)} {p1 p2 p3 p4 p5 : Pos} {ck : Nat} {Q : V → HL → Prop} (h12 : vs[12]? = some (some (.ref dE))) (h13 : vs[13]? = some (some (.int (i : Int)))), Q (.str (numS kk)) H2 → W (LX w h₀ L A os) vs H2 (.Subscript (.Subscript (.Name ⟨#[101, 118, 101, 114, 121]⟩ p1) (.Name ⟨#[97, 116]⟩ p2) p3) (.Constant (.int 1) ck p4) p5) Q := fun h12 h13 q => by
          refine W.titem (W.litem (W.var 12 rfl h12 (W.var 13 rfl h13 ⟨dE, _, (i : Int), .ref tt, rfl, rfl, q1, by omega, by omega, ?_, W.cInt ⟨tt, _, 1, _, rfl, rfl, htup, by decide, by decide, rfl, q⟩⟩)))
          show (ts.map V.ref)[i]? = _
          rw [List.getElem?_map, htt]; rfl
        refine B.cons (S.test (!kept && isText (alook (numS kk) st')) (WT.and (WT.not (WT.val (W.var 14 rfl rfl ⟨kept, rfl, ?_⟩)))) ?_)
        · cases kept with
          | true => exact iteF rfl ⟨rfl, fun _ _ e => e⟩
          | false =>
            refine iteT rfl (WT.and (WT.cmpv (W.ditem (W.stands LN2.la.cell (item rfl rfl ⟨dS, numS kk, kv', u, rfl, rfl, LN2.la.dict, hu, W.cNone ⟨_, isTextNot tv, ?_⟩⟩)))))
            rw [hq]
            cases oo with
            | none => exact iteF rfl ⟨rfl, fun _ _ e => e⟩
            | some z => exact iteT rfl (WT.andNil ⟨rfl, fun _ _ e => e⟩)
        have ep : popL gn (ev.drop (i + 1)) (pop1 gn kk st') = popL gn ev st1 := hp
        have ha' : ∀ k ∈ ev.drop (i + 1), (alook (numS k) (pop1 gn kk st')).isSome = true := fun k2 hk2 => by
          rw [alook_pop1, decide_eq_false (fun q => hnot (by
            have := her k2 (List.mem_of_mem_drop hk2)
            rw [← numS_inj (by omega) this.2 (by omega) hkr.2 q]; exact hk2))]
          simpa using ha k2 (.tail _ hk2)
        have hpl : (pop1 gn kk st').length ≤ 6 := by
          unfold pop1
          split
          · exact Nat.le_trans (List.length_filter_le _ _) hsl'
          · exact hsl'
        have ep1 : pop1 gn kk st' = if (!kept && isText (alook (numS kk) st')) = true then adel (numS kk) st' else st' := by unfold pop1; rw [hgo]
        cases hc : (!kept && isText (alook (numS kk) st')) with
        | false =>
          rw [hc, if_neg (by decide)] at ep1
          rw [ep1] at ep ha' hpl
          refine iteF rfl (B.nil (B.nil ⟨HL.hide H2 it, (HL.hide_set hraw).symm, HL.hide_self, i + 1, n, _, _, kv', st', by omega, rfl, rfl, LN2.hide hraw, ?_, hP2.mono ?_, ep, ha', hpl⟩))
          · rw [HL.hide_ne (fun q => by rw [q, hraw] at hg2; cases hg2)]; exact hg2
          · rintro a y q (⟨l, rfl⟩ | ⟨l, rfl⟩) <;> (rw [HL.hide_ne (fun z => by rw [z, hraw] at q; cases q)]; exact q)
        | true =>
          rw [hc, if_pos rfl] at ep1
          rw [ep1] at ep ha' hpl
          refine iteT rfl (B.cons (S.expr (W.dpop (W.stands LN2.la.cell ⟨dS, kv', rfl, LN2.la.dict, item rfl rfl ⟨numS kk, kv', u, rfl, LN2.la.dict, by rw [LN2.la.stv.len]; omega, hu, ?_⟩⟩))))
          have LN3 := LN2.pop (n := numS kk)
          have hraw3 : (H2.set dS (.dict (ddel (numS kk) kv'))) it = some (.raw o) := by rw [HL.set_ne hitS]; exact hraw
          refine B.nil (B.nil ⟨HL.hide _ it, (HL.hide_set hraw3).symm, HL.hide_self, i + 1, n, _, _, _, _, by omega, rfl, rfl, LN3.hide hraw3, ?_, hP2.mono ?_, ep, ha', hpl⟩)
          · rw [HL.hide_ne (fun q => by rw [q, hraw] at hg2; cases hg2)]
            exact LN2.la.offS hg2 fun _ h => by cases h
          · rintro a y q (⟨l, rfl⟩ | ⟨l, rfl⟩) <;> (rw [HL.hide_ne (fun z => by rw [z, hraw] at q; cases q)]; exact LN2.la.offS q fun _ h => by cases h)
end Mine
end
section
open PySem PySem.W PyProof.Rows PySem.Calls
set_option maxHeartbeats 1000000
namespace Mine
variable {w : World} {h₀ : Heap} {L : Addr} {A : Around} {os : OsState} {P : Fl → List (Option V) → HL → Prop}
theorem segJ (a0 t dS aD aN g : Addr) (x5 x7 x11 : Option V) (m : Man) (hm : ManOk m) (T : Tree) (kv : List (Str × V)) (st : St) (ds ns ms : List Int) (H : HL) (LN : LawN H L t dS aD aN T kv st ds ns) (hg : H g = some (.inst 100 (mF m))) (N : Nums st ns) (hsl : st.length ≤ 5)
    (hf : alook sF st = some (some ms) ∨ alook sF st = none)
    (k : ∀ H' kv' x12 x13 x14, LawN H' L t dS aD aN T kv' (stepB st m ns ms) ds ns → H' g = some (.inst 100 (mF m)) → B (LX w h₀ L A os) [some (.ref a0), some (.ref aD), some (.ref t), some (.bool false), some (.ref aN), x5, some (.str (lbk m.way st ns)), x7, some (.int m.way), some (.ref g), none, x11, x12, x13, x14] H' (lb.drop 16) P) :
    B (LX w h₀ L A os) [some (.ref a0), some (.ref aD), some (.ref t), some (.bool false), some (.ref aN), x5, some (.str (lbk m.way st ns)), x7, some (.int m.way), some (.ref g), none, x11, none, none, none] H (lb.drop 15) P := by
  refine B.cons (S.ite (WT.cmpv (W.var 6 rfl rfl (W.cStr ⟨_, rfl, ?_⟩))))
  by_cases hn : lbk m.way st ns = ⟨#[]⟩
  · have e : stepB st m ns ms = st := by unfold stepB; rw [hn, if_pos rfl]
    exact iteF (bne_eq_false_iff_eq.mpr hn) (B.nil (k H kv none none none (by rw [e]; exact LN) hg))
  refine iteT (bne_iff_ne.mpr hn) ?_
  have hft := lbk_text hf hn
  have eS : stepB st m ns ms = if lbk m.way st ns = sFt then aput sFt (some ms) st else popL (gone m ns) (every ns) (aput (lbk m.way st ns) (some ms) st) := by unfold stepB; rw [if_neg hn]
  obtain ⟨e1, e2, e3⟩ := N.every
  have g1 := LN.la.stv.get (n := sF)
  rw [hft] at g1
  obtain ⟨u, hu, tv⟩ := g1
  refine B.cons (S.setItem (W.ditem (W.stands LN.la.cell (W.cStr ⟨dS, sF, kv, u, rfl, rfl, LN.la.dict, hu, W.stands LN.la.cell (W.var 6 rfl rfl ⟨dS, lbk m.way st ns, kv, rfl, rfl, LN.la.dict, by rw [LN.la.stv.len]; omega, ?_⟩)⟩))))
  have LN1 := LN.put (n := lbk m.way st ns) tv
  have hg1 := LN.la.offS (kv' := dput (lbk m.way st ns) u kv) hg fun _ h => by cases h
  generalize H.set dS (.dict (dput (lbk m.way st ns) u kv)) = H1 at LN1 hg1 ⊢
  generalize dput (lbk m.way st ns) u kv = kv1 at LN1 ⊢
  refine segEvery _ aN st ns H1 rfl LN1.num N fun H2 dE le hdE hP => ?_
  have LN2 := LN1.le le
  have hg2 := le _ _ hg1
  have hl1 : (aput (lbk m.way st ns) (some ms) st).length ≤ 6 := Nat.le_trans aput_len (by omega)
  refine B.seq (P' := fun f vs1 H' => f = .next ∧ ∃ kv' x13 x14, LawN H' L t dS aD aN T kv' (stepB st m ns ms) ds ns ∧ H' g = some (.inst 100 (mF m)) ∧ vs1 = [some (.ref a0), some (.ref aD), some (.ref t), some (.bool false), some (.ref aN), x5, some (.str (lbk m.way st ns)), x7, some (.int m.way), some (.ref g), none, x11, some (.ref dE), x13, x14]) (S.forRange 13 2 rfl rfl (B_range w) (W.ite (WT.cmpv (W.var 6 rfl rfl (W.cStr ⟨_, rfl, ?_⟩))))) ?_
  · by_cases hb : lbk m.way st ns = sFt
    · refine iteF (bne_eq_false_iff_eq.mpr hb) (W.cInt ⟨0, rfl, by decide, trivial, rfl, kv1, none, none, ?_, hg2, rfl⟩)
      rw [eS, if_pos hb, ← hb]; exact LN2
    · obtain ⟨ts, q1, q2, q3⟩ := hP.ex
      refine iteT (bne_iff_ne.mpr hb) (W.bcall 14 rfl (B_len w) (WA.cons (W.var 12 rfl rfl (WA.nil (CB.lenList q1 (by rw [List.length_map]; omega) ⟨(every ns).length, by rw [List.length_map, q2], by omega, ?_⟩)))))
      have hname : lbk m.way st ns = numS (nextN ns) := by
        unfold lbk at hn hb ⊢
        rw [hft] at hn hb ⊢
        split
        · rename_i h; rw [if_pos h] at hn; exact absurd rfl hn
        · rename_i h
          rw [if_neg h] at hn hb
          show (if way2 m.way ns = 1 then _ else _) = _
          by_cases h1 : way2 m.way ns = 1
          · have hb' : (if way2 m.way ns = 1 then (if alook sFt st = some none then (⟨#[]⟩ : Str) else sFt) else numS (nextN ns)) ≠ sFt := hb
            have hn' : (if way2 m.way ns = 1 then (if alook sFt st = some none then (⟨#[]⟩ : Str) else sFt) else numS (nextN ns)) ≠ ⟨#[]⟩ := hn
            rw [if_pos h1] at hb' hn'
            split at hb'
            · rename_i h2; rw [if_pos h2] at hn'; exact absurd rfl hn'
            · exact absurd rfl hb'
          · rw [if_neg h1]
      refine segLoop a0 t dS aD aN g dE x5 x7 x11 none none (lbk m.way st ns) m hm T kv1 (aput (lbk m.way st ns) (some ms) st) ds ns (every ns) (gone m ns) H2 LN2 hg2 hP e3 e2 e1 (fun i k h => gone_at hm.on.1 h (e3.imp Int.ne_of_lt)) (fun k hk => ?_) hl1 fun H' kv' x13 x14 LN3 hg3 => ⟨rfl, kv', x13, x14, by rw [eS, if_neg hb]; exact LN3, hg3, rfl⟩
      rw [alook_aput]
      split
      · rfl
      · rename_i hne
        rw [every_eq] at hk
        rcases List.mem_append.mp hk with q | q
        · have := N.rng k q
          exact (N.iff_ k (by omega) (by omega)).mpr q
        · rw [List.mem_singleton.mp q] at hne
          exact absurd hname.symm hne
  · rintro _ vs1 H' ⟨rfl, kv', x13, x14, LN3, hg3, rfl⟩
    exact B.nil (k H' kv' _ _ _ LN3 hg3)
end Mine
end
section
open PySem PySem.W PyProof.Rows PySem.Calls
set_option maxHeartbeats 1000000
namespace Mine
variable {w : World} {h₀ : Heap} {L : Addr} {A : Around} {os : OsState} {P : Fl → List (Option V) → HL → Prop}
noncomputable def cmp17 : Expr := match lb.drop 17 with | .If (.Compare _ _ (e :: _) _) _ _ _ :: _ => e | _ => .Name nStr default
noncomputable def cmp20 : Expr := match lb.drop 20 with | .Return (some (.Compare _ _ (e :: _) _)) _ :: _ => e | _ => .Name nStr default
/-- [(own, stands[own]) for own in sorted(stands)], where it stands -/
theorem W.rows17 {vs : List (Option V)} {H : HL} {Q : V → HL → Prop} {t dS aD : Addr} {T : Tree} {kv : List (Str × V)} {st : St} {ds : List Int} (LA : LawAt H L t dS aD T kv st ds) (hsl : st.length ≤ 20)
    (h : ∀ (H' : HL) (D : Addr) (l : List V) (n2 : List Str), (∀ x y, H x = some y → H' x = some y) → H' D = some (.list l) → RowsF H' l (rowsSt st n2) → n2.Perm (st.map (·.1)) → sortedS n2 = true → Q (.ref D) H') : W (LX w h₀ L A os) vs H cmp17 Q := by
  refine W.comp [] (cl := [(nStands, L + 1)]) ?K (W.bcall 4 rfl (B_sorted w) (WA.cons (W.stands LA.cell (WA.nil (CB.sortedDict LA.dict (by rw [LA.stv.len]; omega) fun a ns' ha hp hs => ⟨a, _, rfl, HL.set_self, fun D h₀' C hD => ?_⟩)))))
  case K => exact ⟨by kernel_rfl, by decide +kernel, by kernel_rfl, by decide +kernel, by kernel_rfl, by kernel_rfl, fun n hn => by cases hn⟩
  rw [LA.stv.keys] at hp
  have LA1 := LA.new (o := .list (ns'.map V.str)) ha
  have le1 := HL.le_set (o := .list (ns'.map V.str)) ha
  have haa : (H.set a (.list (ns'.map V.str))) a = some (.list (ns'.map V.str)) := HL.set_self
  have hlen : ns'.length ≤ 20 := by rw [hp.length_eq, List.length_map]; exact hsl
  generalize H.set a (.list (ns'.map V.str)) = H0 at LA1 le1 haa hD ⊢
  have naD : a ≠ D := fun q => by rw [← q, haa] at hD; cases hD
  refine CompL.inv (I := fun r H' => ∃ done rest H1 l, ns' = done ++ rest ∧ r = rest.map V.str ∧ H' = H1.set D (.list l) ∧ H1 D = none ∧ RowsF H1 l (rowsSt st done) ∧ ∀ x y, H0 x = some y → H1 x = some y) ?_ ?_ ?_ _ _ ⟨[], ns', H0, [], rfl, rfl, rfl, hD, trivial, fun _ _ q => q⟩
  · rintro _ _ ⟨done, rest, H1, l, _, _, rfl, _, _, le⟩; rw [HL.set_ne naD]; exact le _ _ haa
  · rintro _ ⟨done, rest, H1, l, e, er, rfl, h1, hr, le⟩
    have : rest = [] := by cases rest with | nil => rfl | cons q r => cases er
    subst this
    rw [List.append_nil] at e
    subst e
    exact h _ D l ns' (fun x y q => HL.le_set h1 _ _ (le _ _ (le1 _ _ q))) HL.set_self (hr.mono (TF.of (HL.le_set h1))) hp hs
  · rintro v r _ ⟨done, rest, H1, l, e, er, rfl, h1, hr, le⟩ it o hit
    cases rest with
    | nil => cases er
    | cons n rest =>
      obtain ⟨rfl, rfl⟩ : v = V.str n ∧ r = rest.map V.str := List.cons.inj er
      have hmem : n ∈ st.map (·.1) := hp.mem_iff.mp (by rw [e]; exact List.mem_append.mpr (.inr (.head _)))
      have hiD : it ≠ D := fun q => by rw [q, HL.set_self] at hit; cases hit
      have hi1 : H1 it = none := by rwa [HL.set_ne hiD] at hit
      have LA2 := ((LA1.le le).new (o := .list l) h1).new (o := .raw o) hit
      have g1 := LA2.stv.get (n := n)
      cases hq : alook n st with
      | none => have := alook_mem.mpr hmem; rw [hq] at this; cases this
      | some oo =>
        rw [hq] at g1
        obtain ⟨u, hu, _⟩ := g1
        have g2 := (LA1.le le).stv.get (n := n)
        rw [hq] at g2
        obtain ⟨u', hu', tv⟩ := g2
        have euu : u' = u := Option.some.inj (hu'.symm.trans hu)
        subst euu
        have hll : l.length ≤ 100 := by
          rw [hr.len]
          unfold rowsSt
          rw [List.length_map]
          have : done.length ≤ ns'.length := by rw [e, List.length_append]; omega
          omega
        refine TS.nil (iteT rfl (W.tuple (WA.cons (W.var 0 rfl rfl (WA.cons (W.ditem (W.cvar (c := L + 1) (by kernel_rfl) (by kernel_rfl) (by rfl) LA2.cell (W.var 0 rfl rfl ⟨dS, n, kv, u', rfl, rfl, LA2.dict, hu, WA.nil ⟨Nat.le_of_ble_eq_true rfl, fun tt htt => ?_⟩⟩))))))))
        have nti : tt ≠ it := fun q => by rw [q, HL.set_self] at htt; cases htt
        have ntD : tt ≠ D := fun q => by rw [q, HL.set_ne hiD.symm, HL.set_self] at htt; cases htt
        have ht1 : H1 tt = none := by rwa [HL.set_ne nti, HL.set_ne ntD] at htt
        refine ⟨(H1.set D (.list l)).set tt (.tup [.str n, u']), l, by funext x; simp only [HL.set]; grind, by rw [HL.set_ne nti.symm]; exact hit, by rw [HL.set_ne ntD.symm]; exact HL.set_self, by omega, done ++ [n], rest, H1.set tt (.tup [.str n, u']), l ++ [.ref tt], by rw [e, List.append_assoc]; rfl, rfl, by funext x; simp only [HL.set]; grind, by rw [HL.set_ne ntD.symm]; exact h1, ?_, fun x y q => HL.le_set ht1 _ _ (le _ _ q)⟩
        unfold rowsSt
        rw [List.map_append]
        refine RowsF.app (r := (n, (alook n st).getD none)) (H := H1.set tt (.tup [.str n, u'])) ⟨tt, u', rfl, HL.set_self, ?_⟩ (RowsF.mono (H' := H1.set tt (.tup [.str n, u'])) (TF.of (HL.le_set ht1)) hr)
        show TextF _ u' ((alook n st).getD none)
        rw [hq]
        exact tv.mono fun a l q => HL.le_set ht1 _ _ q
/-- [(own, stands[own]) for own in sorted(stands)], where it stands -/
theorem W.rows20 {vs : List (Option V)} {H : HL} {Q : V → HL → Prop} {t dS aD : Addr} {T : Tree} {kv : List (Str × V)} {st : St} {ds : List Int} (LA : LawAt H L t dS aD T kv st ds) (hsl : st.length ≤ 20)
    (h : ∀ (H' : HL) (D : Addr) (l : List V) (n2 : List Str), (∀ x y, H x = some y → H' x = some y) → H' D = some (.list l) → RowsF H' l (rowsSt st n2) → n2.Perm (st.map (·.1)) → sortedS n2 = true → Q (.ref D) H') : W (LX w h₀ L A os) vs H cmp20 Q := by
  refine W.comp [] (cl := [(nStands, L + 1)]) ?K (W.bcall 4 rfl (B_sorted w) (WA.cons (W.stands LA.cell (WA.nil (CB.sortedDict LA.dict (by rw [LA.stv.len]; omega) fun a ns' ha hp hs => ⟨a, _, rfl, HL.set_self, fun D h₀' C hD => ?_⟩)))))
  case K => exact ⟨by kernel_rfl, by decide +kernel, by kernel_rfl, by decide +kernel, by kernel_rfl, by kernel_rfl, fun n hn => by cases hn⟩
  rw [LA.stv.keys] at hp
  have LA1 := LA.new (o := .list (ns'.map V.str)) ha
  have le1 := HL.le_set (o := .list (ns'.map V.str)) ha
  have haa : (H.set a (.list (ns'.map V.str))) a = some (.list (ns'.map V.str)) := HL.set_self
  have hlen : ns'.length ≤ 20 := by rw [hp.length_eq, List.length_map]; exact hsl
  generalize H.set a (.list (ns'.map V.str)) = H0 at LA1 le1 haa hD ⊢
  have naD : a ≠ D := fun q => by rw [← q, haa] at hD; cases hD
  refine CompL.inv (I := fun r H' => ∃ done rest H1 l, ns' = done ++ rest ∧ r = rest.map V.str ∧ H' = H1.set D (.list l) ∧ H1 D = none ∧ RowsF H1 l (rowsSt st done) ∧ ∀ x y, H0 x = some y → H1 x = some y) ?_ ?_ ?_ _ _ ⟨[], ns', H0, [], rfl, rfl, rfl, hD, trivial, fun _ _ q => q⟩
  · rintro _ _ ⟨done, rest, H1, l, _, _, rfl, _, _, le⟩; rw [HL.set_ne naD]; exact le _ _ haa
  · rintro _ ⟨done, rest, H1, l, e, er, rfl, h1, hr, le⟩
    have : rest = [] := by cases rest with | nil => rfl | cons q r => cases er
    subst this
    rw [List.append_nil] at e
    subst e
    exact h _ D l ns' (fun x y q => HL.le_set h1 _ _ (le _ _ (le1 _ _ q))) HL.set_self (hr.mono (TF.of (HL.le_set h1))) hp hs
  · rintro v r _ ⟨done, rest, H1, l, e, er, rfl, h1, hr, le⟩ it o hit
    cases rest with
    | nil => cases er
    | cons n rest =>
      obtain ⟨rfl, rfl⟩ : v = V.str n ∧ r = rest.map V.str := List.cons.inj er
      have hmem : n ∈ st.map (·.1) := hp.mem_iff.mp (by rw [e]; exact List.mem_append.mpr (.inr (.head _)))
      have hiD : it ≠ D := fun q => by rw [q, HL.set_self] at hit; cases hit
      have hi1 : H1 it = none := by rwa [HL.set_ne hiD] at hit
      have LA2 := ((LA1.le le).new (o := .list l) h1).new (o := .raw o) hit
      have g1 := LA2.stv.get (n := n)
      cases hq : alook n st with
      | none => have := alook_mem.mpr hmem; rw [hq] at this; cases this
      | some oo =>
        rw [hq] at g1
        obtain ⟨u, hu, _⟩ := g1
        have g2 := (LA1.le le).stv.get (n := n)
        rw [hq] at g2
        obtain ⟨u', hu', tv⟩ := g2
        have euu : u' = u := Option.some.inj (hu'.symm.trans hu)
        subst euu
        have hll : l.length ≤ 100 := by
          rw [hr.len]
          unfold rowsSt
          rw [List.length_map]
          have : done.length ≤ ns'.length := by rw [e, List.length_append]; omega
          omega
        refine TS.nil (iteT rfl (W.tuple (WA.cons (W.var 0 rfl rfl (WA.cons (W.ditem (W.cvar (c := L + 1) (by kernel_rfl) (by kernel_rfl) (by rfl) LA2.cell (W.var 0 rfl rfl ⟨dS, n, kv, u', rfl, rfl, LA2.dict, hu, WA.nil ⟨Nat.le_of_ble_eq_true rfl, fun tt htt => ?_⟩⟩))))))))
        have nti : tt ≠ it := fun q => by rw [q, HL.set_self] at htt; cases htt
        have ntD : tt ≠ D := fun q => by rw [q, HL.set_ne hiD.symm, HL.set_self] at htt; cases htt
        have ht1 : H1 tt = none := by rwa [HL.set_ne nti, HL.set_ne ntD] at htt
        refine ⟨(H1.set D (.list l)).set tt (.tup [.str n, u']), l, by funext x; simp only [HL.set]; grind, by rw [HL.set_ne nti.symm]; exact hit, by rw [HL.set_ne ntD.symm]; exact HL.set_self, by omega, done ++ [n], rest, H1.set tt (.tup [.str n, u']), l ++ [.ref tt], by rw [e, List.append_assoc]; rfl, rfl, by funext x; simp only [HL.set]; grind, by rw [HL.set_ne ntD.symm]; exact h1, ?_, fun x y q => HL.le_set ht1 _ _ (le _ _ q)⟩
        unfold rowsSt
        rw [List.map_append]
        refine RowsF.app (r := (n, (alook n st).getD none)) (H := H1.set tt (.tup [.str n, u'])) ⟨tt, u', rfl, HL.set_self, ?_⟩ (RowsF.mono (H' := H1.set tt (.tup [.str n, u'])) (TF.of (HL.le_set ht1)) hr)
        show TextF _ u' ((alook n st).getD none)
        rw [hq]
        exact tv.mono fun a l q => HL.le_set ht1 _ _ q
end Mine
end
section
open PySem PySem.W PyProof.Rows PySem.Calls
set_option maxHeartbeats 1000000
namespace Mine
variable {w : World} {h₀ : Heap} {L : Addr} {A : Around} {os : OsState} {P : Fl → List (Option V) → HL → Prop}
theorem segK (a0 t dS aD aN g : Addr) (x5 x6 x7 x11 x12 x13 x14 : Option V) (m : Man) (hm : ManOk m) (T : Tree) (kv : List (Str × V)) (st : St) (ds ns : List Int) (H : HL) (LN : LawN H L t dS aD aN T kv st ds ns) (hg : H g = some (.inst 100 (mF m))) (hsl : st.length ≤ 12)
    (TW : Twin T.vw (aput sF (some [7]) st)) (hret : ∀ vs' H', P (.ret (.bool true)) vs' H') :
    B (LX w h₀ L A os) [some (.ref a0), some (.ref aD), some (.ref t), some (.bool false), some (.ref aN), x5, x6, x7, some (.int m.way), some (.ref g), none, x11, x12, x13, x14] H (lb.drop 16) P := by
  refine B.cons (S.setItem (W.list (WA.cons (W.cInt (WA.nil ⟨Nat.le_of_ble_eq_true rfl, fun c hc => W.less freeze_le ?_⟩)))))
  have LN1 := LN.new (o := .flist [.int 7]) hc
  have hg1 := HL.le_set (o := .flist [.int 7]) hc _ _ hg
  have hcc : (H.set c (.flist [.int 7])) c = some (.flist ([7].map V.int)) := HL.set_self
  generalize H.set c (.flist [.int 7]) = H1 at LN1 hg1 hcc ⊢
  refine W.stands LN1.la.cell (W.cStr ⟨dS, sF, kv, rfl, rfl, LN1.la.dict, by rw [LN1.la.stv.len]; omega, ?_⟩)
  have LN2 := LN1.put (n := sF) (v := .ref c) (o := some [7]) ⟨c, rfl, hcc⟩
  have hg2 := LN1.la.offS (kv' := dput sF (.ref c) kv) hg1 fun _ h => by cases h
  have hl2 : (aput sF (some [7]) st).length ≤ 13 := Nat.le_trans aput_len (by omega)
  generalize H1.set dS (.dict (dput sF (.ref c) kv)) = H2 at LN2 hg2 ⊢
  generalize dput sF (.ref c) kv = kv2 at LN2 ⊢
  have ff : alook sF (aput sF (some [7]) st) = some (some [7]) := by rw [alook_aput, if_pos rfl]
  generalize aput sF (some [7]) st = st2 at LN2 hl2 TW ff ⊢
  refine B.cons (S.ite (WT.neRows (W.call (k := 6) 10 rfl (G_law_stands w) (Nat.le_of_ble_eq_true rfl) (WA.cons (W.var 2 rfl rfl (WA.nil (Fn.mono (fn_law_stands t T H2 LN2.la.tree TW.okv) (Nat.le_refl _) ?_)))))))
  rintro _ H3 ⟨d1, l1, n1, rfl, _, hd1, p1, s1, r1, le1⟩
  have LN3 := LN2.le le1
  have hg3 := le1 _ _ hg2
  refine W.rows17 LN3.la (by omega) fun H4 D l n2 le2 hD r2 p2 s2 => ⟨d1, D, l1, l, _, _, rfl, rfl, le2 _ _ hd1, hD, (r1.mono (TF.of le2)).rows, r2.rows, rowsOf_ok TW.okv p1, rowsSt_ok (fun n hn => TW.sub n (p2.mem_iff.mp hn)), ?_⟩
  rw [TW.rows LN2.la.tree.nd p1 s1 p2 s2]
  refine iteF (by simp) (B.nil ?_)
  have LN4 := LN3.le le2
  have hg4 := le2 _ _ hg3
  clear hd1 r1 r2 hD p1 s1 p2 s2
  have hF : alook pF T.vw = some (some [7], true) := by rw [file_twin TW, ff]; rfl
  refine B.cons (S.ite (WT.not (WT.val (W.isBool 15 16 rfl (B_isinstance w) rfl (B_bool w) (W.call (k := 10) 11 rfl (G_law_saved w) (Nat.le_of_ble_eq_true rfl) (WA.cons (W.var 2 rfl rfl (WA.cons (W.list (WA.cons (W.cInt (WA.nil ⟨Nat.le_of_ble_eq_true rfl, fun c2 hc2 => WA.less freeze_le (WA.cons (W.var 9 rfl rfl (WA.cons (W.cBool (WA.nil ?_)))))⟩))))))))))))
  have LN5 := LN4.new (o := .flist [.int 8]) hc2
  have hg5 := HL.le_set (o := .flist [.int 8]) hc2 _ _ hg4
  have hcc5 : (H4.set c2 (.flist [.int 8])) c2 = some (.flist ([8].map V.int)) := HL.set_self
  generalize H4.set c2 (.flist [.int 8]) = H5 at LN5 hg5 hcc5 ⊢
  refine Fn.mono (fn_law_saved t c2 g T H5 LN5.la.tree TW.okv (Nat.le_trans (vw_len TW.okv LN.la.tree.nd) (by decide)) m hg5 hm.on [] [7] (.inl hF) TW.wr TW.noT true (fun h => by cases h) [8] hcc5 (by decide)) (Nat.le_refl _) ?_
  rintro _ H6 ⟨rfl, hDid⟩
  obtain ⟨T6, LN6, v6, _, _⟩ := LN5.did hDid
  have TW6 : Twin T6.vw (aput sF (some [8]) st2) := by rw [v6]; exact save2 TW (Nat.le_trans (vw_len TW.okv LN.la.tree.nd) (by decide))
  refine ⟨_, rfl, true, rfl, iteF rfl (B.nil ?_)⟩
  refine B.cons (S.setItem (W.list (WA.cons (W.cInt (WA.nil ⟨Nat.le_of_ble_eq_true rfl, fun c3 hc3 => W.less freeze_le ?_⟩)))))
  have LN7 := LN6.new (o := .flist [.int 8]) hc3
  have hcc7 : (H6.set c3 (.flist [.int 8])) c3 = some (.flist ([8].map V.int)) := HL.set_self
  generalize H6.set c3 (.flist [.int 8]) = H7 at LN7 hcc7 ⊢
  refine W.stands LN7.la.cell (W.cStr ⟨dS, sF, kv2, rfl, rfl, LN7.la.dict, by rw [LN7.la.stv.len]; omega, ?_⟩)
  have LN8 := LN7.put (n := sF) (v := .ref c3) (o := some [8]) ⟨c3, rfl, hcc7⟩
  have hl8 : (aput sF (some [8]) st2).length ≤ 14 := Nat.le_trans aput_len (by omega)
  generalize H7.set dS (.dict (dput sF (.ref c3) kv2)) = H8 at LN8 ⊢
  generalize dput sF (.ref c3) kv2 = kv8 at LN8 ⊢
  generalize aput sF (some [8]) st2 = st8 at LN8 hl8 TW6 ⊢
  refine B.cons (S.ret (W.eqRows (W.call (k := 6) 10 rfl (G_law_stands w) (Nat.le_of_ble_eq_true rfl) (WA.cons (W.var 2 rfl rfl (WA.nil (Fn.mono (fn_law_stands t T6 H8 LN8.la.tree TW6.okv) (Nat.le_refl _) ?_)))))))
  rintro _ H9 ⟨d9, l9, n9, rfl, _, hd9, p9, s9, r9, le9⟩
  have LN9 := LN8.le le9
  refine W.rows20 LN9.la (by omega) fun H10 D l n2 le10 hD r2 p2 s2 => ⟨d9, D, l9, l, _, _, rfl, rfl, le10 _ _ hd9, hD, (r9.mono (TF.of le10)).rows, r2.rows, rowsOf_ok TW6.okv p9, rowsSt_ok (fun n hn => TW6.sub n (p2.mem_iff.mp hn)), ?_⟩
  rw [TW6.rows LN8.la.tree.nd p9 s9 p2 s2, decide_eq_true rfl]
  exact hret _ _
end Mine
end
section
open PySem PySem.W PyProof.Rows PySem.Calls
set_option maxHeartbeats 1000000
namespace Mine
variable {w : World} {h₀ : Heap} {L : Addr} {A : Around} {os : OsState}
theorem law_body (SR : SavedRaises) (fr : A.frames = some [(LX w h₀ L A os).env]) (a0 : Addr) (us : List Value) (xs : List Int) (hl : xs.length ≤ 100) (H : HL) (hx : h₀.IsList a0 us.toArray) (hI : IntsAre us xs) (hc : H (L + 1) = some (.cell none)) :
    B (LX w h₀ L A os) [some (.ref a0), none, none, none, none, none, none, none, none, none, none, none, none, none, none] H lb fun fl _ H' => match fl with | .ret v => v = .bool true | .next => V.none = .bool true | _ => False := by
  refine segA a0 us xs hl H hx hI hc fun H1 t dS aD T1 ds1 LA1 v1 => ?_
  refine segB a0 t dS aD T1 ds1 H1 LA1 v1 fun H2 T2 kv2 st0 ds2 LA2 F2 => ?_
  refine segC a0 t dS aD T2 kv2 st0 ds2 H2 LA2 F2 fun H3 aN pr ds3 LN3 hpr => ?_
  refine segD a0 t dS aD aN pr T2 kv2 st0 ds3 H3 LN3 F2 fun H4 x5 x6 kv4 st4 ds4 ns LN4 C4 => ?_
  refine segE a0 t dS aD aN pr x5 x6 T2 kv4 st0 st4 ds4 ns H4 LN4 C4 fun H5 x7 kv5 st ds5 LN5 D5 => ?_
  refine segF a0 t dS aD aN pr x5 x6 x7 T2 kv5 st0 st ds5 ns H5 LN5 F2 D5 fun H6 T6 x6' LN6 TW => ?_
  refine segG a0 t dS aD aN pr x5 x6' x7 T6 kv5 st ds5 ns H6 LN6 fun H7 g m ds7 LN7 hg hm => ?_
  obtain ⟨ms, hf⟩ : ∃ ms, alook sF st = some (some ms) ∨ alook sF st = none := by
    rw [D5.ff]
    rcases F2.ff with h | ⟨ms, h, _⟩
    · exact ⟨[], .inr h⟩
    · exact ⟨ms, .inl h⟩
  refine segH SR fr a0 t dS aD aN g pr x5 x6' x7 m T6 kv5 st ds7 ns H7 LN7 hg TW (fun hp => ?_) (fun _ _ => rfl) ?_
  · rcases hf with h | h
    · exact ⟨ms, h⟩
    · have := hpr hp
      rw [← D5.ff, h] at this; cases this
  refine segI a0 t dS aD aN g x5 x6' x7 m hm T6 kv5 st ds7 ns ms H7 LN7 hg TW D5.nums hf fun H8 T8 x11 LN8 hg8 TW8 => ?_
  refine segJ a0 t dS aD aN g x5 x7 x11 m hm T8 kv5 st ds7 ns ms H8 LN8 hg8 D5.nums D5.len hf fun H9 kv9 x12 x13 x14 LN9 hg9 => ?_
  refine segK a0 t dS aD aN g x5 _ x7 x11 x12 x13 x14 m hm T8 kv9 (stepB st m ns ms) ds7 ns H9 LN9 hg9 ?_ TW8 (fun _ _ => rfl)
  have pl : ∀ (l : List Int) (s : St), (popL (gone m ns) l s).length ≤ s.length := by
    intro l
    induction l with
    | nil => intro s; exact Nat.le_refl _
    | cons k r ih =>
      intro s
      refine Nat.le_trans (ih _) ?_
      unfold pop1
      split
      · exact List.length_filter_le _ _
      · exact Nat.le_refl _
  have := D5.len
  unfold stepB
  dsimp only
  split
  · omega
  · split
    · have := aput_len (n := sFt) (v := some ms) (l := st); omega
    · have h1 := pl (every ns) (aput (lbk m.way st ns) (some ms) st)
      have := aput_len (n := lbk m.way st ns) (v := some ms) (l := st); omega
theorem LX_ok (w : World) (h₀ : Heap) (L : Addr) (A : Around) (os : OsState) : ((LX w h₀ L A os).ns.all (fun n => (fnScope (stAt 38)).names.lookup n == some .local && !(n == ("__debug__" : Str))) && (LX w h₀ L A os).gs.all (fun n => (fnScope (stAt 38)).names.lookup n == some .globalImplicit && !(n == ("__debug__" : Str))) && decide (LX w h₀ L A os).ns.Nodup) = true := by kernel_rfl
end Mine
end
section
open PySem PySem.W PyProof.Rows PySem.Calls
set_option maxHeartbeats 1000000
namespace Mine
abbrev sLS : Str := ⟨#[76, 105, 115, 112, 83, 105, 103, 110, 97, 108]⟩
abbrev nSymbol : Str := ⟨#[115, 121, 109, 98, 111, 108]⟩
abbrev nData : Str := ⟨#[100, 97, 116, 97]⟩
abbrev bmX : List Value := [.type "Exception", .type "BaseException", .type "object"]
/-- the class LispSignal as it stands -/
abbrev clsX : Obj := excClassObj sLS sLS 38 37 [.type "Exception"] bmX true [] [] false none none (some (.ref 22)) none (some (.str sLS 196)) (some (.str sLS 204)) (some (.bool true)) "Exception.__new__"
theorem lk38 (w : World) : (K w.params).lookup 38 = some clsX := by kernel_rfl
theorem clsX_at {w : World} {h : Heap} (X : (K w.params).In h) : h.get? 38 = some clsX := X _ _ (lk38 w)
theorem ns_of {F : Frag} {h : Heap} {N : Addr} {mg : Str → Option Value} {n : Str} {v : Value} (X : F.In h) (G : h.Ns N mg) (e : nsIn F N n = some (some v)) : mg n = some v := by
  obtain ⟨o, es, ep, ho, hd, _, hf⟩ := G
  unfold nsIn at e
  split at e
  · rename_i c d es' n' sl q
    rw [X _ _ q] at ho
    cases ho
    cases hd
    rw [← hf]
    unfold nsFind findBy
    rw [← Array.find?_toList]
    split at e
    · rename_i en he
      cases e
      rw [he]; rfl
    · split at e <;> cases e
  · cases e
/-- the class's namespace -/
structure NsX (h : Heap) (mN : Str → Option Value) : Prop where
  ns : h.Ns 37 mN
  init : mN "__init__" = some (.ref 35)
  sym : mN nSymbol = none
  dat : mN nData = none
  sa : mN "__setattr__" = none
  ga : mN "__getattribute__" = none
  gt : mN "__getattr__" = none
theorem nsX_at {w : World} {h : Heap} (X : (K w.params).In h) : NsX h (h.nsMap 37) := by
  have G : h.Ns 37 (h.nsMap 37) := .of_isNs (isNs_of_in X (show nsOkIn (K w.params) 37 = true from by kernel_rfl))
  exact ⟨G, ns_of X G (by kernel_rfl), ns_none_of X G (by kernel_rfl), ns_none_of X G (by kernel_rfl), ns_none_of X G (by kernel_rfl), ns_none_of X G (by kernel_rfl), ns_none_of X G (by kernel_rfl)⟩
theorem noSym : typeLookup (.type "Exception") nSymbol = pure none := by rw [typeLookup_type, builtinLookup_eq_fast]; kernel_rfl
theorem noData : typeLookup (.type "Exception") nData = pure none := by rw [typeLookup_type, builtinLookup_eq_fast]; kernel_rfl
section
open Builtin Builtin.ObjectAttr
variable {prog : Program} {w : World} {A : Around} {E : Value → Shared → Prop} {h : Heap} {g : Array GenState} {d : Drawn} {t : Nat} {os : OsState}
variable {nm q : Str} {C N x : Addr} {bs bm : List Value} {sn : List Str} {sub : List Value} {ab : Bool} {col : Option Bool} {dd : Option Addr} {k0 k1 k2 k3 k5 : Option Value} {B newId sa owner : String}
  {mN : Str → Option Value} {name : Str} {v : Value} {o : Obj}
theorem storeMade {tk : Tok} {Q : PySem.Fin → Shared → Prop} (SF : StoreFacts B bm sa owner)
    (hC : h.get? C = some (excClassObj nm q C N bs bm true sn sub ab col dd k0 k1 k2 k3 k5 newId)) (hn : h.Ns N mN) (hna : mN name = none) (hB : typeLookup (.type B) name = pure none) (hx : h.get? x = some o) (hc : o.cls = .ref C) (hnc : ∀ c, o.data ≠ .cls c) (hd : o.dict = none)
    (hq : ∀ h' tk', h'.get? x = some { o with dict := some h.objs.size } → h'.Ns1 h.objs.size (fun y => if y = name then some v else none) → (∀ b ob, b ≠ x → h.get? b = some ob → h'.get? b = some ob) → Q (.done (.ret .none)) ⟨h', g, d, tk', os⟩) :
    wpAny (model prog w) A (Builtin.«object.__setattr__» ⟨[.ref x, .str name tk, v], []⟩) Q E ⟨h, g, d, t, os⟩ := by
  have hpass := SF.passes (.ref x)
  unfold Builtin.«object.__setattr__»
  repeat (first | rw [refuse_eq] | (rw [refuseLoop_ref, hpass]) | (with_reducible refine wpAny_loadPart_at hx ?_; rw [hc]) | with_reducible refine wpAny_mroOf_exc hC ?_ | (with_reducible refine wpAny_typeLookup_exc hC hn SF.mro hB ?_; rw [hna]) | wp_step)
  rw [hd, if_neg (by simp [typeHasDict])]
  have low := Heap.lt_size hx
  have hx1 : (h.push { cls := .type "dict", data := .dict #[] }).get? x = some o := Heap.get?_push_of_some _ hx
  split
  · rename_i hcd
    cases hcd
  split
  · rename_i c hcd
    exact absurd hcd (hnc c)
  refine wpAny_bind (wpAny_alloc' (wpAny_bind (wpAny_update' hx1 (wpAny_pure ?_))))
  have hy : ((h.push { cls := .type "dict", data := .dict #[] }).update x fun o => { cls := o.cls, dict := some h.objs.size, data := o.data, slots := o.slots }).get? x = some { o with dict := some h.objs.size } := by
    refine Heap.get?_update_self _ hx1 ?_
    have hfr := (Heap.get?_some_iff.mp hx).2
    obtain ⟨oc, od, odt, osl⟩ := o
    cases odt <;> first | rfl | exact hfr
  have hgd : ((h.push { cls := .type "dict", data := .dict #[] }).update x fun o => { cls := o.cls, dict := some h.objs.size, data := o.data, slots := o.slots }).get? h.objs.size = some { cls := .type "dict", data := .dict #[] } :=
    (Heap.get?_update_ne _ _ _ _ (Nat.ne_of_gt low)).trans (Heap.get?_push_at rfl rfl)
  have he := Heap.Ns1.of_empty (show Heap.Ns _ h.objs.size (fun _ => none) from ⟨_, #[], _, hgd, rfl, fun e he => absurd he (by simp), fun _ => rfl⟩)
  show wpAny _ _ (storeInDict h.objs.size (.str name tk) name v) _ _ _
  unfold storeInDict newKeyGuard
  refine wpAny_bind (wpAny_pure (wpAny_bind (wpAny_nsSet1 he fun h' hn' hs => ?_)))
  obtain ⟨oD, esD, epD, hoD, hdD, hcD⟩ := hn'.count (Within.cons name v Within.nil)
  refine wpAny_bind (wpAny_lookBehind hoD (by rw [hdD]; exact pastItsLine_dict (Nat.le_trans hcD (by rw [List.length_cons, List.length_nil, sizeLine_eq]; omega))) ?_)
  wp_walk
  refine hq h' _ ((hs.2 x (Nat.ne_of_lt low)).trans hy) hn' fun b ob hb e => ?_
  exact (hs.2 b (Nat.ne_of_lt (Heap.lt_size e))).trans ((Heap.get?_update_ne _ _ _ _ hb).trans (Heap.get?_push_of_some _ e))
/-- the first store into an object of a class: its dict is made -/
theorem storeFirst {Q : Unit → Shared → Prop} (SF : StoreFacts B bm sa owner)
    (hC : h.get? C = some (excClassObj nm q C N bs bm true sn sub ab col dd k0 k1 k2 k3 k5 newId)) (hn : h.Ns N mN) (hns : mN "__setattr__" = none) (hna : mN name = none) (hB : typeLookup (.type B) name = pure none) (hx : h.get? x = some o) (hc : o.cls = .ref C) (hnc : ∀ c, o.data ≠ .cls c) (hd : o.dict = none)
    (hq : ∀ h' tk', h'.get? x = some { o with dict := some h.objs.size } → h'.Ns1 h.objs.size (fun y => if y = name then some v else none) → (∀ b ob, b ≠ x → h.get? b = some ob → h'.get? b = some ob) → Q () ⟨h', g, d, tk', os⟩) :
    wpAny (model prog w) A (setAttr (.ref x) name v) Q E ⟨h, g, d, t, os⟩ := by
  have f3 := SF.slot.bind (.ref x)
  unfold setAttr callSpecial? specialOf
  repeat (any_goals (first | assumption | (with_reducible refine wpAny_loadPart_at hx ?_; rw [hc]) | (with_reducible refine wpAny_typeLookup_exc hC hn SF.mro SF.slot.lookup ?_; rw [hns]) | wp_step))
  refine codeAny_call_builtin SF.slot.plain SF.entry (wpAny_check_sa SF hC hx hc (storeMade SF hC hn hna hB hx hc hnc hd fun h' tk' a b c => ?_))
  repeat (any_goals (first | assumption | wp_step))
  exact hq h' tk' a b c
end
end Mine
end
section
open PySem PySem.W PyProof.Rows PySem.Calls
set_option maxHeartbeats 1000000
namespace Mine
section
open Builtin Builtin.ObjectAttr
variable {prog : Program} {w : World} {A : Around} {E : Value → Shared → Prop} {h : Heap} {g : Array GenState} {d : Drawn} {t : Nat} {os : OsState}
variable {nm q : Str} {C N x dx : Addr} {bs bm : List Value} {sn : List Str} {sub : List Value} {ab : Bool} {col : Option Bool} {dd : Option Addr} {k0 k1 k2 k3 k5 : Option Value} {B newId : String}
  {mN mA : Str → Option Value} {name : Str} {v : Value} {o : Obj}
/-- what is read of an exception of an own class: one of its own attributes -/
structure OwnAttr (h : Heap) (N x C dx : Addr) (o : Obj) (mN mA : Str → Option Value) (name : Str) (v : Value) : Prop where
  hn : h.Ns N mN
  ga : mN "__getattribute__" = none
  gt : mN "__getattr__" = none
  na : mN name = none
  hx : h.get? x = some o
  hc : o.cls = .ref C
  hnc : ∀ c, o.data ≠ .cls c
  hd : o.dict = some dx
  hs : h.Ns dx mA
  hv : mA name = some v
theorem excEntry {tk : Tok} {Q : PySem.Fin → Shared → Prop} (FB : ExcAttrBase B bm) (hB : typeLookup (.type B) name = pure none)
    (hC : h.get? C = some (excClassObj nm q C N bs bm true sn sub ab col dd k0 k1 k2 k3 k5 newId)) (I : OwnAttr h N x C dx o mN mA name v) (hq : Q (.done (.ret v)) ⟨h, g, d, t, os⟩) :
    wpAny (model prog w) A (Builtin.«object.__getattribute__» ⟨[.ref x, .str name tk], []⟩) Q E ⟨h, g, d, t, os⟩ := by
  obtain ⟨hn, ga, gt, na, hx, hc, hnc, hd, hs, hv⟩ := I
  unfold Builtin.«object.__getattribute__»
  repeat (first | (with_reducible refine wpAny_loadPart_at hx ?_; rw [hc]) | (with_reducible refine wpAny_typeLookup_exc hC hn FB.mro hB ?_; rw [na]) | wp_step)
  split
  · rename_i c hcd
    exact absurd hcd (hnc c)
  unfold instanceDict
  repeat (first | (with_reducible refine wpAny_loadPart_at hx ?_; rw [hc]) | with_reducible refine wpAny_loadPart_at hC ?_ | wp_step)
  rw [hd]
  repeat (first | (with_reducible refine wpAny_nsGet hs ?_; rw [hv]) | wp_step)
  exact hq
theorem excCheck {M : Model} {nameV : Value} {Q : Unit → Shared → Prop} (FB : ExcAttrBase B bm) (hC : h.get? C = some (excClassObj nm q C N bs bm true sn sub ab col dd k0 k1 k2 k3 k5 newId)) (hx : h.get? x = some o) (hc : o.cls = .ref C) (hq : Q () ⟨h, g, d, t, os⟩) :
    wpAny M A (checkBuiltinCall "BaseException.__getattribute__" ⟨[.ref x, nameV], []⟩) Q E ⟨h, g, d, t, os⟩ := wpAny_check_ga_own FB hC OwnTailQ.base hx hc hq
theorem excAttr {expr : Bool} {Q : Value → Shared → Prop} (FB : ExcAttrBase B bm) (hB : typeLookup (.type B) name = pure none)
    (hC : h.get? C = some (excClassObj nm q C N bs bm true sn sub ab col dd k0 k1 k2 k3 k5 newId)) (I : OwnAttr h N x C dx o mN mA name v) (hh : handedOut v = pure v) (hq : Q v ⟨h, g, d, t + 1, os⟩) :
    wpAny (model prog w) A (getAttr (.ref x) name expr) Q E ⟨h, g, d, t, os⟩ := by
  obtain ⟨hn, ga, gt, na, hx, hc, hnc, hd, hs, hv⟩ := id I
  have f3 := FB.ga.bind (.ref x)
  have hx0 : (expr && onTheHeap (Value.builtin "BaseException.__getattribute__")) = false := by cases expr <;> rfl
  have hx2 : (Value.builtin "BaseException.__getattribute__" == Value.builtin "object.__getattribute__") = false := by decide +kernel
  have hx1 : (onTheHeap (Value.ref C) && Value.builtin "BaseException.__getattribute__" == Value.builtin "object.__getattribute__") = false := by rw [hx2]; rfl
  unfold getAttr getAttrBy
  repeat (any_goals (first | assumption | (with_reducible refine wpAny_loadPart_at hx ?_; rw [hc]) | (with_reducible refine wpAny_typeLookup_exc hC hn FB.mro FB.ga.lookup ?_; rw [ga]) | (with_reducible refine wpAny_typeLookup_exc hC hn FB.mro FB.noGetattr ?_; rw [gt]) | wp_step))
  refine codeAny_call_builtin FB.ga.plain PySem.F.entry_bexc_ga (excCheck FB hC hx hc (excEntry FB hB hC I ?_))
  repeat (any_goals (first | assumption | (rw [hh]) | wp_step))
end
end Mine
end
section
open PySem PySem.W PyProof.Rows PySem.Calls
set_option maxHeartbeats 1000000
namespace Mine
section
variable {M : Model} {A : Around} {E : Value → Shared → Prop} {env : Env}
variable {nm q : Str} {C N : Addr} {bs bm : List Value} {hdct : Bool} {sn : List Str} {sub : List Value} {ab : Bool} {col : Option Bool} {dd : Option Addr} {k0 k1 k2 k3 k5 : Option Value} {newId : String}
theorem raiseOwn {s : Shared} {x : Sem Value} {Q : Flow → Shared → Prop} (hbase : bm.contains (.type "BaseException") = true) (hh : A.handled = none)
    (h : wpAny M A x (fun v s₁ => ∃ e od t sl, v = .ref e ∧ s₁.heap.get? C = some (excClassObj nm q C N bs bm hdct sn sub ab col dd k0 k1 k2 k3 k5 newId) ∧ s₁.heap.get? e = some { cls := .ref C, dict := od, data := .fields #[.ref t, .none, .none, .none, .bool false, .none], slots := sl } ∧ E (.ref e) s₁) E s) :
    wpAny M A (raiseStmt env (some x) none) Q E s := by
  have hcB : (Value.ref C :: bm).contains (.type "BaseException") = true := by rw [List.contains_cons, hbase, Bool.or_true]
  unfold raiseStmt
  refine wpAny_bind (wpAny_mono h (fun v s₁ h₁ => ?_) fun _ _ x => x)
  obtain ⟨e, od, t, sl, rfl, hC, he, hE⟩ := h₁
  obtain ⟨hp, g, d, tk, os⟩ := s₁
  repeat (first | with_reducible refine wpAny_loadPart_at he ?_ | with_reducible refine wpAny_loadPart_at hC ?_ | (with_reducible refine wpAny_isSubtype_exc hC ?_; rw [hcB]) | wp_step)
  exact wpAny_raiseNew_none hh hE
end
/-- an exception of the class in flight: its dict is kept -/
structure Flies (B : Heap) (l : List Env) (e dx : Addr) (fl : Value) (h : Heap) : Prop where
  stays : B.StaysIn h
  fresh : B.get? e = none
  frames : h.FunFrames B l
  at_ : ∃ oe vs T oT ts, h.get? e = some oe ∧ (oe.cls = .ref 38 ∧ oe.dict = some dx) ∧ oe.data = .fields vs ∧ vs[1]? = some (.ref T) ∧ B.get? T = none ∧ T ≠ e ∧ h.get? T = some oT ∧ oT.data = .fields ts ∧ ts[3]? = some fl
theorem dict_mapFields (o : Obj) (f) : (o.mapFields f).dict = o.dict := by
  obtain ⟨c, d, dt, sl⟩ := o; cases dt <;> rfl
section
variable {M : Model} {A : Around} {E : Value → Shared → Prop} {s : Shared} {B : Heap} {env : Env} {outer l : List Env} {L e dx : Addr} {Q : Unit → Shared → Prop}
theorem Flies.lands {fl : Value} (F : Flies B l e dx fl s.heap) (h : ∀ h', Flies B l e dx .none h' → s.heap.UpToSlots h' → Q () { s with heap := h' }) : wpAny M A (setFlight (.ref e) none) Q E s := by
  obtain ⟨k1, k2, k3, oe, vs, T, oT, ts, he, hc, hd, h1, hnT, hTe, hT, hdT, h3⟩ := F
  have sz := (Array.getElem?_eq_some_iff.mp h3).1
  unfold setFlight
  refine wpAny_bind (wpAny_field he hd h1 ?_)
  rw [if_pos (show (Value.ref T != Value.none) = true from by simp)]
  refine wpAny_setField hT hdT sz (h _ ?_ ?_)
  all_goals
    have off : ∀ b, b ≠ T → (s.heap.update T (Obj.mapFields (·.setIfInBounds 3 ((none : Option Addr).elim Value.none fun f => rawInt f)))).get? b = s.heap.get? b := fun b hb => Heap.get?_update_other _ _ (Ne.symm hb)
    have rec_ : ∀ b o, s.heap.get? b = some o → (∀ vs, o.data ≠ .fields vs) → b ≠ T := fun b o hb hn q => by
      rw [q, hT] at hb; cases hb; exact hn ts hdT
  · exact ⟨fun b o q => (off b fun z => by rw [z, hnT] at q; cases q).trans (k1 b o q), k2, k3.of_keeps fun b o hb hn => ⟨o, (off b (rec_ b o hb hn)).trans hb, rfl⟩,
      oe, vs, T, _, _, (off e (Ne.symm hTe)).trans he, hc, hd, h1, hnT, hTe, Heap.get?_update_self _ hT (Obj.isFreed_of_fields (Obj.data_mapFields hdT _)), Obj.data_mapFields hdT _, by simp [sz]⟩
  · exact fun b o hb hn => ⟨o.slots, (off b (rec_ b o hb hn)).trans hb⟩
/-- an entry of the traceback is made -/
theorem entryMade {oe : Obj} {vs : Array Value} {head : Value} {hadNext : Bool} (hfr : A.frames = some (env :: outer)) (hl : s.heap.FunFrames B (env :: outer)) (hf : env.frame = some L) (he : s.heap.get? e = some oe) (hc : oe.cls = .ref 38 ∧ oe.dict = some dx) (hk : B.StaysIn s.heap) (hn : B.get? e = none) (hd : oe.data = .fields vs) (hsz : 1 < vs.size)
    (h : ∀ h', Flies B (env :: outer) e dx (rawInt L) h' → s.heap.UpToSlots h' → Q () { s with heap := h' }) :
    wpAny M A (do let a ← frameOf env; let pl ← entryPlaceOf L hadNext; let b ← EntryCells.newEntry head a .none (rawInt L) .none pl; setField (.ref e) 1 b) Q E s := by
  have hene : e ∉ (env :: outer).filterMap (·.frame) := fun hm => by
    obtain ⟨_, o, ho, hnf⟩ := hl.mem hm
    rw [he] at ho; cases ho; exact hnf vs hd
  refine wpAny_bind (wpAny_frameOf_fun hfr hl hf fun h₁ hs₁ => wpAny_bind (wpAny_entryPlaceOf fun pl hpl => ?_))
  unfold EntryCells.newEntry newFields
  refine wpAny_bind (wpAny_newObj_type ?_ (hpl.sizeOk5 _ _ _ _ _))
  have he₁ : h₁.get? e = some oe := (hs₁.2.1 e hene).trans he
  have kb₁ : B.StaysIn h₁ := fun b o q => (hs₁.2.1 b fun hm => by rw [(hl.mem hm).1] at q; cases q).trans (hk b o q)
  have he₂ := Heap.get?_push_of_some (h := h₁) { cls := .type "traceback", dict := none, data := .fields ([head, .ref L, .none, rawInt L, .none] ++ (if pl.isEmpty then List.replicate 6 Value.none else pl)).toArray } he₁
  refine wpAny_setField he₂ hd hsz (h _ ?_ ?_)
  all_goals
    have hTe : h₁.objs.size ≠ e := Nat.ne_of_gt (Heap.lt_size he₁)
    have d3 := Obj.data_mapFields hd (·.setIfInBounds 1 (Value.ref h₁.objs.size))
    have e3 := Heap.get?_update_self (Obj.mapFields (·.setIfInBounds 1 (Value.ref h₁.objs.size))) he₂ (Obj.isFreed_of_fields d3)
    have T3 := (Heap.get?_update_other (h₁.push { cls := .type "traceback", dict := none, data := .fields ([head, .ref L, .none, rawInt L, .none] ++ (if pl.isEmpty then List.replicate 6 Value.none else pl)).toArray }) (Obj.mapFields (·.setIfInBounds 1 (Value.ref h₁.objs.size))) (Ne.symm hTe)).trans (Heap.get?_push_size h₁ rfl)
    have keep : ∀ b o, b ≠ e → h₁.get? b = some o → ((h₁.push { cls := .type "traceback", dict := none, data := .fields ([head, .ref L, .none, rawInt L, .none] ++ (if pl.isEmpty then List.replicate 6 Value.none else pl)).toArray }).update e (Obj.mapFields (·.setIfInBounds 1 (Value.ref h₁.objs.size)))).get? b = some o := fun b o hb q => by
      rw [Heap.get?_update_other _ _ (Ne.symm hb)]; exact Heap.get?_push_of_some _ q
    have rec_ : ∀ b o, s.heap.get? b = some o → (∀ vs, o.data ≠ .fields vs) → b ≠ e := fun b o hb hnf q => by
      rw [q, he] at hb; cases hb; exact hnf vs hd
  · refine ⟨fun b o q => keep b o (fun z => by rw [z, hn] at q; cases q) (kb₁ b o q), hn, hl.of_keeps fun b o hb hnf => ?_, ?_⟩
    · obtain ⟨sl, hs⟩ := hs₁.2.2 b o hb
      exact ⟨_, keep b _ (rec_ b o hb hnf) hs, rfl⟩
    · exact ⟨_, _, h₁.objs.size, _, _, e3, ⟨(Obj.cls_mapFields _ _).trans hc.1, (dict_mapFields _ _).trans hc.2⟩, d3, by simp [hsz], kb₁.fresh, hTe, T3, rfl, by first | (simp; done) | (rcases hpl with rfl | ⟨_, _, _, _, _, _, _, rfl⟩ <;> simp)⟩
  · intro b o hb hnf
    obtain ⟨sl, hs⟩ := hs₁.2.2 b o hb
    exact ⟨sl, keep b _ (rec_ b o hb hnf) hs⟩
/-- the frame in which it was raised is noted -/
theorem noteFirst {oe : Obj} {vs : Array Value} (hfr : A.frames = some (env :: outer)) (hl : s.heap.FunFrames B (env :: outer)) (hf : env.frame = some L) (he : s.heap.get? e = some oe) (hc : oe.cls = .ref 38 ∧ oe.dict = some dx) (hk : B.StaysIn s.heap) (hn : B.get? e = none) (hd : oe.data = .fields vs) (h1 : vs[1]? = some .none)
    (h : ∀ h', Flies B (env :: outer) e dx (rawInt L) h' → s.heap.UpToSlots h' → Q () { s with heap := h' }) : wpAny M A (noteFrame (.ref e) env) Q E s := by
  unfold noteFrame
  simp only [hf]
  refine wpAny_bind (wpAny_field he hd h1 ?_)
  rw [if_neg (by decide)]
  exact entryMade hfr hl hf he hc hk hn hd (Array.getElem?_eq_some_iff.mp h1).1 h
/-- a frame that it comes through is noted -/
theorem Flies.note (hfr : A.frames = some (env :: outer)) (hf : env.frame = some L) (F : Flies B (env :: outer) e dx .none s.heap) (h : ∀ h', Flies B (env :: outer) e dx (rawInt L) h' → s.heap.UpToSlots h' → Q () { s with heap := h' }) : wpAny M A (noteFrame (.ref e) env) Q E s := by
  obtain ⟨k1, k2, k3, oe, vs, T, oT, ts, he, hc, hd, h1, hnT, hTe, hT, hdT, h3⟩ := F
  unfold noteFrame
  simp only [hf]
  refine wpAny_bind (wpAny_field he hd h1 ?_)
  rw [if_pos (show (Value.ref T != Value.none) = true from by simp)]
  refine wpAny_bind (wpAny_field hT hdT h3 ?_)
  rw [if_neg (show ¬ ((Value.none == rawInt L) = true) from by simp [rawInt])]
  refine wpAny_bind (wpAny_setField hT hdT (Array.getElem?_eq_some_iff.mp h3).1 ?_)
  have off : ∀ b, b ≠ T → (s.heap.update T (Obj.mapFields (·.setIfInBounds 3 Value.none))).get? b = s.heap.get? b := fun b hb => Heap.get?_update_other _ _ (Ne.symm hb)
  have rec_ : ∀ b o, s.heap.get? b = some o → (∀ vs, o.data ≠ .fields vs) → b ≠ T := fun b o hb hn q => by
    rw [q, hT] at hb; cases hb; exact hn ts hdT
  refine entryMade hfr (k3.of_keeps fun b o hb hn => ⟨o, (off b (rec_ b o hb hn)).trans hb, rfl⟩) hf ((off e (Ne.symm hTe)).trans he) hc (fun b o q => (off b fun z => by rw [z, hnT] at q; cases q).trans (k1 b o q)) k2 hd (Array.getElem?_eq_some_iff.mp h1).1 fun h' F' U => h h' F' fun b o hb hn => U b o ((off b (rec_ b o hb hn)).trans hb) hn
/-- it leaves the frame in which it was raised -/
theorem leaveFirst {oe : Obj} {vs : Array Value} (hfr : A.frames = some (env :: outer)) (hl : s.heap.FunFrames B (env :: outer)) (hf : env.frame = some L) (he : s.heap.get? e = some oe) (hc : oe.cls = .ref 38 ∧ oe.dict = some dx) (hk : B.StaysIn s.heap) (hn : B.get? e = none) (hd : oe.data = .fields vs) (h1 : vs[1]? = some .none)
    (h : ∀ h', Flies B outer e dx .none h' → s.heap.UpToSlots h' → Q () { s with heap := h' }) : wpAny M A (leaving env (.ref e)) Q E s := by
  unfold leaving
  refine wpAny_bind (noteFirst hfr hl hf he hc hk hn hd h1 fun h' F U => Flies.lands F fun h'' F' U' => ?_)
  obtain ⟨k1, k2, ⟨_, _, k3⟩, k4⟩ := F'
  exact h h'' ⟨k1, k2, k3, k4⟩ (U.trans U')
end
end Mine
end
section
open PySem PySem.W PyProof.Rows PySem.Calls
set_option maxHeartbeats 1000000
namespace Mine
abbrev obX (t : Addr) (od : Option Addr) : Obj := { cls := .ref 38, dict := od, data := .fields #[.ref t, .none, .none, .none, .bool false, .none] }
theorem makeExc {X : Cx} {vs : List (Option V)} {H : HL} {s : Shared} (O : X.Ok) (R : Rel X vs H s) (hd : 2 ≤ X.d) {u1 u2 : Value} {Q E : Value → Shared → Prop}
    (hq : ∀ s' e t dx mA, s'.os = s.os → s'.gens = s.gens → (∀ b o, s.heap.get? b = some o → s'.heap.get? b = some o) → s.heap.get? e = none → s.heap.get? dx = none → s'.heap.get? e = some (obX t (some dx)) → s'.heap.Ns dx mA → mA nSymbol = some u1 → Q (.ref e) s') : wpAny (Md X) X.A (PySem.call (.ref 38) [u1, u2]) Q E s := by
  obtain ⟨m, news, δ, F, N, ND, l, hr⟩ := R.ex
  have Ks := O.good.K.keeps F.keep
  obtain ⟨mg, mb, TR⟩ := O.good.top
  have D := D_LispSignal_init X.w
  obtain ⟨oc, od, osl, name, pm, ho⟩ := D.ob
  obtain ⟨hp, g, d, tk, os⟩ := s
  have NX := nsX_at Ks
  refine wpAny_call_exc_init (rest := [u1, u2]) PySem.F.excBase_Exception (clsX_at Ks) NX.ns NX.init (Ks _ _ ho) ?_ (fun h' e hm => ?_)
  · have hcl : ((K X.w.params).lookup 35).map (·.cls) = some (.type "function") := by kernel_rfl
    rw [ho] at hcl
    exact Option.some.inj hcl
  obtain ⟨t, he, htn, ht⟩ := hm.there
  have Ks' := Ks.keeps hm.keeps
  refine wpAny_call (codeAny_call_def (fd := fnOf name _ (fnParams (stIn 2 0)) (fnBody (stIn 2 0)) (fnScope (stIn 2 0)) .none .none .none pm none (.ref 34) .none) (body := fnBody (stIn 2 0)) (binds := [(nSelf, .ref e), (nSymbol, u1), (nData, u2)]) ?_ (Ks' _ _ ho) rfl ((TR.nolimit.keeps F.keep).keeps hm.keeps) (codeRec_of Ks' D.code) rfl (BindsTo.of_eq rfl) ?_
    (fun x hx => ?_) (fun h₁ hns hk₁ => ?_) D.co D.gen D.fn)
  · show (X.A.under _).depth < recursionLimit
    rw [depth_under_make]; have := O.depth; omega
  · intro x hx
    have : (fnScope (stIn 2 0)).names.all (fun x => x.2 != .cell) = true := by kernel_rfl
    exact bne_iff_ne.mp (List.all_eq_true.mp this x hx)
  · have : [(nSelf, Value.ref e), (nSymbol, u1), (nData, u2)].all (fun x => (fnScope (stIn 2 0)).names.lookup x.1 == some .local) = true := by kernel_rfl
    exact beq_iff_eq.mp (List.all_eq_true.mp this x hx)
  · have low : ∀ b o, hp.get? b = some o → b ≠ h'.objs.size := fun b o q => Nat.ne_of_lt (Heap.lt_size (hm.keeps _ _ q))
    have hx1 := hk₁ _ _ he
    have eL : e ≠ h'.objs.size := Nat.ne_of_lt (Heap.lt_size he)
    have K1 := Ks'.keeps hk₁
    have N1 := nsX_at K1
    have kind : ∀ n, (n = nSelf ∨ n = nSymbol ∨ n = nData) → (callEnv (fnOf name ⟨#[76, 105, 115, 112, 83, 105, 103, 110, 97, 108, 46, 95, 95, 105, 110, 105, 116, 95, 95]⟩ (fnParams (stIn 2 0)) (fnBody (stIn 2 0)) (fnScope (stIn 2 0)) .none .none .none pm none (.ref 34) .none) h'.objs.size 35).kindOf n = some .local ∧ (n == ("__debug__" : Str)) = false := by
      rintro n (rfl | rfl | rfl) <;> exact ⟨by kernel_rfl, by kernel_rfl⟩
    refine wpAny_execs_cons (plainObj_wpAny_Assign_Attribute (wpAny_Name (wpAny_loadName_local (v := u1) D.fn (kind nSymbol (.inr (.inl rfl))).1 hns (by kernel_rfl) (wpAny_Name (wpAny_loadName_local (v := .ref e) D.fn (kind nSelf (.inl rfl)).1 hns (by kernel_rfl) ?_) (kind nSelf (.inl rfl)).2)) (kind nSymbol (.inr (.inl rfl))).2))
    refine storeFirst PySem.F.store_Exception (clsX_at K1) N1.ns N1.sa N1.sym noSym hx1 rfl (fun c q => by cases q) rfl (fun h2 tk2 hx2 hd2 hk2 => ?_)
    have ne38 : e ≠ 38 := fun q => by rw [q] at hx1; rw [clsX_at K1] at hx1; cases hx1
    have hold : ∀ b o, hp.get? b = some o → h2.get? b = some o := fun b o q => hk2 b o (fun z => by have := hm.new; rw [← z] at this; exact absurd q (by rw [this]; nofun)) (hk₁ b o (hm.keeps b o q))
    have K2 : (K X.w.params).In h2 := Ks.keeps hold
    have N2 := nsX_at K2
    have dne : h₁.objs.size ≠ e := Nat.ne_of_gt (Heap.lt_size hx1)
    have hns2 : h2.Ns h'.objs.size (fun x => ([(nSelf, Value.ref e), (nSymbol, u1), (nData, u2)].reverse).lookup x) := by
      obtain ⟨o1, es, ep, g1, r1⟩ := hns
      exact ⟨o1, es, ep, hk2 _ _ eL.symm g1, r1⟩
    refine wpAny_execs_cons (plainObj_wpAny_Assign_Attribute (wpAny_Name (wpAny_loadName_local (v := u2) D.fn (kind nData (.inr (.inr rfl))).1 hns2 (by kernel_rfl) (wpAny_Name (wpAny_loadName_local (v := .ref e) D.fn (kind nSelf (.inl rfl)).1 hns2 (by kernel_rfl) ?_) (kind nSelf (.inl rfl)).2)) (kind nData (.inr (.inr rfl))).2))
    refine store_attr (ns := [nSymbol]) PySem.F.store_Exception (clsX_at K2) N2.ns N2.sa N2.dat noData ne38 ⟨_, hx2, rfl, (fun c q => by cases q), .inr ⟨_, rfl, dne, hd2⟩⟩ (fun h3 tk3 I3 hk3 hs3 => ?_) (PySem.Within.cons _ _ PySem.Within.nil) (by rw [sizeLine_eq]; show 1 ≤ _; omega)
    obtain ⟨o3, hx3, hc3, hdt3, hsl3, hdd3⟩ := hs3 _ hx2
    obtain ⟨o3', hx3', _, _, hdict⟩ := I3
    rw [hx3] at hx3'
    cases hx3'
    have hdx := hdd3 _ rfl
    rcases hdict with ⟨hn, _⟩ | ⟨d', hd', _, hns3⟩
    · rw [hdx] at hn; cases hn
    rw [hdx] at hd'
    cases hd'
    have e3 : o3 = obX t (some h₁.objs.size) := by
      obtain ⟨c3, dd3, dt3, sl3⟩ := o3
      cases hc3; cases hdt3; cases hsl3; cases hdx
      rfl
    refine wpAny_execs_nil ?_
    refine ⟨rfl, hq _ e t h₁.objs.size _ rfl rfl (fun b o q => hk3 b o (fun z => by have := hm.new; rw [← z] at this; exact absurd q (by rw [this]; nofun)) (fun o₀ dx0 q1 q2 => ?_) (hold b o q)) hm.new (by
      cases q : hp.get? h₁.objs.size with
      | none => rfl
      | some o => exact absurd (Heap.lt_size (hk₁ _ _ (hm.keeps _ _ q))) (Nat.lt_irrefl _)) (by rw [hx3, e3]) hns3.ns ?_⟩
    · rw [hx2] at q1
      cases q1
      cases q2
      exact Nat.ne_of_lt (Heap.lt_size (hk₁ _ _ (hm.keeps _ _ q)))
    · rfl
end Mine
end
section
open PySem PySem.W PyProof.Rows PySem.Calls
set_option maxHeartbeats 1000000
namespace Mine
/-- a def is entered; the frame below is kept in sight -/
theorem enter {X : Cx} {vs : List (Option V)} {H : HL} {s : Shared} (O : X.Ok) (R : Rel X vs H s) {k : Nat} (hk : k + 1 ≤ X.d) {f : Addr} {qual : Str} {params : Arguments} {body : List Stmt} {scope : Scope} {cdv : Value} {ps ns gs : List Str} {args : List V} {us : List Value} (C : World → Heap → Addr → Around → Nat → OsState → Cx)
    (hC : ∀ w h₀ L A d os, C w h₀ L A d os = { w := w, h₀ := h₀, L := L, A := A, d := d, os := os, env := envOf qual scope L f cdv, ns := ns, gs := gs }) (D : Def X.w f qual params body scope cdv)
    (hbind : ∀ s name pm us, us.length = args.length → BindsTo s (fnOf name qual params body scope .none .none .none pm none cdv .none) ⟨us, []⟩ (ps.zip us)) (ok : locOk scope ns gs = true) (hp : ps = ns.take ps.length) (hl : args.length = ps.length) (vr : VRs args us) {RR : Result → Shared → Prop}
    (h : ∀ (oL : Obj) (s' : Shared) (h₀' : Heap) (L' : Addr), (C X.w h₀' L' (X.A.deeper (envOf qual scope L' f cdv)) k s.os).Ok → Rel (C X.w h₀' L' (X.A.deeper (envOf qual scope L' f cdv)) k s.os) (startVs args ns.length) (H.set X.L (.raw oL)) s' → s.heap.get? X.L = some oL → H X.L = none → (∀ b o, X.h₀.get? b = some o → h₀'.get? b = some o) → h₀'.get? X.L = none → X.L ≠ L' →
      wpAny (Md X) (X.A.deeper (envOf qual scope L' f cdv)) (execs body (envOf qual scope L' f cdv)) (fun fl s'' => RR (.ok (.ret (match fl with | .ret v => v | _ => .none))) s'')
        (fun e s'' => wpAny (Md X) (X.A.deeper (envOf qual scope L' f cdv)) (leaving (envOf qual scope L' f cdv) e) (fun _ s3 => RR (.error e) s3) (fun e' s3 => RR (.error e') s3) s'') s') :
    codeAny (Md X) X.A (.call (.ref f) ⟨us, []⟩) RR s := by
  simp only [locOk, Bool.and_eq_true, List.all_eq_true, beq_iff_eq, Bool.not_eq_true', decide_eq_true_eq, bne_iff_ne] at ok
  obtain ⟨⟨⟨hloc, hglob⟩, hn⟩, hcell⟩ := ok
  obtain ⟨m, news, δ, F, N, ND, l, hr⟩ := R.ex
  obtain ⟨oc, od, osl, name, pm, ho⟩ := D.ob
  have Ks := O.good.K.keeps F.keep
  obtain ⟨mg, mb, TR⟩ := O.good.top
  refine codeAny_call_def (fd := fnOf name qual params body scope .none .none .none pm none cdv .none) (body := body) (binds := ps.zip us) (Nat.lt_of_le_of_lt (Nat.le_add_right _ _) O.depth) (Ks _ _ ho) rfl (TR.nolimit.keeps F.keep) (codeRec_of Ks D.code) rfl (hbind _ _ _ _ (vr.length.symm)) hcell
    (fun x hx => ?_) (fun h₁ hns hk₁ => ?_) D.co D.gen D.fn
  · have : x.1 ∈ ps := (List.of_mem_zip hx).1
    rw [hp] at this
    exact (hloc _ (List.mem_of_mem_take this)).1
  have nm : ∀ b o, X.h₀.get? b = some o → b ∉ news.map (·.1) := fun b o e q => by
    obtain ⟨p, hp, rfl⟩ := List.mem_map.mp q
    rw [(N p hp).2.2] at e; cases e
  obtain ⟨oL, es, ep, hL, hLd, hLk, hLf⟩ := F.ns
  have nL : X.L ∉ news.map (·.1) := fun q => by
    obtain ⟨p, hp, e⟩ := List.mem_map.mp q
    exact (N p hp).2.1 e
  have hL0 : X.h₀.get? X.L = none := by
    cases q : X.h₀.get? X.L with
    | none => rfl
    | some o => exact absurd (Heap.lt_size q) (Nat.not_lt.mpr F.above)
  have st : ∀ b o, X.h₀.get? b = some o → (hideAll s.heap (X.L :: news.map (·.1))).get? b = some o := fun b o e => hideAll_get _ (F.keep b o e) (fun q => by
    rcases List.mem_cons.mp q with z | z
    · rw [z, hL0] at e; cases e
    · exact nm b o e z)
  have hHL : H X.L = none := by
    cases q : H X.L with
    | none => rfl
    | some y => obtain ⟨o', mm⟩ := (hr.at_ X.L y q).at_; exact absurd (List.mem_map_of_mem (f := (·.1)) mm) nL
  have hh : (hideAll s.heap (X.L :: news.map (·.1))).get? X.L = none := hideAll_none _ (.head _)
  have neL : X.L ≠ s.heap.objs.size := Nat.ne_of_lt (Heap.lt_size hL)
  refine h oL _ (hideAll s.heap (X.L :: news.map (·.1))) s.heap.objs.size ?_ ?_ hL hHL st hh neL
  · rw [hC]
    exact ⟨O.good.keeps st, O.handled, by
      show (X.A.deeper _).depth + k < recursionLimit
      rw [depth_deeper]; have := O.depth; omega, by
      show (X.A.deeper _).units + 8 * k + 80 < cLine
      rw [units_deeper]; have := O.units; omega, D.fn, rfl, rfl, rfl, hloc, hglob, hn⟩
  · rw [hC]
    refine ⟨⟨_, (X.L, oL) :: news, δ, ⟨hns, fun b o e => hk₁ b o (of_hideAll _ e), Nat.le_of_eq (hideAll_size _ _)⟩, fun p hp => ?_, ?_, startLR hn hp hl vr, ?_⟩, R.gens, rfl⟩
    · rcases List.mem_cons.mp hp with rfl | hp
      · exact ⟨hk₁ _ _ hL, neL, hh⟩
      · exact ⟨hk₁ _ _ (N p hp).1, Nat.ne_of_lt (Heap.lt_size (N p hp).1), hideAll_none _ (.tail _ (List.mem_map_of_mem hp))⟩
    · rw [List.map_cons, List.nodup_cons]
      exact ⟨nL, ND⟩
    · exact hr.alloc (fun p hp => fun e => nL (e ▸ List.mem_map_of_mem hp)) (.head _) fun _ _ h => by cases h
end Mine
end
section
open PySem PySem.W PyProof.Rows PySem.Calls
set_option maxHeartbeats 1000000
namespace Mine
/-- what stood below stands again -/
theorem relBack {X : Cx} {vs : List (Option V)} {H : HL} {s s5 s' : Shared} (r : Rel X vs H s) {oL : Obj} (hL : s.heap.get? X.L = some oL) (hHL : H X.L = none) {X2 : Cx} {vs2 : List (Option V)} {H5 : HL} (hw : X2.w = X.w) (R5 : Rel X2 vs2 H5 s5) {L1 : Addr} {oL1 : Obj} (hX : H5 X.L = some (.raw oL)) (h1 : H5 L1 = some (.raw oL1)) (le : ∀ a o, H a = some o → H5 a = some o) (hH1 : H L1 = none) (st : ∀ b o, X.h₀.get? b = some o → X2.h₀.get? b = some o)
    (hB : (hideAll s5.heap [X.L, L1, X2.L]).StaysIn s'.heap) (hx : ∃ sl, s'.heap.get? X.L = some { oL with slots := sl }) (hg : s'.gens = s5.gens) (ho : s'.os = s.os) : Rel X vs H s' := by
  obtain ⟨m, news, δ, F, N, ND, l, hr⟩ := r.ex
  obtain ⟨m5, news5, δ5, F5, N5, ND5, l5, r5⟩ := R5.ex
  rw [hw] at r5
  have iX : (X.L, oL) ∈ news5 := r5.at_ _ _ hX
  have i1 : (L1, oL1) ∈ news5 := r5.at_ _ _ h1
  have hL2 : X2.h₀.get? X2.L = none := by
    cases q : X2.h₀.get? X2.L with
    | none => rfl
    | some o => exact absurd (Heap.lt_size q) (Nat.not_lt.mpr F5.above)
  have off : ∀ p ∈ news5, p.1 ≠ X.L → p.1 ≠ L1 → s'.heap.get? p.1 = some p.2 := fun p hp n1 n2 => hB _ _ (hideAll_get _ (N5 p hp).1 fun q => by
    rcases List.mem_cons.mp q with z | q
    · exact n1 z
    · rcases List.mem_cons.mp q with z | q
      · exact n2 z
      · exact (N5 p hp).2.1 (List.mem_singleton.mp q))
  have keep : ∀ b o, X.h₀.get? b = some o → s'.heap.get? b = some o := fun b o q => hB _ _ (hideAll_get _ (F5.keep _ _ (st b o q)) fun z => by
    have q2 := st b o q
    rcases List.mem_cons.mp z with z | z
    · rw [z, (N5 _ iX).2.2] at q2; cases q2
    · rcases List.mem_cons.mp z with z | z
      · rw [z, (N5 _ i1).2.2] at q2; cases q2
      · rw [List.mem_singleton.mp z, hL2] at q2; cases q2)
  obtain ⟨o0, es, ep, g0, gd, gr⟩ := F.ns
  rw [hL] at g0
  cases g0
  obtain ⟨sl, hsl⟩ := hx
  have inN : ∀ (a : Addr) (ob : Obj), (a, ob) ∈ news5 → a ≠ X.L → a ≠ L1 → (a, ob) ∈ news5.filter fun p => decide (p.1 ≠ X.L) && decide (p.1 ≠ L1) := fun a ob hm n1 n2 => List.mem_filter.mpr ⟨hm, by
    rw [Bool.and_eq_true]; exact ⟨decide_eq_true n1, decide_eq_true n2⟩⟩
  refine ⟨⟨m, news5.filter fun p => decide (p.1 ≠ X.L) && decide (p.1 ≠ L1), δ5, ⟨⟨_, es, ep, hsl, gd, gr⟩, keep, F.above⟩, fun p hp => ?_, ND5.sublist (List.filter_sublist.map _), l, ⟨fun a o ha => ?_, fun a b C D fs gs ha hb e => r5.inj a b C D fs gs (le _ _ ha) (le _ _ hb) e, fun a C fs ha => ?_⟩⟩, hg.trans R5.gens, ho.trans r.os⟩
  · obtain ⟨hm, hc⟩ := List.mem_filter.mp hp
    rw [Bool.and_eq_true] at hc
    have n1 := of_decide_eq_true hc.1
    have n2 := of_decide_eq_true hc.2
    refine ⟨off p hm n1 n2, n1, ?_⟩
    cases q : X.h₀.get? p.1 with
    | none => rfl
    | some o => have := (N5 p hm).2.2; rw [st _ _ q] at this; cases this
  · have n1 : a ≠ X.L := fun e => by rw [e, hHL] at ha; cases ha
    have n2 : a ≠ L1 := fun e => by rw [e, hH1] at ha; cases ha
    have z := r5.at_ a o (le _ _ ha)
    cases o with
    | list vs => obtain ⟨its, n, m, r⟩ := z; exact ⟨its, n, inN _ _ m n1 n2, r⟩
    | flist vs => obtain ⟨its, n, m, r⟩ := z; exact ⟨its, n, inN _ _ m n1 n2, r⟩
    | tup vs => obtain ⟨its, n, m, r⟩ := z; exact ⟨its, n, inN _ _ m n1 n2, r⟩
    | dict kv => obtain ⟨x, kvs, m, r⟩ := z; exact ⟨x, kvs, inN _ _ m n1 n2, r⟩
    | inst C fs =>
      obtain ⟨es, n, sl, m1, m2, fr⟩ := z
      have f := r5.off a C fs (le _ _ ha)
      exact ⟨es, n, sl, inN _ _ m1 n1 n2, inN _ _ m2 (fun e => by rw [e, hX] at f; cases f) (fun e => by rw [e, h1] at f; cases f), fr⟩
    | raw ob => exact inN _ _ z n1 n2
    | cell v => cases v with
      | none => obtain ⟨x, m, r⟩ := z; exact ⟨x, inN _ _ m n1 n2, r⟩
      | some v => obtain ⟨u, x, m, r⟩ := z; exact ⟨u, x, inN _ _ m n1 n2, r⟩
  · have f := r5.off a C fs (le _ _ ha)
    cases q : H (δ5 a) with
    | none => rfl
    | some o => rw [le _ _ q] at f; cases f
end Mine
end
section
open PySem PySem.W PyProof.Rows PySem.Calls
set_option maxHeartbeats 2000000
namespace Mine
abbrev nBU : Str := ⟨#[105, 115, 95, 98, 97, 99, 107, 101, 100, 95, 117, 112]⟩
theorem keep38 (w : World) : keepIn (K w.params) (.ref 38) = true := by kernel_rfl
/-- a call of a name of the top, its arguments read -/
theorem callRaw {X : Cx} {vs : List (Option V)} {H : HL} {s : Shared} (O : X.Ok) (R : Rel X vs H s) {n : Str} {npos pos : Pos} {args : List Expr} {f : Addr} {Q E : Value → Shared → Prop} (i : Nat) (hi : X.gs[i]? = some n) (hn : nsIn (K X.w.params) mainGlobals n = some (some (.ref f))) (hk : keepIn (K X.w.params) (.ref f) = true)
    (h : WA X vs H pos args fun l H1 => ∀ us s1, VRs l us → Rel X vs H1 s1 → wpAny (Md X) X.A (PySem.call (.ref f) us) Q E s1) (hp : plainArgs pos args := by (intro _; refine ⟨by rfl, fun _ _ h => ?_⟩; first | (cases h; done) | (cases h; exact ⟨rfl, rfl⟩))) : wpAny (Md X) X.A (eval ((Expr.Name n npos).Call args [] pos) X.env) Q E s := by
  refine Call_ ?_
  refine W.glob (v := .ref f) (P := fun v H1 => v = .ref f ∧ H1 = H) i hi hn rfl ⟨rfl, rfl⟩ O s _ E R fun v u H1 s1 h1 vu R1 => ?_
  obtain ⟨rfl, rfl⟩ := h1
  obtain rfl : u = .ref f := vu
  exact callArgs O R1 hk hp h
theorem savedRaises : SavedRaises := by
  intro t c g T H bu A OK hF X vs O hfr hfL hd s us RR r vr q
  refine enter O r (k := 9) (by omega) X_law_saved (fun _ _ _ _ _ _ => rfl) (D_law_saved X.w) (ps := [nTree, nCodes, nManner, nBU]) (fun s name pm us hu => ?_) (by decide +kernel) rfl rfl vr (fun oL s1 h₀1 L1 O1 R1 hL hHL st1 hL1 ne1 => ?_)
  · obtain ⟨u, u2, u3, u4, rfl⟩ := len4 hu; exact BindsTo.of_eq rfl
  refine wpAny_execs_cons (wpAny_Try_except (wpAny_execs_cons (wpAny_Return_some ?_)))
  refine callRaw O1 R1 0 rfl (G_write_file X.w).ns (G_write_file X.w).keep (WA.cons (W.var 0 rfl rfl (WA.cons (W.cStr (WA.cons (W.var 1 rfl rfl (WA.cons (W.var 2 rfl rfl (WA.cons (W.var 3 rfl rfl (WA.nil ?_)))))))))))
  intro us2 s2 vr2 R2
  refine wpAny_call (enter O1 R2 (k := 8) (Nat.le_refl _) X_write_file (fun _ _ _ _ _ _ => rfl) (D_write_file X.w) (ps := [nTree, nName, nCodes, nManner, nBU]) (fun s name pm us hu => ?_) (by decide +kernel) rfl rfl vr2 (fun oL1 s3 h₀2 L2 O2 R3 hL1' hHL1 st2 hL2 ne2 => ?_))
  · obtain ⟨u, u2, u3, u4, u5, rfl⟩ := len5 hu; exact BindsTo.of_eq rfl
  obtain ⟨ms, hF⟩ := hF
  obtain ⟨E0, k1, k2, _, k4⟩ := vFile hF
  have hHL1 : (H.set X.L (.raw oL)) L1 = none := hHL1
  have hL1' : s2.heap.get? L1 = some oL1 := hL1'
  have hL2 : h₀2.get? L1 = none := hL2
  have ne2 : L1 ≠ L2 := ne2
  have st2 : ∀ b o, h₀1.get? b = some o → h₀2.get? b = some o := st2
  have hH1 : H L1 = none := by rwa [HL.set_ne (Ne.symm ne1)] at hHL1
  have A1 : TreeAt ((H.set X.L (.raw oL)).set L1 (.raw oL1)) t T := (A.down hHL).down hHL1
  have hXL : ((H.set X.L (.raw oL)).set L1 (.raw oL1)) X.L = some (.raw oL) := by rw [HL.set_ne ne1]; exact HL.set_self
  have hX1 : ((H.set X.L (.raw oL)).set L1 (.raw oL1)) L1 = some (.raw oL1) := HL.set_self
  have le2 : ∀ a o, H a = some o → ((H.set X.L (.raw oL)).set L1 (.raw oL1)) a = some o := fun a o e => HL.le_set hHL1 _ _ (HL.le_set hHL _ _ e)
  refine wpAny_execs_cons (wpAny_If ((?test : WT (X_write_file X.w h₀2 L2 ((X.A.deeper (envOf _ (fnScope (stAt 36)) L1 414 (.ref 413))).deeper (envOf _ (fnScope (stAt 22)) L2 144 (.ref 143))) 8 s2.os) _ ((H.set X.L (.raw oL)).set L1 (.raw oL1)) _ fun c H' => c = true ∧ H' = ((H.set X.L (.raw oL)).set L1 (.raw oL1))) O2 s3 _ _ R3 fun c Hx s4 hc R4 => ?_))
  case test =>
    refine WT.and (WT.val (W.mcall (W.var 0 rfl rfl ?_)))
    refine ⟨t, 375, _, 248, 4, rfl, A1.t, M_FileTree_is_plain X.w, rfl, Nat.le_of_ble_eq_true rfl, WA.cons (W.var 1 rfl rfl (WA.nil (Fn.read (fn_is_plain t T pF _ A1 (kids_nm _ pF_kid).1.sc) (Nat.le_refl _) ⟨_, rfl, ?_⟩)))⟩
    rw [isFile_vw]
    refine iteT (by rw [isFileV_eq, hF]) (WT.and (WT.not (WT.val (W.mcall (W.var 0 rfl rfl ?_)))))
    refine ⟨t, 375, _, 283, 4, rfl, A1.t, M_FileTree_may_write X.w, rfl, Nat.le_of_ble_eq_true rfl, WA.cons (W.var 1 rfl rfl (WA.nil (Fn.read (fn_may_write t T pF _ A1 (kids_nm _ pF_kid).1.sc E0 k1) (Nat.le_refl _) ⟨_, rfl, ?_⟩)))⟩
    rw [k4]
    exact iteT rfl (WT.andNil ⟨rfl, rfl⟩)
  obtain ⟨rfl, ex⟩ := hc
  rw [ex] at R4
  clear ex Hx R3 s3
  rw [if_pos rfl]
  refine wpAny_execs_cons ?_
  rw [arm_exec_Raise]
  refine wpAny_bind (wpAny_standAt (raiseOwn (C := 38) (nm := sLS) (q := sLS) (N := 37) (bs := [.type "Exception"]) (bm := bmX) (hdct := true) (sn := []) (sub := []) (ab := false) (col := none) (dd := none) (k0 := some (.ref 22)) (k1 := none) (k2 := some (.str sLS 196)) (k3 := some (.str sLS 204)) (k5 := some (.bool true)) (newId := "Exception.__new__") rfl O2.handled (wpAny_bind (wpAny_mono (callRaw O2 R4 0 rfl (C_LispSignal X.w) (keep38 X.w) (WA.cons (W.cStr (WA.cons (W.list (WA.cons (W.cStr (WA.cons (W.var 1 rfl rfl (WA.nil ⟨Nat.le_of_ble_eq_true rfl, fun a ha => WA.nil fun us5 s5 vr5 R5 => ?_⟩)))))))))) (fun v s6 h6 => wpAny_bind (wpAny_standAt (wpAny_pure h6))) fun _ _ x => x))))
  obtain ⟨u1, u2, rfl, ⟨tk1, rfl⟩, _⟩ := vrs2 vr5
  have hXL5 := HL.le_set (o := .list [.str ⟨#[80, 101, 114, 109, 105, 115, 115, 105, 111, 110, 32, 100, 101, 110, 105, 101, 100]⟩, .str pF]) ha _ _ hXL
  have hX15 := HL.le_set (o := .list [.str ⟨#[80, 101, 114, 109, 105, 115, 115, 105, 111, 110, 32, 100, 101, 110, 105, 101, 100]⟩, .str pF]) ha _ _ hX1
  have le5 : ∀ a' o, H a' = some o → (((H.set X.L (.raw oL)).set L1 (.raw oL1)).set a (.list [.str ⟨#[80, 101, 114, 109, 105, 115, 115, 105, 111, 110, 32, 100, 101, 110, 105, 101, 100]⟩, .str pF])) a' = some o := fun a' o e => HL.le_set ha _ _ (le2 _ _ e)
  have R5' : Rel _ _ (((H.set X.L (.raw oL)).set L1 (.raw oL1)).set a (.list [.str ⟨#[80, 101, 114, 109, 105, 115, 115, 105, 111, 110, 32, 100, 101, 110, 105, 101, 100]⟩, .str pF])) s5 := R5
  generalize ((H.set X.L (.raw oL)).set L1 (.raw oL1)).set a (.list [.str ⟨#[80, 101, 114, 109, 105, 115, 115, 105, 111, 110, 32, 100, 101, 110, 105, 101, 100]⟩, .str pF]) = H5 at hXL5 hX15 le5 R5'
  refine makeExc O2 R5 (by show 2 ≤ 8; decide) (fun s6 e te dx mA os6 g6 kp6 fr6 frd he hns hsym => ?_)
  obtain ⟨m5, news5, δ5, F5, N5, ND5, l5, r5⟩ := R5'.ex
  have iX : (X.L, oL) ∈ news5 := r5.at_ _ _ hXL5
  have i1 : (L1, oL1) ∈ news5 := r5.at_ _ _ hX15
  have K2 := O2.good.K
  have K6 : (K X.w.params).In s6.heap := fun a' o' e' => kp6 _ _ (F5.keep _ _ (K2 a' o' e'))
  refine ⟨e, some dx, te, _, rfl, clsX_at K6, he, ?_⟩
  obtain ⟨m0, news0, δ0, F0, N0, ND0, l0, r0⟩ := r.ex
  obtain ⟨m2, news2, δ2, F2, N2, ND2, l2, r2⟩ := R2.ex
  have nfX : ∀ ws, oL.data ≠ .fields ws := fun ws z => by
    obtain ⟨o', es, ep, g1, g2, _⟩ := F0.ns
    rw [hL] at g1; cases g1; rw [z] at g2; cases g2
  have nf1 : ∀ ws, oL1.data ≠ .fields ws := fun ws z => by
    obtain ⟨o', es, ep, g1, g2, _⟩ := F2.ns
    have g1 : s2.heap.get? L1 = some o' := g1
    rw [hL1'] at g1; cases g1; rw [z] at g2; cases g2
  obtain ⟨oL2, es2, ep2, hL25, hd25, hr25⟩ := id F5.ns
  have hL25 : s5.heap.get? L2 = some oL2 := hL25
  have nf2 : ∀ ws, oL2.data ≠ .fields ws := fun ws z => by rw [z] at hd25; cases hd25
  have hBX : (hideAll s5.heap [X.L, L1, L2]).get? X.L = none := hideAll_none _ (.head _)
  have hB1 : (hideAll s5.heap [X.L, L1, L2]).get? L1 = none := hideAll_none _ (.tail _ (.head _))
  have hB2 : (hideAll s5.heap [X.L, L1, L2]).get? L2 = none := hideAll_none _ (.tail _ (.tail _ (.head _)))
  have hBe : (hideAll s5.heap [X.L, L1, L2]).get? e = none := by
    cases z : (hideAll s5.heap [X.L, L1, L2]).get? e with
    | none => rfl
    | some o => have := of_hideAll _ z; rw [fr6] at this; cases this
  have hBs : (hideAll s5.heap [X.L, L1, L2]).StaysIn s6.heap := fun b o z => kp6 _ _ (of_hideAll _ z)
  have kX : X.env.scope.kind ≠ .module := by rw [O.fn]; decide
  have k1' : (fnScope (stAt 36)).kind ≠ .module := by rw [(D_law_saved X.w).fn]; decide
  have k2' : (fnScope (stAt 22)).kind ≠ .module := by rw [(D_write_file X.w).fn]; decide
  have iX5 := (N5 _ iX).1
  have i15 := (N5 _ i1).1
  refine leaveFirst (B := hideAll s5.heap [X.L, L1, L2]) (outer := [envOf _ (fnScope (stAt 36)) L1 414 (.ref 413), X.env]) (L := L2) (Around.frames_deeper (Around.frames_deeper hfr)) ⟨k2', ⟨L2, oL2, rfl, hB2, kp6 _ _ hL25, nf2⟩, k1', ⟨L1, oL1, rfl, hB1, kp6 _ _ i15, nf1⟩, kX, ⟨X.L, oL, hfL, hBX, kp6 _ _ iX5, nfX⟩, trivial⟩ rfl he ⟨rfl, rfl⟩ hBs hBe rfl rfl fun h7 Fl7 U7 => ?_
  refine Flies.note (Around.frames_deeper hfr) rfl Fl7 fun h8 Fl8 U8 => Flies.lands Fl8 fun h9 Fl9 U9 => ?_
  have U69 : s6.heap.UpToSlots h9 := (U7.trans U8).trans U9
  have h20 : h₀2.get? L2 = none := by
    cases z : h₀2.get? L2 with
    | none => rfl
    | some o => exact absurd (Heap.lt_size z) (Nat.not_lt.mpr F5.above)
  have keepB : ∀ b o, h₀1.get? b = some o → (hideAll s5.heap [X.L, L1, L2]).get? b = some o := fun b o z => hideAll_get _ (F5.keep _ _ (st2 _ _ z)) fun y => by
    have z2 := st2 _ _ z
    rcases List.mem_cons.mp y with y | y
    · rw [y, hL1] at z; cases z
    · rcases List.mem_cons.mp y with y | y
      · rw [y, hL2] at z2; cases z2
      · rw [List.mem_singleton.mp y, h20] at z2; cases z2
  have ns6 : s6.heap.Ns L1 m2 := by
    obtain ⟨o', es, ep, g1, g2, g3⟩ := F2.ns
    have g1 : s2.heap.get? L1 = some o' := g1
    rw [hL1'] at g1
    cases g1
    exact ⟨oL1, es, ep, kp6 _ _ i15, g2, g3⟩
  have F9 : Fr h₀1 L1 h9 m2 := ⟨U69.ns ns6, fun b o z => Fl9.stays _ _ (keepB b o z), F2.above⟩
  obtain ⟨mg1, mb1, TR1⟩ := O1.good.top
  refine wpAny_handleBy_cons (codeAny_handlers_test (nameG_K F9 O1.good.K TR1 (C_LispSignal X.w) ?_ rfl O1.fn (O1.glob sLS (.tail _ (.head _))).1 (O1.glob sLS (.tail _ (.head _))).2)) (by intro q; cases q)
  obtain ⟨oe9, ws9, T9, oT9, ts9, he9, ⟨hc9, hd9⟩, _⟩ := Fl9.at_
  have K9 : (K X.w.params).In h9 := O1.good.K.keeps F9.keep
  refine wpAny_excMatches_sub_self (clsX_at K9) he9 hc9 rfl ?_
  refine codeAny_handlers_suite_as (Flies.lands Fl9 fun h10 Fl10 U10 => ?_)
  have ns10 : h10.Ns L1 m2 := U10.ns F9.ns
  have kErr := O1.loc ⟨#[101, 114, 114, 111, 114]⟩ (.tail _ (.tail _ (.tail _ (.tail _ (.head _)))))
  have notC : ((fnScope (stAt 36)).kind == .class || ((fnScope (stAt 36)).kind == .module && L1 != mainGlobals)) = false := by rw [(D_law_saved X.w).fn]; rfl
  refine wpAny_storeName_local kErr.1 ns10 (fun h11 hns11 hs11 => ?_) notC
  have h10L : h₀1.get? L1 = none := by
    cases z : h₀1.get? L1 with
    | none => rfl
    | some o => exact absurd (Heap.lt_size z) (Nat.not_lt.mpr F2.above)
  have at11 : ∀ b, b ≠ L1 → h11.get? b = h10.get? b := fun b z => hs11.2 b z
  have K11 : (K X.w.params).In h11 := O1.good.K.keeps fun b o z => (at11 b fun y => by
      have z : h₀1.get? b = some o := z
      rw [y, h10L] at z; cases z).trans (Fl10.stays _ _ (keepB b o z))
  have N11 := nsX_at K11
  have neE : e ≠ L1 := fun y => by rw [y, i15] at fr6; cases fr6
  have neD : dx ≠ L1 := fun y => by rw [y, i15] at frd; cases frd
  obtain ⟨oe, ws, T', oT, ts, he10, ⟨hc10, hd10⟩, hdt10, _⟩ := Fl10.at_
  have U610 := U69.trans U10
  have hs : h11.Ns dx mA := by
    obtain ⟨o', es, ep, g1, g⟩ := U610.ns hns
    exact ⟨o', es, ep, (at11 dx neD).trans g1, g⟩
  have I : OwnAttr h11 37 e 38 dx oe (h11.nsMap 37) mA nSymbol (.str sFE tk1) := ⟨N11.ns, N11.ga, N11.gt, N11.sym, (at11 e neE).trans he10, hc10, (fun c z => by rw [hdt10] at z; cases z), hd10, hs, hsym⟩
  refine wpAny_execs_cons (wpAny_Return_some (Attribute_any_ (wpAny_Name (wpAny_loadName_local (v := .ref e) (D_law_saved X.w).fn kErr.1 hns11 (if_pos rfl) ?_) kErr.2) (by rfl)))
  refine excAttr PySem.F.attrBase_Exception noSym (clsX_at K11) I rfl ?_
  refine wpAny_nameGoes kErr.1 hns11 notC fun h12 m12 hns12 hs12 => ?_
  have at12 : ∀ b, b ≠ L1 → h12.get? b = h10.get? b := fun b z => (hs12.2 b z).trans (at11 b z)
  obtain ⟨sl, hsl⟩ := U610 X.L oL (kp6 _ _ iX5) nfX
  refine q (.str sFE) _ H _ ⟨rfl, rfl⟩ ⟨tk1, rfl⟩ (relBack r hL hHL (by rfl) R5' hXL5 hX15 le5 hH1 (fun b o z => st2 _ _ (st1 _ _ z)) (fun b o z => (at12 b fun y => by
    have z : (hideAll s5.heap [X.L, L1, L2]).get? b = some o := z
    rw [y, hB1] at z; cases z).trans (Fl10.stays _ _ z)) ⟨sl, (at12 X.L ne1).trans hsl⟩ g6 ?_)
  exact os6.trans (R5'.os.trans R2.os)
end Mine
end
section
open PySem PySem.W PyProof.Rows PySem.Calls
set_option maxHeartbeats 4000000
namespace Mine
/-- the law, called by the claim -/
theorem law_ends {w : World} {s : Shared} {mg mb : Str → Option Value} (KX : (K w.params).In s.heap) (TR : TopRead (view pw keep) [] mg mb s.heap) (hg : s.gens = #[]) {a : Addr} {us : List Value} {ns : List Int} (hL : s.heap.IsList a us.toArray) (hI : IntsAre us ns) (hl : ns.length ≤ 63) {RR : Result → Shared → Prop}
    (q : ∀ s' L m, Fr s.heap L s'.heap m → s'.gens = #[] → s'.os = s.os → RR (.ok (.ret (.bool true))) s') : codeAny (model pw w) callerA (.call (.ref 426) ⟨[.ref a], []⟩) RR s := by
  have D := D_law w
  obtain ⟨oc, od, osl, name, pm, ho⟩ := D.ob
  refine codeAny_call_function (fd := fnOf name _ (fnParams (stAt 38)) (fnBody (stAt 38)) (fnScope (stAt 38)) .none .none .none pm none (.ref 425) .none) (body := fnBody (stAt 38)) (by decide +kernel) (KX _ _ ho) rfl D.co D.gen rfl (codeRec_of KX D.code) ((BindsTo.of_eq (binds := [(⟨#[115, 99, 114, 105, 112, 116]⟩, .ref a)]) rfl) _ _ _ _ ?_)
  refine wpAny_newFunctionEnv_cells D.fn (fun x hx => ?_) fun env' he s' x => ?_
  · have : x = _ := List.mem_singleton.mp hx
    subst this
    exact .inl (by kernel_rfl)
  subst he
  refine ⟨TR.nolimit.keeps x.toInCall.keep, codeAny_func ?_⟩
  obtain ⟨h₁, tk, rfl, _⟩ := x.done
  have hk₁ : ∀ b o, s.heap.get? b = some o → h₁.get? b = some o := x.toInCall.keep
  have hns : h₁.Ns s.heap.objs.size (bindL (fun n => (fnScope (stAt 38)).names.lookup n) [(⟨#[115, 99, 114, 105, 112, 116]⟩, .ref a)] fun _ => none) := x.toInCall.ns
  have hcell : h₁.IsCell (s.heap.objs.size + 1) (bindC (fun n => (fnScope (stAt 38)).names.lookup n) [(⟨#[115, 99, 114, 105, 112, 116]⟩, .ref a)] (fun _ => none) nStands) := x.cell nStands _ (by
    show (cellsFrom (s.heap.objs.size + 1) (fnScope (stAt 38)).names []).lookup nStands = _
    rw [show ∀ n, cellsFrom n (fnScope (stAt 38)).names [] = [(nStands, n)] from fun n => by kernel_rfl, List.lookup_cons, beq_self_eq_true])
  obtain ⟨ob, hob, hobd⟩ := hcell
  have hn0 : s.heap.get? (s.heap.objs.size + 1) = none := by
    cases q : s.heap.get? (s.heap.objs.size + 1) with
    | none => rfl
    | some o => exact absurd (Heap.lt_size q) (Nat.not_lt.mpr (Nat.le_succ _))
  let X' : Cx := LX w s.heap s.heap.objs.size (callerA.deeper (callEnvC (fnOf name ⟨#[108, 97, 119]⟩ (fnParams (stAt 38)) (fnBody (stAt 38)) (fnScope (stAt 38)) .none .none .none pm none (.ref 425) .none) s.heap.objs.size 426)) s.os
  have ok := LX_ok w s.heap s.heap.objs.size (callerA.deeper (callEnvC (fnOf name ⟨#[108, 97, 119]⟩ (fnParams (stAt 38)) (fnBody (stAt 38)) (fnScope (stAt 38)) .none .none .none pm none (.ref 425) .none) s.heap.objs.size 426)) s.os
  simp only [Bool.and_eq_true, List.all_eq_true, beq_iff_eq, Bool.not_eq_true', decide_eq_true_eq] at ok
  obtain ⟨⟨hloc, hglob⟩, hn⟩ := ok
  have O' : X'.Ok := ⟨⟨KX, mg, mb, TR⟩, rfl, by
      show (callerA.deeper _).depth + 10 < recursionLimit
      rw [depth_deeper]; decide +kernel, by
      show (callerA.deeper _).units + 8 * 10 + 80 < cLine
      rw [units_deeper]; decide +kernel, D.fn, rfl, rfl, rfl, hloc, hglob, hn⟩
  have R' : Rel X' [some (.ref a), none, none, none, none, none, none, none, none, none, none, none, none, none, none] (HL.set (fun _ => none) (s.heap.objs.size + 1) (.cell none)) { s with heap := h₁, toks := tk } := by
    refine ⟨⟨_, [(s.heap.objs.size + 1, ob)], id, ⟨hns, hk₁, Nat.le_refl _⟩, fun p hp => ?_, List.nodup_cons.mpr ⟨List.not_mem_nil, List.nodup_nil⟩, fun i n v hi hv => ?_, ⟨fun b o hb => ?_, fun b c C D fs gs hb => ?_, fun b C fs hb => ?_⟩⟩, hg, rfl⟩
    · obtain rfl := List.mem_singleton.mp hp
      exact ⟨hob, Nat.succ_ne_self _, hn0⟩
    · rcases i with _ | i
      · cases hi; cases hv; exact ⟨_, by kernel_rfl, rfl⟩
      · exfalso
        rw [List.getElem?_cons_succ] at hv
        have := List.mem_of_getElem? hv
        simp at this
    all_goals
      by_cases e : b = s.heap.objs.size + 1
      · subst e
        rw [HL.set_self] at hb
        cases hb
        try exact ⟨ob, .head _, by rw [hobd]; kernel_rfl⟩
      · rw [HL.set_ne e] at hb; cases hb
  have hB := law_body (w := w) (h₀ := s.heap) (L := s.heap.objs.size) (os := s.os) savedRaises (A := callerA.deeper (callEnvC (fnOf name ⟨#[108, 97, 119]⟩ (fnParams (stAt 38)) (fnBody (stAt 38)) (fnScope (stAt 38)) .none .none .none pm none (.ref 425) .none) s.heap.objs.size 426)) (Around.frames_deeper rfl) a us ns (by omega) (HL.set (fun _ => none) (s.heap.objs.size + 1) (.cell none)) hL hI HL.set_self
  refine hB O' _ _ _ R' fun fl g vs' H' s' hP hf R'' => ?_
  obtain ⟨m', news', δ', F', N', ND', l', hr'⟩ := R''.ex
  cases fl with
  | next => cases hP
  | ret v =>
    obtain rfl : v = .bool true := hP
    obtain ⟨u, rfl, vu⟩ := hf
    obtain rfl : u = .bool true := vu
    exact q s' _ m' F' R''.gens R''.os
  | brk => exact hP.elim
  | cont => exact hP.elim
end Mine
end
section
open PySem PySem.W PyProof.Rows
set_option maxHeartbeats 4000000
theorem Mine.loose0 : looseW (view Mine.pw Mine.keep) [] = [] := by kernel_rfl
theorem PySem.Challenge.cw_pq0286_01_holds : PySem.Challenge.rw_pq0286_01.Holds := by
  w_on; refine holds_law (by kernel_rfl) fun said => ?_
  refine holds_open (q := view Mine.pw Mine.keep) (loose := []) (Xt := fun _ => true) (XP := fun _ _ => True) (Yf := Hook.obs Mine.H) (Ya := Hook.val Mine.H) (YP := Hook.says Mine.H) (N := 3000) Mine.left (Hook.of Mine.H) (Hook.keeps Mine.H) (fun _ _ => trivial) (fun _ _ _ _ _ => trivial) (by rfl) (by rfl) (by rfl) (fun s _ => recFacts_nil rfl) (by rfl) (by assumption) (by decide +kernel) ⟨rfl, rfl, rfl, rfl, rfl, by decide +kernel⟩ ?hw ?hc
  case hw => w_witness2
  intro w s₀ s₁ mg mb G Y fa o pm cd doc dV kV ho hd hcd hD hmg hg args vals as hpre hlay hrd hwl hlo
  have KX : (Mine.K w.params).In s₁.heap := Y
  clear Y
  wrow_args hpre hlay hrd hwl hlo
  rename_i ns h1 h2 h3 h4 h5 l4 l3 a us l0 hL ra w1 r0 hI hr hc1 hc0
  have TR : TopRead (view Mine.pw Mine.keep) [] mg mb s₁.heap := by
    have := topRead_of G.T
    rwa [Mine.loose0] at this
  have e426 : fa = 426 := by
    have z := mg_of KX TR.g (Mine.G_law w).ns
    rw [show ({ cps := #[108, 97, 119] } : Str) = Str.ofString "law" from by kernel_rfl] at z
    have hmg' : mg (Str.ofString "law") = some (.ref fa) := hmg
    rw [hmg'] at z
    exact Value.ref.inj (Option.some.inj z)
  subst e426
  clear hmg ho hd hcd hD
  show wpAny (model Mine.pw w) callerA (PySem.call (.ref 426) [.ref a]) _ _ s₁
  refine wpAny_call (Mine.law_ends KX TR hg hL hI (by omega) fun s' L m F g os => ?_)
  refine (goodW_bool F g (raisesW_false ?hr) ?hp os).toG
  case hr => wrow_none_raised
  case hp => wrow_post
end
