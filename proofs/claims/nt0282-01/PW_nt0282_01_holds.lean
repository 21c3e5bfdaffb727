import PyProof.Rows.All
import Wide.All
import OpenK.AllK
import Wide.FinOn
import PySem.Challenge.RW_nt0282_01
section
set_option maxRecDepth 100000
open PySem PySem.W PySem.Calls PyProof.Rows
set_option Elab.async false
namespace Mine
local macro_rules | `(tactic| o_head $_) => `(tactic| assumption)
set_option maxHeartbeats 4000000 in
theorem frag (x : PySem.Challenge.rw_nt0282_01.row.Holds) : PySem.Challenge.rw_nt0282_01.row.Holds := by k_head
end Mine
end
section
set_option maxRecDepth 100000
open PySem PySem.W PySem.Calls PyProof.Rows
set_option Elab.async false
namespace Mine
noncomputable section
set_option linter.unusedVariables false
noncomputable def kAt (P : Params) (j : Nat) : Obj := ((Mine.frag.heap_1 P).getD j (0, default)).2
noncomputable def hold (o : Obj) : Obj := match o.data with
  | .func f => { cls := .none, data := .func { name := f.name, qualname := f.qualname, params := f.params, body := f.body, scope := f.scope, globals := 0, closure := [], defaults := .none, kwdefaults := .none } }
  | _ => default
noncomputable def x11 (P : Params) : Obj := Obj.mk (Value.type "tuple") none (Data.seq #[]) #[]
noncomputable def x12 (P : Params) : Obj := Obj.mk Value.none none (Data.fields #[Value.int 4 0, Value.int 0 0, Value.ref 20, Value.int 8 0, Value.int 0 0, Value.ref 41, Value.int 10 0, Value.int 0 0, Value.ref 51, Value.int 12 0, Value.int 0 0, Value.ref 56, Value.int 18 0, Value.int 0 0, Value.ref 63, Value.int 24 0, Value.int 0 0, Value.ref 70, Value.int 29 0, Value.int 0 0, Value.ref 77, Value.int 40 0, Value.int 0 0, Value.ref 84, Value.int 50 0, Value.int 0 0, Value.ref 91, Value.int 61 0, Value.int 0 0, Value.ref 110, Value.int 66 0, Value.int 0 0, Value.ref 117, Value.int 71 0, Value.int 0 0, Value.ref 124, Value.int 78 0, Value.int 0 0, Value.ref 131, Value.int 83 0, Value.int 0 0, Value.ref 138, Value.int 93 0, Value.int 0 0, Value.ref 166, Value.int 113 0, Value.int 0 0, Value.ref 173, Value.int 122 0, Value.int 0 0, Value.ref 180, Value.int 124 0, Value.int 0 0, Value.ref 187, Value.int 128 0, Value.int 0 0, Value.ref 194, Value.int 149 0, Value.int 0 0, Value.ref 201, Value.int 166 0, Value.int 0 0, Value.ref 241, Value.int 168 0, Value.int 0 0, Value.ref 248, Value.int 176 0, Value.int 0 0, Value.ref 255, Value.int 199 0, Value.int 0 0, Value.ref 290, Value.int 204 0, Value.int 0 0, Value.ref 297, Value.int 213 0, Value.int 0 0, Value.ref 304, Value.int 234 0, Value.int 0 0, Value.ref 340, Value.int 247 0, Value.int 0 0, Value.ref 348, Value.int 261 0, Value.int 0 0, Value.ref 353, Value.int 266 0, Value.int 0 0, Value.ref 360, Value.int 278 0, Value.int 0 0, Value.ref 367, Value.int 280 0, Value.int 0 0, Value.ref 374, Value.int 285 0, Value.int 0 0, Value.ref 381, Value.int 296 0, Value.int 0 0, Value.ref 388, Value.int 305 0, Value.int 0 0, Value.ref 393, Value.int 308 0, Value.int 0 0, Value.ref 398, Value.int 315 0, Value.int 0 0, Value.ref 403, Value.int 322 0, Value.int 0 0, Value.ref 410, Value.int 327 0, Value.int 0 0, Value.ref 417, Value.int 333 0, Value.int 0 0, Value.ref 424, Value.int 339 0, Value.int 0 0, Value.ref 431, Value.int 348 0, Value.int 0 0, Value.ref 438]) #[]
noncomputable def x13 (P : Params) : Obj := Obj.mk (Value.type "code") none (Data.fields #[Value.str (Str.ofString "<module>") 182, Value.str (Str.ofString "<module>") 183, Value.str (Str.ofString "/claim/cut.py") 184, Value.int 1 0, Value.int 0 0, Value.int 0 0, Value.int 0 0, Value.int 0 0, Value.ref 11, Value.bool false, Value.int 181 0, Value.ref 12, Value.none, Value.none, Value.none, Value.none, Value.int 185 0, Value.int 1 0, Value.str (Str.ofString "/claim/cut.py") 186]) #[]
noncomputable def x14 (P : Params) : Obj := Obj.mk (Value.type "frame") none Data.plain #[some (Value.ref 13), some (Value.ref 3), some (Value.ref 3), none, some (Value.str (Str.ofString "__main__") 164), none, some (Value.ref 0)]
noncomputable def x16 (P : Params) : Obj := Obj.mk (Value.type "builtin_function_or_method") none (Data.fields #[Value.builtin "type.__prepare__", Value.type "type"]) #[]
noncomputable def x17 (P : Params) : Obj := Obj.mk (Value.type "dict") none (Data.dict #[DictEntry.mk (PyData.keyHash P (Str.ofString "__module__")) (Value.str (Str.ofString "__module__") 200) (Value.str (Str.ofString "gitcore.base") 187), DictEntry.mk (PyData.keyHash P (Str.ofString "__qualname__")) (Value.str (Str.ofString "__qualname__") 202) (Value.str (Str.ofString "GitError") 201), DictEntry.mk (PyData.keyHash P (Str.ofString "__firstlineno__")) (Value.str (Str.ofString "__firstlineno__") 204) (Value.int 4 203), DictEntry.mk (PyData.keyHash P (Str.ofString "__init__")) (Value.str (Str.ofString "__init__") 213) (Value.ref 29), DictEntry.mk (PyData.keyHash P (Str.ofString "__static_attributes__")) (Value.str (Str.ofString "__static_attributes__") 215) (Value.ref 30)] 5) #[]
noncomputable def x18 (P : Params) : Obj := Obj.mk (Value.type "tuple") none (Data.seq #[]) #[]
noncomputable def x19 (P : Params) : Obj := Obj.mk Value.none none (Data.fields #[Value.int 6 0, Value.int 4 0, Value.ref 28]) #[]
noncomputable def x20 (P : Params) : Obj := Obj.mk (Value.type "code") none (Data.fields #[Value.str (Str.ofString "GitError") 195, Value.str (Str.ofString "GitError") 196, Value.str (Str.ofString "/claim/cut.py") 197, Value.int 4 0, Value.int 0 0, Value.int 0 0, Value.int 0 0, Value.int 0 0, Value.ref 18, Value.bool false, Value.int 181 0, Value.ref 19, Value.none, Value.none, Value.none, Value.none, Value.int 198 0, Value.int 4 0, Value.str (Str.ofString "/claim/cut.py") 199]) #[]
noncomputable def x21 (P : Params) : Obj := Obj.mk (Value.type "frame") none Data.plain #[some (Value.ref 20), some (Value.ref 3), some (Value.ref 17), none, some (Value.str (Str.ofString "gitcore.base") 187), none, some (Value.ref 0)]
noncomputable def x24 (P : Params) : Obj := Obj.mk Value.none none (Data.fields #[]) #[]
noncomputable def x34 (P : Params) : Obj := Obj.mk (Value.type "super") none (Data.fields #[Value.ref 32, Value.ref 32, Value.ref 32]) #[]
noncomputable def x35 (P : Params) : Obj := Obj.mk (Value.type "builtin_function_or_method") none (Data.fields #[Value.builtin "object.__init_subclass__", Value.ref 32]) #[]
noncomputable def x37 (P : Params) : Obj := Obj.mk (Value.type "builtin_function_or_method") none (Data.fields #[Value.builtin "type.__prepare__", Value.type "type"]) #[]
noncomputable def x38 (P : Params) : Obj := Obj.mk (Value.type "dict") none (Data.dict #[DictEntry.mk (PyData.keyHash P (Str.ofString "__module__")) (Value.str (Str.ofString "__module__") 230) (Value.str (Str.ofString "gitcore.base") 187), DictEntry.mk (PyData.keyHash P (Str.ofString "__qualname__")) (Value.str (Str.ofString "__qualname__") 232) (Value.str (Str.ofString "BadObject") 231), DictEntry.mk (PyData.keyHash P (Str.ofString "__firstlineno__")) (Value.str (Str.ofString "__firstlineno__") 234) (Value.int 8 233), DictEntry.mk (PyData.keyHash P (Str.ofString "__static_attributes__")) (Value.str (Str.ofString "__static_attributes__") 235) (Value.ref 43)] 4) #[]
noncomputable def x39 (P : Params) : Obj := Obj.mk (Value.type "tuple") none (Data.seq #[]) #[]
noncomputable def x40 (P : Params) : Obj := Obj.mk Value.none none (Data.fields #[]) #[]
noncomputable def x41 (P : Params) : Obj := Obj.mk (Value.type "code") none (Data.fields #[Value.str (Str.ofString "BadObject") 225, Value.str (Str.ofString "BadObject") 226, Value.str (Str.ofString "/claim/cut.py") 227, Value.int 8 0, Value.int 0 0, Value.int 0 0, Value.int 0 0, Value.int 0 0, Value.ref 39, Value.bool false, Value.int 181 0, Value.ref 40, Value.none, Value.none, Value.none, Value.none, Value.int 228 0, Value.int 8 0, Value.str (Str.ofString "/claim/cut.py") 229]) #[]
noncomputable def x42 (P : Params) : Obj := Obj.mk (Value.type "frame") none Data.plain #[some (Value.ref 41), some (Value.ref 3), some (Value.ref 38), none, some (Value.str (Str.ofString "gitcore.base") 187), none, some (Value.ref 0)]
noncomputable def x46 (P : Params) : Obj := Obj.mk (Value.type "super") none (Data.fields #[Value.ref 45, Value.ref 45, Value.ref 45]) #[]
noncomputable def x47 (P : Params) : Obj := Obj.mk (Value.type "builtin_function_or_method") none (Data.fields #[Value.builtin "object.__init_subclass__", Value.ref 45]) #[]
noncomputable def x49 (P : Params) : Obj := Obj.mk Value.none none (Data.fields #[]) #[]
noncomputable def x54 (P : Params) : Obj := Obj.mk Value.none none (Data.fields #[]) #[]
noncomputable def x59 (P : Params) : Obj := Obj.mk Value.none none (Data.fields #[]) #[]
noncomputable def x66 (P : Params) : Obj := Obj.mk Value.none none (Data.fields #[]) #[]
noncomputable def x73 (P : Params) : Obj := Obj.mk Value.none none (Data.fields #[]) #[]
noncomputable def x80 (P : Params) : Obj := Obj.mk Value.none none (Data.fields #[]) #[]
noncomputable def x87 (P : Params) : Obj := Obj.mk Value.none none (Data.fields #[]) #[]
noncomputable def x94 (P : Params) : Obj := Obj.mk (Value.type "range") none (Data.fields #[Value.int 0 311, Value.int 33 310, Value.int 1 312]) #[]
noncomputable def x95 (P : Params) : Obj := Obj.mk (Value.type "range_iterator") none (Data.fields #[Value.int 33 0, Value.int 0 0, Value.int 1 0]) #[]
noncomputable def x96 (P : Params) : Obj := Obj.mk (Value.type "list") none (Data.seq #[Value.int 0 313, Value.int 1 315, Value.int 2 317, Value.int 3 319, Value.int 4 321, Value.int 5 323, Value.int 6 325, Value.int 7 327, Value.int 8 329, Value.int 9 331, Value.int 10 333, Value.int 11 335, Value.int 12 337, Value.int 13 339, Value.int 14 341, Value.int 15 343, Value.int 16 345, Value.int 17 347, Value.int 18 349, Value.int 19 351, Value.int 20 353, Value.int 21 355, Value.int 22 357, Value.int 23 359, Value.int 24 361, Value.int 25 363, Value.int 26 365, Value.int 27 367, Value.int 28 369, Value.int 29 371, Value.int 30 373, Value.int 31 375, Value.int 32 377] 33) #[]
noncomputable def x97 (P : Params) : Obj := Obj.mk (Value.type "dict") none (Data.dict #[] 2) #[]
noncomputable def x98 (P : Params) : Obj := Obj.mk (Value.type "tuple") none (Data.seq #[]) #[]
noncomputable def x99 (P : Params) : Obj := Obj.mk (Value.type "StopIteration") none (Data.fields #[Value.ref 98, Value.none, Value.none, Value.none, Value.bool false, Value.none]) #[]
noncomputable def x100 (P : Params) : Obj := Obj.mk (Value.type "list_iterator") none (Data.fields #[Value.none, Value.int 33 0]) #[]
noncomputable def x101 (P : Params) : Obj := Obj.mk (Value.type "bytearray") none (Data.bytearray #[0, 1, 2, 3, 4, 5, 6, 7, 8, 9, 10, 11, 12, 13, 14, 15, 16, 17, 18, 19, 20, 21, 22, 23, 24, 25, 26, 27, 28, 29, 30, 31, 32]) #[]
noncomputable def x102 (P : Params) : Obj := Obj.mk (Value.type "tuple") none (Data.seq #[]) #[]
noncomputable def x103 (P : Params) : Obj := Obj.mk (Value.type "StopIteration") none (Data.fields #[Value.ref 102, Value.none, Value.none, Value.none, Value.bool false, Value.none]) #[]
noncomputable def x106 (P : Params) : Obj := Obj.mk Value.none none (Data.fields #[]) #[]
noncomputable def x113 (P : Params) : Obj := Obj.mk Value.none none (Data.fields #[]) #[]
noncomputable def x120 (P : Params) : Obj := Obj.mk Value.none none (Data.fields #[]) #[]
noncomputable def x127 (P : Params) : Obj := Obj.mk Value.none none (Data.fields #[]) #[]
noncomputable def x133 (P : Params) : Obj := Obj.mk (Value.type "tuple") none (Data.seq #[]) #[]
noncomputable def x134 (P : Params) : Obj := Obj.mk (Value.type "builtin_function_or_method") none (Data.fields #[Value.builtin "type.__prepare__", Value.type "type"]) #[]
noncomputable def x135 (P : Params) : Obj := Obj.mk (Value.type "dict") none (Data.dict #[DictEntry.mk (PyData.keyHash P (Str.ofString "__module__")) (Value.str (Str.ofString "__module__") 432) (Value.str (Str.ofString "gitcore.objects") 297), DictEntry.mk (PyData.keyHash P (Str.ofString "__qualname__")) (Value.str (Str.ofString "__qualname__") 434) (Value.str (Str.ofString "Person") 433), DictEntry.mk (PyData.keyHash P (Str.ofString "__firstlineno__")) (Value.str (Str.ofString "__firstlineno__") 436) (Value.int 83 435), DictEntry.mk (PyData.keyHash P (Str.ofString "__init__")) (Value.str (Str.ofString "__init__") 447) (Value.ref 146), DictEntry.mk (PyData.keyHash P (Str.ofString "octets")) (Value.str (Str.ofString "octets") 454) (Value.ref 153), DictEntry.mk (PyData.keyHash P (Str.ofString "__static_attributes__")) (Value.str (Str.ofString "__static_attributes__") 459) (Value.ref 154)] 6) #[]
noncomputable def x136 (P : Params) : Obj := Obj.mk (Value.type "tuple") none (Data.seq #[]) #[]
noncomputable def x137 (P : Params) : Obj := Obj.mk Value.none none (Data.fields #[Value.int 85 0, Value.int 4 0, Value.ref 145, Value.int 91 0, Value.int 4 0, Value.ref 152]) #[]
noncomputable def x138 (P : Params) : Obj := Obj.mk (Value.type "code") none (Data.fields #[Value.str (Str.ofString "Person") 427, Value.str (Str.ofString "Person") 428, Value.str (Str.ofString "/claim/cut.py") 429, Value.int 83 0, Value.int 0 0, Value.int 0 0, Value.int 0 0, Value.int 0 0, Value.ref 136, Value.bool false, Value.int 181 0, Value.ref 137, Value.none, Value.none, Value.none, Value.none, Value.int 430 0, Value.int 83 0, Value.str (Str.ofString "/claim/cut.py") 431]) #[]
noncomputable def x139 (P : Params) : Obj := Obj.mk (Value.type "frame") none Data.plain #[some (Value.ref 138), some (Value.ref 3), some (Value.ref 135), none, some (Value.str (Str.ofString "gitcore.objects") 297), none, some (Value.ref 0)]
noncomputable def x141 (P : Params) : Obj := Obj.mk Value.none none (Data.fields #[]) #[]
noncomputable def x148 (P : Params) : Obj := Obj.mk Value.none none (Data.fields #[]) #[]
noncomputable def x159 (P : Params) : Obj := Obj.mk (Value.type "super") none (Data.fields #[Value.ref 156, Value.ref 156, Value.ref 156]) #[]
noncomputable def x160 (P : Params) : Obj := Obj.mk (Value.type "builtin_function_or_method") none (Data.fields #[Value.builtin "object.__init_subclass__", Value.ref 156]) #[]
noncomputable def x162 (P : Params) : Obj := Obj.mk Value.none none (Data.fields #[]) #[]
noncomputable def x169 (P : Params) : Obj := Obj.mk Value.none none (Data.fields #[]) #[]
noncomputable def x176 (P : Params) : Obj := Obj.mk Value.none none (Data.fields #[]) #[]
noncomputable def x183 (P : Params) : Obj := Obj.mk Value.none none (Data.fields #[]) #[]
noncomputable def x190 (P : Params) : Obj := Obj.mk Value.none none (Data.fields #[]) #[]
noncomputable def x196 (P : Params) : Obj := Obj.mk (Value.type "tuple") none (Data.seq #[]) #[]
noncomputable def x197 (P : Params) : Obj := Obj.mk (Value.type "builtin_function_or_method") none (Data.fields #[Value.builtin "type.__prepare__", Value.type "type"]) #[]
noncomputable def x198 (P : Params) : Obj := Obj.mk (Value.type "dict") none (Data.dict #[DictEntry.mk (PyData.keyHash P (Str.ofString "__module__")) (Value.str (Str.ofString "__module__") 533) (Value.str (Str.ofString "gitcore.objects") 297), DictEntry.mk (PyData.keyHash P (Str.ofString "__qualname__")) (Value.str (Str.ofString "__qualname__") 535) (Value.str (Str.ofString "ObjectHeadWalk") 534), DictEntry.mk (PyData.keyHash P (Str.ofString "__firstlineno__")) (Value.str (Str.ofString "__firstlineno__") 537) (Value.int 149 536), DictEntry.mk (PyData.keyHash P (Str.ofString "__init__")) (Value.str (Str.ofString "__init__") 545) (Value.ref 209), DictEntry.mk (PyData.keyHash P (Str.ofString "is_next")) (Value.str (Str.ofString "is_next") 553) (Value.ref 216), DictEntry.mk (PyData.keyHash P (Str.ofString "take")) (Value.str (Str.ofString "take") 561) (Value.ref 223), DictEntry.mk (PyData.keyHash P (Str.ofString "rest")) (Value.str (Str.ofString "rest") 568) (Value.ref 230), DictEntry.mk (PyData.keyHash P (Str.ofString "__static_attributes__")) (Value.str (Str.ofString "__static_attributes__") 571) (Value.ref 231)] 8) #[]
noncomputable def x199 (P : Params) : Obj := Obj.mk (Value.type "tuple") none (Data.seq #[]) #[]
noncomputable def x200 (P : Params) : Obj := Obj.mk Value.none none (Data.fields #[Value.int 151 0, Value.int 4 0, Value.ref 208, Value.int 155 0, Value.int 4 0, Value.ref 215, Value.int 158 0, Value.int 4 0, Value.ref 222, Value.int 164 0, Value.int 4 0, Value.ref 229]) #[]
noncomputable def x201 (P : Params) : Obj := Obj.mk (Value.type "code") none (Data.fields #[Value.str (Str.ofString "ObjectHeadWalk") 528, Value.str (Str.ofString "ObjectHeadWalk") 529, Value.str (Str.ofString "/claim/cut.py") 530, Value.int 149 0, Value.int 0 0, Value.int 0 0, Value.int 0 0, Value.int 0 0, Value.ref 199, Value.bool false, Value.int 181 0, Value.ref 200, Value.none, Value.none, Value.none, Value.none, Value.int 531 0, Value.int 149 0, Value.str (Str.ofString "/claim/cut.py") 532]) #[]
noncomputable def x202 (P : Params) : Obj := Obj.mk (Value.type "frame") none Data.plain #[some (Value.ref 201), some (Value.ref 3), some (Value.ref 198), none, some (Value.str (Str.ofString "gitcore.objects") 297), none, some (Value.ref 0)]
noncomputable def x204 (P : Params) : Obj := Obj.mk Value.none none (Data.fields #[]) #[]
noncomputable def x211 (P : Params) : Obj := Obj.mk Value.none none (Data.fields #[]) #[]
noncomputable def x218 (P : Params) : Obj := Obj.mk Value.none none (Data.fields #[]) #[]
noncomputable def x225 (P : Params) : Obj := Obj.mk Value.none none (Data.fields #[]) #[]
noncomputable def x236 (P : Params) : Obj := Obj.mk (Value.type "super") none (Data.fields #[Value.ref 233, Value.ref 233, Value.ref 233]) #[]
noncomputable def x237 (P : Params) : Obj := Obj.mk (Value.type "builtin_function_or_method") none (Data.fields #[Value.builtin "object.__init_subclass__", Value.ref 233]) #[]
noncomputable def x239 (P : Params) : Obj := Obj.mk Value.none none (Data.fields #[]) #[]
noncomputable def x244 (P : Params) : Obj := Obj.mk Value.none none (Data.fields #[]) #[]
noncomputable def x250 (P : Params) : Obj := Obj.mk (Value.type "tuple") none (Data.seq #[]) #[]
noncomputable def x251 (P : Params) : Obj := Obj.mk (Value.type "builtin_function_or_method") none (Data.fields #[Value.builtin "type.__prepare__", Value.type "type"]) #[]
noncomputable def x252 (P : Params) : Obj := Obj.mk (Value.type "dict") none (Data.dict #[DictEntry.mk (PyData.keyHash P (Str.ofString "__module__")) (Value.str (Str.ofString "__module__") 602) (Value.str (Str.ofString "gitcore.objects") 297), DictEntry.mk (PyData.keyHash P (Str.ofString "__qualname__")) (Value.str (Str.ofString "__qualname__") 604) (Value.str (Str.ofString "Commit") 603), DictEntry.mk (PyData.keyHash P (Str.ofString "__firstlineno__")) (Value.str (Str.ofString "__firstlineno__") 606) (Value.int 176 605), DictEntry.mk (PyData.keyHash P (Str.ofString "__init__")) (Value.str (Str.ofString "__init__") 619) (Value.ref 263), DictEntry.mk (PyData.keyHash P (Str.ofString "octets")) (Value.str (Str.ofString "octets") 630) (Value.ref 270), DictEntry.mk (PyData.keyHash P (Str.ofString "subject")) (Value.str (Str.ofString "subject") 637) (Value.ref 277), DictEntry.mk (PyData.keyHash P (Str.ofString "__static_attributes__")) (Value.str (Str.ofString "__static_attributes__") 644) (Value.ref 278)] 7) #[]
noncomputable def x253 (P : Params) : Obj := Obj.mk (Value.type "tuple") none (Data.seq #[]) #[]
noncomputable def x254 (P : Params) : Obj := Obj.mk Value.none none (Data.fields #[Value.int 178 0, Value.int 4 0, Value.ref 262, Value.int 186 0, Value.int 4 0, Value.ref 269, Value.int 197 0, Value.int 4 0, Value.ref 276]) #[]
noncomputable def x255 (P : Params) : Obj := Obj.mk (Value.type "code") none (Data.fields #[Value.str (Str.ofString "Commit") 597, Value.str (Str.ofString "Commit") 598, Value.str (Str.ofString "/claim/cut.py") 599, Value.int 176 0, Value.int 0 0, Value.int 0 0, Value.int 0 0, Value.int 0 0, Value.ref 253, Value.bool false, Value.int 181 0, Value.ref 254, Value.none, Value.none, Value.none, Value.none, Value.int 600 0, Value.int 176 0, Value.str (Str.ofString "/claim/cut.py") 601]) #[]
noncomputable def x256 (P : Params) : Obj := Obj.mk (Value.type "frame") none Data.plain #[some (Value.ref 255), some (Value.ref 3), some (Value.ref 252), none, some (Value.str (Str.ofString "gitcore.objects") 297), none, some (Value.ref 0)]
noncomputable def x258 (P : Params) : Obj := Obj.mk Value.none none (Data.fields #[]) #[]
noncomputable def x265 (P : Params) : Obj := Obj.mk Value.none none (Data.fields #[]) #[]
noncomputable def x272 (P : Params) : Obj := Obj.mk Value.none none (Data.fields #[]) #[]
noncomputable def x283 (P : Params) : Obj := Obj.mk (Value.type "super") none (Data.fields #[Value.ref 280, Value.ref 280, Value.ref 280]) #[]
noncomputable def x284 (P : Params) : Obj := Obj.mk (Value.type "builtin_function_or_method") none (Data.fields #[Value.builtin "object.__init_subclass__", Value.ref 280]) #[]
noncomputable def x286 (P : Params) : Obj := Obj.mk Value.none none (Data.fields #[]) #[]
noncomputable def x293 (P : Params) : Obj := Obj.mk Value.none none (Data.fields #[]) #[]
noncomputable def x299 (P : Params) : Obj := Obj.mk (Value.type "tuple") none (Data.seq #[]) #[]
noncomputable def x300 (P : Params) : Obj := Obj.mk (Value.type "builtin_function_or_method") none (Data.fields #[Value.builtin "type.__prepare__", Value.type "type"]) #[]
noncomputable def x301 (P : Params) : Obj := Obj.mk (Value.type "dict") none (Data.dict #[DictEntry.mk (PyData.keyHash P (Str.ofString "__module__")) (Value.str (Str.ofString "__module__") 678) (Value.str (Str.ofString "gitcore.objects") 297), DictEntry.mk (PyData.keyHash P (Str.ofString "__qualname__")) (Value.str (Str.ofString "__qualname__") 680) (Value.str (Str.ofString "Tag") 679), DictEntry.mk (PyData.keyHash P (Str.ofString "__firstlineno__")) (Value.str (Str.ofString "__firstlineno__") 682) (Value.int 213 681), DictEntry.mk (PyData.keyHash P (Str.ofString "__init__")) (Value.str (Str.ofString "__init__") 696) (Value.ref 313), DictEntry.mk (PyData.keyHash P (Str.ofString "signed_part")) (Value.str (Str.ofString "signed_part") 704) (Value.ref 320), DictEntry.mk (PyData.keyHash P (Str.ofString "octets")) (Value.str (Str.ofString "octets") 711) (Value.ref 327), DictEntry.mk (PyData.keyHash P (Str.ofString "__static_attributes__")) (Value.str (Str.ofString "__static_attributes__") 718) (Value.ref 328)] 7) #[]
noncomputable def x302 (P : Params) : Obj := Obj.mk (Value.type "tuple") none (Data.seq #[]) #[]
noncomputable def x303 (P : Params) : Obj := Obj.mk Value.none none (Data.fields #[Value.int 215 0, Value.int 4 0, Value.ref 312, Value.int 223 0, Value.int 4 0, Value.ref 319, Value.int 232 0, Value.int 4 0, Value.ref 326]) #[]
noncomputable def x304 (P : Params) : Obj := Obj.mk (Value.type "code") none (Data.fields #[Value.str (Str.ofString "Tag") 673, Value.str (Str.ofString "Tag") 674, Value.str (Str.ofString "/claim/cut.py") 675, Value.int 213 0, Value.int 0 0, Value.int 0 0, Value.int 0 0, Value.int 0 0, Value.ref 302, Value.bool false, Value.int 181 0, Value.ref 303, Value.none, Value.none, Value.none, Value.none, Value.int 676 0, Value.int 213 0, Value.str (Str.ofString "/claim/cut.py") 677]) #[]
noncomputable def x305 (P : Params) : Obj := Obj.mk (Value.type "frame") none Data.plain #[some (Value.ref 304), some (Value.ref 3), some (Value.ref 301), none, some (Value.str (Str.ofString "gitcore.objects") 297), none, some (Value.ref 0)]
noncomputable def x308 (P : Params) : Obj := Obj.mk Value.none none (Data.fields #[]) #[]
noncomputable def x315 (P : Params) : Obj := Obj.mk Value.none none (Data.fields #[]) #[]
noncomputable def x322 (P : Params) : Obj := Obj.mk Value.none none (Data.fields #[]) #[]
noncomputable def x333 (P : Params) : Obj := Obj.mk (Value.type "super") none (Data.fields #[Value.ref 330, Value.ref 330, Value.ref 330]) #[]
noncomputable def x334 (P : Params) : Obj := Obj.mk (Value.type "builtin_function_or_method") none (Data.fields #[Value.builtin "object.__init_subclass__", Value.ref 330]) #[]
noncomputable def x336 (P : Params) : Obj := Obj.mk Value.none none (Data.fields #[]) #[]
noncomputable def x344 (P : Params) : Obj := Obj.mk Value.none none (Data.fields #[]) #[]
noncomputable def x351 (P : Params) : Obj := Obj.mk Value.none none (Data.fields #[]) #[]
noncomputable def x356 (P : Params) : Obj := Obj.mk Value.none none (Data.fields #[]) #[]
noncomputable def x363 (P : Params) : Obj := Obj.mk Value.none none (Data.fields #[]) #[]
noncomputable def x370 (P : Params) : Obj := Obj.mk Value.none none (Data.fields #[]) #[]
noncomputable def x377 (P : Params) : Obj := Obj.mk Value.none none (Data.fields #[]) #[]
noncomputable def x384 (P : Params) : Obj := Obj.mk Value.none none (Data.fields #[]) #[]
noncomputable def x391 (P : Params) : Obj := Obj.mk Value.none none (Data.fields #[]) #[]
noncomputable def x396 (P : Params) : Obj := Obj.mk Value.none none (Data.fields #[]) #[]
noncomputable def x401 (P : Params) : Obj := Obj.mk Value.none none (Data.fields #[]) #[]
noncomputable def x406 (P : Params) : Obj := Obj.mk Value.none none (Data.fields #[]) #[]
noncomputable def x413 (P : Params) : Obj := Obj.mk Value.none none (Data.fields #[]) #[]
noncomputable def x420 (P : Params) : Obj := Obj.mk Value.none none (Data.fields #[]) #[]
noncomputable def x427 (P : Params) : Obj := Obj.mk Value.none none (Data.fields #[]) #[]
noncomputable def x434 (P : Params) : Obj := Obj.mk Value.none none (Data.fields #[]) #[]
noncomputable def ya_12 (P : Params) : Obj := Obj.mk Value.none none (Data.fields #[]) #[]
noncomputable def tra (P : Params) : BT := (.node (boot_o_0 P) (.node (boot_o_1 P) (.node (boot_o_3 P) (.node (boot_o_7 P) .nil .nil) (.node (x11 P) .nil .nil)) (.node (boot_o_5 P) (.node (boot_o_9 P) .nil .nil) (.node (x13 P) .nil .nil))) (.node (boot_o_2 P) (.node (boot_o_4 P) (.node (boot_o_8 P) .nil .nil) (.node (ya_12 P) .nil .nil)) (.node (boot_o_6 P) (.node (boot_o_10 P) .nil .nil) (.node (x14 P) .nil .nil))))
noncomputable def sta (w : World) (os : OsState) : SharedT := ⟨tra w.params, 15, Life.mk [] [] [] 0 [] [] false #[] [] 0 false false false 0 [2000, 10, 10] false 0 true [] [] 0 false, #[], Drawn.mk 0 0 0 0, 187, os⟩
noncomputable def yb_12 (P : Params) : Obj := Obj.mk Value.none none (Data.fields #[]) #[]
noncomputable def trb (P : Params) : BT := (.node (boot_o_0 P) (.node (boot_o_1 P) (.node (boot_o_3 P) (.node (boot_o_7 P) .nil .nil) (.node (x11 P) .nil .nil)) (.node (boot_o_5 P) (.node (boot_o_9 P) .nil .nil) (.node (x13 P) .nil .nil))) (.node (boot_o_2 P) (.node (boot_o_4 P) (.node (boot_o_8 P) .nil .nil) (.node (yb_12 P) .nil .nil)) (.node (boot_o_6 P) (.node (boot_o_10 P) .nil .nil) (.node (x14 P) .nil .nil))))
noncomputable def stb (w : World) (os : OsState) : SharedT := ⟨trb w.params, 15, Life.mk [] [] [] 0 [] [] false #[] [] 0 false false false 0 [2000, 10, 10] false 0 true [] [] 0 false, #[], Drawn.mk 0 0 0 0, 187, os⟩
noncomputable def y12_3 (P : Params) : Obj := Obj.mk (Value.type "dict") none (Data.dict #[DictEntry.mk (PyData.keyHash P (Str.ofString "__name__")) (Value.str (Str.ofString "__name__") 165) (Value.str (Str.ofString "gitcore.base") 187), DictEntry.mk (PyData.keyHash P (Str.ofString "__doc__")) (Value.str (Str.ofString "__doc__") 166) Value.none, DictEntry.mk (PyData.keyHash P (Str.ofString "__package__")) (Value.str (Str.ofString "__package__") 167) Value.none, DictEntry.mk (PyData.keyHash P (Str.ofString "__loader__")) (Value.str (Str.ofString "__loader__") 168) (Value.builtin "__main__.__loader__#opaque"), DictEntry.mk (PyData.keyHash P (Str.ofString "__spec__")) (Value.str (Str.ofString "__spec__") 169) Value.none, DictEntry.mk (PyData.keyHash P (Str.ofString "__annotations__")) (Value.str (Str.ofString "__annotations__") 170) (Value.ref 6), DictEntry.mk (PyData.keyHash P (Str.ofString "__builtins__")) (Value.str (Str.ofString "__builtins__") 171) (Value.ref 4), DictEntry.mk (PyData.keyHash P (Str.ofString "__file__")) (Value.str (Str.ofString "__file__") 173) (Value.str (Str.ofString "/claim/cut.py") 172), DictEntry.mk (PyData.keyHash P (Str.ofString "__cached__")) (Value.str (Str.ofString "__cached__") 174) Value.none, DictEntry.mk (PyData.keyHash P (Str.ofString "HEX_SIGNS")) (Value.str (Str.ofString "HEX_SIGNS") 190) (Value.str (Str.ofString "0123456789abcdef") 189), DictEntry.mk (PyData.keyHash P (Str.ofString "NOUGHT_SIGN")) (Value.str (Str.ofString "NOUGHT_SIGN") 192) (Value.int 48 191), DictEntry.mk (PyData.keyHash P (Str.ofString "GitError")) (Value.str (Str.ofString "GitError") 222) (Value.ref 32), DictEntry.mk (PyData.keyHash P (Str.ofString "BadObject")) (Value.str (Str.ofString "BadObject") 238) (Value.ref 45), DictEntry.mk (PyData.keyHash P (Str.ofString "text_of")) (Value.str (Str.ofString "text_of") 244) (Value.ref 52), DictEntry.mk (PyData.keyHash P (Str.ofString "octets_of")) (Value.str (Str.ofString "octets_of") 250) (Value.ref 57), DictEntry.mk (PyData.keyHash P (Str.ofString "hex_of")) (Value.str (Str.ofString "hex_of") 259) (Value.ref 64), DictEntry.mk (PyData.keyHash P (Str.ofString "hex_digit")) (Value.str (Str.ofString "hex_digit") 267) (Value.ref 71), DictEntry.mk (PyData.keyHash P (Str.ofString "octets_of_hex")) (Value.str (Str.ofString "octets_of_hex") 278) (Value.ref 78), DictEntry.mk (PyData.keyHash P (Str.ofString "number_by")) (Value.str (Str.ofString "number_by") 289) (Value.ref 85), DictEntry.mk (PyData.keyHash P (Str.ofString "number_of")) (Value.str (Str.ofString "number_of") 296) (Value.ref 92)] 20) #[]
noncomputable def y12_12 (P : Params) : Obj := Obj.mk Value.none none (Data.fields #[Value.int 4 0, Value.int 0 0, Value.ref 20, Value.int 8 0, Value.int 0 0, Value.ref 41, Value.int 10 0, Value.int 0 0, Value.ref 51, Value.int 12 0, Value.int 0 0, Value.ref 56, Value.int 18 0, Value.int 0 0, Value.ref 63, Value.int 24 0, Value.int 0 0, Value.ref 70, Value.int 29 0, Value.int 0 0, Value.ref 77, Value.int 40 0, Value.int 0 0, Value.ref 84, Value.int 50 0, Value.int 0 0, Value.ref 91]) #[]
noncomputable def tr12 (P : Params) : BT := (.node (boot_o_0 P) (.node (boot_o_1 P) (.node (y12_3 P) (.node (boot_o_7 P) (.node (kAt P 2) (.node (kAt P 10) (.node (kAt P 26) .nil .nil) .nil) (.node (x47 P) (.node (kAt P 38) .nil .nil) .nil)) (.node (kAt P 4) (.node (x39 P) (.node (kAt P 32) .nil .nil) .nil) (.node (hold (kAt P 22)) (.node (x87 P) .nil .nil) .nil))) (.node (x11 P) (.node (x19 P) (.node (x35 P) (.node (kAt P 29) .nil .nil) .nil) (.node (kAt P 18) (.node (hold (kAt P 42)) .nil .nil) .nil)) (.node (hold (kAt P 8)) (.node (kAt P 14) (.node (kAt P 35) .nil .nil) .nil) (.node (x59 P) (.node (kAt P 46) .nil .nil) .nil)))) (.node (boot_o_5 P) (.node (boot_o_9 P) (.node (x17 P) (.node (kAt P 12) (.node (kAt P 28) .nil .nil) .nil) (.node (x49 P) (.node (kAt P 39) .nil .nil) .nil)) (.node (kAt P 5) (.node (x41 P) (.node (x73 P) .nil .nil) .nil) (.node (kAt P 22) (.node (kAt P 45) .nil .nil) .nil))) (.node (x13 P) (.node (x21 P) (.node (x37 P) (.node (hold (kAt P 32)) .nil .nil) .nil) (.node (kAt P 20) (.node (kAt P 42) .nil .nil) .nil)) (.node (kAt P 8) (.node (kAt P 16) (.node (kAt P 36) .nil .nil) .nil) (.node (kAt P 25) .nil .nil))))) (.node (kAt P 0) (.node (boot_o_4 P) (.node (boot_o_8 P) (.node (x16 P) (.node (kAt P 11) (.node (kAt P 27) .nil .nil) .nil) (.node (kAt P 17) (.node (x80 P) .nil .nil) .nil)) (.node (x24 P) (.node (x40 P) (.node (kAt P 33) .nil .nil) .nil) (.node (kAt P 21) (.node (kAt P 44) .nil .nil) .nil))) (.node (y12_12 P) (.node (x20 P) (.node (kAt P 13) (.node (kAt P 30) .nil .nil) .nil) (.node (kAt P 19) (.node (kAt P 41) .nil .nil) .nil)) (.node (kAt P 7) (.node (kAt P 15) (.node (hold (kAt P 37)) .nil .nil) .nil) (.node (kAt P 24) (.node (kAt P 47) .nil .nil) .nil)))) (.node (boot_o_6 P) (.node (boot_o_10 P) (.node (x18 P) (.node (x34 P) (.node (x66 P) .nil .nil) .nil) (.node (hold (kAt P 19)) (.node (kAt P 40) .nil .nil) .nil)) (.node (kAt P 6) (.node (x42 P) (.node (kAt P 34) .nil .nil) .nil) (.node (kAt P 23) (.node (hold (kAt P 47)) .nil .nil) .nil))) (.node (x14 P) (.node (kAt P 3) (.node (x38 P) (.node (kAt P 31) .nil .nil) .nil) (.node (x54 P) (.node (kAt P 43) .nil .nil) .nil)) (.node (kAt P 9) (.node (x46 P) (.node (kAt P 37) .nil .nil) .nil) (.node (hold (kAt P 27)) .nil .nil))))))
noncomputable def st12 (w : World) (os : OsState) : SharedT := ⟨tr12 w.params, 93, Life.mk [] [] [] 0 [] [] false #[] [] 0 false false false 0 [2000, 10, 10] false 0 true [] [] 0 false, #[], Drawn.mk 0 0 0 0, 297, os⟩
noncomputable def y17_3 (P : Params) : Obj := Obj.mk (Value.type "dict") none (Data.dict #[DictEntry.mk (PyData.keyHash P (Str.ofString "__name__")) (Value.str (Str.ofString "__name__") 165) (Value.str (Str.ofString "gitcore.objects") 297), DictEntry.mk (PyData.keyHash P (Str.ofString "__doc__")) (Value.str (Str.ofString "__doc__") 166) Value.none, DictEntry.mk (PyData.keyHash P (Str.ofString "__package__")) (Value.str (Str.ofString "__package__") 167) Value.none, DictEntry.mk (PyData.keyHash P (Str.ofString "__loader__")) (Value.str (Str.ofString "__loader__") 168) (Value.builtin "__main__.__loader__#opaque"), DictEntry.mk (PyData.keyHash P (Str.ofString "__spec__")) (Value.str (Str.ofString "__spec__") 169) Value.none, DictEntry.mk (PyData.keyHash P (Str.ofString "__annotations__")) (Value.str (Str.ofString "__annotations__") 170) (Value.ref 6), DictEntry.mk (PyData.keyHash P (Str.ofString "__builtins__")) (Value.str (Str.ofString "__builtins__") 171) (Value.ref 4), DictEntry.mk (PyData.keyHash P (Str.ofString "__file__")) (Value.str (Str.ofString "__file__") 173) (Value.str (Str.ofString "/claim/cut.py") 172), DictEntry.mk (PyData.keyHash P (Str.ofString "__cached__")) (Value.str (Str.ofString "__cached__") 174) Value.none, DictEntry.mk (PyData.keyHash P (Str.ofString "HEX_SIGNS")) (Value.str (Str.ofString "HEX_SIGNS") 190) (Value.str (Str.ofString "0123456789abcdef") 189), DictEntry.mk (PyData.keyHash P (Str.ofString "NOUGHT_SIGN")) (Value.str (Str.ofString "NOUGHT_SIGN") 192) (Value.int 48 191), DictEntry.mk (PyData.keyHash P (Str.ofString "GitError")) (Value.str (Str.ofString "GitError") 222) (Value.ref 32), DictEntry.mk (PyData.keyHash P (Str.ofString "BadObject")) (Value.str (Str.ofString "BadObject") 238) (Value.ref 45), DictEntry.mk (PyData.keyHash P (Str.ofString "text_of")) (Value.str (Str.ofString "text_of") 244) (Value.ref 52), DictEntry.mk (PyData.keyHash P (Str.ofString "octets_of")) (Value.str (Str.ofString "octets_of") 250) (Value.ref 57), DictEntry.mk (PyData.keyHash P (Str.ofString "hex_of")) (Value.str (Str.ofString "hex_of") 259) (Value.ref 64), DictEntry.mk (PyData.keyHash P (Str.ofString "hex_digit")) (Value.str (Str.ofString "hex_digit") 267) (Value.ref 71), DictEntry.mk (PyData.keyHash P (Str.ofString "octets_of_hex")) (Value.str (Str.ofString "octets_of_hex") 278) (Value.ref 78), DictEntry.mk (PyData.keyHash P (Str.ofString "number_by")) (Value.str (Str.ofString "number_by") 289) (Value.ref 85), DictEntry.mk (PyData.keyHash P (Str.ofString "number_of")) (Value.str (Str.ofString "number_of") 296) (Value.ref 92), DictEntry.mk (PyData.keyHash P (Str.ofString "OBJECT_KINDS")) (Value.str (Str.ofString "OBJECT_KINDS") 303) (Value.ref 93), DictEntry.mk (PyData.keyHash P (Str.ofString "OBJECT_HEX")) (Value.str (Str.ofString "OBJECT_HEX") 305) (Value.bytes #[48, 49, 50, 51, 52, 53, 54, 55, 56, 57, 97, 98, 99, 100, 101, 102] 304), DictEntry.mk (PyData.keyHash P (Str.ofString "OBJECT_DIGITS")) (Value.str (Str.ofString "OBJECT_DIGITS") 307) (Value.bytes #[48, 49, 50, 51, 52, 53, 54, 55, 56, 57] 306), DictEntry.mk (PyData.keyHash P (Str.ofString "OBJECT_BLANKS")) (Value.str (Str.ofString "OBJECT_BLANKS") 309) (Value.bytes #[32, 9, 13, 11, 12] 308)] 24) #[]
noncomputable def y17_12 (P : Params) : Obj := Obj.mk Value.none none (Data.fields #[Value.int 4 0, Value.int 0 0, Value.ref 20, Value.int 8 0, Value.int 0 0, Value.ref 41, Value.int 10 0, Value.int 0 0, Value.ref 51, Value.int 12 0, Value.int 0 0, Value.ref 56, Value.int 18 0, Value.int 0 0, Value.ref 63, Value.int 24 0, Value.int 0 0, Value.ref 70, Value.int 29 0, Value.int 0 0, Value.ref 77, Value.int 40 0, Value.int 0 0, Value.ref 84, Value.int 50 0, Value.int 0 0, Value.ref 91]) #[]
noncomputable def tr17 (P : Params) : BT := (.node (boot_o_0 P) (.node (boot_o_1 P) (.node (y17_3 P) (.node (boot_o_7 P) (.node (kAt P 2) (.node (kAt P 10) (.node (kAt P 26) .nil .nil) .nil) (.node (x47 P) (.node (kAt P 38) .nil .nil) .nil)) (.node (kAt P 4) (.node (x39 P) (.node (kAt P 32) .nil .nil) .nil) (.node (hold (kAt P 22)) (.node (x87 P) .nil .nil) .nil))) (.node (x11 P) (.node (x19 P) (.node (x35 P) (.node (kAt P 29) .nil .nil) .nil) (.node (kAt P 18) (.node (hold (kAt P 42)) .nil .nil) .nil)) (.node (hold (kAt P 8)) (.node (kAt P 14) (.node (kAt P 35) .nil .nil) .nil) (.node (x59 P) (.node (kAt P 46) .nil .nil) .nil)))) (.node (boot_o_5 P) (.node (boot_o_9 P) (.node (x17 P) (.node (kAt P 12) (.node (kAt P 28) .nil .nil) .nil) (.node (x49 P) (.node (kAt P 39) .nil .nil) .nil)) (.node (kAt P 5) (.node (x41 P) (.node (x73 P) .nil .nil) .nil) (.node (kAt P 22) (.node (kAt P 45) .nil .nil) .nil))) (.node (x13 P) (.node (x21 P) (.node (x37 P) (.node (hold (kAt P 32)) .nil .nil) .nil) (.node (kAt P 20) (.node (kAt P 42) .nil .nil) .nil)) (.node (kAt P 8) (.node (kAt P 16) (.node (kAt P 36) .nil .nil) .nil) (.node (kAt P 25) (.node (kAt P 48) .nil .nil) .nil))))) (.node (kAt P 0) (.node (boot_o_4 P) (.node (boot_o_8 P) (.node (x16 P) (.node (kAt P 11) (.node (kAt P 27) .nil .nil) .nil) (.node (kAt P 17) (.node (x80 P) .nil .nil) .nil)) (.node (x24 P) (.node (x40 P) (.node (kAt P 33) .nil .nil) .nil) (.node (kAt P 21) (.node (kAt P 44) .nil .nil) .nil))) (.node (y17_12 P) (.node (x20 P) (.node (kAt P 13) (.node (kAt P 30) .nil .nil) .nil) (.node (kAt P 19) (.node (kAt P 41) .nil .nil) .nil)) (.node (kAt P 7) (.node (kAt P 15) (.node (hold (kAt P 37)) .nil .nil) .nil) (.node (kAt P 24) (.node (kAt P 47) .nil .nil) .nil)))) (.node (boot_o_6 P) (.node (boot_o_10 P) (.node (x18 P) (.node (x34 P) (.node (x66 P) .nil .nil) .nil) (.node (hold (kAt P 19)) (.node (kAt P 40) .nil .nil) .nil)) (.node (kAt P 6) (.node (x42 P) (.node (kAt P 34) .nil .nil) .nil) (.node (kAt P 23) (.node (hold (kAt P 47)) .nil .nil) .nil))) (.node (x14 P) (.node (kAt P 3) (.node (x38 P) (.node (kAt P 31) .nil .nil) .nil) (.node (x54 P) (.node (kAt P 43) .nil .nil) .nil)) (.node (kAt P 9) (.node (x46 P) (.node (kAt P 37) .nil .nil) .nil) (.node (hold (kAt P 27)) .nil .nil))))))
noncomputable def st17 (w : World) (os : OsState) : SharedT := ⟨tr17 w.params, 94, Life.mk [] [] [] 0 [] [] false #[] [] 0 false false false 0 [2000, 10, 10] false 0 true [] [] 0 false, #[], Drawn.mk 0 0 0 0, 310, os⟩
noncomputable def y18_3 (P : Params) : Obj := Obj.mk (Value.type "dict") none (Data.dict #[DictEntry.mk (PyData.keyHash P (Str.ofString "__name__")) (Value.str (Str.ofString "__name__") 165) (Value.str (Str.ofString "gitcore.objects") 297), DictEntry.mk (PyData.keyHash P (Str.ofString "__doc__")) (Value.str (Str.ofString "__doc__") 166) Value.none, DictEntry.mk (PyData.keyHash P (Str.ofString "__package__")) (Value.str (Str.ofString "__package__") 167) Value.none, DictEntry.mk (PyData.keyHash P (Str.ofString "__loader__")) (Value.str (Str.ofString "__loader__") 168) (Value.builtin "__main__.__loader__#opaque"), DictEntry.mk (PyData.keyHash P (Str.ofString "__spec__")) (Value.str (Str.ofString "__spec__") 169) Value.none, DictEntry.mk (PyData.keyHash P (Str.ofString "__annotations__")) (Value.str (Str.ofString "__annotations__") 170) (Value.ref 6), DictEntry.mk (PyData.keyHash P (Str.ofString "__builtins__")) (Value.str (Str.ofString "__builtins__") 171) (Value.ref 4), DictEntry.mk (PyData.keyHash P (Str.ofString "__file__")) (Value.str (Str.ofString "__file__") 173) (Value.str (Str.ofString "/claim/cut.py") 172), DictEntry.mk (PyData.keyHash P (Str.ofString "__cached__")) (Value.str (Str.ofString "__cached__") 174) Value.none, DictEntry.mk (PyData.keyHash P (Str.ofString "HEX_SIGNS")) (Value.str (Str.ofString "HEX_SIGNS") 190) (Value.str (Str.ofString "0123456789abcdef") 189), DictEntry.mk (PyData.keyHash P (Str.ofString "NOUGHT_SIGN")) (Value.str (Str.ofString "NOUGHT_SIGN") 192) (Value.int 48 191), DictEntry.mk (PyData.keyHash P (Str.ofString "GitError")) (Value.str (Str.ofString "GitError") 222) (Value.ref 32), DictEntry.mk (PyData.keyHash P (Str.ofString "BadObject")) (Value.str (Str.ofString "BadObject") 238) (Value.ref 45), DictEntry.mk (PyData.keyHash P (Str.ofString "text_of")) (Value.str (Str.ofString "text_of") 244) (Value.ref 52), DictEntry.mk (PyData.keyHash P (Str.ofString "octets_of")) (Value.str (Str.ofString "octets_of") 250) (Value.ref 57), DictEntry.mk (PyData.keyHash P (Str.ofString "hex_of")) (Value.str (Str.ofString "hex_of") 259) (Value.ref 64), DictEntry.mk (PyData.keyHash P (Str.ofString "hex_digit")) (Value.str (Str.ofString "hex_digit") 267) (Value.ref 71), DictEntry.mk (PyData.keyHash P (Str.ofString "octets_of_hex")) (Value.str (Str.ofString "octets_of_hex") 278) (Value.ref 78), DictEntry.mk (PyData.keyHash P (Str.ofString "number_by")) (Value.str (Str.ofString "number_by") 289) (Value.ref 85), DictEntry.mk (PyData.keyHash P (Str.ofString "number_of")) (Value.str (Str.ofString "number_of") 296) (Value.ref 92), DictEntry.mk (PyData.keyHash P (Str.ofString "OBJECT_KINDS")) (Value.str (Str.ofString "OBJECT_KINDS") 303) (Value.ref 93), DictEntry.mk (PyData.keyHash P (Str.ofString "OBJECT_HEX")) (Value.str (Str.ofString "OBJECT_HEX") 305) (Value.bytes #[48, 49, 50, 51, 52, 53, 54, 55, 56, 57, 97, 98, 99, 100, 101, 102] 304), DictEntry.mk (PyData.keyHash P (Str.ofString "OBJECT_DIGITS")) (Value.str (Str.ofString "OBJECT_DIGITS") 307) (Value.bytes #[48, 49, 50, 51, 52, 53, 54, 55, 56, 57] 306), DictEntry.mk (PyData.keyHash P (Str.ofString "OBJECT_BLANKS")) (Value.str (Str.ofString "OBJECT_BLANKS") 309) (Value.bytes #[32, 9, 13, 11, 12] 308), DictEntry.mk (PyData.keyHash P (Str.ofString "OBJECT_CRUD")) (Value.str (Str.ofString "OBJECT_CRUD") 382) (Value.bytes #[0, 1, 2, 3, 4, 5, 6, 7, 8, 9, 10, 11, 12, 13, 14, 15, 16, 17, 18, 19, 20, 21, 22, 23, 24, 25, 26, 27, 28, 29, 30, 31, 32, 46, 44, 58, 59, 60, 62, 34, 92, 39] 381)] 25) #[]
noncomputable def y18_12 (P : Params) : Obj := Obj.mk Value.none none (Data.fields #[Value.int 4 0, Value.int 0 0, Value.ref 20, Value.int 8 0, Value.int 0 0, Value.ref 41, Value.int 10 0, Value.int 0 0, Value.ref 51, Value.int 12 0, Value.int 0 0, Value.ref 56, Value.int 18 0, Value.int 0 0, Value.ref 63, Value.int 24 0, Value.int 0 0, Value.ref 70, Value.int 29 0, Value.int 0 0, Value.ref 77, Value.int 40 0, Value.int 0 0, Value.ref 84, Value.int 50 0, Value.int 0 0, Value.ref 91]) #[]
noncomputable def tr18 (P : Params) : BT := (.node (boot_o_0 P) (.node (boot_o_1 P) (.node (y18_3 P) (.node (boot_o_7 P) (.node (kAt P 2) (.node (kAt P 10) (.node (kAt P 26) .nil .nil) (.node (x95 P) .nil .nil)) (.node (x47 P) (.node (kAt P 38) .nil .nil) .nil)) (.node (kAt P 4) (.node (x39 P) (.node (kAt P 32) .nil .nil) (.node (x103 P) .nil .nil)) (.node (hold (kAt P 22)) (.node (x87 P) .nil .nil) .nil))) (.node (x11 P) (.node (x19 P) (.node (x35 P) (.node (kAt P 29) .nil .nil) (.node (x99 P) .nil .nil)) (.node (kAt P 18) (.node (hold (kAt P 42)) .nil .nil) .nil)) (.node (hold (kAt P 8)) (.node (kAt P 14) (.node (kAt P 35) .nil .nil) .nil) (.node (x59 P) (.node (kAt P 46) .nil .nil) .nil)))) (.node (boot_o_5 P) (.node (boot_o_9 P) (.node (x17 P) (.node (kAt P 12) (.node (kAt P 28) .nil .nil) (.node (x97 P) .nil .nil)) (.node (x49 P) (.node (kAt P 39) .nil .nil) .nil)) (.node (kAt P 5) (.node (x41 P) (.node (x73 P) .nil .nil) .nil) (.node (kAt P 22) (.node (kAt P 45) .nil .nil) .nil))) (.node (x13 P) (.node (x21 P) (.node (x37 P) (.node (hold (kAt P 32)) .nil .nil) (.node (x101 P) .nil .nil)) (.node (kAt P 20) (.node (kAt P 42) .nil .nil) .nil)) (.node (kAt P 8) (.node (kAt P 16) (.node (kAt P 36) .nil .nil) .nil) (.node (kAt P 25) (.node (kAt P 48) .nil .nil) .nil))))) (.node (kAt P 0) (.node (boot_o_4 P) (.node (boot_o_8 P) (.node (x16 P) (.node (kAt P 11) (.node (kAt P 27) .nil .nil) (.node (x96 P) .nil .nil)) (.node (kAt P 17) (.node (x80 P) .nil .nil) .nil)) (.node (x24 P) (.node (x40 P) (.node (kAt P 33) .nil .nil) .nil) (.node (kAt P 21) (.node (kAt P 44) .nil .nil) .nil))) (.node (y18_12 P) (.node (x20 P) (.node (kAt P 13) (.node (kAt P 30) .nil .nil) (.node (x100 P) .nil .nil)) (.node (kAt P 19) (.node (kAt P 41) .nil .nil) .nil)) (.node (kAt P 7) (.node (kAt P 15) (.node (hold (kAt P 37)) .nil .nil) .nil) (.node (kAt P 24) (.node (kAt P 47) .nil .nil) .nil)))) (.node (boot_o_6 P) (.node (boot_o_10 P) (.node (x18 P) (.node (x34 P) (.node (x66 P) .nil .nil) (.node (x98 P) .nil .nil)) (.node (hold (kAt P 19)) (.node (kAt P 40) .nil .nil) .nil)) (.node (kAt P 6) (.node (x42 P) (.node (kAt P 34) .nil .nil) .nil) (.node (kAt P 23) (.node (hold (kAt P 47)) .nil .nil) .nil))) (.node (x14 P) (.node (kAt P 3) (.node (x38 P) (.node (kAt P 31) .nil .nil) (.node (x102 P) .nil .nil)) (.node (x54 P) (.node (kAt P 43) .nil .nil) .nil)) (.node (kAt P 9) (.node (x46 P) (.node (kAt P 37) .nil .nil) .nil) (.node (hold (kAt P 27)) (.node (x94 P) .nil .nil) .nil))))))
noncomputable def st18 (w : World) (os : OsState) : SharedT := ⟨tr18 w.params, 104, Life.mk [] [] [] 0 [] [] false #[] [] 0 false false false 0 [2000, 10, 10] false 0 true [] [] 0 false, #[], Drawn.mk 0 0 0 0, 383, os⟩
noncomputable def y26_3 (P : Params) : Obj := Obj.mk (Value.type "dict") none (Data.dict #[DictEntry.mk (PyData.keyHash P (Str.ofString "__name__")) (Value.str (Str.ofString "__name__") 165) (Value.str (Str.ofString "gitcore.objects") 297), DictEntry.mk (PyData.keyHash P (Str.ofString "__doc__")) (Value.str (Str.ofString "__doc__") 166) Value.none, DictEntry.mk (PyData.keyHash P (Str.ofString "__package__")) (Value.str (Str.ofString "__package__") 167) Value.none, DictEntry.mk (PyData.keyHash P (Str.ofString "__loader__")) (Value.str (Str.ofString "__loader__") 168) (Value.builtin "__main__.__loader__#opaque"), DictEntry.mk (PyData.keyHash P (Str.ofString "__spec__")) (Value.str (Str.ofString "__spec__") 169) Value.none, DictEntry.mk (PyData.keyHash P (Str.ofString "__annotations__")) (Value.str (Str.ofString "__annotations__") 170) (Value.ref 6), DictEntry.mk (PyData.keyHash P (Str.ofString "__builtins__")) (Value.str (Str.ofString "__builtins__") 171) (Value.ref 4), DictEntry.mk (PyData.keyHash P (Str.ofString "__file__")) (Value.str (Str.ofString "__file__") 173) (Value.str (Str.ofString "/claim/cut.py") 172), DictEntry.mk (PyData.keyHash P (Str.ofString "__cached__")) (Value.str (Str.ofString "__cached__") 174) Value.none, DictEntry.mk (PyData.keyHash P (Str.ofString "HEX_SIGNS")) (Value.str (Str.ofString "HEX_SIGNS") 190) (Value.str (Str.ofString "0123456789abcdef") 189), DictEntry.mk (PyData.keyHash P (Str.ofString "NOUGHT_SIGN")) (Value.str (Str.ofString "NOUGHT_SIGN") 192) (Value.int 48 191), DictEntry.mk (PyData.keyHash P (Str.ofString "GitError")) (Value.str (Str.ofString "GitError") 222) (Value.ref 32), DictEntry.mk (PyData.keyHash P (Str.ofString "BadObject")) (Value.str (Str.ofString "BadObject") 238) (Value.ref 45), DictEntry.mk (PyData.keyHash P (Str.ofString "text_of")) (Value.str (Str.ofString "text_of") 244) (Value.ref 52), DictEntry.mk (PyData.keyHash P (Str.ofString "octets_of")) (Value.str (Str.ofString "octets_of") 250) (Value.ref 57), DictEntry.mk (PyData.keyHash P (Str.ofString "hex_of")) (Value.str (Str.ofString "hex_of") 259) (Value.ref 64), DictEntry.mk (PyData.keyHash P (Str.ofString "hex_digit")) (Value.str (Str.ofString "hex_digit") 267) (Value.ref 71), DictEntry.mk (PyData.keyHash P (Str.ofString "octets_of_hex")) (Value.str (Str.ofString "octets_of_hex") 278) (Value.ref 78), DictEntry.mk (PyData.keyHash P (Str.ofString "number_by")) (Value.str (Str.ofString "number_by") 289) (Value.ref 85), DictEntry.mk (PyData.keyHash P (Str.ofString "number_of")) (Value.str (Str.ofString "number_of") 296) (Value.ref 92), DictEntry.mk (PyData.keyHash P (Str.ofString "OBJECT_KINDS")) (Value.str (Str.ofString "OBJECT_KINDS") 303) (Value.ref 93), DictEntry.mk (PyData.keyHash P (Str.ofString "OBJECT_HEX")) (Value.str (Str.ofString "OBJECT_HEX") 305) (Value.bytes #[48, 49, 50, 51, 52, 53, 54, 55, 56, 57, 97, 98, 99, 100, 101, 102] 304), DictEntry.mk (PyData.keyHash P (Str.ofString "OBJECT_DIGITS")) (Value.str (Str.ofString "OBJECT_DIGITS") 307) (Value.bytes #[48, 49, 50, 51, 52, 53, 54, 55, 56, 57] 306), DictEntry.mk (PyData.keyHash P (Str.ofString "OBJECT_BLANKS")) (Value.str (Str.ofString "OBJECT_BLANKS") 309) (Value.bytes #[32, 9, 13, 11, 12] 308), DictEntry.mk (PyData.keyHash P (Str.ofString "OBJECT_CRUD")) (Value.str (Str.ofString "OBJECT_CRUD") 382) (Value.bytes #[0, 1, 2, 3, 4, 5, 6, 7, 8, 9, 10, 11, 12, 13, 14, 15, 16, 17, 18, 19, 20, 21, 22, 23, 24, 25, 26, 27, 28, 29, 30, 31, 32, 46, 44, 58, 59, 60, 62, 34, 92, 39] 381), DictEntry.mk (PyData.keyHash P (Str.ofString "OBJECT_SIGNATURES")) (Value.str (Str.ofString "OBJECT_SIGNATURES") 387) (Value.ref 104), DictEntry.mk (PyData.keyHash P (Str.ofString "object_has_sign")) (Value.str (Str.ofString "object_has_sign") 396) (Value.ref 111), DictEntry.mk (PyData.keyHash P (Str.ofString "object_are_all")) (Value.str (Str.ofString "object_are_all") 405) (Value.ref 118), DictEntry.mk (PyData.keyHash P (Str.ofString "object_trimmed")) (Value.str (Str.ofString "object_trimmed") 415) (Value.ref 125), DictEntry.mk (PyData.keyHash P (Str.ofString "object_cut_end")) (Value.str (Str.ofString "object_cut_end") 424) (Value.ref 132), DictEntry.mk (PyData.keyHash P (Str.ofString "Person")) (Value.str (Str.ofString "Person") 466) (Value.ref 156), DictEntry.mk (PyData.keyHash P (Str.ofString "read_person")) (Value.str (Str.ofString "read_person") 481) (Value.ref 167), DictEntry.mk (PyData.keyHash P (Str.ofString "person_cleaned")) (Value.str (Str.ofString "person_cleaned") 495) (Value.ref 174)] 33) #[]
noncomputable def y26_12 (P : Params) : Obj := Obj.mk Value.none none (Data.fields #[Value.int 4 0, Value.int 0 0, Value.ref 20, Value.int 8 0, Value.int 0 0, Value.ref 41, Value.int 10 0, Value.int 0 0, Value.ref 51, Value.int 12 0, Value.int 0 0, Value.ref 56, Value.int 18 0, Value.int 0 0, Value.ref 63, Value.int 24 0, Value.int 0 0, Value.ref 70, Value.int 29 0, Value.int 0 0, Value.ref 77, Value.int 40 0, Value.int 0 0, Value.ref 84, Value.int 50 0, Value.int 0 0, Value.ref 91, Value.int 61 0, Value.int 0 0, Value.ref 110, Value.int 66 0, Value.int 0 0, Value.ref 117, Value.int 71 0, Value.int 0 0, Value.ref 124, Value.int 78 0, Value.int 0 0, Value.ref 131, Value.int 83 0, Value.int 0 0, Value.ref 138, Value.int 93 0, Value.int 0 0, Value.ref 166, Value.int 113 0, Value.int 0 0, Value.ref 173]) #[]
noncomputable def tr26 (P : Params) : BT := (.node (boot_o_0 P) (.node (boot_o_1 P) (.node (y26_3 P) (.node (boot_o_7 P) (.node (kAt P 2) (.node (kAt P 10) (.node (kAt P 26) (.node (x127 P) .nil .nil) .nil) (.node (x95 P) (.node (x159 P) .nil .nil) .nil)) (.node (x47 P) (.node (kAt P 38) (.node (kAt P 72) .nil .nil) .nil) (.node (kAt P 54) .nil .nil))) (.node (kAt P 4) (.node (x39 P) (.node (kAt P 32) (.node (x135 P) .nil .nil) .nil) (.node (x103 P) (.node (kAt P 89) .nil .nil) .nil)) (.node (hold (kAt P 22)) (.node (x87 P) (.node (hold (kAt P 79)) .nil .nil) .nil) (.node (kAt P 60) .nil .nil)))) (.node (x11 P) (.node (x19 P) (.node (x35 P) (.node (kAt P 29) (.node (kAt P 68) .nil .nil) .nil) (.node (x99 P) (.node (kAt P 86) .nil .nil) .nil)) (.node (kAt P 18) (.node (hold (kAt P 42)) (.node (kAt P 75) .nil .nil) .nil) (.node (kAt P 57) .nil .nil))) (.node (hold (kAt P 8)) (.node (kAt P 14) (.node (kAt P 35) (.node (x139 P) .nil .nil) .nil) (.node (kAt P 51) (.node (kAt P 92) .nil .nil) .nil)) (.node (x59 P) (.node (kAt P 46) (.node (kAt P 81) .nil .nil) .nil) (.node (hold (kAt P 64)) .nil .nil))))) (.node (boot_o_5 P) (.node (boot_o_9 P) (.node (x17 P) (.node (kAt P 12) (.node (kAt P 28) (.node (kAt P 67) .nil .nil) .nil) (.node (x97 P) (.node (kAt P 85) .nil .nil) .nil)) (.node (x49 P) (.node (kAt P 39) (.node (kAt P 73) .nil .nil) .nil) (.node (x113 P) .nil .nil))) (.node (kAt P 5) (.node (x41 P) (.node (x73 P) (.node (x137 P) .nil .nil) .nil) (.node (kAt P 50) (.node (x169 P) .nil .nil) .nil)) (.node (kAt P 22) (.node (kAt P 45) (.node (kAt P 79) .nil .nil) .nil) (.node (kAt P 61) .nil .nil)))) (.node (x13 P) (.node (x21 P) (.node (x37 P) (.node (hold (kAt P 32)) (.node (x133 P) .nil .nil) .nil) (.node (x101 P) (.node (hold (kAt P 89)) .nil .nil) .nil)) (.node (kAt P 20) (.node (kAt P 42) (.node (kAt P 76) .nil .nil) .nil) (.node (kAt P 58) .nil .nil))) (.node (kAt P 8) (.node (kAt P 16) (.node (kAt P 36) (.node (x141 P) .nil .nil) .nil) (.node (hold (kAt P 54)) (.node (kAt P 93) .nil .nil) .nil)) (.node (kAt P 25) (.node (kAt P 48) (.node (kAt P 83) .nil .nil) .nil) (.node (kAt P 64) .nil .nil)))))) (.node (kAt P 0) (.node (boot_o_4 P) (.node (boot_o_8 P) (.node (x16 P) (.node (kAt P 11) (.node (kAt P 27) (.node (kAt P 66) .nil .nil) .nil) (.node (x96 P) (.node (x160 P) .nil .nil) .nil)) (.node (kAt P 17) (.node (x80 P) (.node (hold (kAt P 74)) .nil .nil) .nil) (.node (kAt P 55) .nil .nil))) (.node (x24 P) (.node (x40 P) (.node (kAt P 33) (.node (x136 P) .nil .nil) .nil) (.node (kAt P 49) (.node (kAt P 90) .nil .nil) .nil)) (.node (kAt P 21) (.node (kAt P 44) (.node (kAt P 78) .nil .nil) .nil) (.node (x120 P) .nil .nil)))) (.node (y26_12 P) (.node (x20 P) (.node (kAt P 13) (.node (kAt P 30) (.node (kAt P 69) .nil .nil) .nil) (.node (x100 P) (.node (kAt P 87) .nil .nil) .nil)) (.node (kAt P 19) (.node (kAt P 41) (.node (x148 P) .nil .nil) .nil) (.node (hold (kAt P 59)) .nil .nil))) (.node (kAt P 7) (.node (kAt P 15) (.node (hold (kAt P 37)) (.node (kAt P 70) .nil .nil) .nil) (.node (kAt P 52) (.node (hold (kAt P 94)) .nil .nil) .nil)) (.node (kAt P 24) (.node (kAt P 47) (.node (kAt P 82) .nil .nil) .nil) (.node (kAt P 63) .nil .nil))))) (.node (boot_o_6 P) (.node (boot_o_10 P) (.node (x18 P) (.node (x34 P) (.node (x66 P) (.node (hold (kAt P 69)) .nil .nil) .nil) (.node (x98 P) (.node (x162 P) .nil .nil) .nil)) (.node (hold (kAt P 19)) (.node (kAt P 40) (.node (kAt P 74) .nil .nil) .nil) (.node (kAt P 56) .nil .nil))) (.node (kAt P 6) (.node (x42 P) (.node (kAt P 34) (.node (x138 P) .nil .nil) .nil) (.node (x106 P) (.node (kAt P 91) .nil .nil) .nil)) (.node (kAt P 23) (.node (hold (kAt P 47)) (.node (kAt P 80) .nil .nil) .nil) (.node (kAt P 62) .nil .nil)))) (.node (x14 P) (.node (kAt P 3) (.node (x38 P) (.node (kAt P 31) (.node (x134 P) .nil .nil) .nil) (.node (x102 P) (.node (kAt P 88) .nil .nil) .nil)) (.node (x54 P) (.node (kAt P 43) (.node (kAt P 77) .nil .nil) .nil) (.node (kAt P 59) .nil .nil))) (.node (kAt P 9) (.node (x46 P) (.node (kAt P 37) (.node (kAt P 71) .nil .nil) .nil) (.node (kAt P 53) (.node (kAt P 94) .nil .nil) .nil)) (.node (hold (kAt P 27)) (.node (x94 P) (.node (kAt P 84) .nil .nil) .nil) (.node (kAt P 65) .nil .nil)))))))
noncomputable def st26 (w : World) (os : OsState) : SharedT := ⟨tr26 w.params, 175, Life.mk [] [] [] 0 [] [] false #[] [] 0 false false false 0 [2000, 10, 10] false 0 true [] [] 0 false, #[], Drawn.mk 0 0 0 0, 496, os⟩
noncomputable def y32_3 (P : Params) : Obj := Obj.mk (Value.type "dict") none (Data.dict #[DictEntry.mk (PyData.keyHash P (Str.ofString "__name__")) (Value.str (Str.ofString "__name__") 165) (Value.str (Str.ofString "gitcore.objects") 297), DictEntry.mk (PyData.keyHash P (Str.ofString "__doc__")) (Value.str (Str.ofString "__doc__") 166) Value.none, DictEntry.mk (PyData.keyHash P (Str.ofString "__package__")) (Value.str (Str.ofString "__package__") 167) Value.none, DictEntry.mk (PyData.keyHash P (Str.ofString "__loader__")) (Value.str (Str.ofString "__loader__") 168) (Value.builtin "__main__.__loader__#opaque"), DictEntry.mk (PyData.keyHash P (Str.ofString "__spec__")) (Value.str (Str.ofString "__spec__") 169) Value.none, DictEntry.mk (PyData.keyHash P (Str.ofString "__annotations__")) (Value.str (Str.ofString "__annotations__") 170) (Value.ref 6), DictEntry.mk (PyData.keyHash P (Str.ofString "__builtins__")) (Value.str (Str.ofString "__builtins__") 171) (Value.ref 4), DictEntry.mk (PyData.keyHash P (Str.ofString "__file__")) (Value.str (Str.ofString "__file__") 173) (Value.str (Str.ofString "/claim/cut.py") 172), DictEntry.mk (PyData.keyHash P (Str.ofString "__cached__")) (Value.str (Str.ofString "__cached__") 174) Value.none, DictEntry.mk (PyData.keyHash P (Str.ofString "HEX_SIGNS")) (Value.str (Str.ofString "HEX_SIGNS") 190) (Value.str (Str.ofString "0123456789abcdef") 189), DictEntry.mk (PyData.keyHash P (Str.ofString "NOUGHT_SIGN")) (Value.str (Str.ofString "NOUGHT_SIGN") 192) (Value.int 48 191), DictEntry.mk (PyData.keyHash P (Str.ofString "GitError")) (Value.str (Str.ofString "GitError") 222) (Value.ref 32), DictEntry.mk (PyData.keyHash P (Str.ofString "BadObject")) (Value.str (Str.ofString "BadObject") 238) (Value.ref 45), DictEntry.mk (PyData.keyHash P (Str.ofString "text_of")) (Value.str (Str.ofString "text_of") 244) (Value.ref 52), DictEntry.mk (PyData.keyHash P (Str.ofString "octets_of")) (Value.str (Str.ofString "octets_of") 250) (Value.ref 57), DictEntry.mk (PyData.keyHash P (Str.ofString "hex_of")) (Value.str (Str.ofString "hex_of") 259) (Value.ref 64), DictEntry.mk (PyData.keyHash P (Str.ofString "hex_digit")) (Value.str (Str.ofString "hex_digit") 267) (Value.ref 71), DictEntry.mk (PyData.keyHash P (Str.ofString "octets_of_hex")) (Value.str (Str.ofString "octets_of_hex") 278) (Value.ref 78), DictEntry.mk (PyData.keyHash P (Str.ofString "number_by")) (Value.str (Str.ofString "number_by") 289) (Value.ref 85), DictEntry.mk (PyData.keyHash P (Str.ofString "number_of")) (Value.str (Str.ofString "number_of") 296) (Value.ref 92), DictEntry.mk (PyData.keyHash P (Str.ofString "OBJECT_KINDS")) (Value.str (Str.ofString "OBJECT_KINDS") 303) (Value.ref 93), DictEntry.mk (PyData.keyHash P (Str.ofString "OBJECT_HEX")) (Value.str (Str.ofString "OBJECT_HEX") 305) (Value.bytes #[48, 49, 50, 51, 52, 53, 54, 55, 56, 57, 97, 98, 99, 100, 101, 102] 304), DictEntry.mk (PyData.keyHash P (Str.ofString "OBJECT_DIGITS")) (Value.str (Str.ofString "OBJECT_DIGITS") 307) (Value.bytes #[48, 49, 50, 51, 52, 53, 54, 55, 56, 57] 306), DictEntry.mk (PyData.keyHash P (Str.ofString "OBJECT_BLANKS")) (Value.str (Str.ofString "OBJECT_BLANKS") 309) (Value.bytes #[32, 9, 13, 11, 12] 308), DictEntry.mk (PyData.keyHash P (Str.ofString "OBJECT_CRUD")) (Value.str (Str.ofString "OBJECT_CRUD") 382) (Value.bytes #[0, 1, 2, 3, 4, 5, 6, 7, 8, 9, 10, 11, 12, 13, 14, 15, 16, 17, 18, 19, 20, 21, 22, 23, 24, 25, 26, 27, 28, 29, 30, 31, 32, 46, 44, 58, 59, 60, 62, 34, 92, 39] 381), DictEntry.mk (PyData.keyHash P (Str.ofString "OBJECT_SIGNATURES")) (Value.str (Str.ofString "OBJECT_SIGNATURES") 387) (Value.ref 104), DictEntry.mk (PyData.keyHash P (Str.ofString "object_has_sign")) (Value.str (Str.ofString "object_has_sign") 396) (Value.ref 111), DictEntry.mk (PyData.keyHash P (Str.ofString "object_are_all")) (Value.str (Str.ofString "object_are_all") 405) (Value.ref 118), DictEntry.mk (PyData.keyHash P (Str.ofString "object_trimmed")) (Value.str (Str.ofString "object_trimmed") 415) (Value.ref 125), DictEntry.mk (PyData.keyHash P (Str.ofString "object_cut_end")) (Value.str (Str.ofString "object_cut_end") 424) (Value.ref 132), DictEntry.mk (PyData.keyHash P (Str.ofString "Person")) (Value.str (Str.ofString "Person") 466) (Value.ref 156), DictEntry.mk (PyData.keyHash P (Str.ofString "read_person")) (Value.str (Str.ofString "read_person") 481) (Value.ref 167), DictEntry.mk (PyData.keyHash P (Str.ofString "person_cleaned")) (Value.str (Str.ofString "person_cleaned") 495) (Value.ref 174), DictEntry.mk (PyData.keyHash P (Str.ofString "object_head_row")) (Value.str (Str.ofString "object_head_row") 503) (Value.ref 181), DictEntry.mk (PyData.keyHash P (Str.ofString "object_head_id")) (Value.str (Str.ofString "object_head_id") 511) (Value.ref 188), DictEntry.mk (PyData.keyHash P (Str.ofString "object_heads")) (Value.str (Str.ofString "object_heads") 525) (Value.ref 195), DictEntry.mk (PyData.keyHash P (Str.ofString "ObjectHeadWalk")) (Value.str (Str.ofString "ObjectHeadWalk") 578) (Value.ref 233), DictEntry.mk (PyData.keyHash P (Str.ofString "object_rows")) (Value.str (Str.ofString "object_rows") 584) (Value.ref 242), DictEntry.mk (PyData.keyHash P (Str.ofString "object_subject")) (Value.str (Str.ofString "object_subject") 594) (Value.ref 249)] 39) #[]
noncomputable def y32_12 (P : Params) : Obj := Obj.mk Value.none none (Data.fields #[Value.int 4 0, Value.int 0 0, Value.ref 20, Value.int 8 0, Value.int 0 0, Value.ref 41, Value.int 10 0, Value.int 0 0, Value.ref 51, Value.int 12 0, Value.int 0 0, Value.ref 56, Value.int 18 0, Value.int 0 0, Value.ref 63, Value.int 24 0, Value.int 0 0, Value.ref 70, Value.int 29 0, Value.int 0 0, Value.ref 77, Value.int 40 0, Value.int 0 0, Value.ref 84, Value.int 50 0, Value.int 0 0, Value.ref 91, Value.int 61 0, Value.int 0 0, Value.ref 110, Value.int 66 0, Value.int 0 0, Value.ref 117, Value.int 71 0, Value.int 0 0, Value.ref 124, Value.int 78 0, Value.int 0 0, Value.ref 131, Value.int 83 0, Value.int 0 0, Value.ref 138, Value.int 93 0, Value.int 0 0, Value.ref 166, Value.int 113 0, Value.int 0 0, Value.ref 173, Value.int 122 0, Value.int 0 0, Value.ref 180, Value.int 124 0, Value.int 0 0, Value.ref 187, Value.int 128 0, Value.int 0 0, Value.ref 194, Value.int 149 0, Value.int 0 0, Value.ref 201, Value.int 166 0, Value.int 0 0, Value.ref 241, Value.int 168 0, Value.int 0 0, Value.ref 248]) #[]
noncomputable def tr32 (P : Params) : BT := (.node (boot_o_0 P) (.node (boot_o_1 P) (.node (y32_3 P) (.node (boot_o_7 P) (.node (kAt P 2) (.node (kAt P 10) (.node (kAt P 26) (.node (x127 P) .nil .nil) (.node (kAt P 106) .nil .nil)) (.node (x95 P) (.node (x159 P) .nil .nil) (.node (kAt P 124) .nil .nil))) (.node (x47 P) (.node (kAt P 38) (.node (kAt P 72) .nil .nil) (.node (hold (kAt P 114)) .nil .nil)) (.node (kAt P 54) (.node (kAt P 95) .nil .nil) (.node (x239 P) .nil .nil)))) (.node (kAt P 4) (.node (x39 P) (.node (kAt P 32) (.node (x135 P) .nil .nil) (.node (x199 P) .nil .nil)) (.node (x103 P) (.node (kAt P 89) .nil .nil) (.node (kAt P 130) .nil .nil))) (.node (hold (kAt P 22)) (.node (x87 P) (.node (hold (kAt P 79)) .nil .nil) (.node (kAt P 118) .nil .nil)) (.node (kAt P 60) (.node (x183 P) .nil .nil) (.node (hold (kAt P 142)) .nil .nil))))) (.node (x11 P) (.node (x19 P) (.node (x35 P) (.node (kAt P 29) (.node (kAt P 68) .nil .nil) (.node (kAt P 109) .nil .nil)) (.node (x99 P) (.node (kAt P 86) .nil .nil) (.node (kAt P 127) .nil .nil))) (.node (kAt P 18) (.node (hold (kAt P 42)) (.node (kAt P 75) .nil .nil) (.node (x211 P) .nil .nil)) (.node (kAt P 57) (.node (hold (kAt P 99)) .nil .nil) (.node (kAt P 138) .nil .nil)))) (.node (hold (kAt P 8)) (.node (kAt P 14) (.node (kAt P 35) (.node (x139 P) .nil .nil) (.node (kAt P 110) .nil .nil)) (.node (kAt P 51) (.node (kAt P 92) .nil .nil) (.node (kAt P 134) .nil .nil))) (.node (x59 P) (.node (kAt P 46) (.node (kAt P 81) .nil .nil) (.node (kAt P 121) .nil .nil)) (.node (hold (kAt P 64)) (.node (kAt P 103) .nil .nil) .nil))))) (.node (boot_o_5 P) (.node (boot_o_9 P) (.node (x17 P) (.node (kAt P 12) (.node (kAt P 28) (.node (kAt P 67) .nil .nil) (.node (hold (kAt P 109)) .nil .nil)) (.node (x97 P) (.node (kAt P 85) .nil .nil) (.node (x225 P) .nil .nil))) (.node (x49 P) (.node (kAt P 39) (.node (kAt P 73) .nil .nil) (.node (kAt P 114) .nil .nil)) (.node (x113 P) (.node (kAt P 96) .nil .nil) (.node (kAt P 136) .nil .nil)))) (.node (kAt P 5) (.node (x41 P) (.node (x73 P) (.node (x137 P) .nil .nil) (.node (x201 P) .nil .nil)) (.node (kAt P 50) (.node (x169 P) .nil .nil) (.node (kAt P 132) .nil .nil))) (.node (kAt P 22) (.node (kAt P 45) (.node (kAt P 79) .nil .nil) (.node (kAt P 120) .nil .nil)) (.node (kAt P 61) (.node (kAt P 102) .nil .nil) (.node (kAt P 142) .nil .nil))))) (.node (x13 P) (.node (x21 P) (.node (x37 P) (.node (hold (kAt P 32)) (.node (x133 P) .nil .nil) (.node (x197 P) .nil .nil)) (.node (x101 P) (.node (hold (kAt P 89)) .nil .nil) (.node (kAt P 128) .nil .nil))) (.node (kAt P 20) (.node (kAt P 42) (.node (kAt P 76) .nil .nil) (.node (kAt P 117) .nil .nil)) (.node (kAt P 58) (.node (kAt P 99) .nil .nil) (.node (kAt P 139) .nil .nil)))) (.node (kAt P 8) (.node (kAt P 16) (.node (kAt P 36) (.node (x141 P) .nil .nil) (.node (kAt P 111) .nil .nil)) (.node (hold (kAt P 54)) (.node (kAt P 93) .nil .nil) (.node (x237 P) .nil .nil))) (.node (kAt P 25) (.node (kAt P 48) (.node (kAt P 83) .nil .nil) (.node (hold (kAt P 124)) .nil .nil)) (.node (kAt P 64) (.node (kAt P 105) .nil .nil) .nil)))))) (.node (kAt P 0) (.node (boot_o_4 P) (.node (boot_o_8 P) (.node (x16 P) (.node (kAt P 11) (.node (kAt P 27) (.node (kAt P 66) .nil .nil) (.node (kAt P 107) .nil .nil)) (.node (x96 P) (.node (x160 P) .nil .nil) (.node (kAt P 125) .nil .nil))) (.node (kAt P 17) (.node (x80 P) (.node (hold (kAt P 74)) .nil .nil) (.node (kAt P 113) .nil .nil)) (.node (kAt P 55) (.node (x176 P) .nil .nil) (.node (hold (kAt P 137)) .nil .nil)))) (.node (x24 P) (.node (x40 P) (.node (kAt P 33) (.node (x136 P) .nil .nil) (.node (x200 P) .nil .nil)) (.node (kAt P 49) (.node (kAt P 90) .nil .nil) (.node (kAt P 131) .nil .nil))) (.node (kAt P 21) (.node (kAt P 44) (.node (kAt P 78) .nil .nil) (.node (kAt P 119) .nil .nil)) (.node (x120 P) (.node (kAt P 101) .nil .nil) (.node (kAt P 141) .nil .nil))))) (.node (y32_12 P) (.node (x20 P) (.node (kAt P 13) (.node (kAt P 30) (.node (kAt P 69) .nil .nil) (.node (x196 P) .nil .nil)) (.node (x100 P) (.node (kAt P 87) .nil .nil) (.node (hold (kAt P 129)) .nil .nil))) (.node (kAt P 19) (.node (kAt P 41) (.node (x148 P) .nil .nil) (.node (kAt P 116) .nil .nil)) (.node (hold (kAt P 59)) (.node (kAt P 98) .nil .nil) (.node (x244 P) .nil .nil)))) (.node (kAt P 7) (.node (kAt P 15) (.node (hold (kAt P 37)) (.node (kAt P 70) .nil .nil) (.node (x204 P) .nil .nil)) (.node (kAt P 52) (.node (hold (kAt P 94)) .nil .nil) (.node (x236 P) .nil .nil))) (.node (kAt P 24) (.node (kAt P 47) (.node (kAt P 82) .nil .nil) (.node (kAt P 122) .nil .nil)) (.node (kAt P 63) (.node (kAt P 104) .nil .nil) .nil))))) (.node (boot_o_6 P) (.node (boot_o_10 P) (.node (x18 P) (.node (x34 P) (.node (x66 P) (.node (hold (kAt P 69)) .nil .nil) (.node (kAt P 108) .nil .nil)) (.node (x98 P) (.node (x162 P) .nil .nil) (.node (kAt P 126) .nil .nil))) (.node (hold (kAt P 19)) (.node (kAt P 40) (.node (kAt P 74) .nil .nil) (.node (kAt P 115) .nil .nil)) (.node (kAt P 56) (.node (kAt P 97) .nil .nil) (.node (kAt P 137) .nil .nil)))) (.node (kAt P 6) (.node (x42 P) (.node (kAt P 34) (.node (x138 P) .nil .nil) (.node (x202 P) .nil .nil)) (.node (x106 P) (.node (kAt P 91) .nil .nil) (.node (kAt P 133) .nil .nil))) (.node (kAt P 23) (.node (hold (kAt P 47)) (.node (kAt P 80) .nil .nil) (.node (x218 P) .nil .nil)) (.node (kAt P 62) (.node (hold (kAt P 104)) .nil .nil) .nil)))) (.node (x14 P) (.node (kAt P 3) (.node (x38 P) (.node (kAt P 31) (.node (x134 P) .nil .nil) (.node (x198 P) .nil .nil)) (.node (x102 P) (.node (kAt P 88) .nil .nil) (.node (kAt P 129) .nil .nil))) (.node (x54 P) (.node (kAt P 43) (.node (kAt P 77) .nil .nil) (.node (hold (kAt P 119)) .nil .nil)) (.node (kAt P 59) (.node (kAt P 100) .nil .nil) (.node (kAt P 140) .nil .nil)))) (.node (kAt P 9) (.node (x46 P) (.node (kAt P 37) (.node (kAt P 71) .nil .nil) (.node (kAt P 112) .nil .nil)) (.node (kAt P 53) (.node (kAt P 94) .nil .nil) (.node (kAt P 135) .nil .nil))) (.node (hold (kAt P 27)) (.node (x94 P) (.node (kAt P 84) .nil .nil) (.node (kAt P 123) .nil .nil)) (.node (kAt P 65) (.node (x190 P) .nil .nil) .nil)))))))
noncomputable def st32 (w : World) (os : OsState) : SharedT := ⟨tr32 w.params, 250, Life.mk [] [] [] 0 [] [] false #[] [] 0 false false false 0 [2000, 10, 10] false 0 true [] [] 0 false, #[], Drawn.mk 0 0 0 0, 595, os⟩
noncomputable def y38_3 (P : Params) : Obj := Obj.mk (Value.type "dict") none (Data.dict #[DictEntry.mk (PyData.keyHash P (Str.ofString "__name__")) (Value.str (Str.ofString "__name__") 165) (Value.str (Str.ofString "gitcore.objects") 297), DictEntry.mk (PyData.keyHash P (Str.ofString "__doc__")) (Value.str (Str.ofString "__doc__") 166) Value.none, DictEntry.mk (PyData.keyHash P (Str.ofString "__package__")) (Value.str (Str.ofString "__package__") 167) Value.none, DictEntry.mk (PyData.keyHash P (Str.ofString "__loader__")) (Value.str (Str.ofString "__loader__") 168) (Value.builtin "__main__.__loader__#opaque"), DictEntry.mk (PyData.keyHash P (Str.ofString "__spec__")) (Value.str (Str.ofString "__spec__") 169) Value.none, DictEntry.mk (PyData.keyHash P (Str.ofString "__annotations__")) (Value.str (Str.ofString "__annotations__") 170) (Value.ref 6), DictEntry.mk (PyData.keyHash P (Str.ofString "__builtins__")) (Value.str (Str.ofString "__builtins__") 171) (Value.ref 4), DictEntry.mk (PyData.keyHash P (Str.ofString "__file__")) (Value.str (Str.ofString "__file__") 173) (Value.str (Str.ofString "/claim/cut.py") 172), DictEntry.mk (PyData.keyHash P (Str.ofString "__cached__")) (Value.str (Str.ofString "__cached__") 174) Value.none, DictEntry.mk (PyData.keyHash P (Str.ofString "HEX_SIGNS")) (Value.str (Str.ofString "HEX_SIGNS") 190) (Value.str (Str.ofString "0123456789abcdef") 189), DictEntry.mk (PyData.keyHash P (Str.ofString "NOUGHT_SIGN")) (Value.str (Str.ofString "NOUGHT_SIGN") 192) (Value.int 48 191), DictEntry.mk (PyData.keyHash P (Str.ofString "GitError")) (Value.str (Str.ofString "GitError") 222) (Value.ref 32), DictEntry.mk (PyData.keyHash P (Str.ofString "BadObject")) (Value.str (Str.ofString "BadObject") 238) (Value.ref 45), DictEntry.mk (PyData.keyHash P (Str.ofString "text_of")) (Value.str (Str.ofString "text_of") 244) (Value.ref 52), DictEntry.mk (PyData.keyHash P (Str.ofString "octets_of")) (Value.str (Str.ofString "octets_of") 250) (Value.ref 57), DictEntry.mk (PyData.keyHash P (Str.ofString "hex_of")) (Value.str (Str.ofString "hex_of") 259) (Value.ref 64), DictEntry.mk (PyData.keyHash P (Str.ofString "hex_digit")) (Value.str (Str.ofString "hex_digit") 267) (Value.ref 71), DictEntry.mk (PyData.keyHash P (Str.ofString "octets_of_hex")) (Value.str (Str.ofString "octets_of_hex") 278) (Value.ref 78), DictEntry.mk (PyData.keyHash P (Str.ofString "number_by")) (Value.str (Str.ofString "number_by") 289) (Value.ref 85), DictEntry.mk (PyData.keyHash P (Str.ofString "number_of")) (Value.str (Str.ofString "number_of") 296) (Value.ref 92), DictEntry.mk (PyData.keyHash P (Str.ofString "OBJECT_KINDS")) (Value.str (Str.ofString "OBJECT_KINDS") 303) (Value.ref 93), DictEntry.mk (PyData.keyHash P (Str.ofString "OBJECT_HEX")) (Value.str (Str.ofString "OBJECT_HEX") 305) (Value.bytes #[48, 49, 50, 51, 52, 53, 54, 55, 56, 57, 97, 98, 99, 100, 101, 102] 304), DictEntry.mk (PyData.keyHash P (Str.ofString "OBJECT_DIGITS")) (Value.str (Str.ofString "OBJECT_DIGITS") 307) (Value.bytes #[48, 49, 50, 51, 52, 53, 54, 55, 56, 57] 306), DictEntry.mk (PyData.keyHash P (Str.ofString "OBJECT_BLANKS")) (Value.str (Str.ofString "OBJECT_BLANKS") 309) (Value.bytes #[32, 9, 13, 11, 12] 308), DictEntry.mk (PyData.keyHash P (Str.ofString "OBJECT_CRUD")) (Value.str (Str.ofString "OBJECT_CRUD") 382) (Value.bytes #[0, 1, 2, 3, 4, 5, 6, 7, 8, 9, 10, 11, 12, 13, 14, 15, 16, 17, 18, 19, 20, 21, 22, 23, 24, 25, 26, 27, 28, 29, 30, 31, 32, 46, 44, 58, 59, 60, 62, 34, 92, 39] 381), DictEntry.mk (PyData.keyHash P (Str.ofString "OBJECT_SIGNATURES")) (Value.str (Str.ofString "OBJECT_SIGNATURES") 387) (Value.ref 104), DictEntry.mk (PyData.keyHash P (Str.ofString "object_has_sign")) (Value.str (Str.ofString "object_has_sign") 396) (Value.ref 111), DictEntry.mk (PyData.keyHash P (Str.ofString "object_are_all")) (Value.str (Str.ofString "object_are_all") 405) (Value.ref 118), DictEntry.mk (PyData.keyHash P (Str.ofString "object_trimmed")) (Value.str (Str.ofString "object_trimmed") 415) (Value.ref 125), DictEntry.mk (PyData.keyHash P (Str.ofString "object_cut_end")) (Value.str (Str.ofString "object_cut_end") 424) (Value.ref 132), DictEntry.mk (PyData.keyHash P (Str.ofString "Person")) (Value.str (Str.ofString "Person") 466) (Value.ref 156), DictEntry.mk (PyData.keyHash P (Str.ofString "read_person")) (Value.str (Str.ofString "read_person") 481) (Value.ref 167), DictEntry.mk (PyData.keyHash P (Str.ofString "person_cleaned")) (Value.str (Str.ofString "person_cleaned") 495) (Value.ref 174), DictEntry.mk (PyData.keyHash P (Str.ofString "object_head_row")) (Value.str (Str.ofString "object_head_row") 503) (Value.ref 181), DictEntry.mk (PyData.keyHash P (Str.ofString "object_head_id")) (Value.str (Str.ofString "object_head_id") 511) (Value.ref 188), DictEntry.mk (PyData.keyHash P (Str.ofString "object_heads")) (Value.str (Str.ofString "object_heads") 525) (Value.ref 195), DictEntry.mk (PyData.keyHash P (Str.ofString "ObjectHeadWalk")) (Value.str (Str.ofString "ObjectHeadWalk") 578) (Value.ref 233), DictEntry.mk (PyData.keyHash P (Str.ofString "object_rows")) (Value.str (Str.ofString "object_rows") 584) (Value.ref 242), DictEntry.mk (PyData.keyHash P (Str.ofString "object_subject")) (Value.str (Str.ofString "object_subject") 594) (Value.ref 249), DictEntry.mk (PyData.keyHash P (Str.ofString "Commit")) (Value.str (Str.ofString "Commit") 651) (Value.ref 280), DictEntry.mk (PyData.keyHash P (Str.ofString "commit_body")) (Value.str (Str.ofString "commit_body") 659) (Value.ref 291), DictEntry.mk (PyData.keyHash P (Str.ofString "object_signature_at")) (Value.str (Str.ofString "object_signature_at") 670) (Value.ref 298), DictEntry.mk (PyData.keyHash P (Str.ofString "Tag")) (Value.str (Str.ofString "Tag") 725) (Value.ref 330), DictEntry.mk (PyData.keyHash P (Str.ofString "read_tag")) (Value.str (Str.ofString "read_tag") 741) (Value.ref 341), DictEntry.mk (PyData.keyHash P (Str.ofString "object_message")) (Value.str (Str.ofString "object_message") 752) (Value.ref 349)] 45) #[]
noncomputable def y38_12 (P : Params) : Obj := Obj.mk Value.none none (Data.fields #[Value.int 4 0, Value.int 0 0, Value.ref 20, Value.int 8 0, Value.int 0 0, Value.ref 41, Value.int 10 0, Value.int 0 0, Value.ref 51, Value.int 12 0, Value.int 0 0, Value.ref 56, Value.int 18 0, Value.int 0 0, Value.ref 63, Value.int 24 0, Value.int 0 0, Value.ref 70, Value.int 29 0, Value.int 0 0, Value.ref 77, Value.int 40 0, Value.int 0 0, Value.ref 84, Value.int 50 0, Value.int 0 0, Value.ref 91, Value.int 61 0, Value.int 0 0, Value.ref 110, Value.int 66 0, Value.int 0 0, Value.ref 117, Value.int 71 0, Value.int 0 0, Value.ref 124, Value.int 78 0, Value.int 0 0, Value.ref 131, Value.int 83 0, Value.int 0 0, Value.ref 138, Value.int 93 0, Value.int 0 0, Value.ref 166, Value.int 113 0, Value.int 0 0, Value.ref 173, Value.int 122 0, Value.int 0 0, Value.ref 180, Value.int 124 0, Value.int 0 0, Value.ref 187, Value.int 128 0, Value.int 0 0, Value.ref 194, Value.int 149 0, Value.int 0 0, Value.ref 201, Value.int 166 0, Value.int 0 0, Value.ref 241, Value.int 168 0, Value.int 0 0, Value.ref 248, Value.int 176 0, Value.int 0 0, Value.ref 255, Value.int 199 0, Value.int 0 0, Value.ref 290, Value.int 204 0, Value.int 0 0, Value.ref 297, Value.int 213 0, Value.int 0 0, Value.ref 304, Value.int 234 0, Value.int 0 0, Value.ref 340, Value.int 247 0, Value.int 0 0, Value.ref 348]) #[]
noncomputable def tr38 (P : Params) : BT := (.node (boot_o_0 P) (.node (boot_o_1 P) (.node (y38_3 P) (.node (boot_o_7 P) (.node (kAt P 2) (.node (kAt P 10) (.node (kAt P 26) (.node (x127 P) (.node (x255 P) .nil .nil) .nil) (.node (kAt P 106) (.node (kAt P 182) .nil .nil) .nil)) (.node (x95 P) (.node (x159 P) (.node (kAt P 164) .nil .nil) .nil) (.node (kAt P 124) .nil .nil))) (.node (x47 P) (.node (kAt P 38) (.node (kAt P 72) (.node (kAt P 153) .nil .nil) .nil) (.node (hold (kAt P 114)) (.node (kAt P 194) .nil .nil) .nil)) (.node (kAt P 54) (.node (kAt P 95) (.node (x303 P) .nil .nil) .nil) (.node (x239 P) .nil .nil)))) (.node (kAt P 4) (.node (x39 P) (.node (kAt P 32) (.node (x135 P) (.node (kAt P 147) .nil .nil) .nil) (.node (x199 P) (.node (kAt P 188) .nil .nil) .nil)) (.node (x103 P) (.node (kAt P 89) (.node (kAt P 170) .nil .nil) .nil) (.node (kAt P 130) .nil .nil))) (.node (hold (kAt P 22)) (.node (x87 P) (.node (hold (kAt P 79)) (.node (kAt P 159) .nil .nil) .nil) (.node (kAt P 118) (.node (kAt P 200) .nil .nil) .nil)) (.node (kAt P 60) (.node (x183 P) (.node (hold (kAt P 178)) .nil .nil) .nil) (.node (hold (kAt P 142)) .nil .nil))))) (.node (x11 P) (.node (x19 P) (.node (x35 P) (.node (kAt P 29) (.node (kAt P 68) (.node (kAt P 144) .nil .nil) .nil) (.node (kAt P 109) (.node (kAt P 185) .nil .nil) .nil)) (.node (x99 P) (.node (kAt P 86) (.node (kAt P 167) .nil .nil) .nil) (.node (kAt P 127) .nil .nil))) (.node (kAt P 18) (.node (hold (kAt P 42)) (.node (kAt P 75) (.node (hold (kAt P 157)) .nil .nil) .nil) (.node (x211 P) (.node (hold (kAt P 198)) .nil .nil) .nil)) (.node (kAt P 57) (.node (hold (kAt P 99)) (.node (kAt P 174) .nil .nil) .nil) (.node (kAt P 138) .nil .nil)))) (.node (hold (kAt P 8)) (.node (kAt P 14) (.node (kAt P 35) (.node (x139 P) (.node (kAt P 150) .nil .nil) .nil) (.node (kAt P 110) (.node (kAt P 192) .nil .nil) .nil)) (.node (kAt P 51) (.node (kAt P 92) (.node (x299 P) .nil .nil) .nil) (.node (kAt P 134) .nil .nil))) (.node (x59 P) (.node (kAt P 46) (.node (kAt P 81) (.node (x283 P) .nil .nil) .nil) (.node (kAt P 121) (.node (hold (kAt P 204)) .nil .nil) .nil)) (.node (hold (kAt P 64)) (.node (kAt P 103) (.node (x315 P) .nil .nil) .nil) (.node (x251 P) .nil .nil)))))) (.node (boot_o_5 P) (.node (boot_o_9 P) (.node (x17 P) (.node (kAt P 12) (.node (kAt P 28) (.node (kAt P 67) (.node (kAt P 143) .nil .nil) .nil) (.node (hold (kAt P 109)) (.node (kAt P 184) .nil .nil) .nil)) (.node (x97 P) (.node (kAt P 85) (.node (hold (kAt P 167)) .nil .nil) .nil) (.node (x225 P) .nil .nil))) (.node (x49 P) (.node (kAt P 39) (.node (kAt P 73) (.node (kAt P 154) .nil .nil) .nil) (.node (kAt P 114) (.node (kAt P 195) .nil .nil) .nil)) (.node (x113 P) (.node (kAt P 96) (.node (x305 P) .nil .nil) .nil) (.node (kAt P 136) .nil .nil)))) (.node (kAt P 5) (.node (x41 P) (.node (x73 P) (.node (x137 P) (.node (x265 P) .nil .nil) .nil) (.node (x201 P) (.node (kAt P 190) .nil .nil) .nil)) (.node (kAt P 50) (.node (x169 P) (.node (kAt P 171) .nil .nil) .nil) (.node (kAt P 132) .nil .nil))) (.node (kAt P 22) (.node (kAt P 45) (.node (kAt P 79) (.node (kAt P 161) .nil .nil) .nil) (.node (kAt P 120) (.node (kAt P 201) .nil .nil) .nil)) (.node (kAt P 61) (.node (kAt P 102) (.node (kAt P 178) .nil .nil) .nil) (.node (kAt P 142) .nil .nil))))) (.node (x13 P) (.node (x21 P) (.node (x37 P) (.node (hold (kAt P 32)) (.node (x133 P) (.node (hold (kAt P 147)) .nil .nil) .nil) (.node (x197 P) (.node (hold (kAt P 188)) .nil .nil) .nil)) (.node (x101 P) (.node (hold (kAt P 89)) (.node (x293 P) .nil .nil) .nil) (.node (kAt P 128) .nil .nil))) (.node (kAt P 20) (.node (kAt P 42) (.node (kAt P 76) (.node (kAt P 157) .nil .nil) .nil) (.node (kAt P 117) (.node (kAt P 198) .nil .nil) .nil)) (.node (kAt P 58) (.node (kAt P 99) (.node (kAt P 175) .nil .nil) .nil) (.node (kAt P 139) .nil .nil)))) (.node (kAt P 8) (.node (kAt P 16) (.node (kAt P 36) (.node (x141 P) (.node (kAt P 151) .nil .nil) .nil) (.node (kAt P 111) (.node (x333 P) .nil .nil) .nil)) (.node (hold (kAt P 54)) (.node (kAt P 93) (.node (x301 P) .nil .nil) .nil) (.node (x237 P) .nil .nil))) (.node (kAt P 25) (.node (kAt P 48) (.node (kAt P 83) (.node (kAt P 163) .nil .nil) .nil) (.node (hold (kAt P 124)) (.node (kAt P 204) .nil .nil) .nil)) (.node (kAt P 64) (.node (kAt P 105) (.node (kAt P 181) .nil .nil) .nil) (.node (x253 P) .nil .nil))))))) (.node (kAt P 0) (.node (boot_o_4 P) (.node (boot_o_8 P) (.node (x16 P) (.node (kAt P 11) (.node (kAt P 27) (.node (kAt P 66) (.node (x256 P) .nil .nil) .nil) (.node (kAt P 107) (.node (kAt P 183) .nil .nil) .nil)) (.node (x96 P) (.node (x160 P) (.node (kAt P 165) .nil .nil) .nil) (.node (kAt P 125) .nil .nil))) (.node (kAt P 17) (.node (x80 P) (.node (hold (kAt P 74)) (.node (x272 P) .nil .nil) .nil) (.node (kAt P 113) (.node (x336 P) .nil .nil) .nil)) (.node (kAt P 55) (.node (x176 P) (.node (x304 P) .nil .nil) .nil) (.node (hold (kAt P 137)) .nil .nil)))) (.node (x24 P) (.node (x40 P) (.node (kAt P 33) (.node (x136 P) (.node (kAt P 148) .nil .nil) .nil) (.node (x200 P) (.node (kAt P 189) .nil .nil) .nil)) (.node (kAt P 49) (.node (kAt P 90) (.node (hold (kAt P 172)) .nil .nil) .nil) (.node (kAt P 131) .nil .nil))) (.node (kAt P 21) (.node (kAt P 44) (.node (kAt P 78) (.node (kAt P 160) .nil .nil) .nil) (.node (kAt P 119) (.node (x344 P) .nil .nil) .nil)) (.node (x120 P) (.node (kAt P 101) (.node (kAt P 177) .nil .nil) .nil) (.node (kAt P 141) .nil .nil))))) (.node (y38_12 P) (.node (x20 P) (.node (kAt P 13) (.node (kAt P 30) (.node (kAt P 69) (.node (kAt P 145) .nil .nil) .nil) (.node (x196 P) (.node (kAt P 186) .nil .nil) .nil)) (.node (x100 P) (.node (kAt P 87) (.node (kAt P 168) .nil .nil) .nil) (.node (hold (kAt P 129)) .nil .nil))) (.node (kAt P 19) (.node (kAt P 41) (.node (x148 P) (.node (kAt P 156) .nil .nil) .nil) (.node (kAt P 116) (.node (kAt P 197) .nil .nil) .nil)) (.node (hold (kAt P 59)) (.node (kAt P 98) (.node (x308 P) .nil .nil) .nil) (.node (x244 P) .nil .nil)))) (.node (kAt P 7) (.node (kAt P 15) (.node (hold (kAt P 37)) (.node (kAt P 70) (.node (hold (kAt P 152)) .nil .nil) .nil) (.node (x204 P) (.node (kAt P 193) .nil .nil) .nil)) (.node (kAt P 52) (.node (hold (kAt P 94)) (.node (x300 P) .nil .nil) .nil) (.node (x236 P) .nil .nil))) (.node (kAt P 24) (.node (kAt P 47) (.node (kAt P 82) (.node (x284 P) .nil .nil) .nil) (.node (kAt P 122) (.node (kAt P 203) .nil .nil) .nil)) (.node (kAt P 63) (.node (kAt P 104) (.node (kAt P 180) .nil .nil) .nil) (.node (x252 P) .nil .nil)))))) (.node (boot_o_6 P) (.node (boot_o_10 P) (.node (x18 P) (.node (x34 P) (.node (x66 P) (.node (hold (kAt P 69)) (.node (x258 P) .nil .nil) .nil) (.node (kAt P 108) (.node (x322 P) .nil .nil) .nil)) (.node (x98 P) (.node (x162 P) (.node (kAt P 166) .nil .nil) .nil) (.node (kAt P 126) .nil .nil))) (.node (hold (kAt P 19)) (.node (kAt P 40) (.node (kAt P 74) (.node (kAt P 155) .nil .nil) .nil) (.node (kAt P 115) (.node (kAt P 196) .nil .nil) .nil)) (.node (kAt P 56) (.node (kAt P 97) (.node (kAt P 173) .nil .nil) .nil) (.node (kAt P 137) .nil .nil)))) (.node (kAt P 6) (.node (x42 P) (.node (kAt P 34) (.node (x138 P) (.node (kAt P 149) .nil .nil) .nil) (.node (x202 P) (.node (kAt P 191) .nil .nil) .nil)) (.node (x106 P) (.node (kAt P 91) (.node (kAt P 172) .nil .nil) .nil) (.node (kAt P 133) .nil .nil))) (.node (kAt P 23) (.node (hold (kAt P 47)) (.node (kAt P 80) (.node (kAt P 162) .nil .nil) .nil) (.node (x218 P) (.node (kAt P 202) .nil .nil) .nil)) (.node (kAt P 62) (.node (hold (kAt P 104)) (.node (kAt P 179) .nil .nil) .nil) (.node (x250 P) .nil .nil))))) (.node (x14 P) (.node (kAt P 3) (.node (x38 P) (.node (kAt P 31) (.node (x134 P) (.node (kAt P 146) .nil .nil) .nil) (.node (x198 P) (.node (kAt P 187) .nil .nil) .nil)) (.node (x102 P) (.node (kAt P 88) (.node (kAt P 169) .nil .nil) .nil) (.node (kAt P 129) .nil .nil))) (.node (x54 P) (.node (kAt P 43) (.node (kAt P 77) (.node (kAt P 158) .nil .nil) .nil) (.node (hold (kAt P 119)) (.node (kAt P 199) .nil .nil) .nil)) (.node (kAt P 59) (.node (kAt P 100) (.node (kAt P 176) .nil .nil) .nil) (.node (kAt P 140) .nil .nil)))) (.node (kAt P 9) (.node (x46 P) (.node (kAt P 37) (.node (kAt P 71) (.node (kAt P 152) .nil .nil) .nil) (.node (kAt P 112) (.node (x334 P) .nil .nil) .nil)) (.node (kAt P 53) (.node (kAt P 94) (.node (x302 P) .nil .nil) .nil) (.node (kAt P 135) .nil .nil))) (.node (hold (kAt P 27)) (.node (x94 P) (.node (kAt P 84) (.node (x286 P) .nil .nil) .nil) (.node (kAt P 123) .nil .nil)) (.node (kAt P 65) (.node (x190 P) (.node (hold (kAt P 183)) .nil .nil) .nil) (.node (x254 P) .nil .nil))))))))
noncomputable def st38 (w : World) (os : OsState) : SharedT := ⟨tr38 w.params, 350, Life.mk [] [] [] 0 [] [] false #[] [] 0 false false false 0 [2000, 10, 10] false 0 true [] [] 0 false, #[], Drawn.mk 0 0 0 0, 753, os⟩
noncomputable def y46_3 (P : Params) : Obj := Obj.mk (Value.type "dict") none (Data.dict #[DictEntry.mk (PyData.keyHash P (Str.ofString "__name__")) (Value.str (Str.ofString "__name__") 165) (Value.str (Str.ofString "law_nt0282_01") 753), DictEntry.mk (PyData.keyHash P (Str.ofString "__doc__")) (Value.str (Str.ofString "__doc__") 166) Value.none, DictEntry.mk (PyData.keyHash P (Str.ofString "__package__")) (Value.str (Str.ofString "__package__") 167) Value.none, DictEntry.mk (PyData.keyHash P (Str.ofString "__loader__")) (Value.str (Str.ofString "__loader__") 168) (Value.builtin "__main__.__loader__#opaque"), DictEntry.mk (PyData.keyHash P (Str.ofString "__spec__")) (Value.str (Str.ofString "__spec__") 169) Value.none, DictEntry.mk (PyData.keyHash P (Str.ofString "__annotations__")) (Value.str (Str.ofString "__annotations__") 170) (Value.ref 6), DictEntry.mk (PyData.keyHash P (Str.ofString "__builtins__")) (Value.str (Str.ofString "__builtins__") 171) (Value.ref 4), DictEntry.mk (PyData.keyHash P (Str.ofString "__file__")) (Value.str (Str.ofString "__file__") 173) (Value.str (Str.ofString "/claim/cut.py") 172), DictEntry.mk (PyData.keyHash P (Str.ofString "__cached__")) (Value.str (Str.ofString "__cached__") 174) Value.none, DictEntry.mk (PyData.keyHash P (Str.ofString "HEX_SIGNS")) (Value.str (Str.ofString "HEX_SIGNS") 190) (Value.str (Str.ofString "0123456789abcdef") 189), DictEntry.mk (PyData.keyHash P (Str.ofString "NOUGHT_SIGN")) (Value.str (Str.ofString "NOUGHT_SIGN") 192) (Value.int 48 191), DictEntry.mk (PyData.keyHash P (Str.ofString "GitError")) (Value.str (Str.ofString "GitError") 222) (Value.ref 32), DictEntry.mk (PyData.keyHash P (Str.ofString "BadObject")) (Value.str (Str.ofString "BadObject") 238) (Value.ref 45), DictEntry.mk (PyData.keyHash P (Str.ofString "text_of")) (Value.str (Str.ofString "text_of") 244) (Value.ref 52), DictEntry.mk (PyData.keyHash P (Str.ofString "octets_of")) (Value.str (Str.ofString "octets_of") 250) (Value.ref 57), DictEntry.mk (PyData.keyHash P (Str.ofString "hex_of")) (Value.str (Str.ofString "hex_of") 259) (Value.ref 64), DictEntry.mk (PyData.keyHash P (Str.ofString "hex_digit")) (Value.str (Str.ofString "hex_digit") 267) (Value.ref 71), DictEntry.mk (PyData.keyHash P (Str.ofString "octets_of_hex")) (Value.str (Str.ofString "octets_of_hex") 278) (Value.ref 78), DictEntry.mk (PyData.keyHash P (Str.ofString "number_by")) (Value.str (Str.ofString "number_by") 289) (Value.ref 85), DictEntry.mk (PyData.keyHash P (Str.ofString "number_of")) (Value.str (Str.ofString "number_of") 296) (Value.ref 92), DictEntry.mk (PyData.keyHash P (Str.ofString "OBJECT_KINDS")) (Value.str (Str.ofString "OBJECT_KINDS") 303) (Value.ref 93), DictEntry.mk (PyData.keyHash P (Str.ofString "OBJECT_HEX")) (Value.str (Str.ofString "OBJECT_HEX") 305) (Value.bytes #[48, 49, 50, 51, 52, 53, 54, 55, 56, 57, 97, 98, 99, 100, 101, 102] 304), DictEntry.mk (PyData.keyHash P (Str.ofString "OBJECT_DIGITS")) (Value.str (Str.ofString "OBJECT_DIGITS") 307) (Value.bytes #[48, 49, 50, 51, 52, 53, 54, 55, 56, 57] 306), DictEntry.mk (PyData.keyHash P (Str.ofString "OBJECT_BLANKS")) (Value.str (Str.ofString "OBJECT_BLANKS") 309) (Value.bytes #[32, 9, 13, 11, 12] 308), DictEntry.mk (PyData.keyHash P (Str.ofString "OBJECT_CRUD")) (Value.str (Str.ofString "OBJECT_CRUD") 382) (Value.bytes #[0, 1, 2, 3, 4, 5, 6, 7, 8, 9, 10, 11, 12, 13, 14, 15, 16, 17, 18, 19, 20, 21, 22, 23, 24, 25, 26, 27, 28, 29, 30, 31, 32, 46, 44, 58, 59, 60, 62, 34, 92, 39] 381), DictEntry.mk (PyData.keyHash P (Str.ofString "OBJECT_SIGNATURES")) (Value.str (Str.ofString "OBJECT_SIGNATURES") 387) (Value.ref 104), DictEntry.mk (PyData.keyHash P (Str.ofString "object_has_sign")) (Value.str (Str.ofString "object_has_sign") 396) (Value.ref 111), DictEntry.mk (PyData.keyHash P (Str.ofString "object_are_all")) (Value.str (Str.ofString "object_are_all") 405) (Value.ref 118), DictEntry.mk (PyData.keyHash P (Str.ofString "object_trimmed")) (Value.str (Str.ofString "object_trimmed") 415) (Value.ref 125), DictEntry.mk (PyData.keyHash P (Str.ofString "object_cut_end")) (Value.str (Str.ofString "object_cut_end") 424) (Value.ref 132), DictEntry.mk (PyData.keyHash P (Str.ofString "Person")) (Value.str (Str.ofString "Person") 466) (Value.ref 156), DictEntry.mk (PyData.keyHash P (Str.ofString "read_person")) (Value.str (Str.ofString "read_person") 481) (Value.ref 167), DictEntry.mk (PyData.keyHash P (Str.ofString "person_cleaned")) (Value.str (Str.ofString "person_cleaned") 495) (Value.ref 174), DictEntry.mk (PyData.keyHash P (Str.ofString "object_head_row")) (Value.str (Str.ofString "object_head_row") 503) (Value.ref 181), DictEntry.mk (PyData.keyHash P (Str.ofString "object_head_id")) (Value.str (Str.ofString "object_head_id") 511) (Value.ref 188), DictEntry.mk (PyData.keyHash P (Str.ofString "object_heads")) (Value.str (Str.ofString "object_heads") 525) (Value.ref 195), DictEntry.mk (PyData.keyHash P (Str.ofString "ObjectHeadWalk")) (Value.str (Str.ofString "ObjectHeadWalk") 578) (Value.ref 233), DictEntry.mk (PyData.keyHash P (Str.ofString "object_rows")) (Value.str (Str.ofString "object_rows") 584) (Value.ref 242), DictEntry.mk (PyData.keyHash P (Str.ofString "object_subject")) (Value.str (Str.ofString "object_subject") 594) (Value.ref 249), DictEntry.mk (PyData.keyHash P (Str.ofString "Commit")) (Value.str (Str.ofString "Commit") 651) (Value.ref 280), DictEntry.mk (PyData.keyHash P (Str.ofString "commit_body")) (Value.str (Str.ofString "commit_body") 659) (Value.ref 291), DictEntry.mk (PyData.keyHash P (Str.ofString "object_signature_at")) (Value.str (Str.ofString "object_signature_at") 670) (Value.ref 298), DictEntry.mk (PyData.keyHash P (Str.ofString "Tag")) (Value.str (Str.ofString "Tag") 725) (Value.ref 330), DictEntry.mk (PyData.keyHash P (Str.ofString "read_tag")) (Value.str (Str.ofString "read_tag") 741) (Value.ref 341), DictEntry.mk (PyData.keyHash P (Str.ofString "object_message")) (Value.str (Str.ofString "object_message") 752) (Value.ref 349), DictEntry.mk (PyData.keyHash P (Str.ofString "_law_deck")) (Value.str (Str.ofString "_law_deck") 760) (Value.ref 354), DictEntry.mk (PyData.keyHash P (Str.ofString "_law_draw")) (Value.str (Str.ofString "_law_draw") 770) (Value.ref 361), DictEntry.mk (PyData.keyHash P (Str.ofString "_law_pick")) (Value.str (Str.ofString "_law_pick") 778) (Value.ref 368), DictEntry.mk (PyData.keyHash P (Str.ofString "_law_cut")) (Value.str (Str.ofString "_law_cut") 786) (Value.ref 375), DictEntry.mk (PyData.keyHash P (Str.ofString "_law_cleaned")) (Value.str (Str.ofString "_law_cleaned") 798) (Value.ref 382), DictEntry.mk (PyData.keyHash P (Str.ofString "_law_body")) (Value.str (Str.ofString "_law_body") 806) (Value.ref 389), DictEntry.mk (PyData.keyHash P (Str.ofString "_law_opens")) (Value.str (Str.ofString "_law_opens") 812) (Value.ref 394)] 52) #[]
noncomputable def y46_12 (P : Params) : Obj := Obj.mk Value.none none (Data.fields #[Value.int 4 0, Value.int 0 0, Value.ref 20, Value.int 8 0, Value.int 0 0, Value.ref 41, Value.int 10 0, Value.int 0 0, Value.ref 51, Value.int 12 0, Value.int 0 0, Value.ref 56, Value.int 18 0, Value.int 0 0, Value.ref 63, Value.int 24 0, Value.int 0 0, Value.ref 70, Value.int 29 0, Value.int 0 0, Value.ref 77, Value.int 40 0, Value.int 0 0, Value.ref 84, Value.int 50 0, Value.int 0 0, Value.ref 91, Value.int 61 0, Value.int 0 0, Value.ref 110, Value.int 66 0, Value.int 0 0, Value.ref 117, Value.int 71 0, Value.int 0 0, Value.ref 124, Value.int 78 0, Value.int 0 0, Value.ref 131, Value.int 83 0, Value.int 0 0, Value.ref 138, Value.int 93 0, Value.int 0 0, Value.ref 166, Value.int 113 0, Value.int 0 0, Value.ref 173, Value.int 122 0, Value.int 0 0, Value.ref 180, Value.int 124 0, Value.int 0 0, Value.ref 187, Value.int 128 0, Value.int 0 0, Value.ref 194, Value.int 149 0, Value.int 0 0, Value.ref 201, Value.int 166 0, Value.int 0 0, Value.ref 241, Value.int 168 0, Value.int 0 0, Value.ref 248, Value.int 176 0, Value.int 0 0, Value.ref 255, Value.int 199 0, Value.int 0 0, Value.ref 290, Value.int 204 0, Value.int 0 0, Value.ref 297, Value.int 213 0, Value.int 0 0, Value.ref 304, Value.int 234 0, Value.int 0 0, Value.ref 340, Value.int 247 0, Value.int 0 0, Value.ref 348, Value.int 261 0, Value.int 0 0, Value.ref 353, Value.int 266 0, Value.int 0 0, Value.ref 360, Value.int 278 0, Value.int 0 0, Value.ref 367, Value.int 280 0, Value.int 0 0, Value.ref 374, Value.int 285 0, Value.int 0 0, Value.ref 381, Value.int 296 0, Value.int 0 0, Value.ref 388, Value.int 305 0, Value.int 0 0, Value.ref 393]) #[]
noncomputable def tr46 (P : Params) : BT := (.node (boot_o_0 P) (.node (boot_o_1 P) (.node (y46_3 P) (.node (boot_o_7 P) (.node (kAt P 2) (.node (kAt P 10) (.node (kAt P 26) (.node (x127 P) (.node (x255 P) .nil .nil) (.node (kAt P 228) .nil .nil)) (.node (kAt P 106) (.node (kAt P 182) .nil .nil) .nil)) (.node (x95 P) (.node (x159 P) (.node (kAt P 164) .nil .nil) .nil) (.node (kAt P 124) (.node (x351 P) .nil .nil) .nil))) (.node (x47 P) (.node (kAt P 38) (.node (kAt P 72) (.node (kAt P 153) .nil .nil) .nil) (.node (hold (kAt P 114)) (.node (kAt P 194) .nil .nil) .nil)) (.node (kAt P 54) (.node (kAt P 95) (.node (x303 P) .nil .nil) .nil) (.node (x239 P) (.node (kAt P 216) .nil .nil) .nil)))) (.node (kAt P 4) (.node (x39 P) (.node (kAt P 32) (.node (x135 P) (.node (kAt P 147) .nil .nil) (.node (x391 P) .nil .nil)) (.node (x199 P) (.node (kAt P 188) .nil .nil) .nil)) (.node (x103 P) (.node (kAt P 89) (.node (kAt P 170) .nil .nil) .nil) (.node (kAt P 130) (.node (hold (kAt P 212)) .nil .nil) .nil))) (.node (hold (kAt P 22)) (.node (x87 P) (.node (hold (kAt P 79)) (.node (kAt P 159) .nil .nil) .nil) (.node (kAt P 118) (.node (kAt P 200) .nil .nil) .nil)) (.node (kAt P 60) (.node (x183 P) (.node (hold (kAt P 178)) .nil .nil) .nil) (.node (hold (kAt P 142)) (.node (kAt P 222) .nil .nil) .nil))))) (.node (x11 P) (.node (x19 P) (.node (x35 P) (.node (kAt P 29) (.node (kAt P 68) (.node (kAt P 144) .nil .nil) (.node (hold (kAt P 232)) .nil .nil)) (.node (kAt P 109) (.node (kAt P 185) .nil .nil) .nil)) (.node (x99 P) (.node (kAt P 86) (.node (kAt P 167) .nil .nil) .nil) (.node (kAt P 127) (.node (kAt P 208) .nil .nil) .nil))) (.node (kAt P 18) (.node (hold (kAt P 42)) (.node (kAt P 75) (.node (hold (kAt P 157)) .nil .nil) .nil) (.node (x211 P) (.node (hold (kAt P 198)) .nil .nil) .nil)) (.node (kAt P 57) (.node (hold (kAt P 99)) (.node (kAt P 174) .nil .nil) .nil) (.node (kAt P 138) (.node (kAt P 219) .nil .nil) .nil)))) (.node (hold (kAt P 8)) (.node (kAt P 14) (.node (kAt P 35) (.node (x139 P) (.node (kAt P 150) .nil .nil) .nil) (.node (kAt P 110) (.node (kAt P 192) .nil .nil) .nil)) (.node (kAt P 51) (.node (kAt P 92) (.node (x299 P) .nil .nil) .nil) (.node (kAt P 134) (.node (x363 P) .nil .nil) .nil))) (.node (x59 P) (.node (kAt P 46) (.node (kAt P 81) (.node (x283 P) .nil .nil) .nil) (.node (kAt P 121) (.node (hold (kAt P 204)) .nil .nil) .nil)) (.node (hold (kAt P 64)) (.node (kAt P 103) (.node (x315 P) .nil .nil) .nil) (.node (x251 P) (.node (kAt P 225) .nil .nil) .nil)))))) (.node (boot_o_5 P) (.node (boot_o_9 P) (.node (x17 P) (.node (kAt P 12) (.node (kAt P 28) (.node (kAt P 67) (.node (kAt P 143) .nil .nil) (.node (kAt P 229) .nil .nil)) (.node (hold (kAt P 109)) (.node (kAt P 184) .nil .nil) .nil)) (.node (x97 P) (.node (kAt P 85) (.node (hold (kAt P 167)) .nil .nil) .nil) (.node (x225 P) (.node (kAt P 206) .nil .nil) .nil))) (.node (x49 P) (.node (kAt P 39) (.node (kAt P 73) (.node (kAt P 154) .nil .nil) .nil) (.node (kAt P 114) (.node (kAt P 195) .nil .nil) .nil)) (.node (x113 P) (.node (kAt P 96) (.node (x305 P) .nil .nil) .nil) (.node (kAt P 136) (.node (kAt P 218) .nil .nil) .nil)))) (.node (kAt P 5) (.node (x41 P) (.node (x73 P) (.node (x137 P) (.node (x265 P) .nil .nil) (.node (kAt P 234) .nil .nil)) (.node (x201 P) (.node (kAt P 190) .nil .nil) .nil)) (.node (kAt P 50) (.node (x169 P) (.node (kAt P 171) .nil .nil) .nil) (.node (kAt P 132) (.node (kAt P 212) .nil .nil) .nil))) (.node (kAt P 22) (.node (kAt P 45) (.node (kAt P 79) (.node (kAt P 161) .nil .nil) .nil) (.node (kAt P 120) (.node (kAt P 201) .nil .nil) .nil)) (.node (kAt P 61) (.node (kAt P 102) (.node (kAt P 178) .nil .nil) .nil) (.node (kAt P 142) (.node (x377 P) .nil .nil) .nil))))) (.node (x13 P) (.node (x21 P) (.node (x37 P) (.node (hold (kAt P 32)) (.node (x133 P) (.node (hold (kAt P 147)) .nil .nil) (.node (kAt P 232) .nil .nil)) (.node (x197 P) (.node (hold (kAt P 188)) .nil .nil) .nil)) (.node (x101 P) (.node (hold (kAt P 89)) (.node (x293 P) .nil .nil) .nil) (.node (kAt P 128) (.node (kAt P 209) .nil .nil) .nil))) (.node (kAt P 20) (.node (kAt P 42) (.node (kAt P 76) (.node (kAt P 157) .nil .nil) .nil) (.node (kAt P 117) (.node (kAt P 198) .nil .nil) .nil)) (.node (kAt P 58) (.node (kAt P 99) (.node (kAt P 175) .nil .nil) .nil) (.node (kAt P 139) (.node (hold (kAt P 222)) .nil .nil) .nil)))) (.node (kAt P 8) (.node (kAt P 16) (.node (kAt P 36) (.node (x141 P) (.node (kAt P 151) .nil .nil) .nil) (.node (kAt P 111) (.node (x333 P) .nil .nil) .nil)) (.node (hold (kAt P 54)) (.node (kAt P 93) (.node (x301 P) .nil .nil) .nil) (.node (x237 P) (.node (kAt P 215) .nil .nil) .nil))) (.node (kAt P 25) (.node (kAt P 48) (.node (kAt P 83) (.node (kAt P 163) .nil .nil) .nil) (.node (hold (kAt P 124)) (.node (kAt P 204) .nil .nil) .nil)) (.node (kAt P 64) (.node (kAt P 105) (.node (kAt P 181) .nil .nil) .nil) (.node (x253 P) (.node (kAt P 226) .nil .nil) .nil))))))) (.node (kAt P 0) (.node (boot_o_4 P) (.node (boot_o_8 P) (.node (x16 P) (.node (kAt P 11) (.node (kAt P 27) (.node (kAt P 66) (.node (x256 P) .nil .nil) (.node (x384 P) .nil .nil)) (.node (kAt P 107) (.node (kAt P 183) .nil .nil) .nil)) (.node (x96 P) (.node (x160 P) (.node (kAt P 165) .nil .nil) .nil) (.node (kAt P 125) (.node (hold (kAt P 207)) .nil .nil) .nil))) (.node (kAt P 17) (.node (x80 P) (.node (hold (kAt P 74)) (.node (x272 P) .nil .nil) .nil) (.node (kAt P 113) (.node (x336 P) .nil .nil) .nil)) (.node (kAt P 55) (.node (x176 P) (.node (x304 P) .nil .nil) .nil) (.node (hold (kAt P 137)) (.node (kAt P 217) .nil .nil) .nil)))) (.node (x24 P) (.node (x40 P) (.node (kAt P 33) (.node (x136 P) (.node (kAt P 148) .nil .nil) (.node (hold (kAt P 235)) .nil .nil)) (.node (x200 P) (.node (kAt P 189) .nil .nil) .nil)) (.node (kAt P 49) (.node (kAt P 90) (.node (hold (kAt P 172)) .nil .nil) .nil) (.node (kAt P 131) (.node (kAt P 211) .nil .nil) .nil))) (.node (kAt P 21) (.node (kAt P 44) (.node (kAt P 78) (.node (kAt P 160) .nil .nil) .nil) (.node (kAt P 119) (.node (x344 P) .nil .nil) .nil)) (.node (x120 P) (.node (kAt P 101) (.node (kAt P 177) .nil .nil) .nil) (.node (kAt P 141) (.node (kAt P 223) .nil .nil) .nil))))) (.node (y46_12 P) (.node (x20 P) (.node (kAt P 13) (.node (kAt P 30) (.node (kAt P 69) (.node (kAt P 145) .nil .nil) (.node (kAt P 231) .nil .nil)) (.node (x196 P) (.node (kAt P 186) .nil .nil) .nil)) (.node (x100 P) (.node (kAt P 87) (.node (kAt P 168) .nil .nil) .nil) (.node (hold (kAt P 129)) (.node (x356 P) .nil .nil) .nil))) (.node (kAt P 19) (.node (kAt P 41) (.node (x148 P) (.node (kAt P 156) .nil .nil) .nil) (.node (kAt P 116) (.node (kAt P 197) .nil .nil) .nil)) (.node (hold (kAt P 59)) (.node (kAt P 98) (.node (x308 P) .nil .nil) .nil) (.node (x244 P) (.node (kAt P 220) .nil .nil) .nil)))) (.node (kAt P 7) (.node (kAt P 15) (.node (hold (kAt P 37)) (.node (kAt P 70) (.node (hold (kAt P 152)) .nil .nil) .nil) (.node (x204 P) (.node (kAt P 193) .nil .nil) .nil)) (.node (kAt P 52) (.node (hold (kAt P 94)) (.node (x300 P) .nil .nil) .nil) (.node (x236 P) (.node (kAt P 214) .nil .nil) .nil))) (.node (kAt P 24) (.node (kAt P 47) (.node (kAt P 82) (.node (x284 P) .nil .nil) .nil) (.node (kAt P 122) (.node (kAt P 203) .nil .nil) .nil)) (.node (kAt P 63) (.node (kAt P 104) (.node (kAt P 180) .nil .nil) .nil) (.node (x252 P) (.node (hold (kAt P 227)) .nil .nil) .nil)))))) (.node (boot_o_6 P) (.node (boot_o_10 P) (.node (x18 P) (.node (x34 P) (.node (x66 P) (.node (hold (kAt P 69)) (.node (x258 P) .nil .nil) (.node (kAt P 230) .nil .nil)) (.node (kAt P 108) (.node (x322 P) .nil .nil) .nil)) (.node (x98 P) (.node (x162 P) (.node (kAt P 166) .nil .nil) .nil) (.node (kAt P 126) (.node (kAt P 207) .nil .nil) .nil))) (.node (hold (kAt P 19)) (.node (kAt P 40) (.node (kAt P 74) (.node (kAt P 155) .nil .nil) .nil) (.node (kAt P 115) (.node (kAt P 196) .nil .nil) .nil)) (.node (kAt P 56) (.node (kAt P 97) (.node (kAt P 173) .nil .nil) .nil) (.node (kAt P 137) (.node (x370 P) .nil .nil) .nil)))) (.node (kAt P 6) (.node (x42 P) (.node (kAt P 34) (.node (x138 P) (.node (kAt P 149) .nil .nil) (.node (kAt P 235) .nil .nil)) (.node (x202 P) (.node (kAt P 191) .nil .nil) .nil)) (.node (x106 P) (.node (kAt P 91) (.node (kAt P 172) .nil .nil) .nil) (.node (kAt P 133) (.node (kAt P 213) .nil .nil) .nil))) (.node (kAt P 23) (.node (hold (kAt P 47)) (.node (kAt P 80) (.node (kAt P 162) .nil .nil) .nil) (.node (x218 P) (.node (kAt P 202) .nil .nil) .nil)) (.node (kAt P 62) (.node (hold (kAt P 104)) (.node (kAt P 179) .nil .nil) .nil) (.node (x250 P) (.node (kAt P 224) .nil .nil) .nil))))) (.node (x14 P) (.node (kAt P 3) (.node (x38 P) (.node (kAt P 31) (.node (x134 P) (.node (kAt P 146) .nil .nil) (.node (kAt P 233) .nil .nil)) (.node (x198 P) (.node (kAt P 187) .nil .nil) .nil)) (.node (x102 P) (.node (kAt P 88) (.node (kAt P 169) .nil .nil) .nil) (.node (kAt P 129) (.node (kAt P 210) .nil .nil) .nil))) (.node (x54 P) (.node (kAt P 43) (.node (kAt P 77) (.node (kAt P 158) .nil .nil) .nil) (.node (hold (kAt P 119)) (.node (kAt P 199) .nil .nil) .nil)) (.node (kAt P 59) (.node (kAt P 100) (.node (kAt P 176) .nil .nil) .nil) (.node (kAt P 140) (.node (kAt P 221) .nil .nil) .nil)))) (.node (kAt P 9) (.node (x46 P) (.node (kAt P 37) (.node (kAt P 71) (.node (kAt P 152) .nil .nil) .nil) (.node (kAt P 112) (.node (x334 P) .nil .nil) .nil)) (.node (kAt P 53) (.node (kAt P 94) (.node (x302 P) .nil .nil) .nil) (.node (kAt P 135) (.node (hold (kAt P 217)) .nil .nil) .nil))) (.node (hold (kAt P 27)) (.node (x94 P) (.node (kAt P 84) (.node (x286 P) .nil .nil) .nil) (.node (kAt P 123) (.node (kAt P 205) .nil .nil) .nil)) (.node (kAt P 65) (.node (x190 P) (.node (hold (kAt P 183)) .nil .nil) .nil) (.node (x254 P) (.node (kAt P 227) .nil .nil) .nil))))))))
noncomputable def st46 (w : World) (os : OsState) : SharedT := ⟨tr46 w.params, 395, Life.mk [] [] [] 0 [] [] false #[] [] 0 false false false 0 [2000, 10, 10] false 0 true [] [] 0 false, #[], Drawn.mk 0 0 0 0, 813, os⟩
noncomputable def tr53 (P : Params) : BT := (.node (boot_o_0 P) (.node (boot_o_1 P) (.node (kAt P 1) (.node (boot_o_7 P) (.node (kAt P 2) (.node (kAt P 10) (.node (kAt P 26) (.node (x127 P) (.node (x255 P) .nil .nil) (.node (kAt P 228) .nil .nil)) (.node (kAt P 106) (.node (kAt P 182) .nil .nil) .nil)) (.node (x95 P) (.node (x159 P) (.node (kAt P 164) .nil .nil) (.node (kAt P 249) .nil .nil)) (.node (kAt P 124) (.node (x351 P) .nil .nil) .nil))) (.node (x47 P) (.node (kAt P 38) (.node (kAt P 72) (.node (kAt P 153) .nil .nil) (.node (kAt P 238) .nil .nil)) (.node (hold (kAt P 114)) (.node (kAt P 194) .nil .nil) .nil)) (.node (kAt P 54) (.node (kAt P 95) (.node (x303 P) .nil .nil) (.node (kAt P 260) .nil .nil)) (.node (x239 P) (.node (kAt P 216) .nil .nil) .nil)))) (.node (kAt P 4) (.node (x39 P) (.node (kAt P 32) (.node (x135 P) (.node (kAt P 147) .nil .nil) (.node (x391 P) .nil .nil)) (.node (x199 P) (.node (kAt P 188) .nil .nil) .nil)) (.node (x103 P) (.node (kAt P 89) (.node (kAt P 170) .nil .nil) (.node (hold (kAt P 256)) .nil .nil)) (.node (kAt P 130) (.node (hold (kAt P 212)) .nil .nil) .nil))) (.node (hold (kAt P 22)) (.node (x87 P) (.node (hold (kAt P 79)) (.node (kAt P 159) .nil .nil) (.node (kAt P 243) .nil .nil)) (.node (kAt P 118) (.node (kAt P 200) .nil .nil) .nil)) (.node (kAt P 60) (.node (x183 P) (.node (hold (kAt P 178)) .nil .nil) (.node (kAt P 266) .nil .nil)) (.node (hold (kAt P 142)) (.node (kAt P 222) .nil .nil) .nil))))) (.node (x11 P) (.node (x19 P) (.node (x35 P) (.node (kAt P 29) (.node (kAt P 68) (.node (kAt P 144) .nil .nil) (.node (hold (kAt P 232)) .nil .nil)) (.node (kAt P 109) (.node (kAt P 185) .nil .nil) .nil)) (.node (x99 P) (.node (kAt P 86) (.node (kAt P 167) .nil .nil) (.node (kAt P 252) .nil .nil)) (.node (kAt P 127) (.node (kAt P 208) .nil .nil) .nil))) (.node (kAt P 18) (.node (hold (kAt P 42)) (.node (kAt P 75) (.node (hold (kAt P 157)) .nil .nil) (.node (kAt P 240) .nil .nil)) (.node (x211 P) (.node (hold (kAt P 198)) .nil .nil) .nil)) (.node (kAt P 57) (.node (hold (kAt P 99)) (.node (kAt P 174) .nil .nil) (.node (kAt P 263) .nil .nil)) (.node (kAt P 138) (.node (kAt P 219) .nil .nil) .nil)))) (.node (hold (kAt P 8)) (.node (kAt P 14) (.node (kAt P 35) (.node (x139 P) (.node (kAt P 150) .nil .nil) (.node (kAt P 236) .nil .nil)) (.node (kAt P 110) (.node (kAt P 192) .nil .nil) .nil)) (.node (kAt P 51) (.node (kAt P 92) (.node (x299 P) .nil .nil) (.node (x427 P) .nil .nil)) (.node (kAt P 134) (.node (x363 P) .nil .nil) .nil))) (.node (x59 P) (.node (kAt P 46) (.node (kAt P 81) (.node (x283 P) .nil .nil) (.node (kAt P 246) .nil .nil)) (.node (kAt P 121) (.node (hold (kAt P 204)) .nil .nil) .nil)) (.node (hold (kAt P 64)) (.node (kAt P 103) (.node (x315 P) .nil .nil) .nil) (.node (x251 P) (.node (kAt P 225) .nil .nil) .nil)))))) (.node (boot_o_5 P) (.node (boot_o_9 P) (.node (x17 P) (.node (kAt P 12) (.node (kAt P 28) (.node (kAt P 67) (.node (kAt P 143) .nil .nil) (.node (kAt P 229) .nil .nil)) (.node (hold (kAt P 109)) (.node (kAt P 184) .nil .nil) .nil)) (.node (x97 P) (.node (kAt P 85) (.node (hold (kAt P 167)) .nil .nil) (.node (kAt P 250) .nil .nil)) (.node (x225 P) (.node (kAt P 206) .nil .nil) .nil))) (.node (x49 P) (.node (kAt P 39) (.node (kAt P 73) (.node (kAt P 154) .nil .nil) (.node (x401 P) .nil .nil)) (.node (kAt P 114) (.node (kAt P 195) .nil .nil) .nil)) (.node (x113 P) (.node (kAt P 96) (.node (x305 P) .nil .nil) (.node (kAt P 262) .nil .nil)) (.node (kAt P 136) (.node (kAt P 218) .nil .nil) .nil)))) (.node (kAt P 5) (.node (x41 P) (.node (x73 P) (.node (x137 P) (.node (x265 P) .nil .nil) (.node (kAt P 234) .nil .nil)) (.node (x201 P) (.node (kAt P 190) .nil .nil) .nil)) (.node (kAt P 50) (.node (x169 P) (.node (kAt P 171) .nil .nil) (.node (kAt P 256) .nil .nil)) (.node (kAt P 132) (.node (kAt P 212) .nil .nil) .nil))) (.node (kAt P 22) (.node (kAt P 45) (.node (kAt P 79) (.node (kAt P 161) .nil .nil) (.node (hold (kAt P 246)) .nil .nil)) (.node (kAt P 120) (.node (kAt P 201) .nil .nil) .nil)) (.node (kAt P 61) (.node (kAt P 102) (.node (kAt P 178) .nil .nil) .nil) (.node (kAt P 142) (.node (x377 P) .nil .nil) .nil))))) (.node (x13 P) (.node (x21 P) (.node (x37 P) (.node (hold (kAt P 32)) (.node (x133 P) (.node (hold (kAt P 147)) .nil .nil) (.node (kAt P 232) .nil .nil)) (.node (x197 P) (.node (hold (kAt P 188)) .nil .nil) .nil)) (.node (x101 P) (.node (hold (kAt P 89)) (.node (x293 P) .nil .nil) (.node (kAt P 253) .nil .nil)) (.node (kAt P 128) (.node (kAt P 209) .nil .nil) .nil))) (.node (kAt P 20) (.node (kAt P 42) (.node (kAt P 76) (.node (kAt P 157) .nil .nil) (.node (kAt P 242) .nil .nil)) (.node (kAt P 117) (.node (kAt P 198) .nil .nil) .nil)) (.node (kAt P 58) (.node (kAt P 99) (.node (kAt P 175) .nil .nil) (.node (hold (kAt P 266)) .nil .nil)) (.node (kAt P 139) (.node (hold (kAt P 222)) .nil .nil) .nil)))) (.node (kAt P 8) (.node (kAt P 16) (.node (kAt P 36) (.node (x141 P) (.node (kAt P 151) .nil .nil) (.node (hold (kAt P 238)) .nil .nil)) (.node (kAt P 111) (.node (x333 P) .nil .nil) .nil)) (.node (hold (kAt P 54)) (.node (kAt P 93) (.node (x301 P) .nil .nil) (.node (kAt P 259) .nil .nil)) (.node (x237 P) (.node (kAt P 215) .nil .nil) .nil))) (.node (kAt P 25) (.node (kAt P 48) (.node (kAt P 83) (.node (kAt P 163) .nil .nil) (.node (x413 P) .nil .nil)) (.node (hold (kAt P 124)) (.node (kAt P 204) .nil .nil) .nil)) (.node (kAt P 64) (.node (kAt P 105) (.node (kAt P 181) .nil .nil) .nil) (.node (x253 P) (.node (kAt P 226) .nil .nil) .nil))))))) (.node (kAt P 0) (.node (boot_o_4 P) (.node (boot_o_8 P) (.node (x16 P) (.node (kAt P 11) (.node (kAt P 27) (.node (kAt P 66) (.node (x256 P) .nil .nil) (.node (x384 P) .nil .nil)) (.node (kAt P 107) (.node (kAt P 183) .nil .nil) .nil)) (.node (x96 P) (.node (x160 P) (.node (kAt P 165) .nil .nil) (.node (hold (kAt P 251)) .nil .nil)) (.node (kAt P 125) (.node (hold (kAt P 207)) .nil .nil) .nil))) (.node (kAt P 17) (.node (x80 P) (.node (hold (kAt P 74)) (.node (x272 P) .nil .nil) (.node (kAt P 239) .nil .nil)) (.node (kAt P 113) (.node (x336 P) .nil .nil) .nil)) (.node (kAt P 55) (.node (x176 P) (.node (x304 P) .nil .nil) (.node (kAt P 261) .nil .nil)) (.node (hold (kAt P 137)) (.node (kAt P 217) .nil .nil) .nil)))) (.node (x24 P) (.node (x40 P) (.node (kAt P 33) (.node (x136 P) (.node (kAt P 148) .nil .nil) (.node (hold (kAt P 235)) .nil .nil)) (.node (x200 P) (.node (kAt P 189) .nil .nil) .nil)) (.node (kAt P 49) (.node (kAt P 90) (.node (hold (kAt P 172)) .nil .nil) (.node (kAt P 255) .nil .nil)) (.node (kAt P 131) (.node (kAt P 211) .nil .nil) .nil))) (.node (kAt P 21) (.node (kAt P 44) (.node (kAt P 78) (.node (kAt P 160) .nil .nil) (.node (kAt P 244) .nil .nil)) (.node (kAt P 119) (.node (x344 P) .nil .nil) .nil)) (.node (x120 P) (.node (kAt P 101) (.node (kAt P 177) .nil .nil) .nil) (.node (kAt P 141) (.node (kAt P 223) .nil .nil) .nil))))) (.node (x12 P) (.node (x20 P) (.node (kAt P 13) (.node (kAt P 30) (.node (kAt P 69) (.node (kAt P 145) .nil .nil) (.node (kAt P 231) .nil .nil)) (.node (x196 P) (.node (kAt P 186) .nil .nil) .nil)) (.node (x100 P) (.node (kAt P 87) (.node (kAt P 168) .nil .nil) (.node (x420 P) .nil .nil)) (.node (hold (kAt P 129)) (.node (x356 P) .nil .nil) .nil))) (.node (kAt P 19) (.node (kAt P 41) (.node (x148 P) (.node (kAt P 156) .nil .nil) (.node (kAt P 241) .nil .nil)) (.node (kAt P 116) (.node (kAt P 197) .nil .nil) .nil)) (.node (hold (kAt P 59)) (.node (kAt P 98) (.node (x308 P) .nil .nil) (.node (kAt P 264) .nil .nil)) (.node (x244 P) (.node (kAt P 220) .nil .nil) .nil)))) (.node (kAt P 7) (.node (kAt P 15) (.node (hold (kAt P 37)) (.node (kAt P 70) (.node (hold (kAt P 152)) .nil .nil) (.node (x396 P) .nil .nil)) (.node (x204 P) (.node (kAt P 193) .nil .nil) .nil)) (.node (kAt P 52) (.node (hold (kAt P 94)) (.node (x300 P) .nil .nil) (.node (kAt P 258) .nil .nil)) (.node (x236 P) (.node (kAt P 214) .nil .nil) .nil))) (.node (kAt P 24) (.node (kAt P 47) (.node (kAt P 82) (.node (x284 P) .nil .nil) (.node (kAt P 247) .nil .nil)) (.node (kAt P 122) (.node (kAt P 203) .nil .nil) .nil)) (.node (kAt P 63) (.node (kAt P 104) (.node (kAt P 180) .nil .nil) .nil) (.node (x252 P) (.node (hold (kAt P 227)) .nil .nil) .nil)))))) (.node (boot_o_6 P) (.node (boot_o_10 P) (.node (x18 P) (.node (x34 P) (.node (x66 P) (.node (hold (kAt P 69)) (.node (x258 P) .nil .nil) (.node (kAt P 230) .nil .nil)) (.node (kAt P 108) (.node (x322 P) .nil .nil) .nil)) (.node (x98 P) (.node (x162 P) (.node (kAt P 166) .nil .nil) (.node (kAt P 251) .nil .nil)) (.node (kAt P 126) (.node (kAt P 207) .nil .nil) .nil))) (.node (hold (kAt P 19)) (.node (kAt P 40) (.node (kAt P 74) (.node (kAt P 155) .nil .nil) (.node (hold (kAt P 241)) .nil .nil)) (.node (kAt P 115) (.node (kAt P 196) .nil .nil) .nil)) (.node (kAt P 56) (.node (kAt P 97) (.node (kAt P 173) .nil .nil) (.node (x434 P) .nil .nil)) (.node (kAt P 137) (.node (x370 P) .nil .nil) .nil)))) (.node (kAt P 6) (.node (x42 P) (.node (kAt P 34) (.node (x138 P) (.node (kAt P 149) .nil .nil) (.node (kAt P 235) .nil .nil)) (.node (x202 P) (.node (kAt P 191) .nil .nil) .nil)) (.node (x106 P) (.node (kAt P 91) (.node (kAt P 172) .nil .nil) (.node (kAt P 257) .nil .nil)) (.node (kAt P 133) (.node (kAt P 213) .nil .nil) .nil))) (.node (kAt P 23) (.node (hold (kAt P 47)) (.node (kAt P 80) (.node (kAt P 162) .nil .nil) (.node (kAt P 245) .nil .nil)) (.node (x218 P) (.node (kAt P 202) .nil .nil) .nil)) (.node (kAt P 62) (.node (hold (kAt P 104)) (.node (kAt P 179) .nil .nil) .nil) (.node (x250 P) (.node (kAt P 224) .nil .nil) .nil))))) (.node (x14 P) (.node (kAt P 3) (.node (x38 P) (.node (kAt P 31) (.node (x134 P) (.node (kAt P 146) .nil .nil) (.node (kAt P 233) .nil .nil)) (.node (x198 P) (.node (kAt P 187) .nil .nil) .nil)) (.node (x102 P) (.node (kAt P 88) (.node (kAt P 169) .nil .nil) (.node (kAt P 254) .nil .nil)) (.node (kAt P 129) (.node (kAt P 210) .nil .nil) .nil))) (.node (x54 P) (.node (kAt P 43) (.node (kAt P 77) (.node (kAt P 158) .nil .nil) (.node (x406 P) .nil .nil)) (.node (hold (kAt P 119)) (.node (kAt P 199) .nil .nil) .nil)) (.node (kAt P 59) (.node (kAt P 100) (.node (kAt P 176) .nil .nil) (.node (kAt P 265) .nil .nil)) (.node (kAt P 140) (.node (kAt P 221) .nil .nil) .nil)))) (.node (kAt P 9) (.node (x46 P) (.node (kAt P 37) (.node (kAt P 71) (.node (kAt P 152) .nil .nil) (.node (kAt P 237) .nil .nil)) (.node (kAt P 112) (.node (x334 P) .nil .nil) .nil)) (.node (kAt P 53) (.node (kAt P 94) (.node (x302 P) .nil .nil) (.node (hold (kAt P 261)) .nil .nil)) (.node (kAt P 135) (.node (hold (kAt P 217)) .nil .nil) .nil))) (.node (hold (kAt P 27)) (.node (x94 P) (.node (kAt P 84) (.node (x286 P) .nil .nil) (.node (kAt P 248) .nil .nil)) (.node (kAt P 123) (.node (kAt P 205) .nil .nil) .nil)) (.node (kAt P 65) (.node (x190 P) (.node (hold (kAt P 183)) .nil .nil) .nil) (.node (x254 P) (.node (kAt P 227) .nil .nil) .nil))))))))
noncomputable def st53 (w : World) (os : OsState) : SharedT := ⟨tr53 w.params, 440, Life.mk [] [] [] 0 [] [] false #[] [] 0 false false false 0 [2000, 10, 10] false 0 true [] [] 0 false, #[], Drawn.mk 0 0 0 0, 881, os⟩
noncomputable def finL (P : Params) : List Obj := [(boot_o_0 P), (boot_o_1 P), (kAt P 0), (kAt P 1), (boot_o_4 P), (boot_o_5 P), (boot_o_6 P), (boot_o_7 P), (boot_o_8 P), (boot_o_9 P), (boot_o_10 P), (x11 P), (x12 P), (x13 P), (x14 P), (kAt P 2), (x16 P), (x17 P), (x18 P), (x19 P), (x20 P), (x21 P), (kAt P 3), (kAt P 4), (x24 P), (kAt P 5), (kAt P 6), (hold (kAt P 8)), (kAt P 7), (kAt P 8), (kAt P 9), (kAt P 10), (kAt P 11), (kAt P 12), (x34 P), (x35 P), (kAt P 13), (x37 P), (x38 P), (x39 P), (x40 P), (x41 P), (x42 P), (kAt P 14), (kAt P 15), (kAt P 16), (x46 P), (x47 P), (kAt P 17), (x49 P), (hold (kAt P 19)), (kAt P 18), (kAt P 19), (kAt P 20), (x54 P), (hold (kAt P 22)), (kAt P 21), (kAt P 22), (kAt P 23), (x59 P), (kAt P 24), (kAt P 25), (hold (kAt P 27)), (kAt P 26), (kAt P 27), (kAt P 28), (x66 P), (kAt P 29), (kAt P 30), (hold (kAt P 32)), (kAt P 31), (kAt P 32), (kAt P 33), (x73 P), (kAt P 34), (kAt P 35), (hold (kAt P 37)), (kAt P 36), (kAt P 37), (kAt P 38), (x80 P), (kAt P 39), (kAt P 40), (hold (kAt P 42)), (kAt P 41), (kAt P 42), (kAt P 43), (x87 P), (kAt P 44), (kAt P 45), (hold (kAt P 47)), (kAt P 46), (kAt P 47), (kAt P 48), (x94 P), (x95 P), (x96 P), (x97 P), (x98 P), (x99 P), (x100 P), (x101 P), (x102 P), (x103 P), (kAt P 49), (kAt P 50), (x106 P), (kAt P 51), (kAt P 52), (hold (kAt P 54)), (kAt P 53), (kAt P 54), (kAt P 55), (x113 P), (kAt P 56), (kAt P 57), (hold (kAt P 59)), (kAt P 58), (kAt P 59), (kAt P 60), (x120 P), (kAt P 61), (kAt P 62), (hold (kAt P 64)), (kAt P 63), (kAt P 64), (kAt P 65), (x127 P), (kAt P 66), (kAt P 67), (hold (kAt P 69)), (kAt P 68), (kAt P 69), (x133 P), (x134 P), (x135 P), (x136 P), (x137 P), (x138 P), (x139 P), (kAt P 70), (x141 P), (kAt P 71), (kAt P 72), (hold (kAt P 74)), (kAt P 73), (kAt P 74), (kAt P 75), (x148 P), (kAt P 76), (kAt P 77), (hold (kAt P 79)), (kAt P 78), (kAt P 79), (kAt P 80), (kAt P 81), (kAt P 82), (kAt P 83), (kAt P 84), (x159 P), (x160 P), (kAt P 85), (x162 P), (kAt P 86), (kAt P 87), (hold (kAt P 89)), (kAt P 88), (kAt P 89), (kAt P 90), (x169 P), (kAt P 91), (kAt P 92), (hold (kAt P 94)), (kAt P 93), (kAt P 94), (kAt P 95), (x176 P), (kAt P 96), (kAt P 97), (hold (kAt P 99)), (kAt P 98), (kAt P 99), (kAt P 100), (x183 P), (kAt P 101), (kAt P 102), (hold (kAt P 104)), (kAt P 103), (kAt P 104), (kAt P 105), (x190 P), (kAt P 106), (kAt P 107), (hold (kAt P 109)), (kAt P 108), (kAt P 109), (x196 P), (x197 P), (x198 P), (x199 P), (x200 P), (x201 P), (x202 P), (kAt P 110), (x204 P), (kAt P 111), (kAt P 112), (hold (kAt P 114)), (kAt P 113), (kAt P 114), (kAt P 115), (x211 P), (kAt P 116), (kAt P 117), (hold (kAt P 119)), (kAt P 118), (kAt P 119), (kAt P 120), (x218 P), (kAt P 121), (kAt P 122), (hold (kAt P 124)), (kAt P 123), (kAt P 124), (kAt P 125), (x225 P), (kAt P 126), (kAt P 127), (hold (kAt P 129)), (kAt P 128), (kAt P 129), (kAt P 130), (kAt P 131), (kAt P 132), (kAt P 133), (kAt P 134), (x236 P), (x237 P), (kAt P 135), (x239 P), (hold (kAt P 137)), (kAt P 136), (kAt P 137), (kAt P 138), (x244 P), (kAt P 139), (kAt P 140), (hold (kAt P 142)), (kAt P 141), (kAt P 142), (x250 P), (x251 P), (x252 P), (x253 P), (x254 P), (x255 P), (x256 P), (kAt P 143), (x258 P), (kAt P 144), (kAt P 145), (hold (kAt P 147)), (kAt P 146), (kAt P 147), (kAt P 148), (x265 P), (kAt P 149), (kAt P 150), (hold (kAt P 152)), (kAt P 151), (kAt P 152), (kAt P 153), (x272 P), (kAt P 154), (kAt P 155), (hold (kAt P 157)), (kAt P 156), (kAt P 157), (kAt P 158), (kAt P 159), (kAt P 160), (kAt P 161), (kAt P 162), (x283 P), (x284 P), (kAt P 163), (x286 P), (kAt P 164), (kAt P 165), (hold (kAt P 167)), (kAt P 166), (kAt P 167), (kAt P 168), (x293 P), (kAt P 169), (kAt P 170), (hold (kAt P 172)), (kAt P 171), (kAt P 172), (x299 P), (x300 P), (x301 P), (x302 P), (x303 P), (x304 P), (x305 P), (kAt P 173), (kAt P 174), (x308 P), (kAt P 175), (kAt P 176), (hold (kAt P 178)), (kAt P 177), (kAt P 178), (kAt P 179), (x315 P), (kAt P 180), (kAt P 181), (hold (kAt P 183)), (kAt P 182), (kAt P 183), (kAt P 184), (x322 P), (kAt P 185), (kAt P 186), (hold (kAt P 188)), (kAt P 187), (kAt P 188), (kAt P 189), (kAt P 190), (kAt P 191), (kAt P 192), (kAt P 193), (x333 P), (x334 P), (kAt P 194), (x336 P), (kAt P 195), (kAt P 196), (hold (kAt P 198)), (kAt P 197), (kAt P 198), (kAt P 199), (kAt P 200), (x344 P), (kAt P 201), (kAt P 202), (hold (kAt P 204)), (kAt P 203), (kAt P 204), (kAt P 205), (x351 P), (hold (kAt P 207)), (kAt P 206), (kAt P 207), (kAt P 208), (x356 P), (kAt P 209), (kAt P 210), (hold (kAt P 212)), (kAt P 211), (kAt P 212), (kAt P 213), (x363 P), (kAt P 214), (kAt P 215), (hold (kAt P 217)), (kAt P 216), (kAt P 217), (kAt P 218), (x370 P), (kAt P 219), (kAt P 220), (hold (kAt P 222)), (kAt P 221), (kAt P 222), (kAt P 223), (x377 P), (kAt P 224), (kAt P 225), (hold (kAt P 227)), (kAt P 226), (kAt P 227), (kAt P 228), (x384 P), (kAt P 229), (kAt P 230), (hold (kAt P 232)), (kAt P 231), (kAt P 232), (kAt P 233), (x391 P), (hold (kAt P 235)), (kAt P 234), (kAt P 235), (kAt P 236), (x396 P), (hold (kAt P 238)), (kAt P 237), (kAt P 238), (kAt P 239), (x401 P), (hold (kAt P 241)), (kAt P 240), (kAt P 241), (kAt P 242), (x406 P), (kAt P 243), (kAt P 244), (hold (kAt P 246)), (kAt P 245), (kAt P 246), (kAt P 247), (x413 P), (kAt P 248), (kAt P 249), (hold (kAt P 251)), (kAt P 250), (kAt P 251), (kAt P 252), (x420 P), (kAt P 253), (kAt P 254), (hold (kAt P 256)), (kAt P 255), (kAt P 256), (kAt P 257), (x427 P), (kAt P 258), (kAt P 259), (hold (kAt P 261)), (kAt P 260), (kAt P 261), (kAt P 262), (x434 P), (kAt P 263), (kAt P 264), (hold (kAt P 266)), (kAt P 265), (kAt P 266)]
noncomputable def hbody : List Stmt := behindTheImports PySem.Challenge.pw_nt0282_01
noncomputable def henv : Env := { scope := PySem.Challenge.pw_nt0282_01.main.scope, locals := mainNs, globals := mainNs, cells := [], code := .ref 13, frame := some 14 }
noncomputable def hcode : Code := .body hbody henv
noncomputable def sgs (a b : Nat) : List Stmt := (hbody.drop a).take (b - a)
noncomputable def hann : Option Value := some (.ref 6)
noncomputable def hp0 : Pos := ⟨0, 0, 0, 0⟩
noncomputable def hloose : List PySem.Str := [PySem.Str.ofString "HEX_SIGNS", PySem.Str.ofString "NOUGHT_SIGN", PySem.Str.ofString "GitError", PySem.Str.ofString "BadObject", PySem.Str.ofString "text_of", PySem.Str.ofString "octets_of", PySem.Str.ofString "hex_of", PySem.Str.ofString "hex_digit", PySem.Str.ofString "octets_of_hex", PySem.Str.ofString "number_by", PySem.Str.ofString "number_of", PySem.Str.ofString "OBJECT_KINDS", PySem.Str.ofString "OBJECT_HEX", PySem.Str.ofString "OBJECT_DIGITS", PySem.Str.ofString "OBJECT_BLANKS", PySem.Str.ofString "OBJECT_CRUD", PySem.Str.ofString "OBJECT_SIGNATURES", PySem.Str.ofString "object_has_sign", PySem.Str.ofString "object_are_all", PySem.Str.ofString "object_trimmed", PySem.Str.ofString "object_cut_end", PySem.Str.ofString "Person", PySem.Str.ofString "read_person", PySem.Str.ofString "person_cleaned", PySem.Str.ofString "object_head_row", PySem.Str.ofString "object_head_id", PySem.Str.ofString "object_heads", PySem.Str.ofString "ObjectHeadWalk", PySem.Str.ofString "object_rows", PySem.Str.ofString "object_subject", PySem.Str.ofString "Commit", PySem.Str.ofString "commit_body", PySem.Str.ofString "object_signature_at", PySem.Str.ofString "Tag", PySem.Str.ofString "read_tag", PySem.Str.ofString "object_message", PySem.Str.ofString "_law_deck", PySem.Str.ofString "_law_draw", PySem.Str.ofString "_law_pick", PySem.Str.ofString "_law_cut", PySem.Str.ofString "_law_cleaned", PySem.Str.ofString "_law_body", PySem.Str.ofString "_law_opens", PySem.Str.ofString "_law_signed_at", PySem.Str.ofString "_law_plain", PySem.Str.ofString "_law_message", PySem.Str.ofString "_law_messages_right", PySem.Str.ofString "_law_people_right", PySem.Str.ofString "_law_tags_right"]
noncomputable def has : List Addr := [2, 3, 15, 22, 23, 25, 26, 28, 29, 30, 31, 32, 33, 36, 43, 44, 45, 48, 51, 52, 53, 56, 57, 58, 60, 61, 63, 64, 65, 67, 68, 70, 71, 72, 74, 75, 77, 78, 79, 81, 82, 84, 85, 86, 88, 89, 91, 92, 93, 104, 105, 107, 108, 110, 111, 112, 114, 115, 117, 118, 119, 121, 122, 124, 125, 126, 128, 129, 131, 132, 140, 142, 143, 145, 146, 147, 149, 150, 152, 153, 154, 155, 156, 157, 158, 161, 163, 164, 166, 167, 168, 170, 171, 173, 174, 175, 177, 178, 180, 181, 182, 184, 185, 187, 188, 189, 191, 192, 194, 195, 203, 205, 206, 208, 209, 210, 212, 213, 215, 216, 217, 219, 220, 222, 223, 224, 226, 227, 229, 230, 231, 232, 233, 234, 235, 238, 241, 242, 243, 245, 246, 248, 249, 257, 259, 260, 262, 263, 264, 266, 267, 269, 270, 271, 273, 274, 276, 277, 278, 279, 280, 281, 282, 285, 287, 288, 290, 291, 292, 294, 295, 297, 298, 306, 307, 309, 310, 312, 313, 314, 316, 317, 319, 320, 321, 323, 324, 326, 327, 328, 329, 330, 331, 332, 335, 337, 338, 340, 341, 342, 343, 345, 346, 348, 349, 350, 353, 354, 355, 357, 358, 360, 361, 362, 364, 365, 367, 368, 369, 371, 372, 374, 375, 376, 378, 379, 381, 382, 383, 385, 386, 388, 389, 390, 393, 394, 395, 398, 399, 400, 403, 404, 405, 407, 408, 410, 411, 412, 414, 415, 417, 418, 419, 421, 422, 424, 425, 426, 428, 429, 431, 432, 433, 435, 436, 438, 439]
noncomputable def hview : Program := view PySem.Challenge.pw_nt0282_01 [52]
noncomputable def hfin (P : Params) : Heap := ⟨⟨finL P⟩, {}⟩
noncomputable def hobs (s : Shared) : List (Option Obj) := has.map s.heap.get?
noncomputable def hval (w : World) : List (Option Obj) := (Mine.frag.heap_1 w.params).map fun p => some p.2
end
end Mine
end
section
set_option maxRecDepth 100000
open PySem PySem.W PySem.Calls PyProof.Rows
set_option Elab.async false
namespace Mine
/-! the top's run, piece by piece -/
noncomputable def hrun (n : Nat) (s : World → OsState → SharedT) (a b : Nat) (q : Pos) (s' : World → OsState → SharedT) (q' : Pos) (w : World) : Prop :=
  (fun os => segRunT treeTable PySem.Challenge.pw_nt0282_01 w 11 hann 1 n (s w os) (piecesOf (sgs a b) henv hcode q [topFrame hp0])) = fun os => some (Flow.next, s' w os, hcode, q')
theorem seg0 (w : World) : hrun 679 stb 0 12 hp0 st12 ⟨50, 0, 53, 32⟩ w := by
  unfold hrun
  rewrite [PySem.W.Fast.te10110043849684766642, PySem.W.Fast.te14364793385576792824]
  kernel_rfl
theorem seg1 (w : World) : hrun 51 st12 12 17 ⟨50, 0, 53, 32⟩ st17 ⟨58, 0, 58, 13⟩ w := by
  unfold hrun
  rewrite [PySem.W.Fast.te10110043849684766642, PySem.W.Fast.te14364793385576792824]
  kernel_rfl
theorem seg2ff (w : World) : hrun 1654 st17 17 18 ⟨58, 0, 58, 13⟩ st18 ⟨59, 0, 59, 11⟩ ((w.withFollow "comprehension-iter-twice" false).withFollow "special-get-raises" false) := by
  unfold hrun
  rewrite [PySem.W.Fast.te10110043849684766642, PySem.W.Fast.te14364793385576792824]
  kernel_rfl
theorem seg2tf (w : World) : hrun 1654 st17 17 18 ⟨58, 0, 58, 13⟩ st18 ⟨59, 0, 59, 11⟩ ((w.withFollow "comprehension-iter-twice" true).withFollow "special-get-raises" false) := by
  unfold hrun
  rewrite [PySem.W.Fast.te10110043849684766642, PySem.W.Fast.te14364793385576792824]
  kernel_rfl
theorem seg2ft (w : World) : hrun 1654 st17 17 18 ⟨58, 0, 58, 13⟩ st18 ⟨59, 0, 59, 11⟩ ((w.withFollow "comprehension-iter-twice" false).withFollow "special-get-raises" true) := by
  unfold hrun
  rewrite [PySem.W.Fast.te10110043849684766642, PySem.W.Fast.te14364793385576792824]
  kernel_rfl
theorem seg2tt (w : World) : hrun 1654 st17 17 18 ⟨58, 0, 58, 13⟩ st18 ⟨59, 0, 59, 11⟩ ((w.withFollow "comprehension-iter-twice" true).withFollow "special-get-raises" true) := by
  unfold hrun
  rewrite [PySem.W.Fast.te10110043849684766642, PySem.W.Fast.te14364793385576792824]
  kernel_rfl
theorem seg2 (w : World) : hrun 1654 st17 17 18 ⟨58, 0, 58, 13⟩ st18 ⟨59, 0, 59, 11⟩ w :=
  byRow2 "special-get-raises" (P := hrun 1654 st17 17 18 ⟨58, 0, 58, 13⟩ st18 ⟨59, 0, 59, 11⟩)
    (byRow2 "comprehension-iter-twice" (P := fun w => hrun 1654 st17 17 18 ⟨58, 0, 58, 13⟩ st18 ⟨59, 0, 59, 11⟩ (w.withFollow "special-get-raises" false)) seg2ff seg2tf)
    (byRow2 "comprehension-iter-twice" (P := fun w => hrun 1654 st17 17 18 ⟨58, 0, 58, 13⟩ st18 ⟨59, 0, 59, 11⟩ (w.withFollow "special-get-raises" true)) seg2ft seg2tt) w
theorem seg3 (w : World) : hrun 472 st18 18 26 ⟨59, 0, 59, 11⟩ st26 ⟨113, 0, 121, 49⟩ w := by
  unfold hrun
  rewrite [PySem.W.Fast.te10110043849684766642, PySem.W.Fast.te14364793385576792824]
  kernel_rfl
theorem seg4 (w : World) : hrun 473 st26 26 32 ⟨113, 0, 121, 49⟩ st32 ⟨168, 0, 175, 42⟩ w := by
  unfold hrun
  rewrite [PySem.W.Fast.te10110043849684766642, PySem.W.Fast.te14364793385576792824]
  kernel_rfl
theorem seg5 (w : World) : hrun 731 st32 32 38 ⟨168, 0, 175, 42⟩ st38 ⟨247, 0, 259, 62⟩ w := by
  unfold hrun
  rewrite [PySem.W.Fast.te10110043849684766642, PySem.W.Fast.te14364793385576792824]
  kernel_rfl
theorem seg6 (w : World) : hrun 218 st38 38 46 ⟨247, 0, 259, 62⟩ st46 ⟨305, 0, 307, 63⟩ w := by
  unfold hrun
  rewrite [PySem.W.Fast.te10110043849684766642, PySem.W.Fast.te14364793385576792824]
  kernel_rfl
theorem seg7 (w : World) : hrun 219 st46 46 53 ⟨305, 0, 307, 63⟩ st53 ⟨348, 0, 355, 123⟩ w := by
  unfold hrun
  rewrite [PySem.W.Fast.te10110043849684766642, PySem.W.Fast.te14364793385576792824]
  kernel_rfl
theorem hpre (w : World) : (fun os => topGo treeTable PySem.Challenge.pw_nt0282_01 w 11 hann 12 ⟨boot_heap w.params, Array.mk [], boot_drawn, boot_toks, os⟩ (topStub PySem.Challenge.pw_nt0282_01)) = fun os => some ((sta w os).abs, ⟨denote treeTable hcode, hcode, hp0, [topFrame hp0]⟩) := by
  rewrite [PySem.W.Fast.te15667345088766844465, PySem.W.Fast.te14364793385576792824, PySem.W.Fast.te11892475500146522536]
  kernel_rfl
theorem hblock (w : World) : (fun os => segRun treeTable PySem.Challenge.pw_nt0282_01 w 11 hann 1 1 (sta w os).abs (blockOf hbody henv hcode hp0 [topFrame hp0])) = fun os => some (Flow.next, (stb w os).abs, hcode, hp0) := by
  rewrite [PySem.W.Fast.te14374325043358763698, PySem.W.Fast.te14364793385576792824]
  kernel_rfl
theorem hend (w : World) : (fun os => topRun treeTable PySem.Challenge.pw_nt0282_01 w 11 hann 2 (st53 w os).abs ⟨doneF .next, hcode, ⟨348, 0, 355, 123⟩, [topFrame hp0]⟩) = fun os => some ⟨hfin w.params, Array.mk [], {}, 881, os⟩ := by
  rewrite [PySem.W.Fast.te14082659384304107361, PySem.W.Fast.te14364793385576792824]
  kernel_rfl
theorem hnone : hbody.drop 53 = [] := by kernel_rfl
theorem drop_sgs {a b : Nat} (h : a ≤ b) : hbody.drop a = sgs a b ++ hbody.drop b := by
  have e := List.take_append_drop (b - a) (hbody.drop a)
  rw [List.drop_drop] at e
  rw [show a + (b - a) = b by omega] at e
  exact e.symm
theorem happ {n N a b : Nat} {s s' : World → OsState → SharedT} {q q' : Pos} {w : World} {os : OsState} {r : Shared} (h : hrun n s a b q s' q' w) (hab : Nat.ble a b = true)
    (k : topRun treeTable PySem.Challenge.pw_nt0282_01 w 11 hann N (s' w os).abs (restOf (hbody.drop b) henv hcode q' [topFrame hp0]) = some r) :
    topRun treeTable PySem.Challenge.pw_nt0282_01 w 11 hann (n + N) (s w os).abs (restOf (hbody.drop a) henv hcode q [topFrame hp0]) = some r := by
  rw [drop_sgs (Nat.le_of_ble_eq_true hab)]
  exact piece_app (segRun_of (congrFun h os)) k
theorem htop (w : World) (os : OsState) : topRun treeTable PySem.Challenge.pw_nt0282_01 w 11 hann (12 + (1 + (679 + (51 + (1654 + (472 + (473 + (731 + (218 + (219 + 2)))))))))) ⟨boot_heap w.params, Array.mk [], boot_drawn, boot_toks, os⟩ (topStub PySem.Challenge.pw_nt0282_01) = some ⟨hfin w.params, Array.mk [], {}, 881, os⟩ := by
  refine go_top (congrFun (hpre w) os) ?_
  refine piece_block (b := hbody) (env := henv) (congrFun (hblock w) os) ?_
  have e0 : hbody = hbody.drop 0 := rfl
  rw [e0]
  refine happ (seg0 w) rfl (happ (seg1 w) rfl (happ (seg2 w) rfl (happ (seg3 w) rfl (happ (seg4 w) rfl (happ (seg5 w) rfl (happ (seg6 w) rfl (happ (seg7 w) rfl ?_)))))))
  rw [hnone]
  exact piece_nil (congrFun (hend w) os)
theorem hsize (w : World) : ((boot_heap w.params).isNs mainGlobals && (Array.mk [] : Array GenState).size == 0, (boot_heap w.params).objs.size, (boot_heap w.params).nsMap mainGlobals "__annotations__") = (true, 11, hann) := by
  rewrite [PySem.W.Fast.te8920871248978507458]
  kernel_rfl
theorem hlook1 (w : World) : (fun os => (staticsOk (importedModules PySem.Challenge.pw_nt0282_01.main.body) (boot_heap w.params) (hfin w.params) && namesBound PySem.Challenge.pw_nt0282_01 (hfin w.params) && gensDone ⟨hfin w.params, Array.mk [], {}, 881, os⟩ && laidKept (boot_heap w.params) (hfin w.params))) = fun _ => true := by
  rewrite [PySem.W.Fast.te5923862056798008813]
  kernel_rfl
theorem hlook2 (w : World) : (fun os => openSeen hview hloose (importedModules PySem.Challenge.pw_nt0282_01.main.body) (fun _ => true) true ⟨hfin w.params, Array.mk [], {}, 881, os⟩) = fun _ => openGood hview hloose := by
  rewrite [PySem.W.Fast.te4187177175401517315, PySem.W.Fast.te5923862056798008813]
  kernel_rfl
theorem hlook3 (w : World) : (fun os => hobs ⟨hfin w.params, Array.mk [], {}, 881, os⟩) = fun _ => hval w := by kernel_rfl
theorem hopen (w : World) : (fencedOpening treeTable PySem.Challenge.pw_nt0282_01 w 10000).map (fun s => (s.heap, s.gens, s.drawn, s.toks)) = some (boot_heap w.params, Array.mk [], boot_drawn, boot_toks) := by
  rewrite [PySem.W.Fast.te14364793385576792824]
  kernel_rfl
theorem left : LeftO PySem.Challenge.pw_nt0282_01 hview hloose (fun _ => true) hobs hval 10000 :=
  LeftO.of_pieces (H₀ := boot_heap) (H₁ := hfin) hopen hsize htop rfl fun w => by
    funext os
    exact Prod.ext (congrFun (hlook1 w) os) (Prod.ext (congrFun (hlook2 w) os) (congrFun (hlook3 w) os))
end Mine
end
section
set_option maxRecDepth 100000
open PySem PySem.W PySem.Calls PyProof.Rows
set_option Elab.async false
namespace Mine
noncomputable def hdef : Option (DefRec × List (Str × Expr)) := defOf hview PySem.Challenge.rw_nt0282_01.name
theorem hdef_some : hdef.isSome = true := by kernel_rfl
noncomputable def hrec : DefRec × List (Str × Expr) := hdef.get hdef_some
theorem hdef_is : defOf hview PySem.Challenge.rw_nt0282_01.name = some (hrec.1, hrec.2) := (Option.some_get hdef_some).symm
theorem hthe : PySem.Challenge.rw_nt0282_01.prog.theDef PySem.Challenge.rw_nt0282_01.name = some (hrec.1.params, hrec.1.body, hrec.1.scope) := by kernel_rfl
theorem hkw : kwWritten? hrec.1.params.kwonlyargs hrec.1.params.kw_defaults = some hrec.2 := by kernel_rfl
theorem hname : hrec.1.name = Str.ofString "law" := by kernel_rfl
theorem hkeys (P : Params) : has = (Mine.frag.heap_1 P).map (·.1) := by kernel_rfl
theorem hsaid : PySem.Challenge.rw_nt0282_01.wellSaid = true := by
  rewrite [PySem.W.Fast.te9446332074065402090]
  kernel_rfl
theorem hok : (chainsOk hview && opensWell PySem.Challenge.rw_nt0282_01.prog && (frees PySem.Challenge.rw_nt0282_01.row.toRowW && PySem.Challenge.rw_nt0282_01.row.within.isEmpty)) = true := by
  rewrite [PySem.W.Fast.te2368527892694137696]
  kernel_rfl
theorem hwit : PySem.Challenge.rw_nt0282_01.row.toRowW.promised := ⟨[.list [.int 3, .int 1]], by decide +kernel, by decide +kernel⟩
theorem hbare : PySem.Challenge.rw_nt0282_01.prog.bare := ⟨rfl, rfl, rfl, rfl, rfl, by decide +kernel⟩
end Mine
end
section
set_option maxRecDepth 100000
open PySem PySem.W PySem.Calls PyProof.Rows
set_option Elab.async false
namespace Mine
open Builtin
theorem fmc {α : Type} {p : α → Prop} {a : α} {l : List α} (h : p a) (k : ∀ x ∈ l, p x) : ∀ x ∈ a :: l, p x := List.forall_mem_cons.mpr ⟨h, k⟩
/-- a goal behind a letter: what is taken apart meanwhile does not restate it -/
theorem hideG {G : Prop} (h : ∀ P : Prop, (G → P) → P) : G := h G fun x => x
theorem toNatS {k : Int} (h : 0 ≤ k) : (k + 1).toNat = k.toNat + 1 := by
  obtain ⟨j, rfl⟩ := Int.eq_ofNat_of_zero_le h; rfl
theorem toNatP {k : Int} (h : 0 < k) : k.toNat = (k - 1).toNat + 1 := by
  obtain ⟨j, rfl⟩ := Int.lt.dest h
  rw [Int.zero_add]
  show j + 1 = ((((j : Nat) : Int) + 1) - 1).toNat + 1
  rw [Int.add_sub_cancel]; rfl
theorem toNatL {k : Int} {n : Nat} (h0 : 0 ≤ k) (h1 : k < n) : k.toNat < n := by
  obtain ⟨j, rfl⟩ := Int.eq_ofNat_of_zero_le h0; exact Int.ofNat_lt.mp h1
theorem toNatLe {k : Int} {n : Nat} (h0 : 0 ≤ k) (h1 : k ≤ n) : k.toNat ≤ n := by
  obtain ⟨j, rfl⟩ := Int.eq_ofNat_of_zero_le h0; exact Int.ofNat_le.mp h1
theorem toNatPL {k : Int} {n : Nat} (h0 : 0 < k) (h1 : k ≤ n) : (k - 1).toNat < n := by
  rw [← Nat.succ_le_iff, Nat.succ_eq_add_one, ← toNatP h0]; exact toNatLe (Int.le_of_lt h0) h1
theorem mUp {n : Nat} {k : Int} (h0 : 0 ≤ k) (h1 : k < n) : n - (k + 1).toNat < n - k.toNat := by
  rw [toNatS h0]; exact Nat.sub_lt_sub_left (toNatL h0 h1) (Nat.lt_succ_self _)
theorem mDn {k : Int} (h : 0 < k) : (k - 1).toNat < k.toNat := by
  rw [toNatP h]; exact Nat.lt_succ_self _
theorem mDs {st k : Int} (h0 : 0 ≤ st) (h1 : st < k) : (k - 1).toNat < k.toNat := mDn (Int.lt_of_le_of_lt h0 h1)
/-! facts of the method table -/
theorem slotFind : Slot "bytes" "find" "bytes.find" :=
  .of (owner := "bytes") (n := "find") (by rw [typeLookup_type, builtinLookup_eq_fast]; kernel_rfl) (by decide +kernel) (by decide +kernel) (by decide +kernel) (.inr (by decide +kernel)) (by rw [isSubtype_type]; kernel_rfl)
theorem tyFind : typeOf (.builtin "bytes.find") = pure (.type "method_descriptor") := by show builtinType _ = _; rw [builtinType_eq_fast]; kernel_rfl
theorem entFind : entryFor table "bytes.find" = some Builtin.«bytes.find» := entryFor_of_tree (by kernel_rfl)
theorem argFind2 (a b : Value) : argsOk "bytes.find" ⟨[a, b], []⟩ := by unfold argsOk; kernel_rfl
theorem argFind3 (a b c : Value) : argsOk "bytes.find" ⟨[a, b, c], []⟩ := by unfold argsOk; kernel_rfl
theorem argStarts3 (a b c : Value) : argsOk "bytes.startswith" ⟨[a, b, c], []⟩ := by unfold argsOk; kernel_rfl
theorem slotSplit : Slot "bytes" "split" "bytes.split" :=
  .of (owner := "bytes") (n := "split") (by rw [typeLookup_type, builtinLookup_eq_fast]; kernel_rfl) (by decide +kernel) (by decide +kernel) (by decide +kernel) (.inr (by decide +kernel)) (by rw [isSubtype_type]; kernel_rfl)
theorem tySplit : typeOf (.builtin "bytes.split") = pure (.type "method_descriptor") := by show builtinType _ = _; rw [builtinType_eq_fast]; kernel_rfl
theorem entSplit : entryFor table "bytes.split" = some Builtin.«bytes.split» := entryFor_of_tree (by kernel_rfl)
theorem argSplit2 (a b : Value) : argsOk "bytes.split" ⟨[a, b], []⟩ := by unfold argsOk; kernel_rfl
theorem slotJoin : Slot "bytes" "join" "bytes.join" :=
  .of (owner := "bytes") (n := "join") (by rw [typeLookup_type, builtinLookup_eq_fast]; kernel_rfl) (by decide +kernel) (by decide +kernel) (by decide +kernel) (.inr (by decide +kernel)) (by rw [isSubtype_type]; kernel_rfl)
theorem tyJoin : typeOf (.builtin "bytes.join") = pure (.type "method_descriptor") := by show builtinType _ = _; rw [builtinType_eq_fast]; kernel_rfl
theorem entJoin : entryFor table "bytes.join" = some Builtin.«bytes.join» := entryFor_of_tree (by kernel_rfl)
theorem argJoin2 (a b : Value) : argsOk "bytes.join" ⟨[a, b], []⟩ := by unfold argsOk; kernel_rfl

section
variable {prog : Program} {w : World} {A : Around} {E : Value → Shared → Prop} {s : Shared} {t u v : Tok}
/-- a method of bytes, found -/
theorem methB {M : Model} {b : Array UInt8} {pl : Sem Bool} {Q : Value × List Value → Shared → Prop} {name : PySem.Str} {id : String} (slot : Slot "bytes" name id) (ty : typeOf (.builtin id) = pure (.type "method_descriptor"))
    (h : Q (.builtin id, [.bytes b t]) s) : wpAny M A (getMethod (.bytes b t) name pl) Q E s :=
  getMethod_builtin (typeIs_bytes _ _ _) FB.plainAttrs_bytes slot ty (fun _ e => nomatch e) h

theorem boundNone : Bytes.bound? none = pure none := rfl
theorem boundInt {k : Int} : Bytes.bound? (some (.int k v)) = pure (some k) := by
  have e : specialOf (.int k v) "__index__" = typeLookup (.type "int") "__index__" := rfl
  show (specialOf (.int k v) "__index__" >>= _) = _
  rw [e, F.slot_int_index.lookup]
  rfl
/-- find: the first place at or behind `at`, else -1 -/
noncomputable def fnd (l c : List UInt8) (at_ : Nat) : Int := match Bytes.find? l.toArray c.toArray at_ l.length with | some i => (i : Int) | none => -1
theorem argsF {l c : List UInt8} {rest : List Value} {st : Option Int} (h1 : Bytes.bound? rest[0]? = pure st) (h2 : Bytes.bound? rest[1]? = pure none) (hc : checkCount "find" 1 3 (rest.length + 1) = pure ()) :
    Bytes.searchArgs .bytes "find" ⟨.bytes l.toArray t :: .bytes c.toArray u :: rest, []⟩ =
      pure (l.toArray, c.toArray, if (Bytes.window l.length st none).2 - (Bytes.window l.length st none).1 < (c.length : Int) then none else some ((Bytes.window l.length st none).1.toNat, (Bytes.window l.length st none).2.toNat)) := by
  unfold Bytes.searchArgs
  have e : selfAndSome (toString Bytes.Kind.bytes.name ++ toString "." ++ toString "find") "find" 1 3 ⟨.bytes l.toArray t :: .bytes c.toArray u :: rest, []⟩ = pure (.bytes l.toArray t, .bytes c.toArray u :: rest) := by
    unfold selfAndSome
    show (do checkCount "find" 1 3 (rest.length + 1); pure (Value.bytes l.toArray t, Value.bytes c.toArray u :: rest)) = _
    rw [hc]; rfl
  have z (x : Value × List Value) (f : Value × List Value → Sem (Array UInt8 × Array UInt8 × Option (Nat × Nat))) : (pure x >>= f) = f x := rfl
  show (selfAndSome _ "find" 1 3 _ >>= _) = _
  rw [show selfAndSome _ "find" 1 3 ⟨.bytes l.toArray t :: .bytes c.toArray u :: rest, []⟩ = pure (.bytes l.toArray t, .bytes c.toArray u :: rest) from e, z]
  show (Bytes.bound? rest[0]? >>= fun start => Bytes.bound? rest[1]? >>= _) = _
  rw [h1, h2]
  show (Bytes.buffer? _ (.bytes c.toArray u) >>= _) = _
  rw [KBy.buffer_eq]
  rfl
theorem findKey {l c : List UInt8} {k : Nat} {lo hi : Int} (h1 : lo = k) (h2 : hi = l.length) :
    ((if hi - lo < (c.length : Int) then none else some (lo.toNat, hi.toNat)).bind fun x => match x with | (lo, hi) => if false = true then Bytes.rfind? l.toArray c.toArray lo hi else Bytes.find? l.toArray c.toArray lo hi) = Bytes.find? l.toArray c.toArray k l.length := by
  subst h1 h2
  split
  · rename_i hlt
    unfold Bytes.find?
    have : l.length + 1 - (k + c.toArray.size) = 0 := by simp; omega
    rw [this]
    rfl
  · rfl
theorem window1 {n : Nat} {k : Int} (h0 : 0 ≤ k) : (Bytes.window n (some k) none).1 = (k.toNat : Int) ∧ (Bytes.window n (some k) none).2 = (n : Int) := by
  unfold Bytes.window
  simp only [Option.getD_some, Option.getD_none]
  constructor
  · rw [if_neg (by omega)]; omega
  · rw [if_neg (by omega)]; omega
theorem window0 {n : Nat} : (Bytes.window n none none).1 = ((0 : Nat) : Int) ∧ (Bytes.window n none none).2 = (n : Int) := by
  unfold Bytes.window
  simp only [Option.getD_none]
  constructor
  · rw [if_neg (by omega)]; omega
  · rw [if_neg (by omega)]; omega
theorem meetsFind3 (l c : List UInt8) (k : Int) (h0 : 0 ≤ k) : Meets («bytes.find» ⟨[.bytes l.toArray t, .bytes c.toArray u, .int k v], []⟩) (fun _ R s => ∀ t' k', R (.ok (.ret (.int (fnd l c k.toNat) t'))) { s with toks := k' }) := by
  refine .of_wp fun prog w A R s h => ?_
  show wpAny _ _ (Bytes.searchArgs .bytes "find" _ >>= fun r => _) _ _ s
  rw [argsF (st := some k) boundInt boundNone rfl]
  refine wpAny_bind (wpAny_pure ?_)
  have key := findKey (l := l) (c := c) (window1 (n := l.length) h0).1 (window1 (n := l.length) h0).2
  dsimp only at key ⊢
  rw [key]
  unfold fnd at h
  split
  · rename_i i e
    rw [e] at h
    exact wpAny_bind (wpAny_mkInt (wpAny_pure ⟨_, rfl, h _ _⟩))
  · rename_i e
    rw [e] at h
    exact wpAny_bind (wpAny_rule (wpAny_bind (wpAny_mkInt (wpAny_pure ⟨_, rfl, h _ _⟩))))
theorem meetsFind2 (l c : List UInt8) : Meets («bytes.find» ⟨[.bytes l.toArray t, .bytes c.toArray u], []⟩) (fun _ R s => ∀ t' k', R (.ok (.ret (.int (fnd l c 0) t'))) { s with toks := k' }) := by
  refine .of_wp fun prog w A R s h => ?_
  show wpAny _ _ (Bytes.searchArgs .bytes "find" _ >>= fun r => _) _ _ s
  rw [argsF (st := none) boundNone boundNone rfl]
  refine wpAny_bind (wpAny_pure ?_)
  have key := findKey (l := l) (c := c) (window0 (n := l.length)).1 (window0 (n := l.length)).2
  dsimp only at key ⊢
  rw [key]
  unfold fnd at h
  split
  · rename_i i e
    rw [e] at h
    exact wpAny_bind (wpAny_mkInt (wpAny_pure ⟨_, rfl, h _ _⟩))
  · rename_i e
    rw [e] at h
    exact wpAny_bind (wpAny_rule (wpAny_bind (wpAny_mkInt (wpAny_pure ⟨_, rfl, h _ _⟩))))
theorem callFind3 {l c : List UInt8} {k : Int} {Q : Value → Shared → Prop} (h0 : 0 ≤ k) (h : ∀ t' k', Q (.int (fnd l c k.toNat) t') { s with toks := k' }) :
    wpAny (model prog w) A (call (.builtin "bytes.find") [.bytes l.toArray t, .bytes c.toArray u, .int k v]) Q E s :=
  call_meets slotFind (typeIs_bytes _ _ _) entFind (argFind3 _ _ _) (meetsFind3 l c k h0) h
theorem callFind2 {l c : List UInt8} {Q : Value → Shared → Prop} (h : ∀ t' k', Q (.int (fnd l c 0) t') { s with toks := k' }) :
    wpAny (model prog w) A (call (.builtin "bytes.find") [.bytes l.toArray t, .bytes c.toArray u]) Q E s :=
  call_meets slotFind (typeIs_bytes _ _ _) entFind (argFind2 _ _) (meetsFind2 l c) h

/-- startswith -/
noncomputable def sw (l c : List UInt8) (k : Nat) : Bool := decide (k + c.length ≤ l.length) && ((l.drop k).take c.length == c)
theorem sw_of {l c : List UInt8} {k : Nat} {lo hi : Int} (h1 : lo = k) (h2 : hi = l.length) :
    (if hi - lo < ((c.toArray.size : Nat) : Int) then false else if false = true then l.toArray.extract (hi.toNat - c.toArray.size) hi.toNat == c.toArray else l.toArray.extract lo.toNat (lo.toNat + c.toArray.size) == c.toArray) = sw l c k := by
  subst h1 h2
  unfold sw
  have hs : c.toArray.size = c.length := by simp
  rw [hs]
  by_cases hq : (l.length : Int) - k < c.length
  · rw [if_pos hq, decide_eq_false (by omega)]; rfl
  · rw [if_neg hq, decide_eq_true (by omega), Bool.true_and]
    simp only [Bool.false_eq_true, if_false, Int.toNat_natCast]
    rw [List.extract_toArray, List.extract_eq_take_drop]
    have : k + c.length - k = c.length := by omega
    rw [this, Bool.eq_iff_iff]
    simp
theorem meetsStarts (l c : List UInt8) {rest : List Value} {st : Option Int} {k : Nat} (h1 : Bytes.bound? rest[0]? = pure st) (h2 : Bytes.bound? rest[1]? = pure none) (hc : checkCount "startswith" 1 3 (rest.length + 1) = pure ())
    (hw : (Bytes.window l.length st none).1 = (k : Int) ∧ (Bytes.window l.length st none).2 = (l.length : Int)) :
    Meets («bytes.startswith» ⟨.bytes l.toArray t :: .bytes c.toArray u :: rest, []⟩) (fun _ R s => R (.ok (.ret (.bool (sw l c k)))) s) := by
  refine .of_wp fun prog w A R s h => ?_
  have e (id : String) : selfAndSome id "startswith" 1 3 ⟨.bytes l.toArray t :: .bytes c.toArray u :: rest, []⟩ = pure (.bytes l.toArray t, .bytes c.toArray u :: rest) := by
    unfold selfAndSome
    show (do checkCount "startswith" 1 3 (rest.length + 1); pure (Value.bytes l.toArray t, Value.bytes c.toArray u :: rest)) = _
    rw [hc]; rfl
  show wpAny _ _ (selfAndSome _ "startswith" 1 3 _ >>= fun r => _) _ _ s
  refine wpAny_bind (wpAny_of_eq (e _) ?_)
  refine wpAny_bind (wpAny_of_eq h1 ?_)
  refine wpAny_bind (wpAny_of_eq h2 ?_)
  refine wpAny_bind (wpAny_of_eq (a := l.toArray) rfl ?_)
  refine wpAny_bind (wpAny_isInstance (T := "bytes") (b := false) (typeIs_bytes _ _ _) (by rw [isSubtype_type]; kernel_rfl) ?_)
  refine wpAny_ite (KBy.ite_no (fun e => nomatch e) ?_)
  show wpAny _ _ (Bytes.buffer? _ (.bytes c.toArray u) >>= fun r => _) _ _ s
  refine wpAny_bind (wpAny_of_eq KBy.buffer_eq ?_)
  refine wpAny_pure ⟨_, rfl, ?_⟩
  have key := sw_of (l := l) (c := c) hw.1 hw.2
  rw [← key] at h
  exact h
theorem callStarts2 {l c : List UInt8} {Q : Value → Shared → Prop} (h : Q (.bool (sw l c 0)) s) :
    wpAny (model prog w) A (call (.builtin "bytes.startswith") [.bytes l.toArray t, .bytes c.toArray u]) Q E s :=
  call_meets FB.slot_bytes_startswith (typeIs_bytes _ _ _) FB.entry_bytes_startswith (FB.args_bytes_startswith_2 _ _) (meetsStarts l c (rest := []) boundNone boundNone rfl window0) h
theorem callStarts3 {l c : List UInt8} {k : Int} {Q : Value → Shared → Prop} (h0 : 0 ≤ k) (h : Q (.bool (sw l c k.toNat)) s) :
    wpAny (model prog w) A (call (.builtin "bytes.startswith") [.bytes l.toArray t, .bytes c.toArray u, .int k v]) Q E s :=
  call_meets FB.slot_bytes_startswith (typeIs_bytes _ _ _) FB.entry_bytes_startswith (argStarts3 _ _ _) (meetsStarts l c (rest := [.int k v]) boundInt boundNone rfl (window1 h0)) h
end
end Mine
end
section
set_option maxRecDepth 100000
open PySem PySem.W PySem.Calls PyProof.Rows
set_option Elab.async false
namespace Mine
open Builtin
/-- values that are these bytes, whatever their tokens -/
inductive BsAre : List Value → List (List UInt8) → Prop
  | nil : BsAre [] []
  | cons (l : List UInt8) (t : Tok) {vs : List Value} {ls : List (List UInt8)} : BsAre vs ls → BsAre (.bytes l.toArray t :: vs) (l :: ls)
theorem BsAre.length {vs : List Value} {ls : List (List UInt8)} (h : BsAre vs ls) : vs.length = ls.length := by
  induction h with
  | nil => rfl
  | cons _ _ _ ih => simp [ih]
theorem BsAre.append {vs vs' : List Value} {ls ls' : List (List UInt8)} (h : BsAre vs ls) (h' : BsAre vs' ls') : BsAre (vs ++ vs') (ls ++ ls') := by
  induction h with
  | nil => exact h'
  | cons l t _ ih => exact .cons l t ih
theorem BsAre.get {vs : List Value} {ls : List (List UInt8)} (h : BsAre vs ls) : ∀ {i : Nat} {v : Value}, vs[i]? = some v → ∃ l t, v = .bytes l.toArray t ∧ ls[i]? = some l := by
  induction h with
  | nil => intro i v e; simp at e
  | cons l t _ ih =>
    intro i v e
    cases i with
    | zero => simp at e; exact ⟨l, t, e.symm, rfl⟩
    | succ i => exact ih (by simpa using e)
theorem BsAre.at {vs : List Value} {ls : List (List UInt8)} (h : BsAre vs ls) : ∀ {i : Nat} {l : List UInt8}, ls[i]? = some l → ∃ t, vs[i]? = some (.bytes l.toArray t) := by
  induction h with
  | nil => intro i v e; simp at e
  | cons l t _ ih =>
    intro i v e
    cases i with
    | zero => simp at e; subst e; exact ⟨t, rfl⟩
    | succ i => exact ih (by simpa using e)
theorem BsAre.drop {vs : List Value} {ls : List (List UInt8)} (h : BsAre vs ls) : ∀ n, BsAre (vs.drop n) (ls.drop n) := by
  induction h with
  | nil => intro n; simp; exact .nil
  | cons l t h ih =>
    intro n
    cases n with
    | zero => exact .cons l t h
    | succ n => exact ih n
theorem BsAre.take {vs : List Value} {ls : List (List UInt8)} (h : BsAre vs ls) : ∀ n, BsAre (vs.take n) (ls.take n) := by
  induction h with
  | nil => intro n; simp; exact .nil
  | cons l t h ih =>
    intro n
    cases n with
    | zero => exact .nil
    | succ n => exact .cons l t (ih n)

section
variable {prog : Program} {w : World} {A : Around} {E : Value → Shared → Prop} {s : Shared} {t u v : Tok}
theorem makeAll {ps : List (Array UInt8)} : ∀ {s : Shared} {Q : List Value → Shared → Prop}, (∀ p ∈ ps, p.size ≤ sizeLine) → (∀ vs k, BsAre vs (ps.map (·.toList)) → Q vs { s with toks := k }) →
    wpAny (model prog w) A (ps.mapM (Bytes.Kind.new .bytes)) Q E s := by
  induction ps with
  | nil => intro s Q _ h; exact wpAny_pure (h [] s.toks .nil)
  | cons p ps ih =>
    intro s Q hz h
    rw [List.mapM_cons]
    refine wpAny_bind (wpAny_mkBytes ?_ (hz p (.head _)))
    refine wpAny_bind (ih (fun q hq => hz q (.tail _ hq)) fun vs k hb => wpAny_pure ?_)
    have := BsAre.cons p.toList s.toks hb
    rw [Array.toArray_toList] at this
    exact h _ k this

/-- the parts between newlines -/
noncomputable def splitNL : List UInt8 → List (List UInt8)
  | [] => [[]]
  | c :: r => if c == 10 then [] :: splitNL r else (match splitNL r with | [] => [[c]] | x :: xs => (c :: x) :: xs)
theorem splitNL_ne (l : List UInt8) : splitNL l ≠ [] := by
  cases l with
  | nil => simp [splitNL]
  | cons c r =>
    unfold splitNL
    split
    · simp
    · split <;> simp
theorem bindSplit (v : Value) : Bytes.bindOptional "bytes.split" "split" ["sep", "maxsplit"] [v] [] = pure [some v, none] := by kernel_rfl

theorem sameB {b : Array UInt8} {t : Tok} : Bytes.Kind.same .bytes (.bytes b t) = pure (.bytes b t) := rfl
noncomputable def partsNL (b : Array UInt8) : List (Array UInt8) := Bytes.between b 1 ((Bytes.occurrences b #[10] 0 b.size).take (b.size + 1))
theorem meetsSplit (l : List UInt8) (hl : l.length ≤ 100000) (hp : ∀ p ∈ partsNL l.toArray, p.size ≤ 100000) (hn : (partsNL l.toArray).length ≤ 200000) :
    Meets («bytes.split» ⟨[.bytes l.toArray t, .bytes [10].toArray u], []⟩) (fun _ R s => ∀ vs k, BsAre vs ((partsNL l.toArray).map (·.toList)) →
      R (.ok (.ret (.ref s.heap.objs.size))) { s with heap := s.heap.push { cls := .type "list", data := .seq vs.toArray }, toks := k }) := by
  refine .of_wp fun prog w A R s h => ?_
  show wpAny _ _ (Bytes.bindOptional "bytes.split" "split" ["sep", "maxsplit"] [.bytes [10].toArray u] [] >>= fun r => _) _ _ s
  refine wpAny_bind (wpAny_of_eq (bindSplit _) ?_)
  refine wpAny_bind (wpAny_of_eq (a := (-1 : Int)) rfl ?_)
  refine wpAny_bind (wpAny_of_eq (a := l.toArray) rfl ?_)
  show wpAny _ _ (Bytes.bytesLike _ (.bytes [10].toArray u) >>= fun r => _) _ _ s
  refine wpAny_bind (wpAny_of_eq KBd.like_eq ?_)
  refine wpAny_ite (KBy.ite_no (fun e => nomatch e) ?_)
  show wpAny _ _ (if ((Bytes.occurrences l.toArray #[10] 0 l.toArray.size).take (l.toArray.size + 1)).isEmpty = true then _ else _) _ _ _
  by_cases he : ((Bytes.occurrences l.toArray #[10] 0 l.toArray.size).take (l.toArray.size + 1)).isEmpty = true
  · rw [if_pos he]
    have e0 := List.isEmpty_iff.mp he
    have ep : partsNL l.toArray = [l.toArray] := by
      unfold partsNL
      rw [e0]
      simp [Bytes.between]
    rw [ep] at h
    refine wpAny_bind (wpAny_rule ?_)
    refine wpAny_bind (wpAny_of_eq sameB (wpAny_bind (wpAny_newList ?_ ?_)))
    · refine wpAny_pure ⟨_, rfl, ?_⟩
      exact h [.bytes l.toArray t] s.toks (by simpa using BsAre.cons l t .nil)
    · simp [sizeLine_eq]
  · rw [if_neg he]
    show wpAny _ _ (List.mapM (Bytes.Kind.new .bytes) (partsNL l.toArray) >>= fun vs => newList vs >>= fun r => ret r) _ _ _
    refine wpAny_bind (makeAll (fun p hp' => ?_) fun vs k hb => ?_)
    · have := hp p hp'
      rw [sizeLine_eq]; omega
    · refine wpAny_bind (wpAny_newList (wpAny_pure ⟨_, rfl, h vs k hb⟩) ?_)
      rw [hb.length, List.length_map, sizeLine_eq]
      omega
end
end Mine
end
section
set_option maxRecDepth 100000
open PySem PySem.W PySem.Calls PyProof.Rows
set_option Elab.async false
namespace Mine
open Builtin
section
variable {prog : Program} {w : World} {A : Around} {E : Value → Shared → Prop} {s : Shared} {t u v : Tok}
theorem takeEq {id : String} {b : Array UInt8} : Bytes.takeBufferQuiet? id (.bytes b t) 0 = pure (some (b, none)) := by
  have e : Bytes.takeBuffer? id (.bytes b t) 0 = pure (some (b, none)) := by
    unfold Bytes.takeBuffer?
    rw [KBy.special_eq KBy.look_buffer, KBy.own_buffer]
    show (Bytes.buffer? id (.bytes b t) _ >>= _) = _
    have e2 : Bytes.buffer? id (.bytes b t) ((0 : Int) == Bytes.fullReadOnly) = pure (some b) := KBy.buffer_eq
    rw [e2]
    rfl
  unfold Bytes.takeBufferQuiet?
  rw [e]
  rfl
theorem forRange {β : Type} {f : Nat → β → Sem (ForInStep β)} {Q : β → Shared → Prop} {n : Nat} (I : Nat → β → Prop)
    (st : ∀ i b, i < n → I i b → ∀ Q' : ForInStep β → Shared → Prop, (∀ b', I (i + 1) b' → Q' (.yield b') s) → wpAny (model prog w) A (f i b) Q' E s)
    {b₀ : β} (h0 : I 0 b₀) (h : ∀ b, I n b → Q b s) : wpAny (model prog w) A (forIn [:n] b₀ f) Q E s := by
  rw [Std.Legacy.Range.forIn_eq_forIn_range']
  have hs : (Std.Legacy.Range.mk 0 n 1 (by decide)).size = n := by simp [Std.Legacy.Range.size]
  show wpAny _ _ (forIn (List.range' 0 (Std.Legacy.Range.mk 0 n 1 (by decide)).size 1) b₀ f) _ _ _
  rw [hs]
  have all : ∀ (m i : Nat) (b : β), i + m = n → I i b → wpAny (model prog w) A (forIn (List.range' i m 1) b f) Q E s := by
    intro m
    induction m with
    | zero => intro i b e hI; rw [List.range'_zero, List.forIn_nil]; exact wpAny_pure (h b ((show i = n by omega) ▸ hI))
    | succ m ih =>
      intro i b e hI
      rw [List.range'_succ, List.forIn_cons]
      exact wpAny_bind (st i b (by omega) hI _ fun b' hb' => ih (i + 1) b' (by omega) hb')
  exact all n 0 b₀ (by omega) h0
theorem letGoAll {l : List (Value × Option Value)} {keep : List Value} : ∀ {Q : Unit → Shared → Prop}, (∀ x ∈ l, x.2 = none) → Q () s → wpAny (model prog w) A (Bytes.joinLetGo l keep) Q E s := by
  induction l with
  | nil => intro Q _ h; exact wpAny_pure h
  | cons x l ih =>
    intro Q hn h
    obtain ⟨a, b⟩ := x
    have : b = none := hn _ (.head _)
    subst this
    unfold Bytes.joinLetGo
    exact wpAny_bind (wpAny_letGo (ih (fun y hy => hn y (.tail _ hy)) h))

noncomputable def joinB (sep : List UInt8) : List (List UInt8) → List UInt8
  | [] => []
  | x :: r => x ++ r.flatMap fun y => sep ++ y
theorem joined_from (sep : Array UInt8) : ∀ (ps : List (Array UInt8)) (k : Nat) (out : Array UInt8),
    ((ps.zipIdx (k + 1)).foldl (fun out (p, i) => (if i > 0 then out ++ sep else out) ++ p) out).toList = out.toList ++ ps.flatMap fun y => sep.toList ++ y.toList
  | [], k, out => by simp
  | p :: ps, k, out => by
    rw [List.zipIdx_cons, List.foldl_cons, joined_from sep ps (k + 1)]
    simp
theorem joined_eq (sep : Array UInt8) (ps : List (Array UInt8)) : (Bytes.joined sep ps).toList = joinB sep.toList (ps.map (·.toList)) := by
  cases ps with
  | nil => rfl
  | cons p ps =>
    unfold Bytes.joined joinB
    rw [List.zipIdx_cons, List.foldl_cons, joined_from sep ps 0]
    simp [List.flatMap_map]
noncomputable def bArr : Value → Array UInt8
  | .bytes b _ => b
  | _ => #[]
theorem bArr_eq {vs : List Value} {ls : List (List UInt8)} (h : BsAre vs ls) : vs.map bArr = ls.map List.toArray := by
  induction h with
  | nil => rfl
  | cons l t _ ih => simp [bArr, ih]
theorem joinSize (sep : List UInt8) (x : List UInt8) (r : List (List UInt8)) : (joinB sep (x :: r)).length = sep.length * r.length + ((x :: r).map List.length).sum := by
  unfold joinB
  rw [List.length_append, List.length_flatMap]
  induction r with
  | nil => simp
  | cons y r ih =>
    simp only [List.map_cons, List.sum_cons, List.length_append, List.length_cons] at ih ⊢
    have : sep.length * (r.length + 1) = sep.length * r.length + sep.length := Nat.mul_succ _ _
    omega
theorem foldSum (vs : List (Array UInt8)) : ∀ k : Nat, vs.foldl (· + ·.size) k = k + (vs.map (·.size)).sum := by
  induction vs with
  | nil => simp
  | cons v vs ih => intro k; rw [List.foldl_cons, ih]; simp; omega
theorem eqTree {α : Type} {M : Model} {x y : Sem α} {Q : α → Shared → Prop} (e : x = y) (h : wpAny M A y Q E s) : wpAny M A x Q E s := e ▸ h
theorem oneNot {α : Type} {vs : List Value} (hne : ∀ x, vs ≠ [x]) {f : Value → α} {g : α} : (match vs.toArray with | #[x] => f x | _ => g) = g := by
  match vs, hne with
  | [], _ => rfl
  | [x], h => exact absurd rfl (h x)
  | x :: y :: r, _ => rfl
theorem meetsJoin (sep : List UInt8) (D : Addr) (n : Nat) (vs : List Value) (ls : List (List UInt8)) (hb : BsAre vs ls) (hz : (joinB sep ls).length ≤ 16777216) (hs : sep.length ≤ 16777216) :
    Meets («bytes.join» ⟨[.bytes sep.toArray t, .ref D], []⟩) (fun _ R s => s.heap.get? D = some (listOf vs.toArray n) ∧ ∀ t' k, R (.ok (.ret (.bytes (joinB sep ls).toArray t'))) { s with toks := k }) := by
  refine .of_wp fun prog w A R s h => ?_
  obtain ⟨hD, h⟩ := h
  unfold «bytes.join» Bytes.joinM
  refine wpAny_bind (wpAny_of_eq (a := (Value.bytes sep.toArray t, Value.ref D)) rfl ?_)
  dsimp only
  refine wpAny_ite (KBc.ite_yes rfl ?_)
  show wpAny _ _ (Bytes.joinItems (.ref D) >>= fun seq => _) _ _ _
  refine wpAny_bind ?_
  unfold Bytes.joinItems
  refine wpAny_bind (wpAny_typeOf (T := "list") ⟨_, hD, rfl⟩ ?_)
  refine wpAny_ite (KBc.ite_yes rfl ?_)
  refine wpAny_pure ?_
  refine wpAny_bind (wpAny_seqItems hD rfl ?_)
  dsimp only
  refine wpAny_ite (KBc.ite_yes rfl ?_)
  have two : (∃ x, vs = [x]) ∨ (∀ x, vs ≠ [x]) := by
    by_cases hx : ∃ x, vs = [x]
    · exact .inl hx
    · exact .inr fun x e => hx ⟨x, e⟩
  rcases two with ⟨x, rfl⟩ | hne
  · cases hb with
    | cons l t' hb' =>
      cases hb'
      refine wpAny_bind (wpAny_typeOf (typeIs_bytes _ _ _) ?_)
      refine wpAny_ite (KBc.ite_yes rfl ?_)
      refine wpAny_bind (wpAny_rule (wpAny_pure ⟨_, rfl, ?_⟩))
      have := h t' s.toks
      simp only [joinB, List.flatMap_nil, List.append_nil] at this
      exact this
  · refine eqTree (oneNot hne) ?_
    refine wpAny_bind (forRange (s := s) (fun i b => b.1 = ((vs.take i).map bArr).toArray ∧ b.2 = (vs.take i).map fun x => (x, none)) ?_ ⟨rfl, rfl⟩ ?_)
    · rintro i ⟨ps, tk⟩ hi ⟨h1, h2⟩ Q' hQ
      dsimp only at h1 h2 hQ ⊢
      have hi' : i < vs.length := by simpa using hi
      obtain ⟨l, t', hv, _⟩ := hb.get (List.getElem?_eq_getElem hi')
      refine wpAny_bind (wpAny_seqItems hD rfl ?_)
      dsimp only
      have hno : (tk.any fun x => x.1.onHeap) = false := by
        subst h2
        rw [List.any_map, List.any_eq_false]
        intro x hx
        obtain ⟨j, hj⟩ := List.getElem?_of_mem hx
        obtain ⟨l', t'', e, _⟩ := (hb.take i).get hj
        subst e
        simp [Value.onHeap]
      have hg : vs.toArray.getD i Value.none = .bytes l.toArray t' := by
        simp [Array.getD, hi', hv]
      rw [hno, hg]
      refine wpAny_ite (KBy.ite_no (fun e => nomatch e) ?_)
      refine wpAny_bind (wpAny_holding (wpAny_of_eq takeEq ?_))
      dsimp only
      refine wpAny_bind (wpAny_seqItems hD rfl ?_)
      dsimp only
      refine wpAny_ite (KBy.ite_no (by simp) ?_)
      refine wpAny_pure (hQ _ ?_)
      have ht : vs.take (i + 1) = vs.take i ++ [.bytes l.toArray t'] := by
        rw [List.take_add_one, List.getElem?_eq_getElem hi', hv]; rfl
      constructor
      · dsimp only
        rw [h1, ht]; simp [bArr]
      · dsimp only
        rw [h2, ht]; simp
    · rintro ⟨ps, tk⟩ ⟨h1, h2⟩
      dsimp only at h1 h2 ⊢
      have hf : vs.take vs.toArray.size = vs := by simp
      rw [hf] at h1 h2
      refine wpAny_bind (wpAny_of_eq (a := sep.toArray) rfl ?_)
      have hps : ps.toList = ls.map List.toArray := by rw [h1, bArr_eq hb]
      have hj : (Bytes.joined sep.toArray ps.toList) = (joinB sep ls).toArray := by
        apply Array.toList_inj.mp
        rw [joined_eq, hps]; simp [Function.comp_def]
      refine wpAny_ite (KBy.ite_no ?_ ?_)
      · have hsz : ps.size = ls.length := by rw [← Array.length_toList, hps, List.length_map]
        have : ps.foldl (fun x1 x2 => x1 + x2.size) (sep.toArray.size * (ps.size - 1)) ≤ 16777216 := by
          rw [← Array.foldl_toList, foldSum, hsz, hps, List.map_map]
          have e : (Array.size ∘ List.toArray : List UInt8 → Nat) = List.length := rfl
          rw [e]
          cases ls with
          | nil => simp
          | cons x r =>
            rw [joinSize] at hz
            have e2 : sep.toArray.size * ((x :: r).length - 1) = sep.length * r.length := by simp
            rw [e2]
            exact hz
        rw [KBy.tooLong_not this]
        exact fun e => nomatch e
      · show wpAny _ _ (mkBytes (Bytes.joined sep.toArray ps.toList) >>= fun r => _) _ _ _
        rw [hj]
        refine wpAny_bind (wpAny_mkBytes ?_ (by simp [sizeLine_eq]; exact hz))
        refine wpAny_bind (wpAny_holding (wpAny_point ?_))
        refine wpAny_bind (letGoAll (by subst h2; simp) ?_)
        exact wpAny_pure ⟨_, rfl, h _ _⟩
theorem callJoin {sep : List UInt8} {D : Addr} {n : Nat} {vs : List Value} {ls : List (List UInt8)} {Q : Value → Shared → Prop} (hD : s.heap.get? D = some (listOf vs.toArray n)) (hb : BsAre vs ls) (hz : (joinB sep ls).length ≤ 16777216) (hs : sep.length ≤ 16777216)
    (h : ∀ t' k, Q (.bytes (joinB sep ls).toArray t') { s with toks := k }) : wpAny (model prog w) A (call (.builtin "bytes.join") [.bytes sep.toArray t, .ref D]) Q E s :=
  call_meets slotJoin (typeIs_bytes _ _ _) entJoin (argJoin2 _ _) (meetsJoin sep D n vs ls hb hz hs) ⟨hD, h⟩
end
end Mine
end
section
set_option maxRecDepth 100000
open PySem PySem.W PySem.Calls PyProof.Rows
set_option Elab.async false
namespace Mine
open Builtin
section
variable {prog : Program} {w : World} {A : Around} {E : Value → Shared → Prop} {s : Shared} {t u v : Tok} {l m : List UInt8} {Q : Value → Shared → Prop}
theorem lenB (hf : l.length ≤ 1099511627776) (h : ∀ t' k, Q (.int (l.length : Nat) t') { s with toks := k }) : wpAny (model prog w) A (call (.builtin "len") [.bytes l.toArray t]) Q E s :=
  len_bytes (by simpa using hf) (by have := h (s.toks + 1) (s.toks + 1 + 1); simpa using this)
theorem addB (hz : l.length + m.length ≤ 16777216) (h : ∀ t' k, Q (.bytes (l ++ m).toArray t') { s with toks := k }) : wpAny (model prog w) A (binaryOp .Add (.bytes l.toArray t) (.bytes m.toArray u)) Q E s :=
  KBy.add_bytes (by simpa using hz) fun t' k => by rw [List.append_toArray]; exact h t' k
theorem eqB (h : Q (.bool (l == m)) s) : wpAny (model prog w) A (compareOp .Eq (.bytes l.toArray t) (.bytes m.toArray u)) Q E s := eq_bytes (by simpa using h)
theorem neB (h : Q (.bool (l != m)) s) : wpAny (model prog w) A (compareOp .NotEq (.bytes l.toArray t) (.bytes m.toArray u)) Q E s := ne_bytes (by simpa using h)
theorem givesIn (c : UInt8) : Gives («bytes.__contains__» ⟨[.bytes l.toArray t, .int ((c.toNat : Nat) : Int) u], []⟩) (.val (.bool (l.contains c))) := by
  refine .of_wp fun M A E s Q hq => ?_
  show wpAny M A (Bytes.containsIn "bytes.__contains__" (.bytes l.toArray t) (.int ((c.toNat : Nat) : Int) u) >>= fun r => _) _ E s
  refine wpAny_bind ?_
  unfold Bytes.containsIn
  refine wpAny_bind (wpAny_attempt (wpAny_of_eq (a := ((c.toNat : Nat) : Int)) rfl ?_))
  refine wpAny_bind (wpAny_of_eq KBy.buffer_eq ?_)
  dsimp only
  have hc := c.toNat_lt
  refine wpAny_ite (KBy.ite_no (by simp; omega) ?_)
  refine wpAny_pure (wpAny_pure ⟨_, rfl, ?_⟩)
  have e : ((c.toNat : Nat) : Int).toNat.toUInt8 = c := by simp
  rw [e]
  have e2 : l.toArray.contains c = l.contains c := by simp
  rw [e2]
  exact hq
theorem inB {c : UInt8} (h : Q (.bool (l.contains c)) s) : wpAny (model prog w) A (compareOp .In (.int ((c.toNat : Nat) : Int) u) (.bytes l.toArray t)) Q E s :=
  in_gives (typeIs_bytes _ _ _) FB.slot_bytes_contains FB.entry_bytes_contains (FB.args_bytes_contains_2 _ _) (givesIn c) h
theorem notInB {c : UInt8} (h : Q (.bool (!l.contains c)) s) : wpAny (model prog w) A (compareOp .NotIn (.int ((c.toNat : Nat) : Int) u) (.bytes l.toArray t)) Q E s :=
  notIn_gives (typeIs_bytes _ _ _) FB.slot_bytes_contains FB.entry_bytes_contains (FB.args_bytes_contains_2 _ _) (givesIn c) h
/-- a slice -/
noncomputable def sl (l : List UInt8) (lo hi : Option Int) : List UInt8 := (l.drop (lo.elim 0 (clipAt l.length))).take (hi.elim l.length (clipAt l.length) - lo.elim 0 (clipAt l.length))
theorem sl_picked {lo hi : Option Int} : KBy.picked l.toArray lo hi = (sl l lo hi).toArray := by
  rw [KBc.picked_eq]
  unfold sl
  simp
theorem sl_length (lo hi : Option Int) : (sl l lo hi).length ≤ l.length := by
  unfold sl
  rw [List.length_take, List.length_drop]
  exact Nat.le_trans (Nat.min_le_right _ _) (Nat.sub_le _ _)
variable {value slice : PySem.Expr} {h₀ : Heap} {L : Addr} {mm : PySem.Str → Option Value} {news : List (Addr × Obj)} {lo' hi' : Value} {lo hi : Option Int}
theorem sliceB (hF : Fr h₀ L s.heap mm) (hN : News h₀ L s.heap news) (hl : IsPart lo' lo) (hu : IsPart hi' hi) (hz : l.length ≤ 16777216)
    (h : ∀ h' t' k, Fr h₀ L h' mm → News h₀ L h' news → Q (.bytes (sl l lo hi).toArray t') { s with heap := h', toks := k })
    (hs : subscripted slice false (.bytes l.toArray t) (.ref s.heap.objs.size) = operate [.ref s.heap.objs.size, .bytes l.toArray t] (getItem (.bytes l.toArray t) (.ref s.heap.objs.size)))
    (ht : ∀ r, letTemporaryGo value (.bytes l.toArray t) r = pure ()) :
    wpAny (model prog w) A (subscriptTail value slice (.bytes l.toArray t) (.ref s.heap.objs.size)) Q E { s with heap := s.heap.push { cls := .type "slice", data := .fields #[lo', hi', .none] } } :=
  tail_of_ItemOn ⟨"bytes", _, FB.slot_bytes_getitem.lookup, typeIs_bytes _ _ _, getItem_meets (typeIs_bytes _ _ _) (by decide) FB.slot_bytes_getitem FB.entry_bytes_getitem (FB.args_bytes_getitem_2 _ _) (KBc.meets_slice2 l.toArray t _ hl hu)
    ⟨Heap.IsSliceOf.new _ _ _ _, by rw [sl_picked, sizeLine_eq, List.size_toArray]; exact Nat.le_trans (sl_length lo hi) hz, fun t' k => by rw [sl_picked]; exact h _ _ _ (hF.push _) (News.pushKeep hN _)⟩⟩ hs ht
theorem itemNegB {ui : Tok} {i : Int} (hfit : l.length ≤ 1099511627776) (h0 : -(l.length : Int) ≤ i) (h1 : i < 0) (h : ∀ t' k, Q (.int (((l.getD (i + l.length).toNat 0).toNat : Nat) : Int) t') { s with toks := k })
    (hs : subscripted slice false (.bytes l.toArray t) (.int i ui) = operate [.bytes l.toArray t, .int i ui] (getItem (.bytes l.toArray t) (.int i ui)))
    (ht : ∀ r, letTemporaryGo value (.bytes l.toArray t) r = pure ()) : wpAny (model prog w) A (subscriptTail value slice (.bytes l.toArray t) (.int i ui)) Q E s := by
  have g : wpAny (model prog w) A (getItem (.bytes l.toArray t) (.int i ui)) Q E s := by
    refine getItem_gives (typeIs_bytes s _ t) (by decide) FB.slot_bytes_getitem FB.entry_bytes_getitem (FB.args_bytes_getitem_2 _ _) (gives_bytes_getitem _ i t ui (l.getD (i + l.length).toNat 0) ?_ ?_) (h _ _)
    · simp only [Bytes.fitsIndex, Bool.and_eq_true, decide_eq_true_eq]; omega
    · have hl : (i + l.length).toNat < l.length := by omega
      have e : seqIndex? i l.toArray.size = some (i + l.length).toNat := by
        have h2 : 0 ≤ i + (l.length : Int) := by omega
        have h3 : i + (l.length : Int) < l.length := by omega
        simp [seqIndex?, h1, h2, h3]
      rw [e]; simp [hl]
  exact tail_of_ItemOn ⟨"bytes", _, FB.slot_bytes_getitem.lookup, typeIs_bytes _ _ _, g⟩ hs ht
theorem itemB {ui : Tok} {i : Int} (hfit : l.length ≤ 1099511627776) (h0 : 0 ≤ i) (h1 : i < (l.length : Int)) (h : ∀ t' k, Q (.int (((l.getD i.toNat 0).toNat : Nat) : Int) t') { s with toks := k })
    (hs : subscripted slice false (.bytes l.toArray t) (.int i ui) = operate [.bytes l.toArray t, .int i ui] (getItem (.bytes l.toArray t) (.int i ui)))
    (ht : ∀ r, letTemporaryGo value (.bytes l.toArray t) r = pure ()) : wpAny (model prog w) A (subscriptTail value slice (.bytes l.toArray t) (.int i ui)) Q E s :=
  KBy.item_N hfit h0 h1 (h _ _) hs ht
end
end Mine
end
section
set_option maxRecDepth 100000
open PySem PySem.W PySem.Calls PyProof.Rows
set_option Elab.async false
namespace Mine
theorem roomA {a k j n X : Nat} (h : a + n < X) (e : Nat.ble (j + k) n = true) : a + j + k < X := by
  have := Nat.le_of_ble_eq_true e
  omega
theorem roomB {a k n X : Nat} (h : a + n < X) (e : Nat.ble k n = true) : a + k < X := by
  have := Nat.le_of_ble_eq_true e
  omega
theorem roomC {a i k j n X : Nat} (h : a + n < X) (e : Nat.ble (i + j + k) n = true) : a + i + j + k < X := by
  have := Nat.le_of_ble_eq_true e
  omega
noncomputable def Con (w : World) (f : Addr) (d u : Nat) (led : List (Addr × Obj)) (vs : List Value) (Post : Value → List (Addr × Obj) → Prop) : Prop :=
  ∀ (dp un : Nat) (gd : Option (List Code)) (cn : Str) (cs : Scope) (a : Addr) (ccd : Value) (cl : List (Str × Addr)) (outer : List Env) (A₀ : Around) (base h₀ : Heap) (L : Addr) (m : Str → Option Value) (s : Shared) (Q E : Value → Shared → Prop)
    (p : Program) (loose : List Str) (mean : ExcName → Option Value) (mg mb : Str → Option Value),
    Below A₀ base outer h₀ → Fr h₀ L s.heap m → (Mine.frag.heap_1 w.params).In h₀ → News h₀ L s.heap led → Top p loose mean mg mb h₀ → cs.kind = .function →
    dp + d < recursionLimit → un + u < cLine →
    (∀ (r : Value) (led' : List (Addr × Obj)) (h' : Heap) (tk' : Nat), Post r led' → Fr h₀ L h' m → News h₀ L h' led' → Q r { s with heap := h', toks := tk' }) →
    wpAny (model PySem.Challenge.rw_nt0282_01.row.prog w) (ktrTop dp un gd cn cs L a ccd cl outer) (call (.ref f) vs) Q E s
noncomputable def PBytes (led : List (Addr × Obj)) (l : List UInt8) : Value → List (Addr × Obj) → Prop := fun r led' => led' = led ∧ ∃ t, r = .bytes l.toArray t
theorem pB {led : List (Addr × Obj)} {l : List UInt8} {t : Tok} : PBytes led l (.bytes l.toArray t) led := ⟨rfl, t, rfl⟩
theorem pBe {led : List (Addr × Obj)} {l l' : List UInt8} {t : Tok} (e : l' = l) : PBytes led l (.bytes l'.toArray t) led := ⟨rfl, t, e ▸ rfl⟩
end Mine
end
section
set_option maxRecDepth 100000
open PySem PySem.W PySem.Calls PyProof.Rows
set_option Elab.async false
namespace Mine
open Builtin
theorem Con.use {w : World} {f : Addr} {d u : Nat} {led : List (Addr × Obj)} {vs : List Value} {Post : Value → List (Addr × Obj) → Prop} (C : Con w f d u led vs Post)
    {dp un : Nat} {gd : Option (List Code)} {cn : Str} {cs : Scope} {a : Addr} {ccd : Value} {cl : List (Str × Addr)} {outer : List Env} {A₀ : Around} {base h₀ : Heap} {L : Addr} {m : Str → Option Value} {s : Shared} {Q E : Value → Shared → Prop}
    {p : Program} {loose : List Str} {mean : ExcName → Option Value} {mg mb : Str → Option Value}
    (B : Below A₀ base outer h₀) (F : Fr h₀ L s.heap m) (X : (Mine.frag.heap_1 w.params).In h₀) (N : News h₀ L s.heap led) (T : Top p loose mean mg mb h₀) (hk : cs.kind = .function)
    (hd : dp + d < recursionLimit) (hu : un + u < cLine)
    (ret : ∀ (r : Value) (led' : List (Addr × Obj)) (h' : Heap) (tk' : Nat), Post r led' → Fr h₀ L h' m → News h₀ L h' led' → Q r { s with heap := h', toks := tk' }) :
    wpAny (model PySem.Challenge.rw_nt0282_01.row.prog w) (ktrTop dp un gd cn cs L a ccd cl outer) (call (.ref f) vs) Q E s := C _ _ _ _ _ _ _ _ _ _ _ _ _ _ _ _ _ _ _ _ _ _ B F X N T hk hd hu ret
theorem News.rot1 {h₀ h : Heap} {L : Addr} {x a : Addr × Obj} {r : List (Addr × Obj)} (N : News h₀ L h (x :: a :: r)) : News h₀ L h (a :: x :: r) := fun p hp => N p (by simp only [List.mem_cons] at hp ⊢; grind)
theorem News.rot2 {h₀ h : Heap} {L : Addr} {x a b : Addr × Obj} {r : List (Addr × Obj)} (N : News h₀ L h (x :: a :: b :: r)) : News h₀ L h (a :: b :: x :: r) := fun p hp => N p (by simp only [List.mem_cons] at hp ⊢; grind)
theorem News.rot3 {h₀ h : Heap} {L : Addr} {x y a b : Addr × Obj} {r : List (Addr × Obj)} (N : News h₀ L h (x :: y :: a :: b :: r)) : News h₀ L h (a :: b :: x :: y :: r) := fun p hp => N p (by simp only [List.mem_cons] at hp ⊢; grind)
section
variable {prog : Program} {w : World} {A : Around} {E : Value → Shared → Prop} {s : Shared}
theorem itemAny {value slice : Expr} {Q : Value → Shared → Prop} {L : Addr} {vs : List Value} {k : Int} {tk : Tok} (hl : s.heap.IsList L vs.toArray)
    (h0 : 0 ≤ k) (h1 : k < (vs.length : Int)) (hz : vs.length ≤ 1000) (h : ∀ x, vs[k.toNat]? = some x → Q x s)
    (hs : subscripted slice false (.ref L) (.int k tk) = operate [.ref L, .int k tk] (getItem (.ref L) (.int k tk))) : wpAny (model prog w) A (subscriptTail value slice (.ref L) (.int k tk)) Q E s := by
  have hT := hl.typeIs
  have hlt : k.toNat < vs.length := by omega
  exact tail_any hT slot_list_getitem.lookup (wpAny_getItem_list (x := vs[k.toNat]) hl h0 (by omega) (by simp [hlt]) (h _ (by simp [hlt]))) hs
theorem lenAny {l : Addr} {vs : List Value} {Q : Value → Shared → Prop} (hl : s.heap.IsList l vs.toArray) (hz : vs.length ≤ 1000) (h : ∀ t k, Q (.int vs.length t) { s with toks := k }) :
    wpAny (model prog w) A (call (.builtin "len") [.ref l]) Q E s := kun_lenL hl rfl (by simp; omega) (by simpa using h _ _)
end
end Mine
end
section
set_option maxRecDepth 100000
open PySem PySem.W PySem.Calls PyProof.Rows
set_option Elab.async false
namespace Mine
open Builtin
noncomputable def posNL : List UInt8 → Nat → List Nat
  | [], _ => []
  | c :: r, k => if c == 10 then k :: posNL r (k + 1) else posNL r (k + 1)
noncomputable def occStep (b : Array UInt8) (acc : List Nat × Nat) (i : Nat) : List Nat × Nat := if i ≥ acc.2 && b.extract i (i + 1) == #[10] then (i :: acc.1, i + 1) else acc
theorem ext1 (pre : List UInt8) (c : UInt8) (r : List UInt8) : (pre ++ c :: r).toArray.extract pre.length (pre.length + 1) = #[c] := by
  apply Array.toList_inj.mp
  simp
theorem occ_fold : ∀ (l pre : List UInt8) (acc : List Nat) (j : Nat), j ≤ pre.length →
    ((List.range' pre.length l.length).foldl (occStep (pre ++ l).toArray) (acc, j)).1 = (posNL l pre.length).reverse ++ acc := by
  intro l
  induction l with
  | nil => intro pre acc j hj; simp [posNL]
  | cons c r ih =>
    intro pre acc j hj
    have e : pre ++ c :: r = (pre ++ [c]) ++ r := by simp
    have hp : (pre ++ [c]).length = pre.length + 1 := by simp
    rw [List.length_cons, List.range'_succ, List.foldl_cons, posNL]
    have h1 : (pre ++ c :: r).toArray.extract pre.length (pre.length + 1) = #[c] := ext1 pre c r
    by_cases hc : c = 10
    · subst hc
      have hs : occStep (pre ++ 10 :: r).toArray (acc, j) pre.length = (pre.length :: acc, pre.length + 1) := by
        unfold occStep
        rw [h1]
        simp [hj]
      rw [hs, e, ← hp, ih (pre ++ [10]) (pre.length :: acc) _ (Nat.le_refl _)]
      simp
    · have hs : occStep (pre ++ c :: r).toArray (acc, j) pre.length = (acc, j) := by
        unfold occStep
        rw [h1]
        simp [hc]
      rw [hs, e, ← hp, ih (pre ++ [c]) acc j (by omega)]
      simp [hc]
theorem occ_eq (l : List UInt8) : Bytes.occurrences l.toArray #[10] 0 l.toArray.size = posNL l 0 := by
  have h := occ_fold l [] [] 0 (Nat.le_refl _)
  have e : Bytes.occurrences l.toArray #[10] 0 l.toArray.size = (((List.range l.length).map (· + 0)).foldl (occStep l.toArray) ([], 0)).1.reverse := by
    unfold Bytes.occurrences
    simp only [List.size_toArray]
    show (((List.range (l.length + 1 - (0 + 1))).map (· + 0)).foldl _ ([], 0)).1.reverse = _
    rw [Nat.zero_add, Nat.add_sub_cancel]
    rfl
  rw [e, List.map_id'' (fun x => Nat.add_zero x), List.range_eq_range']
  simp only [List.length_nil, List.nil_append, List.append_nil] at h
  rw [h, List.reverse_reverse]
theorem pos_len : ∀ (l : List UInt8) (k : Nat), (posNL l k).length ≤ l.length := by
  intro l
  induction l with
  | nil => intro k; simp [posNL]
  | cons c r ih =>
    intro k
    unfold posNL
    have := ih (k + 1)
    split <;> simp <;> omega
noncomputable def glue (m : List UInt8) : List (List UInt8) → List (List UInt8)
  | [] => [m]
  | x :: xs => (m ++ x) :: xs
theorem glue_nil : ∀ {l : List (List UInt8)}, l ≠ [] → glue [] l = l := by
  intro l h
  cases l with
  | nil => exact absurd rfl h
  | cons a r => rfl
noncomputable def betF (b : Array UInt8) (pl : Array (Array UInt8) × Nat) (p : Nat) : Array (Array UInt8) × Nat := (pl.1.push (b.extract pl.2 p), p + 1)
theorem bet_fold : ∀ (l pre : List UInt8) (parts : Array (Array UInt8)) (last : Nat), last ≤ pre.length →
    (((posNL l pre.length).foldl (betF (pre ++ l).toArray) (parts, last)).1.toList.map (·.toList)) ++ [((pre ++ l).toArray.extract ((posNL l pre.length).foldl (betF (pre ++ l).toArray) (parts, last)).2 (pre ++ l).toArray.size).toList]
      = parts.toList.map (·.toList) ++ glue (pre.drop last) (splitNL l) := by
  intro l
  induction l with
  | nil => intro pre parts last h; simp [posNL, splitNL, glue, List.take_of_length_le]
  | cons c r ih =>
    intro pre parts last h
    have e : pre ++ c :: r = (pre ++ [c]) ++ r := by simp
    have hp : (pre ++ [c]).length = pre.length + 1 := by simp
    rw [posNL, splitNL]
    by_cases hc : c = 10
    · subst hc
      have := ih (pre ++ [10]) (parts.push ((pre ++ 10 :: r).toArray.extract last pre.length)) (pre.length + 1) (by simp)
      rw [hp, ← e] at this
      simp only [beq_self_eq_true, if_true, List.foldl_cons]
      show (((posNL r (pre.length + 1)).foldl (betF (pre ++ 10 :: r).toArray) (parts.push ((pre ++ 10 :: r).toArray.extract last pre.length), pre.length + 1)).1.toList.map (·.toList)) ++ _ = _
      refine Eq.trans this ?_
      rw [List.drop_of_length_le (by simp), glue_nil (splitNL_ne r)]
      simp only [Array.toList_push, List.map_append, List.map_cons, List.map_nil, List.append_assoc]
      congr 1
      simp [glue]
      rw [List.drop_append_of_le_length h, List.take_append_of_le_length (by simp)]
      rw [List.take_of_length_le (by simp)]
    · have := ih (pre ++ [c]) parts last (by simp; omega)
      rw [hp, ← e] at this
      have hb : (c == 10) = false := by simp [hc]
      simp only [hb, Bool.false_eq_true, if_false]
      rw [this, List.drop_append_of_le_length h]
      congr 1
      cases hs : splitNL r with
      | nil => exact absurd hs (splitNL_ne r)
      | cons x xs => simp [glue]
theorem between_eq (b : Array UInt8) (ps : List Nat) : Bytes.between b 1 ps = ((ps.foldl (betF b) (#[], 0)).1.push (b.extract (ps.foldl (betF b) (#[], 0)).2 b.size)).toList := rfl
theorem parts_eq (l : List UInt8) : (partsNL l.toArray).map (·.toList) = splitNL l := by
  unfold partsNL
  rw [occ_eq, List.take_of_length_le (by have := pos_len l 0; simp; omega), between_eq]
  have h := bet_fold l [] #[] 0 (Nat.le_refl _)
  simp only [List.length_nil, List.nil_append, List.drop_nil] at h
  rw [glue_nil (splitNL_ne l)] at h
  simp only [Array.toList_push, List.map_append, List.map_cons, List.map_nil]
  rw [h]
  rfl
theorem split_len : ∀ (l : List UInt8), (splitNL l).length ≤ l.length + 1 := by
  intro l
  induction l with
  | nil => simp [splitNL]
  | cons c r ih =>
    rw [splitNL]
    split
    · simp; omega
    · cases hs : splitNL r with
      | nil => simp
      | cons x xs => rw [hs] at ih; simp at ih ⊢; omega
theorem split_part : ∀ (l x : List UInt8), x ∈ splitNL l → x.length ≤ l.length := by
  intro l
  induction l with
  | nil => intro x h; simp [splitNL] at h; simp [h]
  | cons c r ih =>
    intro x h
    rw [splitNL] at h
    split at h
    · rcases List.mem_cons.mp h with rfl | h
      · simp
      · have := ih x h; simp; omega
    · cases hs : splitNL r with
      | nil => rw [hs] at h; simp at h; simp [h]
      | cons y ys =>
        rw [hs] at h ih
        rcases List.mem_cons.mp h with rfl | h
        · have := ih y (.head _); simp; omega
        · have := ih x (.tail _ h); simp; omega
section
variable {prog : Program} {w : World} {A : Around} {E : Value → Shared → Prop} {s : Shared} {t u : Tok} {h₀ : Heap} {L : Addr} {m : Str → Option Value}
theorem callSplit {l : List UInt8} {led : List (Addr × Obj)} {Q : Value → Shared → Prop} (F : Fr h₀ L s.heap m) (N : News h₀ L s.heap led) (hl : l.length ≤ 10000)
    (h : ∀ (D : Addr) (vs : List Value) (h' : Heap) (k : Nat), BsAre vs (splitNL l) → Fr h₀ L h' m → News h₀ L h' ((D, listOf vs.toArray 0) :: led) → (∀ p ∈ led, p.1 ≠ D) → Q (.ref D) { s with heap := h', toks := k }) :
    wpAny (model prog w) A (call (.builtin "bytes.split") [.bytes l.toArray t, .bytes [10].toArray u]) Q E s := by
  have hm : ∀ p ∈ partsNL l.toArray, p.size ≤ l.length := fun p hp => by
    have h1 : p.toList ∈ splitNL l := by rw [← parts_eq]; exact List.mem_map.mpr ⟨p, hp, rfl⟩
    have := split_part l _ h1
    simpa using this
  have hn : (partsNL l.toArray).length ≤ l.length + 1 := by
    have := split_len l
    rw [← parts_eq, List.length_map] at this
    exact this
  refine call_meets slotSplit (typeIs_bytes _ _ _) entSplit (argSplit2 _ _) (meetsSplit l (by omega) (fun p hp => Nat.le_trans (hm p hp) (by omega)) (by omega)) ?_
  intro vs k hb
  rw [parts_eq] at hb
  exact h _ vs _ k hb (F.keeps fun _ _ e => Heap.get?_push_of_some _ e) (N.push F _) fun p hp => Nat.ne_of_lt (Heap.lt_size (N p hp).1)
end
end Mine
end
section
set_option maxRecDepth 100000
open PySem PySem.W PySem.Calls PyProof.Rows
set_option Elab.async false
namespace Mine
open Builtin
theorem BsAre.snoc {vs : List Value} {ls : List (List UInt8)} (h : BsAre vs ls) (l : List UInt8) (t : Tok) : BsAre (vs ++ [.bytes l.toArray t]) (ls ++ [l]) := h.append (.cons l t .nil)
theorem lst_is (ys : List Value) : LCg.lst ys = listOf ys.toArray ys.length := rfl
noncomputable def BEl (news : List (Addr × Obj)) (r : List UInt8) (y : Value) (news' : List (Addr × Obj)) : Prop := news' = news ∧ ∃ t : Tok, y = .bytes r.toArray t
theorem bEl {news news' : List (Addr × Obj)} {r r' : List UInt8} {t : Tok} (e : r' = r) (hn : news' = news) : BEl news r (.bytes r'.toArray t) news' := ⟨hn, t, by rw [e]⟩
section
variable {prog : Program} {w : World} {A : Around} {h₀ : Heap} {L : Addr} {m : Str → Option Value} {env : Env} {elt : Expr} {x : Str} {scope : Scope} {cl : List (Str × Addr)} {s : Shared} {S : List (Addr × Obj) → Prop} {Fin : List Value → List (Addr × Obj) → Prop} {news : List (Addr × Obj)}
theorem bs_rest {vs : List Value} {ls : List (List UInt8)} (g : List UInt8 → List UInt8) (hi : BsAre vs ls)
    (turn : ∀ (l : List UInt8) (t : Tok) I oI C oC D m₂ ys h tk (E' : Value → Shared → Prop), l ∈ ls → LCg.NsObj oC m₂ → m₂ x = some (.bytes l.toArray t) → Fr h₀ L h m → News h₀ L h ((I, oI) :: (C, oC) :: (D, LCg.lst ys) :: news) → LCg.Off3 I C D news → ((@Ne Nat I C) ∧ (@Ne Nat I D) ∧ (@Ne Nat C D)) →
      wpAny (model prog w) A (eval elt (compEnvC scope cl C env)) (LCg.CompEnd h₀ L m { s with heap := h, toks := tk } I oI C oC D (LCg.lst ys) S (fun y news' => BEl news (g l) y news')) E' { s with heap := h, toks := tk })
    (fin : ∀ ys, BsAre ys (ls.map g) → Fin ys news) : LCg.CompRest prog w A h₀ L m env elt x scope cl s S (fun i v => vs.toArray[i]? = some v) Fin vs.toArray.size 0 [] news := by
  have key : ∀ (j i : Nat) (ys : List Value), i + j = vs.length → BsAre ys ((ls.take i).map g) → LCg.CompRest prog w A h₀ L m env elt x scope cl s S (fun i v => vs.toArray[i]? = some v) Fin j i ys news := by
    intro j
    induction j with
    | zero =>
      intro i ys hi' hy
      have e : i = ls.length := by have := hi.length; omega
      subst e
      rw [List.take_length] at hy
      exact LCg.CompRest.zero (fin ys hy)
    | succ j ih =>
      intro i ys hi' hy
      refine LCg.CompRest.succ ?_
      intro v I oI C oC D m₂ h tk E' hv hC hx F N off ne
      obtain ⟨l, t, rfl, hl⟩ := hi.get (i := i) (v := v) (by simpa using hv)
      refine wpAny_mono (turn l t I oI C oC D m₂ ys h tk E' (List.mem_of_getElem? hl) hC hx F N off ne) (fun y s₂ hq => ?_) fun _ _ e => e
      obtain ⟨h', tk', nw, e, F', N', off', hS, hn, t', rfl⟩ := hq
      subst hn
      refine ⟨h', tk', nw, e, F', N', off', hS, ?_⟩
      refine ih (i + 1) _ (by omega) ?_
      rw [List.take_add_one, hl]
      simpa using hy.snoc (g l) t'
  have e : vs.toArray.size = vs.length := by simp
  rw [e]
  exact key vs.length 0 [] (by omega) (by simp only [List.take_zero, List.map_nil]; exact .nil)
end
noncomputable def PInt (led : List (Addr × Obj)) (k : Int) : Value → List (Addr × Obj) → Prop := fun r led' => led' = led ∧ ∃ t, r = .int k t
noncomputable def PBool (led : List (Addr × Obj)) (b : Bool) : Value → List (Addr × Obj) → Prop := fun r led' => led' = led ∧ r = .bool b
noncomputable def PList (led : List (Addr × Obj)) (ls : List (List UInt8)) : Value → List (Addr × Obj) → Prop := fun r led' => ∃ (R : Addr) (ys : List Value) (n : Nat), r = .ref R ∧ BsAre ys ls ∧ led' = (R, listOf ys.toArray n) :: led ∧ ∀ p ∈ led, p.1 ≠ R
theorem off1_mem {R : Addr} : ∀ {l : List (Addr × Obj)}, LCg.Off1 R l → ∀ p ∈ l, p.1 ≠ R
  | [], _, _, h => nomatch h
  | _ :: _, x, p, h => by
    rcases List.mem_cons.mp h with rfl | h
    · exact x.1
    · exact off1_mem x.2 p h
theorem Con.useB {w : World} {f : Addr} {d u : Nat} {led : List (Addr × Obj)} {vs : List Value} {l : List UInt8} (C : Con w f d u led vs (PBytes led l))
    {dp un : Nat} {gd : Option (List Code)} {cn : Str} {cs : Scope} {a : Addr} {ccd : Value} {cl : List (Str × Addr)} {outer : List Env} {A₀ : Around} {base h₀ : Heap} {L : Addr} {m : Str → Option Value} {s : Shared} {Q E : Value → Shared → Prop}
    {p : Program} {loose : List Str} {mean : ExcName → Option Value} {mg mb : Str → Option Value}
    (B : Below A₀ base outer h₀) (F : Fr h₀ L s.heap m) (X : (Mine.frag.heap_1 w.params).In h₀) (N : News h₀ L s.heap led) (T : Top p loose mean mg mb h₀) (hk : cs.kind = .function)
    (hd : dp + d < recursionLimit) (hu : un + u < cLine)
    (ret : ∀ (t : Tok) (h' : Heap) (tk' : Nat), Fr h₀ L h' m → News h₀ L h' led → Q (.bytes l.toArray t) { s with heap := h', toks := tk' }) :
    wpAny (model PySem.Challenge.rw_nt0282_01.row.prog w) (ktrTop dp un gd cn cs L a ccd cl outer) (call (.ref f) vs) Q E s := by
  refine Con.use C B F X N T hk hd hu ?_
  rintro r led' h' tk' ⟨rfl, t, rfl⟩ F' N'
  exact ret t h' tk' F' N'
theorem Con.useI {w : World} {f : Addr} {d u : Nat} {led : List (Addr × Obj)} {vs : List Value} {k : Int} (C : Con w f d u led vs (PInt led k))
    {dp un : Nat} {gd : Option (List Code)} {cn : Str} {cs : Scope} {a : Addr} {ccd : Value} {cl : List (Str × Addr)} {outer : List Env} {A₀ : Around} {base h₀ : Heap} {L : Addr} {m : Str → Option Value} {s : Shared} {Q E : Value → Shared → Prop}
    {p : Program} {loose : List Str} {mean : ExcName → Option Value} {mg mb : Str → Option Value}
    (B : Below A₀ base outer h₀) (F : Fr h₀ L s.heap m) (X : (Mine.frag.heap_1 w.params).In h₀) (N : News h₀ L s.heap led) (T : Top p loose mean mg mb h₀) (hk : cs.kind = .function)
    (hd : dp + d < recursionLimit) (hu : un + u < cLine)
    (ret : ∀ (t : Tok) (h' : Heap) (tk' : Nat), Fr h₀ L h' m → News h₀ L h' led → Q (.int k t) { s with heap := h', toks := tk' }) :
    wpAny (model PySem.Challenge.rw_nt0282_01.row.prog w) (ktrTop dp un gd cn cs L a ccd cl outer) (call (.ref f) vs) Q E s := by
  refine Con.use C B F X N T hk hd hu ?_
  rintro r led' h' tk' ⟨rfl, t, rfl⟩ F' N'
  exact ret t h' tk' F' N'
theorem Con.useO {w : World} {f : Addr} {d u : Nat} {led : List (Addr × Obj)} {vs : List Value} {b : Bool} (C : Con w f d u led vs (PBool led b))
    {dp un : Nat} {gd : Option (List Code)} {cn : Str} {cs : Scope} {a : Addr} {ccd : Value} {cl : List (Str × Addr)} {outer : List Env} {A₀ : Around} {base h₀ : Heap} {L : Addr} {m : Str → Option Value} {s : Shared} {Q E : Value → Shared → Prop}
    {p : Program} {loose : List Str} {mean : ExcName → Option Value} {mg mb : Str → Option Value}
    (B : Below A₀ base outer h₀) (F : Fr h₀ L s.heap m) (X : (Mine.frag.heap_1 w.params).In h₀) (N : News h₀ L s.heap led) (T : Top p loose mean mg mb h₀) (hk : cs.kind = .function)
    (hd : dp + d < recursionLimit) (hu : un + u < cLine)
    (ret : ∀ (h' : Heap) (tk' : Nat), Fr h₀ L h' m → News h₀ L h' led → Q (.bool b) { s with heap := h', toks := tk' }) :
    wpAny (model PySem.Challenge.rw_nt0282_01.row.prog w) (ktrTop dp un gd cn cs L a ccd cl outer) (call (.ref f) vs) Q E s := by
  refine Con.use C B F X N T hk hd hu ?_
  rintro r led' h' tk' ⟨rfl, rfl⟩ F' N'
  exact ret h' tk' F' N'
theorem Con.useL {w : World} {f : Addr} {d u : Nat} {led : List (Addr × Obj)} {vs : List Value} {ls : List (List UInt8)} (C : Con w f d u led vs (PList led ls))
    {dp un : Nat} {gd : Option (List Code)} {cn : Str} {cs : Scope} {a : Addr} {ccd : Value} {cl : List (Str × Addr)} {outer : List Env} {A₀ : Around} {base h₀ : Heap} {L : Addr} {m : Str → Option Value} {s : Shared} {Q E : Value → Shared → Prop}
    {p : Program} {loose : List Str} {mean : ExcName → Option Value} {mg mb : Str → Option Value}
    (B : Below A₀ base outer h₀) (F : Fr h₀ L s.heap m) (X : (Mine.frag.heap_1 w.params).In h₀) (N : News h₀ L s.heap led) (T : Top p loose mean mg mb h₀) (hk : cs.kind = .function)
    (hd : dp + d < recursionLimit) (hu : un + u < cLine)
    (ret : ∀ (R : Addr) (ys : List Value) (n : Nat) (h' : Heap) (tk' : Nat), BsAre ys ls → (∀ p ∈ led, p.1 ≠ R) → Fr h₀ L h' m → News h₀ L h' ((R, listOf ys.toArray n) :: led) → Q (.ref R) { s with heap := h', toks := tk' }) :
    wpAny (model PySem.Challenge.rw_nt0282_01.row.prog w) (ktrTop dp un gd cn cs L a ccd cl outer) (call (.ref f) vs) Q E s := by
  refine Con.use C B F X N T hk hd hu ?_
  rintro r led' h' tk' ⟨R, ys, n, rfl, hb, rfl, hR⟩ F' N'
  exact ret R ys n h' tk' hb hR F' N'
end Mine
end
section
set_option maxRecDepth 100000
open PySem PySem.W PySem.Calls PyProof.Rows PySem.SeqAt
set_option Elab.async false
namespace Mine
open Builtin
noncomputable def lsl (ls : List (List UInt8)) (lo hi : Option Int) : List (List UInt8) := (ls.drop (kms_lo lo ls.length)).take (kms_hi hi ls.length - kms_lo lo ls.length)
theorem BsAre.slice {vs : List Value} {ls : List (List UInt8)} (h : BsAre vs ls) (lo hi : Option Int) : BsAre (kms_pick vs lo hi) (lsl ls lo hi) := by
  unfold kms_pick lsl
  rw [h.length]
  exact (h.drop _).take _
theorem lsl_from {ls : List (List UInt8)} {k : Int} (h : 0 ≤ k) : lsl ls (some k) none = ls.drop k.toNat := by
  unfold lsl kms_lo kms_hi
  dsimp only
  rw [if_neg (by omega)]
  rw [List.take_of_length_le (by simp)]
  by_cases hk : k.toNat ≤ ls.length
  · rw [Nat.min_eq_left hk]
  · rw [Nat.min_eq_right (by omega), List.drop_of_length_le (Nat.le_refl _), List.drop_of_length_le (by omega)]
section
variable {prog : Program} {w : World} {A : Around} {E : Value → Shared → Prop} {s : Shared} {t u : Tok} {h₀ : Heap} {L : Addr} {m : Str → Option Value} {news : List (Addr × Obj)} {vs us : List Value} {ls ms : List (List UInt8)} {Q : Value → Shared → Prop}
theorem itemBs {value slice : Expr} {R : Addr} {k : Int} {tk : Tok} (hb : BsAre vs ls) (hl : s.heap.IsList R vs.toArray) (h0 : 0 ≤ k) (h1 : k < (ls.length : Int)) (hz : ls.length ≤ 20000)
    (h : ∀ t, Q (.bytes (ls.getD k.toNat []).toArray t) s)
    (hs : subscripted slice false (.ref R) (.int k tk) = operate [.ref R, .int k tk] (getItem (.ref R) (.int k tk))) : wpAny (model prog w) A (subscriptTail value slice (.ref R) (.int k tk)) Q E s := by
  have hT := hl.typeIs
  have hlt : k.toNat < ls.length := by omega
  obtain ⟨t, ht⟩ := hb.at (i := k.toNat) (l := ls.getD k.toNat []) (by rw [List.getD_eq_getElem?_getD, List.getElem?_eq_getElem hlt]; rfl)
  exact tail_any hT slot_list_getitem.lookup (wpAny_getItem_list (x := .bytes (ls.getD k.toNat []).toArray t) hl h0 (by omega) (by simpa using ht) (h _)) hs
theorem lenBs {R : Addr} (hb : BsAre vs ls) (hl : s.heap.IsList R vs.toArray) (hz : ls.length ≤ 15000) (h : ∀ t k, Q (.int ls.length t) { s with toks := k }) :
    wpAny (model prog w) A (call (.builtin "len") [.ref R]) Q E s := kun_lenL (k := (ls.length : Int)) hl (by simp [hb.length]) (by omega) (h _ _)
theorem sliceBs {value slice : Expr} {R : Addr} {n : Nat} {vl vu : Value} {lo hi : Option Int} (F : Fr h₀ L s.heap m) (N : News h₀ L s.heap news) (hm : (R, listOf vs.toArray n) ∈ news) (hb : BsAre vs ls) (pl : IsPart vl lo) (pu : IsPart vu hi) (hz : ls.length ≤ 15000)
    (h : ∀ (D : Addr) (ws : List Value) (h' : Heap), BsAre ws (lsl ls lo hi) → Fr h₀ L h' m → News h₀ L h' ((D, listOf ws.toArray 0) :: news) → (∀ p ∈ news, p.1 ≠ D) → Q (.ref D) { s with heap := h' })
    (hs : subscripted slice false (.ref R) (.ref s.heap.objs.size) = operate [.ref s.heap.objs.size, .ref R] (getItem (.ref R) (.ref s.heap.objs.size))) (ht : ∀ r, letTemporaryGo value (.ref R) r = pure ()) :
    wpAny (model prog w) A (subscriptTail value slice (.ref R) (.ref s.heap.objs.size)) Q E { s with heap := s.heap.push { cls := .type "slice", data := .fields #[vl, vu, .none] } } := by
  refine kms_slice_lit F N (News.isList N hm) pl pu rfl (fun D h' F' N' l1 => h D _ h' (hb.slice lo hi) F' N' fun p hp => Nat.ne_of_lt (l1 p hp)) hs ht ?_
  have := hb.length
  rw [sizeLine_eq]; simp; omega
theorem neNilBs {R D : Addr} (hb : BsAre vs ls) (hl : s.heap.IsList R vs.toArray) (hl2 : s.heap.IsList D ([] : List Value).toArray) (hu : A.units < cLine) (h : Q (.bool (ls != [])) s) :
    wpAny (model prog w) A (compareOp .NotEq (.ref R) (.ref D)) Q E s := by
  cases ls with
  | nil =>
    cases hb
    refine RcNeAt.lists (items := ([] : List Value).toArray) (items2 := ([] : List Value).toArray) (e := fun _ => true) hl hl2 rfl hu (fun j h1 _ => absurd h1 (Nat.not_lt_zero _)) prog w E Q ?_
    simpa using h
  | cons l r =>
    refine RcNeAt.lists_lengths hl hl2 ?_ hu prog w E Q ?_
    · have := hb.length
      simp at this
      simp [this]
    · exact h
theorem eqAtB {a b : List UInt8} : EqAt A s (.bytes a.toArray t) (.bytes b.toArray u) (a == b) := fun prog w E Q hq => by
  unfold eqBool
  refine wpAny_holding ?_
  refine wpAny_ite_split (fun hab => ?_) (fun _ => ?_)
  · have : a = b := by
      have := eq_of_beq hab
      simpa using congrArg (fun v => match v with | .bytes x _ => x.toList | _ => []) this
    subst this
    have e : (a == a) = true := by simp
    rw [e] at hq
    exact wpAny_bind (wpAny_rule (wpAny_pure hq))
  · exact wpAny_bind (eqB (wpAny_truthy_bool hq))
end
theorem ltNe {d : Addr} {l : List (Addr × Obj)} (h : AllLt d l) : ∀ p ∈ l, p.1 ≠ d := fun p hp => Nat.ne_of_lt (ktn_ltOf h p hp)
theorem News.dr1 {h₀ h : Heap} {L : Addr} {x a : Addr × Obj} {r : List (Addr × Obj)} (N : News h₀ L h (x :: a :: r)) : News h₀ L h (x :: r) := fun p hp => by
  rcases List.mem_cons.mp hp with rfl | hp
  · exact N _ (.head _)
  · exact N p (List.mem_cons_of_mem _ (List.mem_cons_of_mem _ (hp)))
theorem News.dr2 {h₀ h : Heap} {L : Addr} {x a b : Addr × Obj} {r : List (Addr × Obj)} (N : News h₀ L h (x :: a :: b :: r)) : News h₀ L h (x :: r) := fun p hp => by
  rcases List.mem_cons.mp hp with rfl | hp
  · exact N _ (.head _)
  · exact N p (List.mem_cons_of_mem _ (List.mem_cons_of_mem _ (List.mem_cons_of_mem _ (hp))))
theorem News.dr3 {h₀ h : Heap} {L : Addr} {x a b c : Addr × Obj} {r : List (Addr × Obj)} (N : News h₀ L h (x :: a :: b :: c :: r)) : News h₀ L h (x :: r) := fun p hp => by
  rcases List.mem_cons.mp hp with rfl | hp
  · exact N _ (.head _)
  · exact N p (List.mem_cons_of_mem _ (List.mem_cons_of_mem _ (List.mem_cons_of_mem _ (List.mem_cons_of_mem _ (hp)))))
theorem News.dr4 {h₀ h : Heap} {L : Addr} {x a b c d : Addr × Obj} {r : List (Addr × Obj)} (N : News h₀ L h (x :: a :: b :: c :: d :: r)) : News h₀ L h (x :: r) := fun p hp => by
  rcases List.mem_cons.mp hp with rfl | hp
  · exact N _ (.head _)
  · exact N p (List.mem_cons_of_mem _ (List.mem_cons_of_mem _ (List.mem_cons_of_mem _ (List.mem_cons_of_mem _ (List.mem_cons_of_mem _ (hp))))))
theorem News.dr5 {h₀ h : Heap} {L : Addr} {x a b c d e : Addr × Obj} {r : List (Addr × Obj)} (N : News h₀ L h (x :: a :: b :: c :: d :: e :: r)) : News h₀ L h (x :: r) := fun p hp => by
  rcases List.mem_cons.mp hp with rfl | hp
  · exact N _ (.head _)
  · exact N p (List.mem_cons_of_mem _ (List.mem_cons_of_mem _ (List.mem_cons_of_mem _ (List.mem_cons_of_mem _ (List.mem_cons_of_mem _ (List.mem_cons_of_mem _ (hp)))))))
theorem News.dr6 {h₀ h : Heap} {L : Addr} {x a b c d e f : Addr × Obj} {r : List (Addr × Obj)} (N : News h₀ L h (x :: a :: b :: c :: d :: e :: f :: r)) : News h₀ L h (x :: r) := fun p hp => by
  rcases List.mem_cons.mp hp with rfl | hp
  · exact N _ (.head _)
  · exact N p (List.mem_cons_of_mem _ (List.mem_cons_of_mem _ (List.mem_cons_of_mem _ (List.mem_cons_of_mem _ (List.mem_cons_of_mem _ (List.mem_cons_of_mem _ (List.mem_cons_of_mem _ (hp))))))))
end Mine
end
section
set_option maxRecDepth 100000
open PySem PySem.W PySem.Calls PyProof.Rows PyProof.V PySem.Spec
set_option Elab.async false
namespace Mine
open Builtin
theorem off_cons {a : Addr × Obj} {l : List (Addr × Obj)} {D : Addr} (h : ∀ p ∈ a :: l, p.1 ≠ D) : ∀ p ∈ l, p.1 ≠ D := fun p hp => h p (.tail _ hp)
theorem off_tail1 {a b : Addr × Obj} {l : List (Addr × Obj)} {D : Addr} (h : ∀ p ∈ a :: b :: l, p.1 ≠ D) : ∀ p ∈ b :: l, p.1 ≠ D := off_cons h
theorem off_app {a b : List (Addr × Obj)} {D : Addr} (h1 : ∀ p ∈ a, p.1 ≠ D) (h2 : ∀ p ∈ b, p.1 ≠ D) : ∀ p ∈ a ++ b, p.1 ≠ D := fun p hp => (List.mem_append.mp hp).elim (h1 p) (h2 p)
theorem off_lt {l : List (Addr × Obj)} {D : Addr} (h : ∀ p ∈ l, p.1 < D) : ∀ p ∈ l, p.1 ≠ D := fun p hp => Nat.ne_of_lt (h p hp)
theorem neLen {ls : List (List UInt8)} (h : (ls != []) = true) : (0 : Int) < ls.length := by
  cases ls with
  | nil => simp at h
  | cons a r => simp
noncomputable def BfS {σ : Type} (Led : σ → List (Addr × Obj)) (ps : σ → List (Str × Value)) (x : Str) (stored : List Str) (m₀ : Str → Option Value) (P : List (List UInt8) → σ → Prop) (pre : List (List UInt8)) (m : Str → Option Value) (nx : List (Addr × Obj)) : Prop :=
  ∃ c : σ, nx = Led c ∧ (∀ p ∈ ps c, m p.1 = some p.2) ∧ (∀ z, z ≠ x → (∀ p ∈ ps c, z ≠ p.1) → stored.contains z = false → m z = m₀ z) ∧ P pre c
section
variable {prog : Program} {w : World} {A : Around} {E : Value → Shared → Prop} {s : Shared} {env : Env} {h₀ : Heap} {x : Str} {body : List Stmt} {Q : Flow → Shared → Prop}
theorem bs_for {σ : Type} {l : Addr} {vs : List Value} {ls : List (List UInt8)} {nn : Nat} {m₀ : Str → Option Value} {all : List (Addr × Obj)} (Led : σ → List (Addr × Obj)) (ps : σ → List (Str × Value)) (stored : List Str) (P : List (List UInt8) → σ → Prop) (c₀ : σ)
    (hh : A.handled = none) (F : Fr h₀ env.locals s.heap m₀) (N : News h₀ env.locals s.heap all) (hl : (l, listOf vs.toArray nn) ∈ all) (hb : BsAre vs ls)
    (hsub : ∀ p ∈ Led c₀, p ∈ all) (hoff : ∀ p ∈ Led c₀, p.1 ≠ l) (hk : ∀ p ∈ ps c₀, m₀ p.1 = some p.2) (hp : P [] c₀)
    (turn : ∀ (c : σ) pre post y t (u : Str → Option Value) h tk own, ls = pre ++ y :: post → OwnOff own ((Led c₀).map (·.1)) → P pre c →
      Fr h₀ env.locals h (fun z => if z = x then some (.bytes y.toArray t) else kstB (fun z => if stored.contains z then u z else m₀ z) (ps c) z) → News h₀ env.locals h (Led c ++ own) →
      wpAny (model prog w) A (execs body env) (InvPostN h₀ env.locals (BfS Led ps x stored m₀ P (pre ++ [y])) own ((Led c₀).map (·.1)) { s with heap := h, toks := tk } Q) E { s with heap := h, toks := tk })
    (done : ∀ (c : σ) (u : Str → Option Value) h tk, P ls c → Fr h₀ env.locals h (fun z => if z = x then u z else kstB (fun z => if stored.contains z then u z else m₀ z) (ps c) z) → News h₀ env.locals h (Led c) → Q .next { s with heap := h, toks := tk }) :
    wpAny (model prog w) A (pyIter (.ref l)) (fun it s₂ => LoopAtV prog w A h₀ env x body Q E it s₂) E s := by
  have hls : s.heap.IsList l vs.toArray := News.isList N hl
  have hlt : l < s.heap.objs.size := Heap.lt_size (N _ hl).1
  have W := Walks.list (prog := prog) (w := w) hh s.heap.objs.size l (Nat.ne_of_lt hlt) vs.toArray
  have hN0 : News h₀ env.locals s.heap (Led c₀) := fun p hp => N p (hsub p hp)
  refine wpAny_pyIter_list hls ?_
  refine loop_invN (news := Led c₀) (m₀ := m₀) (fun i m nx => BfS Led ps x stored m₀ P (ls.take i) m nx) W ?_ ?_ ?_ ?_ ?_ (F.push _) (hN0.grown fun _ _ e => Heap.get?_push_of_some _ e) ⟨c₀, rfl, hk, fun _ _ _ _ => rfl, by simpa using hp⟩ ?_ ?_
  · intro hm
    rcases List.mem_cons.mp hm with e | hm
    · exact Nat.ne_of_lt F.ns.lt e
    · exact (N _ hl).2.1 (List.mem_singleton.mp hm).symm
  · intro b hb
    rw [List.mem_singleton.mp hb]
    exact next_is_new F
  · intro p hp hI
    exact Nat.ne_of_lt (Heap.lt_size (hN0 p hp).1) (List.mem_singleton.mp hI)
  · intro p hp hI
    rcases List.mem_cons.mp hI with e | hI
    · exact Nat.ne_of_lt (Heap.lt_size (hN0 p hp).1) e
    · exact hoff p hp (List.mem_singleton.mp hI)
  · exact ⟨⟨_, Heap.get?_push_size _ rfl, rfl, rfl⟩, hls.push _⟩
  · rintro i v m₁ nx h tk own hi hv _ hoff' ⟨c, rfl, h1, h2, hp'⟩ F₁ N₁
    obtain ⟨y, t, rfl, hy⟩ := hb.get (i := i) (v := v) (by simpa using hv)
    have hs : ls.take (i + 1) = ls.take i ++ [y] := by simp [List.take_add_one, hy]
    have e : ls = ls.take i ++ y :: ls.drop (i + 1) := by
      have ht := List.take_append_drop (i + 1) ls
      rw [hs, List.append_assoc] at ht
      exact ht.symm
    rw [hs]
    exact turn c _ _ y t m₁ h tk own e hoff' hp' (kst_fr h1 h2 F₁) N₁
  · rintro m₁ nx h tk ⟨c, rfl, h1, h2, hp'⟩ F₁ N₁
    have e : vs.toArray.size = ls.length := by rw [List.size_toArray, hb.length]
    rw [e, List.take_length] at hp'
    exact done c m₁ h tk hp' (kst_frOut h1 h2 F₁) N₁
theorem bs_forK {σ : Type} {l K : Addr} {vs : List Value} {ls : List (List UInt8)} {nn : Nat} {m₀ : Str → Option Value} {all : List (Addr × Obj)} (kn : Str) (Led : Addr → σ → List (Addr × Obj)) (ps : Addr → σ → List (Str × Value)) (stored : List Str) (P : List (List UInt8) → σ → Prop) (c₀ : σ)
    (hK : m₀ kn = some (.ref K)) (hh : A.handled = none) (F : Fr h₀ env.locals s.heap m₀) (N : News h₀ env.locals s.heap all) (hl : (l, listOf vs.toArray nn) ∈ all) (hb : BsAre vs ls)
    (hsub : ∀ p ∈ Led K c₀, p ∈ all) (hoff : ∀ p ∈ Led K c₀, p.1 ≠ l) (hk : ∀ p ∈ ps K c₀, m₀ p.1 = some p.2) (hp : P [] c₀)
    (turn : ∀ (c : σ) pre post y t (u : Str → Option Value) h tk own, ls = pre ++ y :: post → OwnOff own ((Led K c₀).map (·.1)) → P pre c →
      Fr h₀ env.locals h (fun z => if z = x then some (.bytes y.toArray t) else kstB (fun z => if stored.contains z then u z else m₀ z) (ps K c) z) → News h₀ env.locals h (Led K c ++ own) →
      wpAny (model prog w) A (execs body env) (InvPostN h₀ env.locals (BfS (Led K) (ps K) x stored m₀ P (pre ++ [y])) own ((Led K c₀).map (·.1)) { s with heap := h, toks := tk } Q) E { s with heap := h, toks := tk })
    (done : ∀ (c : σ) (u : Str → Option Value) h tk, P ls c → Fr h₀ env.locals h (fun z => if z = x then u z else kstB (fun z => if stored.contains z then u z else m₀ z) (ps K c) z) → News h₀ env.locals h (Led K c) → Q .next { s with heap := h, toks := tk }) :
    wpAny (model prog w) A (pyIter (.ref l)) (fun it s₂ => LoopAtV prog w A h₀ env x body Q E it s₂) E s := bs_for (Led K) (ps K) stored P c₀ hh F N hl hb hsub hoff hk hp turn done
theorem bs_end {σ : Type} {Led : σ → List (Addr × Obj)} {ps : σ → List (Str × Value)} {stored : List Str} {m₀ : Str → Option Value} {P : List (List UInt8) → σ → Prop} {pre : List (List UInt8)} (c : σ) {L : Addr} {m' : Str → Option Value} {own news' : List (Addr × Obj)} {adr : List Addr} {s₁ : Shared} {h' : Heap} {tk : Nat}
    (F : Fr h₀ L h' m') (N : News h₀ L h' news') (hn : ∀ p ∈ Led c, p ∈ news') (ho : ∀ p ∈ own, p ∈ news') (ha : (Led c).map (·.1) = adr) (hk : ∀ p ∈ ps c, m' p.1 = some p.2) (hr : ∀ z, z ≠ x → (∀ p ∈ ps c, z ≠ p.1) → stored.contains z = false → m' z = m₀ z) (hp : P pre c) :
    InvEndN h₀ L (BfS Led ps x stored m₀ P pre) own adr s₁ { s₁ with heap := h', toks := tk } :=
  InvEndN.intro F N ⟨c, rfl, hk, hr, hp⟩ ha hn ho
end
end Mine
end
section
set_option maxRecDepth 100000
open PySem PySem.W PySem.Calls PyProof.Rows PyProof.V PySem.Spec
set_option Elab.async false
namespace Mine
open Builtin
noncomputable def KExit {σ : Type} (h₀ : Heap) (L : Addr) (s : Shared) (Led : σ → List (Addr × Obj)) (ps : σ → List (Str × Value)) (stored : List Str) (m₀ : Str → Option Value) (X : σ → Prop) (c : σ) (s₂ : Shared) : Prop :=
  ∃ (h : Heap) (tk : Nat) (u : Str → Option Value), s₂ = { s with heap := h, toks := tk } ∧ Fr h₀ L h (kstB (fun z => if stored.contains z then u z else m₀ z) (ps c)) ∧ News h₀ L h (Led c) ∧ X c
theorem kexit {σ : Type} {h₀ : Heap} {L : Addr} {s : Shared} {Led : σ → List (Addr × Obj)} {ps : σ → List (Str × Value)} {stored : List Str} {m₀ u : Str → Option Value} {X : σ → Prop} {c : σ} {h : Heap} {tk : Nat}
    (F : Fr h₀ L h (kstB (fun z => if stored.contains z then u z else m₀ z) (ps c))) (N : News h₀ L h (Led c)) (x : X c) : KExit h₀ L s Led ps stored m₀ X c { s with heap := h, toks := tk } := ⟨h, tk, u, rfl, F, N, x⟩
section
variable {prog : Program} {w : World} {A : Around} {E : Value → Shared → Prop} {Q : Flow → Shared → Prop} {s : Shared} {env : Env} {h₀ : Heap} {L : Addr}
theorem ksw_join {σ : Type} {test : Expr} {body : List Stmt} {pos : Pos} {m₀ : Str → Option Value} (Led : σ → List (Addr × Obj)) (ps : σ → List (Str × Value)) (stored : List Str) (P : σ → Prop) (μ : σ → Nat) (X : σ → Prop) (c₀ : σ)
    (F : Fr h₀ L s.heap m₀) (N : News h₀ L s.heap (Led c₀)) (hk : ∀ p ∈ ps c₀, m₀ p.1 = some p.2) (hp : P c₀)
    (turn : ∀ (c : σ) (u : Str → Option Value) h tk, P c → Fr h₀ L h (kstB (fun z => if stored.contains z then u z else m₀ z) (ps c)) → News h₀ L h (Led c) →
      wpAny (model prog w) A (isTrue test env (eval test env)) (fun b s₂ =>
        if b = true then wpAny (model prog w) A (execs body env) (KswPost h₀ L s Led ps (fun _ => True) stored m₀ P μ (fun f s' => match f with | .next => ∃ c, KExit h₀ L s Led ps stored m₀ X c s' | f => Q f s') c) E s₂ else KExit h₀ L s Led ps stored m₀ X c s₂) E { s with heap := h, toks := tk })
    (done : ∀ (c : σ) (u : Str → Option Value) h tk, X c → Fr h₀ L h (kstB (fun z => if stored.contains z then u z else m₀ z) (ps c)) → News h₀ L h (Led c) → Q .next { s with heap := h, toks := tk })
    (hE : PassesOwn (model prog w) A env E) :
    wpAny (model prog w) A (exec (.While test body [] pos) env) Q E s := by
  refine wpAny_mono (Q := fun f s' => match f with | .next => ∃ c, KExit h₀ L s Led ps stored m₀ X c s' | f => Q f s') (ksw_while Led ps (fun _ => True) stored P μ c₀ F N True.intro hk hp ?_ hE) (fun f s' q => ?_) fun _ _ x => x
  · intro c u h tk _ hp' F' N'
    refine wpAny_mono (turn c u h tk hp' F' N') (fun b s₂ p => ?_) fun _ _ x => x
    cases b with
    | true => simpa using p
    | false => exact ⟨c, by simpa using p⟩
  · cases f with
    | next =>
      obtain ⟨c, h, tk, u, rfl, F', N', x⟩ := q
      exact done c u h tk x F' N'
    | ret v => exact q
    | brk => exact q
    | cont => exact q
theorem ksw_joinC {σ : Type} {test : Expr} {body : List Stmt} {pos : Pos} {m₀ : Str → Option Value} {L0 : List (Addr × Obj)} (ps : σ → List (Str × Value)) (stored : List Str) (P : σ → Prop) (μ : σ → Nat) (X : σ → Prop) (c₀ : σ)
    (F : Fr h₀ L s.heap m₀) (N : News h₀ L s.heap L0) (hk : ∀ p ∈ ps c₀, m₀ p.1 = some p.2) (hp : P c₀)
    (turn : ∀ (c : σ) (u : Str → Option Value) h tk, P c → Fr h₀ L h (kstB (fun z => if stored.contains z then u z else m₀ z) (ps c)) → News h₀ L h L0 →
      wpAny (model prog w) A (isTrue test env (eval test env)) (fun b s₂ =>
        if b = true then wpAny (model prog w) A (execs body env) (KswPost h₀ L s (fun _ => L0) ps (fun _ => True) stored m₀ P μ (fun f s' => match f with | .next => ∃ c, KExit h₀ L s (fun _ => L0) ps stored m₀ X c s' | f => Q f s') c) E s₂ else KExit h₀ L s (fun _ => L0) ps stored m₀ X c s₂) E { s with heap := h, toks := tk })
    (done : ∀ (c : σ) (u : Str → Option Value) h tk, X c → Fr h₀ L h (kstB (fun z => if stored.contains z then u z else m₀ z) (ps c)) → News h₀ L h L0 → Q .next { s with heap := h, toks := tk })
    (hE : PassesOwn (model prog w) A env E) :
    wpAny (model prog w) A (exec (.While test body [] pos) env) Q E s := ksw_join (fun _ => L0) ps stored P μ X c₀ F N hk hp turn done hE
end
end Mine
end
section
set_option maxRecDepth 100000
open PySem PySem.W PySem.Calls PyProof.Rows PyProof.V PySem.Spec
set_option Elab.async false
namespace Mine
open Builtin
noncomputable abbrev tupO (its : Array Value) : Obj := { cls := .type "tuple", data := .seq its }
section
variable {prog : Program} {w : World} {A : Around} {E : Value → Shared → Prop} {s : Shared} {h₀ : Heap} {L : Addr} {m : Str → Option Value} {env : Env}
theorem tup_st {ax I : Addr} {its : Array Value} : ∀ i (h h' : Heap) (o : Obj) (nw : List (Addr × Obj)), (h.IsTupleIter I ax i ∧ h.IsTuple ax its) → h.get? I = some o → h'.get? I = some o → (∀ b o, h₀.get? b = some o → h'.get? b = some o) → News h₀ L h' nw → ((ax, tupO its) ∈ nw) → (h'.IsTupleIter I ax i ∧ h'.IsTuple ax its) :=
  fun i h h' o nw st e e' _ N S => ⟨by obtain ⟨o', q, r⟩ := st.1; rw [e] at q; cases q; exact ⟨o, e', r⟩, ⟨_, (N _ S).1, rfl, _, rfl⟩⟩
/-- a comprehension over a tuple of the ledger -/
noncomputable def TupSrc (prog : Program) (w : World) (A : Around) (h₀ : Heap) (L : Addr) (m : Str → Option Value) (env : Env) (elt : Expr) (x : Str) (scope : Scope) (cl : List (Str × Addr)) (Fin : Shared → List Value → List (Addr × Obj) → Prop) (xv : Value) (s₁ : Shared) : Prop :=
  ∃ ax its news, xv = .ref ax ∧ A.handled = none ∧ Fr h₀ L s₁.heap m ∧ News h₀ L s₁.heap news ∧ (ax, tupO its) ∈ news ∧ its.size ≤ sizeLine ∧
    ∀ g, LCg.CompRest prog w A h₀ L m env elt x scope cl { s₁ with heap := g } (fun nw => (ax, tupO its) ∈ nw) (fun i v => its[i]? = some v) (Fin { s₁ with heap := g }) its.size 0 [] news
theorem tupComp {elt iter : Expr} {x : Str} {px : Pos} {scope : Scope} {cl : List (Str × Addr)} {pos : Pos} {Q : Value → Shared → Prop} (_F₀ : Fr h₀ L s.heap m)
    (hclos : closureFor scope env = pure cl) (hcell : ∀ y ∈ scope.names, y.2 ≠ .cell) (hkind : scope.kind = .function)
    (hnames : ∀ y ∈ scope.names, y.2 = .local → scope.names.lookup y.1 = some .local) (hx : scope.names.lookup x = some .local)
    (h : wpAny (model prog w) A (eval iter env) (TupSrc prog w A h₀ L m env elt x scope cl (fun s₂ => LCg.FinE h₀ L m s₂ Q)) E s)
    (hs : ∀ x, foldedSetIterable iter env x = pure x) :
    wpAny (model prog w) A (eval (.ListComp elt [⟨.Name x px, iter, [], 0⟩] scope pos) env) Q E s := by
  rw [eval_ListComp]
  refine wpAny_comprehension_free (use := none) rfl hs hclos hkind hnames (wpAny_mono h (fun xv s₁ h₁ => ?_) fun _ _ e => e)
  obtain ⟨ax, its, news, rfl, hh, F, N, S, hsz, R⟩ := h₁
  have hl : s₁.heap.IsTuple ax its := ⟨_, (N _ S).1, rfl, _, rfl⟩
  have hlt : ax < s₁.heap.objs.size := Heap.lt_size (N _ S).1
  refine wpAny_pyIter_tuple hl ?_
  refine LCg.block_U (Walks.tuple hh s₁.heap.objs.size ax (Nat.ne_of_lt hlt) its) hsz (fun i h st => by obtain ⟨o, e, _⟩ := st.1; exact ⟨o, e⟩) tup_st hcell hkind hx ⟨⟨_, Heap.get?_push_size _ rfl, rfl, rfl⟩, ⟨_, Heap.get?_push_of_some _ (N _ S).1, rfl, _, rfl⟩⟩ (fun b hb => ?_)
    (F.keeps fun _ _ e => Heap.get?_push_of_some _ e) (N.grown fun _ _ e => Heap.get?_push_of_some _ e) (Nat.ne_of_lt F.ns.lt) (next_is_new F) (fun p hp => Nat.ne_of_lt (Heap.lt_size (N p hp).1)) S (R _) ?_
  · show b < (s₁.heap.push _).objs.size
    rw [Heap.size_push]
    rcases List.mem_cons.mp hb with rfl | hb
    · exact Nat.lt_succ_self _
    · rw [List.mem_singleton.mp hb]; exact Nat.lt_succ_of_lt hlt
  · intro D C h tk m' ys news' F' N' o1 hn hC₀ hD₀ hCL hDL hCD offC fin
    refine ⟨m', hn, fun h'' hs'' => fin D h'' tk (F'.change hs'' hCL hC₀) (fun p hp => ?_) o1⟩
    refine ⟨hs''.extBut _ _ ?_ (N' p hp).1, (N' p hp).2⟩
    rcases List.mem_cons.mp hp with rfl | hp
    · exact Ne.symm hCD
    · exact offC p hp
end
end Mine
end
section
set_option maxRecDepth 100000
open PySem PySem.W PySem.Calls PyProof.Rows PyProof.V PySem.Spec
set_option Elab.async false
namespace Mine
open Builtin
/-- the end of a turn whose target is a cell -/
inductive CEnd (h₀ : Heap) (L I cc l : Addr) (oI ol : Obj) (adr : List Addr) (J : (Str → Option Value) → List (Addr × Obj) → Prop) (s₁ s₂ : Shared) : Prop
  | mk (h : Heap) (tk : Nat) (m : Str → Option Value) (nx : List (Addr × Obj)) (co : Obj) (v : Option Value) (e1 : s₂ = { s₁ with heap := h, toks := tk }) (e2 : Fr h₀ L h m) (e3 : News h₀ L h ((I, oI) :: (cc, co) :: (l, ol) :: nx)) (e4 : co.data = .cell v) (e5 : nx.map (·.1) = adr) (e6 : J m nx) : CEnd h₀ L I cc l oI ol adr J s₁ s₂
noncomputable def CPost (h₀ : Heap) (L I cc l : Addr) (oI ol : Obj) (adr : List Addr) (J : (Str → Option Value) → List (Addr × Obj) → Prop) (s₁ : Shared) (Q : Flow → Shared → Prop) (f : Flow) (s₂ : Shared) : Prop :=
  match f with
  | .ret v => Q (.ret v) s₂
  | .brk => Q .next s₂
  | _ => CEnd h₀ L I cc l oI ol adr J s₁ s₂
inductive CForSrc (prog : Program) (w : World) (A : Around) (h₀ : Heap) (env : Env) (cc : Addr) (body : List Stmt) (Q : Flow → Shared → Prop) (E : Value → Shared → Prop) (xv : Value) (s₁ : Shared) : Prop
  | mk (l : Addr) (vs : List Value) (nn : Nat) (ls : List (List UInt8)) (m : Str → Option Value) (all : List (Addr × Obj)) (co : Obj) (v₀ : Option Value) (nx : List (Addr × Obj)) (J : List (List UInt8) → (Str → Option Value) → List (Addr × Obj) → Prop)
    (e1 : xv = .ref l) (e2 : A.handled = none) (e3 : Fr h₀ env.locals s₁.heap m) (e4 : News h₀ env.locals s₁.heap all) (e5 : (l, listOf vs.toArray nn) ∈ all) (e6 : BsAre vs ls) (e7 : (cc, co) ∈ all) (e8 : co.data = .cell v₀) (e9 : ∀ p ∈ nx, p ∈ all) (f1 : ∀ p ∈ nx, p.1 ≠ cc) (f2 : l ≠ cc) (f3 : J [] m nx)
    (f4 : ∀ pre y post t m₁ nx₁ h tk co' I oI, ls = pre ++ y :: post → J pre m₁ nx₁ → nx₁.map (·.1) = nx.map (·.1) → co'.data = .cell (some (.bytes y.toArray t)) → Fr h₀ env.locals h m₁ → News h₀ env.locals h ((I, oI) :: (cc, co') :: (l, listOf vs.toArray nn) :: nx₁) →
      wpAny (model prog w) A (execs body env) (CPost h₀ env.locals I cc l oI (listOf vs.toArray nn) (nx.map (·.1)) (J (pre ++ [y])) { s₁ with heap := h, toks := tk } Q) E { s₁ with heap := h, toks := tk })
    (f5 : ∀ m₁ nx₁ h tk, J ls m₁ nx₁ → Fr h₀ env.locals h m₁ → News h₀ env.locals h nx₁ → Q .next { s₁ with heap := h, toks := tk }) : CForSrc prog w A h₀ env cc body Q E xv s₁
inductive CfI (h₀ : Heap) (L I cc l : Addr) (ol : Obj) (k : Nat) (adr : List Addr) (J : Nat → (Str → Option Value) → List (Addr × Obj) → Prop) (s₁ : Shared) (n : Nat) (s' : Shared) : Prop
  | mk (g : Heap) (tk i : Nat) (m' : Str → Option Value) (nx' : List (Addr × Obj)) (co' : Obj) (v' : Option Value) (e1 : s' = { s₁ with heap := g, toks := tk }) (e2 : i ≤ k) (e3 : n = k + 1 - i) (e4 : g.IsListIter I l i) (e5 : Fr h₀ L g m')
    (e6 : News h₀ L g ((cc, co') :: (l, ol) :: nx')) (e7 : co'.data = .cell v') (e8 : nx'.map (·.1) = adr) (e9 : J i m' nx') : CfI h₀ L I cc l ol k adr J s₁ n s'
section
variable {prog : Program} {w : World} {A : Around} {E : Value → Shared → Prop} {s : Shared} {env : Env} {h₀ : Heap} {Q : Flow → Shared → Prop}
theorem For_cell {x : Str} {px pos : Pos} {iter : Expr} {body : List Stmt} {cc : Addr} (hx : env.kindOf x = some .cell) (hkf : env.scope.kind = .function) (hcl : env.cells.lookup x = some cc)
    (h : wpAny (model prog w) A (eval iter env) (CForSrc prog w A h₀ env cc body Q E) E s)
    (hs : ∀ x, foldedSetIterable iter env x = pure x)
    (hE : PassesOwn (model prog w) A env E) :
    wpAny (model prog w) A (exec (.For (.Name x px) iter body [] pos) env) Q E s := by
  refine wpAny_For (wpAny_mono h (fun xv s₁ h₁ => ?_) fun _ _ e => e) hs
  obtain ⟨l, vs, nn, ls, m, all, co, v₀, nx, J, rfl, hh, F, N, hl, hb, hc, hd, hsub, hoffc, hlc, hJ, turn, done⟩ := h₁
  have hls : s₁.heap.IsList l vs.toArray := News.isList N hl
  have hlt : l < s₁.heap.objs.size := Heap.lt_size (N _ hl).1
  refine wpAny_pyIter_list hls ?_
  generalize hI : s₁.heap.objs.size = I at hlt ⊢
  have hIL : env.locals ≠ I := by rw [← hI]; exact Nat.ne_of_lt F.ns.lt
  have hI0 : h₀.get? I = none := by rw [← hI]; exact next_is_new F
  have hfresh : ∀ p ∈ all, p.1 ≠ I := fun p hp => by rw [← hI]; exact Nat.ne_of_lt (Heap.lt_size (N p hp).1)
  have hcL : cc ≠ env.locals := (N _ hc).2.1
  have hc0 : h₀.get? cc = none := (N _ hc).2.2
  have hcI : cc ≠ I := hfresh _ hc
  have W := Walks.list (prog := prog) (w := w) hh I l (Nat.ne_of_lt hlt) vs.toArray
  have hlen : vs.toArray.size = ls.length := by rw [List.size_toArray, hb.length]
  rw [hlen] at W
  have e0 : News h₀ env.locals (s₁.heap.push { cls := .type "list_iterator", data := .fields #[.ref l, .int 0 0] }) ((cc, co) :: (l, listOf vs.toArray nn) :: nx) := fun p hp => by
    have hp' : p ∈ all := by
      rcases List.mem_cons.mp hp with rfl | hp
      · exact hc
      · rcases List.mem_cons.mp hp with rfl | hp
        · exact hl
        · exact hsub p hp
    exact ⟨Heap.get?_push_of_some _ (N p hp').1, (N p hp').2⟩
  refine codeAny_forLoop (CfI h₀ env.locals I cc l (listOf vs.toArray nn) ls.length (nx.map (·.1)) (fun i => J (ls.take i)) s₁) ?_ (ls.length + 1)
    ⟨_, _, 0, m, nx, co, v₀, rfl, Nat.zero_le _, rfl, ⟨_, by rw [← hI]; exact Heap.get?_push_size _ rfl, rfl, rfl⟩, F.push _, e0, hd, rfl, by simpa using hJ⟩
  rintro n s' ⟨g, tk, i, m', nx', co', v', rfl, hi, rfl, hit, F', N', hd', hadr, hJ'⟩
  have hl' : g.IsList l vs.toArray := News.isList N' (.tail _ (.head _))
  have offI : ∀ p ∈ (cc, co') :: (l, listOf vs.toArray nn) :: nx', p.1 ≠ I := fun p hp => by
    rcases List.mem_cons.mp hp with rfl | hp
    · exact hcI
    · rcases List.mem_cons.mp hp with rfl | hp
      · exact Nat.ne_of_lt hlt
      · have h1 : p.1 ∈ nx'.map (·.1) := List.mem_map.mpr ⟨p, hp, rfl⟩
        rw [hadr] at h1
        obtain ⟨q, hq, e⟩ := List.mem_map.mp h1
        rw [← e]
        exact hfresh q (hsub q hq)
  have offc : ∀ p ∈ nx', p.1 ≠ cc := fun p hp => by
    have h1 : p.1 ∈ nx'.map (·.1) := List.mem_map.mpr ⟨p, hp, rfl⟩
    rw [hadr] at h1
    obtain ⟨q, hq, e⟩ := List.mem_map.mp h1
    rw [← e]
    exact hoffc q hq
  by_cases hlt' : i < ls.length
  · refine W.item i _ _ _ hlt' ⟨hit, hl'⟩ fun v h₂ tk₂ hv st₂ hk₂ => ?_
    obtain ⟨y, t, rfl, hy⟩ := hb.get (i := i) (v := v) (by simpa using hv)
    have F₂ := LCg.fr_but F' hk₂ hIL hI0
    have N₂ := LCg.news_but N' hk₂ offI
    refine wpAny_assign_Name (wpAny_storeName_cell hkf hx hcl ⟨co', (N₂ _ (.head _)).1, hd'⟩ fun h₃ hv₃ hs₃ => ?_)
    obtain ⟨co₃, ho₃, hd₃⟩ := hv₃
    obtain ⟨oI, heI, _⟩ := id st₂.1
    have F₃ : Fr h₀ env.locals h₃ m' := F₂.change hs₃ hcL hc0
    have heI₃ : h₃.get? I = some oI := hs₃.extBut _ _ (Ne.symm hcI) heI
    have N₃ : News h₀ env.locals h₃ ((I, oI) :: (cc, co₃) :: (l, listOf vs.toArray nn) :: nx') := fun p hp => by
      rcases List.mem_cons.mp hp with rfl | hp
      · exact ⟨heI₃, Ne.symm hIL, hI0⟩
      · rcases List.mem_cons.mp hp with rfl | hp
        · exact ⟨ho₃, hcL, hc0⟩
        · have z := N₂ p (.tail _ hp)
          refine ⟨hs₃.extBut _ _ ?_ z.1, z.2⟩
          rcases List.mem_cons.mp hp with rfl | hp
          · exact hlc
          · exact offc p hp
    have hs' : ls.take (i + 1) = ls.take i ++ [y] := by simp [List.take_add_one, hy]
    have e : ls = ls.take i ++ y :: ls.drop (i + 1) := by
      have ht := List.take_append_drop (i + 1) ls
      rw [hs', List.append_assoc] at ht
      exact ht.symm
    refine wpAny_passesOwn hE (wpAny_mono (turn _ y _ t m' nx' h₃ _ co₃ I oI e hJ' hadr hd₃ F₃ N₃) (fun f s₂ q => ?_) fun _ _ x => x)
    have up : CEnd h₀ env.locals I cc l oI (listOf vs.toArray nn) (nx.map (·.1)) (J (ls.take i ++ [y])) { s₁ with heap := h₃, toks := tk₂ } s₂ → ∃ k, k < ls.length + 1 - i ∧ CfI h₀ env.locals I cc l (listOf vs.toArray nn) ls.length (nx.map (·.1)) (fun i => J (ls.take i)) s₁ k s₂ := by
      rintro ⟨h₄, tk₄, m₄, nx₄, co₄, v₄, rfl, F₄, N₄, hd₄, ha₄, hJ₄⟩
      refine ⟨ls.length + 1 - (i + 1), Nat.sub_lt_sub_left (Nat.lt_succ_of_le hi) (Nat.lt_succ_self i), h₄, tk₄, i + 1, m₄, nx₄, co₄, v₄, rfl, hlt', rfl, ?_, F₄, fun p hp => N₄ p (.tail _ hp), hd₄, ha₄, by rw [hs']; exact hJ₄⟩
      obtain ⟨o₂, ho₂, r⟩ := st₂.1
      rw [heI] at ho₂
      cases ho₂
      exact ⟨oI, (N₄ _ (.head _)).1, r⟩
    cases f with
    | ret v => exact q
    | brk => exact q
    | next => exact up q
    | cont => exact up q
  · obtain rfl : i = ls.length := by omega
    refine W.done _ _ _ ⟨hit, hl'⟩ fun h₂ tk₂ hk₂ => wpAny_execs_nil ?_
    rw [List.take_length] at hJ'
    exact done m' nx' h₂ tk₂ hJ' (LCg.fr_but F' hk₂ hIL hI0) fun p hp => LCg.news_but N' hk₂ offI p (.tail _ (.tail _ hp))
end
end Mine
end
section
set_option maxRecDepth 100000
open PySem PySem.W PySem.Calls PyProof.Rows PyProof.V PySem.Spec
set_option Elab.async false
namespace Mine
open Builtin
noncomputable def CfS {σ : Type} (Led : σ → List (Addr × Obj)) (ps : σ → List (Str × Value)) (stored : List Str) (m₀ : Str → Option Value) (P : List (List UInt8) → σ → Prop) (pre : List (List UInt8)) (m : Str → Option Value) (nx : List (Addr × Obj)) : Prop :=
  ∃ c : σ, nx = Led c ∧ (∀ p ∈ ps c, m p.1 = some p.2) ∧ (∀ z, (∀ p ∈ ps c, z ≠ p.1) → stored.contains z = false → m z = m₀ z) ∧ P pre c
section
variable {prog : Program} {w : World} {A : Around} {E : Value → Shared → Prop} {s₁ : Shared} {env : Env} {h₀ : Heap} {Q : Flow → Shared → Prop}
theorem cfor_src {σ : Type} {cc l : Addr} {body : List Stmt} {vs : List Value} {nn : Nat} {ls : List (List UInt8)} {m₀ : Str → Option Value} {all : List (Addr × Obj)} {co : Obj} {v₀ : Option Value} (Led : σ → List (Addr × Obj)) (ps : σ → List (Str × Value)) (stored : List Str) (P : List (List UInt8) → σ → Prop) (c₀ : σ)
    (hh : A.handled = none) (F : Fr h₀ env.locals s₁.heap m₀) (N : News h₀ env.locals s₁.heap all) (hl : (l, listOf vs.toArray nn) ∈ all) (hb : BsAre vs ls) (hc : (cc, co) ∈ all) (hd : co.data = .cell v₀) (hsub : ∀ p ∈ Led c₀, p ∈ all) (hoff : ∀ p ∈ Led c₀, p.1 ≠ cc) (hlc : @Ne Nat l cc)
    (hk : ∀ p ∈ ps c₀, m₀ p.1 = some p.2) (hp : P [] c₀)
    (turn : ∀ (c : σ) pre y post t (u : Str → Option Value) h tk co' I oI, ls = pre ++ y :: post → P pre c → co'.data = .cell (some (.bytes y.toArray t)) →
      Fr h₀ env.locals h (kstB (fun z => if stored.contains z then u z else m₀ z) (ps c)) → News h₀ env.locals h ((I, oI) :: (cc, co') :: (l, listOf vs.toArray nn) :: Led c) →
      wpAny (model prog w) A (execs body env) (CPost h₀ env.locals I cc l oI (listOf vs.toArray nn) ((Led c₀).map (·.1)) (CfS Led ps stored m₀ P (pre ++ [y])) { s₁ with heap := h, toks := tk } Q) E { s₁ with heap := h, toks := tk })
    (done : ∀ (c : σ) (u : Str → Option Value) h tk, P ls c → Fr h₀ env.locals h (kstB (fun z => if stored.contains z then u z else m₀ z) (ps c)) → News h₀ env.locals h (Led c) → Q .next { s₁ with heap := h, toks := tk }) :
    CForSrc prog w A h₀ env cc body Q E (.ref l) s₁ := by
  refine ⟨l, vs, nn, ls, m₀, all, co, v₀, Led c₀, CfS Led ps stored m₀ P, rfl, hh, F, N, hl, hb, hc, hd, hsub, hoff, hlc, ⟨c₀, rfl, hk, fun _ _ _ => rfl, hp⟩, ?_, ?_⟩
  · rintro pre y post t m₁ nx₁ h tk co' I oI e ⟨c, rfl, h1, h2, hp'⟩ ha hd' F' N'
    exact turn c pre y post t m₁ h tk co' I oI e hp' hd' (ksw_fr h1 h2 F') N'
  · rintro m₁ nx₁ h tk ⟨c, rfl, h1, h2, hp'⟩ F' N'
    exact done c m₁ h tk hp' (ksw_fr h1 h2 F') N'
theorem c_end {σ : Type} {Led : σ → List (Addr × Obj)} {ps : σ → List (Str × Value)} {stored : List Str} {m₀ : Str → Option Value} {P : List (List UInt8) → σ → Prop} {pre : List (List UInt8)} (c : σ) {L I cc l : Addr} {oI ol co : Obj} {v : Option Value} {m' : Str → Option Value} {news' : List (Addr × Obj)} {adr : List Addr} {s₂ : Shared} {h' : Heap} {tk : Nat}
    (F : Fr h₀ L h' m') (N : News h₀ L h' news') (hI : (I, oI) ∈ news') (hc : (cc, co) ∈ news') (hl : (l, ol) ∈ news') (hn : ∀ p ∈ Led c, p ∈ news') (hd : co.data = .cell v) (ha : (Led c).map (·.1) = adr) (hk : ∀ p ∈ ps c, m' p.1 = some p.2) (hr : ∀ z, (∀ p ∈ ps c, z ≠ p.1) → stored.contains z = false → m' z = m₀ z) (hp : P pre c) :
    CEnd h₀ L I cc l oI ol adr (CfS Led ps stored m₀ P pre) s₂ { s₂ with heap := h', toks := tk } := by
  refine ⟨h', tk, m', Led c, co, v, rfl, F, fun p hp => N p ?_, hd, ha, ⟨c, rfl, hk, hr, hp⟩⟩
  rcases List.mem_cons.mp hp with rfl | hp
  · exact hI
  · rcases List.mem_cons.mp hp with rfl | hp
    · exact hc
    · rcases List.mem_cons.mp hp with rfl | hp
      · exact hl
      · exact hn p hp
end
end Mine
end
section
set_option maxRecDepth 100000
open PySem PySem.W PySem.Calls PyProof.Rows PyProof.V PySem.Spec
set_option Elab.async false
namespace Mine
open Builtin
section
variable {prog : Program} {w : World} {A : Around} {h₀ : Heap} {L : Addr} {m : Str → Option Value} {env : Env} {ct elt : Expr} {x : Str} {scope : Scope} {cl : List (Str × Addr)} {s : Shared} {S : List (Addr × Obj) → Prop} {Fin : List Value → List (Addr × Obj) → Prop} {news : List (Addr × Obj)}
theorem bs_restT {vs : List Value} {ls : List (List UInt8)} (q : List UInt8 → Bool) (hi : BsAre vs ls)
    (turn : ∀ (l : List UInt8) (t : Tok) I oI C oC D m₂ ys h tk (E' : Value → Shared → Prop), l ∈ ls → LCg.NsObj oC m₂ → m₂ x = some (.bytes l.toArray t) → Fr h₀ L h m → News h₀ L h ((I, oI) :: (C, oC) :: (D, LCg.lst ys) :: news) → LCg.Off3 I C D news → ((@Ne Nat I C) ∧ (@Ne Nat I D) ∧ (@Ne Nat C D)) →
      wpAny (model prog w) A (isTrue ct (compEnvC scope cl C env) (eval ct (compEnvC scope cl C env))) (fun ok s' => if ok = true then
        wpAny (model prog w) A (eval elt (compEnvC scope cl C env)) (LCg.CompEnd h₀ L m { s with heap := h, toks := tk } I oI C oC D (LCg.lst ys) S (fun y news' => q l = true ∧ BEl news l y news')) E' s'
        else LCg.CompEnd h₀ L m { s with heap := h, toks := tk } I oI C oC D (LCg.lst ys) S (fun _ news' => q l = false ∧ news' = news) Value.none s') E' { s with heap := h, toks := tk })
    (fin : ∀ ys, BsAre ys (ls.filter q) → Fin ys news) : LCt.CompRestT prog w A h₀ L m env ct elt x scope cl s S (fun i v => vs.toArray[i]? = some v) Fin vs.toArray.size 0 [] news := by
  have key : ∀ (j i : Nat) (ys : List Value), i + j = vs.length → BsAre ys ((ls.take i).filter q) → LCt.CompRestT prog w A h₀ L m env ct elt x scope cl s S (fun i v => vs.toArray[i]? = some v) Fin j i ys news := by
    intro j
    induction j with
    | zero =>
      intro i ys hi' hy
      have e : i = ls.length := by have := hi.length; omega
      subst e
      rw [List.take_length] at hy
      exact LCt.CompRestT.zero (fin ys hy)
    | succ j ih =>
      intro i ys hi' hy
      refine LCt.CompRestT.succ ?_
      intro v I oI C oC D m₂ h tk E' hv hC hx F N off ne
      obtain ⟨l, t, rfl, hl⟩ := hi.get (i := i) (v := v) (by simpa using hv)
      have hs : ls.take (i + 1) = ls.take i ++ [l] := by simp [List.take_add_one, hl]
      refine wpAny_mono (turn l t I oI C oC D m₂ ys h tk E' (List.mem_of_getElem? hl) hC hx F N off ne) (fun ok s₂ hq => ?_) fun _ _ e => e
      cases ok with
      | true =>
        simp only [if_true] at hq ⊢
        refine wpAny_mono hq (fun y s₃ hq => ?_) fun _ _ e => e
        obtain ⟨h', tk', nw, e, F', N', off', hS, hql, hn, t', rfl⟩ := hq
        subst hn
        refine ⟨h', tk', nw, e, F', N', off', hS, ih (i + 1) _ (by omega) ?_⟩
        rw [hs, List.filter_append]
        simpa [hql] using hy.snoc l t'
      | false =>
        simp only [Bool.false_eq_true, if_false] at hq ⊢
        obtain ⟨h', tk', nw, e, F', N', off', hS, hql, hn⟩ := hq
        subst hn
        refine ⟨h', tk', nw, e, F', N', off', hS, ih (i + 1) _ (by omega) ?_⟩
        rw [hs, List.filter_append]
        simpa [hql] using hy
  have e : vs.toArray.size = vs.length := by simp
  rw [e]
  exact key vs.length 0 [] (by omega) (by simp only [List.take_zero, List.filter_nil]; exact .nil)
end
theorem ne_off {all : List (Addr × Obj)} {D c : Addr} {o : Obj} (h : ∀ p ∈ all, p.1 ≠ D) (m : (c, o) ∈ all) : @Ne Nat D c := fun e => h _ m e.symm
theorem off_lt1 {l : List (Addr × Obj)} {D : Addr} (h : ∀ p ∈ l, p.1 < D) : ∀ p ∈ l, p.1 ≠ D + 1 := fun p hp e => by
  have h1 : @LT.lt Nat _ p.1 D := h p hp
  have h2 : @Eq Nat p.1 (D + 1) := e
  omega
theorem For_cellF {prog : Program} {w : World} {A : Around} {E : Value → Shared → Prop} {s : Shared} {env : Env} {h₀ : Heap} {Q : Flow → Shared → Prop} {L : Addr} {m : Str → Option Value} {x : Str} {px pos : Pos} {iter : Expr} {body : List Stmt} {cc : Addr} (_F : Fr h₀ L s.heap m) (hx : env.kindOf x = some .cell) (hkf : env.scope.kind = .function) (hcl : env.cells.lookup x = some cc)
    (h : wpAny (model prog w) A (eval iter env) (CForSrc prog w A h₀ env cc body Q E) E s)
    (hs : ∀ x, foldedSetIterable iter env x = pure x)
    (hE : PassesOwn (model prog w) A env E) :
    wpAny (model prog w) A (exec (.For (.Name x px) iter body [] pos) env) Q E s := For_cell hx hkf hcl h hs hE
end Mine
end
section
set_option maxRecDepth 100000
open PySem PySem.W PySem.Calls PyProof.Rows PyProof.V PySem.Spec
set_option Elab.async false
namespace Mine
open Builtin
theorem bs_end2 {α β : Type} {a : α} {b : β} {h₀ : Heap} {x : Str} {Led : α × β → List (Addr × Obj)} {ps : α × β → List (Str × Value)} {stored : List Str} {m₀ : Str → Option Value} {P : List (List UInt8) → α × β → Prop} {pre : List (List UInt8)} {L : Addr} {m' : Str → Option Value} {own news' : List (Addr × Obj)} {adr : List Addr} {s₁ : Shared} {h' : Heap} {tk : Nat}
    (F : Fr h₀ L h' m') (N : News h₀ L h' news') (hn : ∀ p ∈ Led (a, b), p ∈ news') (ho : ∀ p ∈ own, p ∈ news') (ha : (Led (a, b)).map (·.1) = adr) (hk : ∀ p ∈ ps (a, b), m' p.1 = some p.2) (hr : ∀ z, z ≠ x → (∀ p ∈ ps (a, b), z ≠ p.1) → stored.contains z = false → m' z = m₀ z) (hp : P pre (a, b)) :
    InvEndN h₀ L (BfS Led ps x stored m₀ P pre) own adr s₁ { s₁ with heap := h', toks := tk } := bs_end (a, b) F N hn ho ha hk hr hp
theorem ksw_end2 {α β : Type} {a : α} {b : β} {h₀ : Heap} {L : Addr} {s : Shared} {Led : α × β → List (Addr × Obj)} {ps : α × β → List (Str × Value)} {Facts : α × β → Prop} {stored : List Str} {m₀ m' : Str → Option Value} {P : α × β → Prop} {μ : α × β → Nat} {q : α × β} {h' : Heap} {tk : Nat} {news' : List (Addr × Obj)}
    (F : Fr h₀ L h' m') (N : News h₀ L h' news') (hn : ∀ p ∈ Led (a, b), p ∈ news') (hf : Facts (a, b)) (hk : ∀ p ∈ ps (a, b), m' p.1 = some p.2) (hr : ∀ z, (∀ p ∈ ps (a, b), z ≠ p.1) → stored.contains z = false → m' z = m₀ z) (hp : P (a, b)) (hm : μ (a, b) < μ q) :
    KswEnd h₀ L s Led ps Facts stored m₀ P μ q { s with heap := h', toks := tk } := ksw_end (a, b) F N hn hf hk hr hp hm
theorem bs_end3 {α β γ : Type} {a : α} {b : β} {c : γ} {h₀ : Heap} {x : Str} {Led : α × β × γ → List (Addr × Obj)} {ps : α × β × γ → List (Str × Value)} {stored : List Str} {m₀ : Str → Option Value} {P : List (List UInt8) → α × β × γ → Prop} {pre : List (List UInt8)} {L : Addr} {m' : Str → Option Value} {own news' : List (Addr × Obj)} {adr : List Addr} {s₁ : Shared} {h' : Heap} {tk : Nat}
    (F : Fr h₀ L h' m') (N : News h₀ L h' news') (hn : ∀ p ∈ Led (a, b, c), p ∈ news') (ho : ∀ p ∈ own, p ∈ news') (ha : (Led (a, b, c)).map (·.1) = adr) (hk : ∀ p ∈ ps (a, b, c), m' p.1 = some p.2) (hr : ∀ z, z ≠ x → (∀ p ∈ ps (a, b, c), z ≠ p.1) → stored.contains z = false → m' z = m₀ z) (hp : P pre (a, b, c)) :
    InvEndN h₀ L (BfS Led ps x stored m₀ P pre) own adr s₁ { s₁ with heap := h', toks := tk } := bs_end (a, b, c) F N hn ho ha hk hr hp
theorem ksw_end3 {α β γ : Type} {a : α} {b : β} {c : γ} {h₀ : Heap} {L : Addr} {s : Shared} {Led : α × β × γ → List (Addr × Obj)} {ps : α × β × γ → List (Str × Value)} {Facts : α × β × γ → Prop} {stored : List Str} {m₀ m' : Str → Option Value} {P : α × β × γ → Prop} {μ : α × β × γ → Nat} {q : α × β × γ} {h' : Heap} {tk : Nat} {news' : List (Addr × Obj)}
    (F : Fr h₀ L h' m') (N : News h₀ L h' news') (hn : ∀ p ∈ Led (a, b, c), p ∈ news') (hf : Facts (a, b, c)) (hk : ∀ p ∈ ps (a, b, c), m' p.1 = some p.2) (hr : ∀ z, (∀ p ∈ ps (a, b, c), z ≠ p.1) → stored.contains z = false → m' z = m₀ z) (hp : P (a, b, c)) (hm : μ (a, b, c) < μ q) :
    KswEnd h₀ L s Led ps Facts stored m₀ P μ q { s with heap := h', toks := tk } := ksw_end (a, b, c) F N hn hf hk hr hp hm
theorem c_end4 {α β γ δ : Type} {a : α} {b : β} {c : γ} {d : δ} {h₀ : Heap} {Led : α × β × γ × δ → List (Addr × Obj)} {ps : α × β × γ × δ → List (Str × Value)} {stored : List Str} {m₀ : Str → Option Value} {P : List (List UInt8) → α × β × γ × δ → Prop} {pre : List (List UInt8)} {L I cc l : Addr} {oI ol co : Obj} {v : Option Value} {m' : Str → Option Value} {news' : List (Addr × Obj)} {adr : List Addr} {s₂ : Shared} {h' : Heap} {tk : Nat}
    (F : Fr h₀ L h' m') (N : News h₀ L h' news') (hI : (I, oI) ∈ news') (hc : (cc, co) ∈ news') (hl : (l, ol) ∈ news') (hn : ∀ p ∈ Led (a, b, c, d), p ∈ news') (hd : co.data = .cell v) (ha : (Led (a, b, c, d)).map (·.1) = adr) (hk : ∀ p ∈ ps (a, b, c, d), m' p.1 = some p.2) (hr : ∀ z, (∀ p ∈ ps (a, b, c, d), z ≠ p.1) → stored.contains z = false → m' z = m₀ z) (hp : P pre (a, b, c, d)) :
    CEnd h₀ L I cc l oI ol adr (CfS Led ps stored m₀ P pre) s₂ { s₂ with heap := h', toks := tk } := c_end (a, b, c, d) F N hI hc hl hn hd ha hk hr hp
theorem ksw_end4 {α β γ δ : Type} {a : α} {b : β} {c : γ} {d : δ} {h₀ : Heap} {L : Addr} {s : Shared} {Led : α × β × γ × δ → List (Addr × Obj)} {ps : α × β × γ × δ → List (Str × Value)} {Facts : α × β × γ × δ → Prop} {stored : List Str} {m₀ m' : Str → Option Value} {P : α × β × γ × δ → Prop} {μ : α × β × γ × δ → Nat} {q : α × β × γ × δ} {h' : Heap} {tk : Nat} {news' : List (Addr × Obj)}
    (F : Fr h₀ L h' m') (N : News h₀ L h' news') (hn : ∀ p ∈ Led (a, b, c, d), p ∈ news') (hf : Facts (a, b, c, d)) (hk : ∀ p ∈ ps (a, b, c, d), m' p.1 = some p.2) (hr : ∀ z, (∀ p ∈ ps (a, b, c, d), z ≠ p.1) → stored.contains z = false → m' z = m₀ z) (hp : P (a, b, c, d)) (hm : μ (a, b, c, d) < μ q) :
    KswEnd h₀ L s Led ps Facts stored m₀ P μ q { s with heap := h', toks := tk } := ksw_end (a, b, c, d) F N hn hf hk hr hp hm
theorem bs_end5 {α β γ δ ε : Type} {a : α} {b : β} {c : γ} {d : δ} {e : ε} {h₀ : Heap} {x : Str} {Led : α × β × γ × δ × ε → List (Addr × Obj)} {ps : α × β × γ × δ × ε → List (Str × Value)} {stored : List Str} {m₀ : Str → Option Value} {P : List (List UInt8) → α × β × γ × δ × ε → Prop} {pre : List (List UInt8)} {L : Addr} {m' : Str → Option Value} {own news' : List (Addr × Obj)} {adr : List Addr} {s₁ : Shared} {h' : Heap} {tk : Nat}
    (F : Fr h₀ L h' m') (N : News h₀ L h' news') (hn : ∀ p ∈ Led (a, b, c, d, e), p ∈ news') (ho : ∀ p ∈ own, p ∈ news') (ha : (Led (a, b, c, d, e)).map (·.1) = adr) (hk : ∀ p ∈ ps (a, b, c, d, e), m' p.1 = some p.2) (hr : ∀ z, z ≠ x → (∀ p ∈ ps (a, b, c, d, e), z ≠ p.1) → stored.contains z = false → m' z = m₀ z) (hp : P pre (a, b, c, d, e)) :
    InvEndN h₀ L (BfS Led ps x stored m₀ P pre) own adr s₁ { s₁ with heap := h', toks := tk } := bs_end (a, b, c, d, e) F N hn ho ha hk hr hp
end Mine
end
section
set_option maxRecDepth 100000
open PySem PySem.W PySem.Calls PyProof.Rows PyProof.V PySem.Spec
set_option Elab.async false
namespace Mine
open Builtin
noncomputable def fTest (l : List UInt8) (i : Nat) : Bool := l.toArray.extract i (i + 1) == #[10]
theorem find_is (l : List UInt8) (k : Nat) : Bytes.find? l.toArray ([10] : List UInt8).toArray k l.length = (List.range' k (l.length - k)).find? (fTest l) := by
  unfold Bytes.find?
  have e : l.length + 1 - (k + ([10] : List UInt8).toArray.size) = l.length - k := by simp
  rw [e]
  have e2 : (List.range (l.length - k)).map (· + k) = List.range' k (l.length - k) := by
    have e3 : (fun x => x + k) = (fun x => k + x) := by funext x; omega
    rw [List.range_eq_range', e3, List.map_add_range', Nat.add_zero]
  rw [e2]
  rfl
theorem find_split : ∀ (r pre : List UInt8),
    ((List.range' pre.length r.length).find? (fTest (pre ++ r)) = none ∧ splitNL r = [r]) ∨
    ∃ j : Nat, (List.range' pre.length r.length).find? (fTest (pre ++ r)) = some j ∧ pre.length ≤ j ∧ j < pre.length + r.length ∧ splitNL r = r.take (j - pre.length) :: splitNL (r.drop (j + 1 - pre.length)) := by
  intro r
  induction r with
  | nil => intro pre; exact .inl ⟨rfl, rfl⟩
  | cons c r ih =>
    intro pre
    have e : pre ++ c :: r = (pre ++ [c]) ++ r := by simp
    have hp : (pre ++ [c]).length = pre.length + 1 := by simp
    have h1 : fTest (pre ++ c :: r) pre.length = (c == 10) := by
      unfold fTest
      rw [ext1]
      by_cases hc : c = 10
      · subst hc; rfl
      · simp [hc]
    rw [List.length_cons, List.range'_succ, List.find?_cons, h1, splitNL]
    by_cases hc : (c == 10) = true
    · rw [hc]
      refine .inr ⟨pre.length, rfl, Nat.le_refl _, by omega, ?_⟩
      simp
    · have hc' : (c == 10) = false := by simpa using hc
      rw [hc']
      simp only [Bool.false_eq_true, if_false]
      have h := ih (pre ++ [c])
      rw [hp, ← e] at h
      rcases h with ⟨h1, h2⟩ | ⟨j, h1, h2, h3, h4⟩
      · refine .inl ⟨h1, ?_⟩
        rw [h2]
      · refine .inr ⟨j, h1, by omega, by omega, ?_⟩
        rw [h4]
        have e1 : j - pre.length = (j - (pre.length + 1)) + 1 := by
          obtain ⟨d, rfl⟩ := Nat.exists_eq_add_of_le h2
          rw [Nat.add_sub_cancel_left, Nat.add_assoc, Nat.add_sub_cancel_left, Nat.add_comm]
        have e2 : j + 1 - pre.length = (j + 1 - (pre.length + 1)) + 1 := by
          obtain ⟨d, rfl⟩ := Nat.exists_eq_add_of_le h2
          rw [Nat.add_assoc (pre.length + 1) d 1, Nat.add_sub_cancel_left, Nat.add_assoc pre.length 1, Nat.add_sub_cancel_left, Nat.add_comm]
        rw [e1, e2]
        simp
theorem fnd_split (l : List UInt8) (k : Nat) (hk : k ≤ l.length) :
    (fnd l [10] k = -1 ∧ splitNL (l.drop k) = [l.drop k]) ∨
    ∃ j : Nat, fnd l [10] k = (j : Int) ∧ k ≤ j ∧ j < l.length ∧ splitNL (l.drop k) = (l.drop k).take (j - k) :: splitNL (l.drop (j + 1)) := by
  have h := find_split (l.drop k) (l.take k)
  have e1 : (l.take k).length = k := by simp [hk]
  have e2 : l.take k ++ l.drop k = l := List.take_append_drop k l
  have e3 : (l.drop k).length = l.length - k := by simp
  rw [e1, e2, e3] at h
  unfold fnd
  rw [find_is]
  rcases h with ⟨h1, h2⟩ | ⟨j, h1, h2, h3, h4⟩
  · exact .inl ⟨by rw [h1], h2⟩
  · refine .inr ⟨j, by rw [h1], h2, Nat.add_sub_of_le hk ▸ h3, ?_⟩
    rw [h4, List.drop_drop]
    rw [Nat.add_sub_of_le (Nat.le_succ_of_le h2)]
section
variable {prog : Program} {w : World} {A : Around} {E : Value → Shared → Prop} {s : Shared} {env : Env} {h₀ : Heap} {x : Str} {body : List Stmt} {Q : Flow → Shared → Prop}
/-- a for over a tuple of bytes that lies below the frame -/
theorem bs_forT {σ : Type} {l : Addr} {vs : List Value} {ls : List (List UInt8)} {m₀ : Str → Option Value} {L0 : List (Addr × Obj)} (ps : σ → List (Str × Value)) (stored : List Str) (P : List (List UInt8) → σ → Prop) (c₀ : σ)
    (hh : A.handled = none) (F : Fr h₀ env.locals s.heap m₀) (N : News h₀ env.locals s.heap L0) (hl : IsTup s.heap l vs.toArray) (hl0 : ∃ o, h₀.get? l = some o) (hb : BsAre vs ls)
    (hk : ∀ p ∈ ps c₀, m₀ p.1 = some p.2) (hp : P [] c₀)
    (turn : ∀ (c : σ) pre post y t (u : Str → Option Value) h tk own, ls = pre ++ y :: post → OwnOff own (L0.map (·.1)) → P pre c →
      Fr h₀ env.locals h (fun z => if z = x then some (.bytes y.toArray t) else kstB (fun z => if stored.contains z then u z else m₀ z) (ps c) z) → News h₀ env.locals h (L0 ++ own) →
      wpAny (model prog w) A (execs body env) (InvPostN h₀ env.locals (BfS (fun _ => L0) ps x stored m₀ P (pre ++ [y])) own (L0.map (·.1)) { s with heap := h, toks := tk } Q) E { s with heap := h, toks := tk })
    (done : ∀ (c : σ) (u : Str → Option Value) h tk, P ls c → Fr h₀ env.locals h (fun z => if z = x then u z else kstB (fun z => if stored.contains z then u z else m₀ z) (ps c) z) → News h₀ env.locals h L0 → Q .next { s with heap := h, toks := tk }) :
    wpAny (model prog w) A (pyIter (.ref l)) (fun it s₂ => LoopAtV prog w A h₀ env x body Q E it s₂) E s := by
  obtain ⟨o0, ho0⟩ := hl0
  have hlt : l < s.heap.objs.size := by obtain ⟨_, e, _⟩ := hl; exact Heap.lt_size e
  have W := Walks.tuple (prog := prog) (w := w) hh s.heap.objs.size l (Nat.ne_of_lt hlt) vs.toArray
  refine wpAny_pyIter_tuple hl ?_
  refine loop_invN (news := L0) (m₀ := m₀) (fun i m nx => BfS (fun _ => L0) ps x stored m₀ P (ls.take i) m nx) W ?_ ?_ ?_ ?_ ?_ (F.push _) (N.grown fun _ _ e => Heap.get?_push_of_some _ e) ⟨c₀, rfl, hk, fun _ _ _ _ => rfl, by simpa using hp⟩ ?_ ?_
  · intro hm
    rcases List.mem_cons.mp hm with e | hm
    · exact Nat.ne_of_lt F.ns.lt e
    · have e := List.mem_singleton.mp hm
      have h1 : h₀.get? env.locals = none := Heap.get?_none_of_le F.above
      rw [e, ho0] at h1
      cases h1
  · intro b hb
    rw [List.mem_singleton.mp hb]
    exact next_is_new F
  · intro p hp hI
    exact Nat.ne_of_lt (Heap.lt_size (N p hp).1) (List.mem_singleton.mp hI)
  · intro p hp hI
    rcases List.mem_cons.mp hI with e | hI
    · exact Nat.ne_of_lt (Heap.lt_size (N p hp).1) e
    · have h1 := (N p hp).2.2
      rw [List.mem_singleton.mp hI, ho0] at h1
      cases h1
  · exact ⟨⟨_, Heap.get?_push_size _ rfl, rfl, rfl⟩, IsTup.keeps hl fun _ _ e => Heap.get?_push_of_some _ e⟩
  · rintro i v m₁ nx h tk own hi hv _ hoff' ⟨c, rfl, h1, h2, hp'⟩ F₁ N₁
    obtain ⟨y, t, rfl, hy⟩ := hb.get (i := i) (v := v) (by simpa using hv)
    have hs : ls.take (i + 1) = ls.take i ++ [y] := by simp [List.take_add_one, hy]
    have e : ls = ls.take i ++ y :: ls.drop (i + 1) := by
      have ht := List.take_append_drop (i + 1) ls
      rw [hs, List.append_assoc] at ht
      exact ht.symm
    rw [hs]
    exact turn c _ _ y t m₁ h tk own e hoff' hp' (kst_fr h1 h2 F₁) N₁
  · rintro m₁ nx h tk ⟨c, rfl, h1, h2, hp'⟩ F₁ N₁
    have e : vs.toArray.size = ls.length := by rw [List.size_toArray, hb.length]
    rw [e, List.take_length] at hp'
    exact done c m₁ h tk hp' (kst_frOut h1 h2 F₁) N₁
end
end Mine
end
section
set_option maxRecDepth 100000
open PySem PySem.W PySem.Calls PyProof.Rows PyProof.V PySem.Spec
set_option Elab.async false
namespace Mine
open Builtin
section
variable {prog : Program} {w : World} {A : Around} {E : Value → Shared → Prop} {s : Shared} {env : Env} {h₀ : Heap} {x : Str} {body : List Stmt} {Q : Flow → Shared → Prop}
/-- a for over range(n); the word sees how many turns are done -/
theorem rg_for {σ : Type} {r : Addr} {b₀ : Int} {t₀ u₀ v₀ : Tok} {n : Nat} {m₀ : Str → Option Value} (Led : σ → List (Addr × Obj)) (ps : σ → List (Str × Value)) (stored : List Str) (P : List (List UInt8) → σ → Prop) (c₀ : σ)
    (hh : A.handled = none) (hr : IsRange s.heap r 0 b₀ 1 t₀ u₀ v₀) (hsmall : Builtin.Range.small 0 b₀ 1 = true) (hn : Builtin.Range.rangeSize 0 b₀ 1 = (n : Int)) (F : Fr h₀ env.locals s.heap m₀) (N : News h₀ env.locals s.heap (Led c₀)) (hk : ∀ p ∈ ps c₀, m₀ p.1 = some p.2) (hp : P [] c₀)
    (turn : ∀ (c : σ) (pre : List (List UInt8)) (k : Int) t (u : Str → Option Value) h tk own, pre.length < n → OwnOff own ((Led c₀).map (·.1)) → P pre c →
      Fr h₀ env.locals h (fun z => if z = x then some (.int k t) else kstB (fun z => if stored.contains z then u z else m₀ z) (ps c) z) → News h₀ env.locals h (Led c ++ own) →
      wpAny (model prog w) A (execs body env) (InvPostN h₀ env.locals (BfS Led ps x stored m₀ P (pre ++ [[]])) own ((Led c₀).map (·.1)) { s with heap := h, toks := tk } Q) E { s with heap := h, toks := tk })
    (done : ∀ (c : σ) (pre : List (List UInt8)) (u : Str → Option Value) h tk, pre.length = n → P pre c → Fr h₀ env.locals h (fun z => if z = x then u z else kstB (fun z => if stored.contains z then u z else m₀ z) (ps c) z) → News h₀ env.locals h (Led c) → Q .next { s with heap := h, toks := tk }) :
    wpAny (model prog w) A (pyIter (.ref r)) (fun it s₂ => LoopAtV prog w A h₀ env x body Q E it s₂) E s := by
  refine wpAny_pyIter_range hr hsmall ?_
  have W : Walks prog w A s.heap.objs.size [s.heap.objs.size] [s.heap.objs.size] n (fun i v => i < n ∧ ∃ t, v = .int (0 + i * 1) t)
      (fun i h => IsRangeIter h s.heap.objs.size (0 + (i : Nat) * 1) ((n : Int) - (i : Nat)) 1) := (Walks.range hh _ 0 1 n).bound
  refine loop_invN (fun i m nx => BfS Led ps x stored m₀ P (List.replicate i []) m nx) W ?_ ?_ ?_ ?_ (by show IsRangeIter _ _ _ _ _; rw [hn]; simpa using Heap.get?_push_size _ rfl) (F.push _) (fun p hp => ⟨Heap.get?_push_of_some _ (N p hp).1, (N p hp).2⟩) ⟨c₀, rfl, hk, fun _ _ _ _ => rfl, hp⟩ ?_ ?_
  · intro hm
    exact absurd F.ns.lt ((List.mem_singleton.mp hm) ▸ Nat.lt_irrefl _)
  · intro b hb
    rw [List.mem_singleton.mp hb]
    exact next_is_new F
  · intro p hp hI
    exact absurd (Heap.lt_size (N p hp).1) ((List.mem_singleton.mp hI) ▸ Nat.lt_irrefl _)
  · intro p hp hI
    exact absurd (Heap.lt_size (N p hp).1) ((List.mem_singleton.mp hI) ▸ Nat.lt_irrefl _)
  · rintro i v m₁ nx h tk own hi ⟨_, t, rfl⟩ _ hoff ⟨c, rfl, h1, h2, hp'⟩ F₁ N₁
    have e : List.replicate (i + 1) ([] : List UInt8) = List.replicate i [] ++ [[]] := by rw [List.replicate_succ']
    rw [e]
    exact turn c _ _ t m₁ h tk own (by simpa using hi) hoff hp' (kst_fr h1 h2 F₁) N₁
  · rintro m₁ nx h tk ⟨c, rfl, h1, h2, hp'⟩ F₁ N₁
    exact done c _ m₁ h tk (by simp) hp' (kst_frOut h1 h2 F₁) N₁
theorem rg_forK {σ : Type} {r K : Addr} {b₀ : Int} {t₀ u₀ v₀ : Tok} {n : Nat} {m₀ : Str → Option Value} (kn : Str) (Led : Addr → σ → List (Addr × Obj)) (ps : Addr → σ → List (Str × Value)) (stored : List Str) (P : List (List UInt8) → σ → Prop) (c₀ : σ)
    (_hK : m₀ kn = some (.ref K)) (hh : A.handled = none) (hr : IsRange s.heap r 0 b₀ 1 t₀ u₀ v₀) (hsmall : Builtin.Range.small 0 b₀ 1 = true) (hn : Builtin.Range.rangeSize 0 b₀ 1 = (n : Int)) (F : Fr h₀ env.locals s.heap m₀) (N : News h₀ env.locals s.heap (Led K c₀)) (hk : ∀ p ∈ ps K c₀, m₀ p.1 = some p.2) (hp : P [] c₀)
    (turn : ∀ (c : σ) (pre : List (List UInt8)) (k : Int) t (u : Str → Option Value) h tk own, pre.length < n → OwnOff own ((Led K c₀).map (·.1)) → P pre c →
      Fr h₀ env.locals h (fun z => if z = x then some (.int k t) else kstB (fun z => if stored.contains z then u z else m₀ z) (ps K c) z) → News h₀ env.locals h (Led K c ++ own) →
      wpAny (model prog w) A (execs body env) (InvPostN h₀ env.locals (BfS (Led K) (ps K) x stored m₀ P (pre ++ [[]])) own ((Led K c₀).map (·.1)) { s with heap := h, toks := tk } Q) E { s with heap := h, toks := tk })
    (done : ∀ (c : σ) (pre : List (List UInt8)) (u : Str → Option Value) h tk, pre.length = n → P pre c → Fr h₀ env.locals h (fun z => if z = x then u z else kstB (fun z => if stored.contains z then u z else m₀ z) (ps K c) z) → News h₀ env.locals h (Led K c) → Q .next { s with heap := h, toks := tk }) :
    wpAny (model prog w) A (pyIter (.ref r)) (fun it s₂ => LoopAtV prog w A h₀ env x body Q E it s₂) E s := rg_for (Led K) (ps K) stored P c₀ hh hr hsmall hn F N hk hp turn done
theorem callRange1 {L : Addr} {m : Str → Option Value} {news : List (Addr × Obj)} {n : Int} {t : Tok} {Q : Value → Shared → Prop} (F : Fr h₀ L s.heap m) (N : News h₀ L s.heap news)
    (h : ∀ (r : Addr) (h' : Heap) (tk' : Nat) (t₁ u₁ v₁ : Tok), IsRange h' r 0 n 1 t₁ u₁ v₁ → Fr h₀ L h' m → News h₀ L h' news → (∀ p ∈ news, p.1 ≠ r) → Q (.ref r) { s with heap := h', toks := tk' }) :
    wpAny (model prog w) A (call (.type "range") [.int n t]) Q E s :=
  call_range_1 (h _ _ _ _ _ _ (Heap.get?_push_size _ rfl) (F.push _) (N.grown fun _ _ e => Heap.get?_push_of_some _ e) fun p hp => Nat.ne_of_lt (Heap.lt_size (N p hp).1))
end
end Mine
end
section
set_option maxRecDepth 100000
open PySem PySem.W PySem.Calls PyProof.Rows PyProof.V PySem.Spec
set_option Elab.async false
namespace Mine
open Builtin
theorem byter_st {h₀ : Heap} {L : Addr} {I : Addr} {b : Array UInt8} {t : Tok} : ∀ i (h h' : Heap) (o : Obj) (nw : List (Addr × Obj)), KBw.IsBytesIter h I b t i → h.get? I = some o → h'.get? I = some o → (∀ b o, h₀.get? b = some o → h'.get? b = some o) → News h₀ L h' nw → True → KBw.IsBytesIter h' I b t i :=
  fun i h h' o nw st e e' _ _ _ => by
    obtain ⟨o', q, r⟩ := st
    rw [e] at q
    cases q
    exact ⟨o, e', r⟩
/-- the source of a comprehension is bytes -/
noncomputable def CompSrcBT (prog : Program) (w : World) (A : Around) (h₀ : Heap) (L : Addr) (m : Str → Option Value) (env : Env) (ct elt : Expr) (x : Str) (scope : Scope) (cl : List (Str × Addr)) (Q : Value → Shared → Prop) (xv : Value) (s₁ : Shared) : Prop :=
  ∃ b t news, xv = .bytes b t ∧ A.handled = none ∧ Fr h₀ L s₁.heap m ∧ News h₀ L s₁.heap news ∧ b.size ≤ sizeLine ∧
    ∀ g : Heap, LCt.CompRestT prog w A h₀ L m env ct elt x scope cl { s₁ with heap := g } (fun _ => True) (fun i v => ∃ c u, b[i]? = some c ∧ v = .int ((c.toNat : Nat) : Int) u) (LCg.FinE h₀ L m { s₁ with heap := g } Q) b.size 0 [] news
noncomputable def CompSrcBU (prog : Program) (w : World) (A : Around) (h₀ : Heap) (L : Addr) (m : Str → Option Value) (env : Env) (elt : Expr) (x : Str) (scope : Scope) (cl : List (Str × Addr)) (Q : Value → Shared → Prop) (xv : Value) (s₁ : Shared) : Prop :=
  ∃ b t news, xv = .bytes b t ∧ A.handled = none ∧ Fr h₀ L s₁.heap m ∧ News h₀ L s₁.heap news ∧ b.size ≤ sizeLine ∧
    ∀ g : Heap, LCg.CompRest prog w A h₀ L m env elt x scope cl { s₁ with heap := g } (fun _ => True) (fun i v => ∃ c u, b[i]? = some c ∧ v = .int ((c.toNat : Nat) : Int) u) (LCg.FinE h₀ L m { s₁ with heap := g } Q) b.size 0 [] news
theorem CompSrcBT.intro {prog : Program} {w : World} {A : Around} {h₀ : Heap} {L : Addr} {m : Str → Option Value} {env : Env} {ct elt : Expr} {x : Str} {scope : Scope} {cl : List (Str × Addr)} {Q : Value → Shared → Prop} {l : List UInt8} {t : Tok} {news : List (Addr × Obj)} {s₁ : Shared}
    (hh : A.handled = none) (F : Fr h₀ L s₁.heap m) (N : News h₀ L s₁.heap news) (hl : l.length ≤ 1000000)
    (h : ∀ g : Heap, LCt.CompRestT prog w A h₀ L m env ct elt x scope cl { s₁ with heap := g } (fun _ => True) (fun i v => ∃ c u, l.toArray[i]? = some c ∧ v = .int ((c.toNat : Nat) : Int) u) (LCg.FinE h₀ L m { s₁ with heap := g } Q) l.toArray.size 0 [] news) :
    CompSrcBT prog w A h₀ L m env ct elt x scope cl Q (.bytes l.toArray t) s₁ := ⟨_, _, news, rfl, hh, F, N, by rw [sizeLine_eq]; simp; omega, h⟩
theorem CompSrcBU.intro {prog : Program} {w : World} {A : Around} {h₀ : Heap} {L : Addr} {m : Str → Option Value} {env : Env} {elt : Expr} {x : Str} {scope : Scope} {cl : List (Str × Addr)} {Q : Value → Shared → Prop} {l : List UInt8} {t : Tok} {news : List (Addr × Obj)} {s₁ : Shared}
    (hh : A.handled = none) (F : Fr h₀ L s₁.heap m) (N : News h₀ L s₁.heap news) (hl : l.length ≤ 1000000)
    (h : ∀ g : Heap, LCg.CompRest prog w A h₀ L m env elt x scope cl { s₁ with heap := g } (fun _ => True) (fun i v => ∃ c u, l.toArray[i]? = some c ∧ v = .int ((c.toNat : Nat) : Int) u) (LCg.FinE h₀ L m { s₁ with heap := g } Q) l.toArray.size 0 [] news) :
    CompSrcBU prog w A h₀ L m env elt x scope cl Q (.bytes l.toArray t) s₁ := ⟨_, _, news, rfl, hh, F, N, by rw [sizeLine_eq]; simp; omega, h⟩
section
variable {prog : Program} {w : World} {A : Around} {E : Value → Shared → Prop} {s : Shared} {h₀ : Heap} {L : Addr} {m : Str → Option Value} {env : Env}
/-- a comprehension with a test over bytes -/
theorem ListComp_BT {ct elt iter : Expr} {x : Str} {px : Pos} {scope : Scope} {cl : List (Str × Addr)} {pos : Pos} {Q : Value → Shared → Prop} (_F₀ : Fr h₀ L s.heap m)
    (hclos : closureFor scope env = pure cl) (hcell : ∀ y ∈ scope.names, y.2 ≠ .cell) (hkind : scope.kind = .function)
    (hnames : ∀ y ∈ scope.names, y.2 = .local → scope.names.lookup y.1 = some .local) (hx : scope.names.lookup x = some .local)
    (h : wpAny (model prog w) A (eval iter env) (CompSrcBT prog w A h₀ L m env ct elt x scope cl Q) E s)
    (hs : ∀ x, foldedSetIterable iter env x = pure x) :
    wpAny (model prog w) A (eval (.ListComp elt [⟨.Name x px, iter, [ct], 0⟩] scope pos) env) Q E s := by
  rw [eval_ListComp]
  refine wpAny_comprehension_free (use := none) rfl hs hclos hkind hnames (wpAny_mono h (fun xv s₁ h₁ => ?_) fun _ _ e => e)
  obtain ⟨b, t, news, rfl, hh, F, N, hsz, R⟩ := h₁
  refine KBw.pyIter_bytes ?_
  refine LCt.block_T (KBw.walks hh s₁.heap.objs.size b t) hsz (fun i h st => by obtain ⟨o, e, _⟩ := st; exact ⟨o, e⟩) byter_st hcell hkind hx ⟨_, Heap.get?_push_size _ rfl, rfl, rfl⟩ (fun b hb => ?_)
    (F.push _) (N.grown fun _ _ e => Heap.get?_push_of_some _ e) (Nat.ne_of_lt F.ns.lt) (next_is_new F) (fun p hp => Nat.ne_of_lt (Heap.lt_size (N p hp).1)) trivial (R _) ?_
  · rw [List.mem_singleton.mp hb]
    show s₁.heap.objs.size < (s₁.heap.push _).objs.size
    rw [Heap.size_push]; exact Nat.lt_succ_self _
  · intro D C h tk m' ys news' F' N' o1 hn hC₀ hD₀ hCL hDL hCD offC fin
    refine ⟨m', hn, fun h'' hs'' => fin D h'' tk (F'.change hs'' hCL hC₀) (fun p hp => ?_) o1⟩
    refine ⟨hs''.extBut _ _ ?_ (N' p hp).1, (N' p hp).2⟩
    rcases List.mem_cons.mp hp with rfl | hp
    · exact Ne.symm hCD
    · exact offC p hp
/-- a comprehension over bytes -/
theorem ListComp_B {elt iter : Expr} {x : Str} {px : Pos} {scope : Scope} {cl : List (Str × Addr)} {pos : Pos} {Q : Value → Shared → Prop} (_F₀ : Fr h₀ L s.heap m)
    (hclos : closureFor scope env = pure cl) (hcell : ∀ y ∈ scope.names, y.2 ≠ .cell) (hkind : scope.kind = .function)
    (hnames : ∀ y ∈ scope.names, y.2 = .local → scope.names.lookup y.1 = some .local) (hx : scope.names.lookup x = some .local)
    (h : wpAny (model prog w) A (eval iter env) (CompSrcBU prog w A h₀ L m env elt x scope cl Q) E s)
    (hs : ∀ x, foldedSetIterable iter env x = pure x) :
    wpAny (model prog w) A (eval (.ListComp elt [⟨.Name x px, iter, [], 0⟩] scope pos) env) Q E s := by
  rw [eval_ListComp]
  refine wpAny_comprehension_free (use := none) rfl hs hclos hkind hnames (wpAny_mono h (fun xv s₁ h₁ => ?_) fun _ _ e => e)
  obtain ⟨b, t, news, rfl, hh, F, N, hsz, R⟩ := h₁
  refine KBw.pyIter_bytes ?_
  refine LCg.block_U (KBw.walks hh s₁.heap.objs.size b t) hsz (fun i h st => by obtain ⟨o, e, _⟩ := st; exact ⟨o, e⟩) byter_st hcell hkind hx ⟨_, Heap.get?_push_size _ rfl, rfl, rfl⟩ (fun b hb => ?_)
    (F.push _) (N.grown fun _ _ e => Heap.get?_push_of_some _ e) (Nat.ne_of_lt F.ns.lt) (next_is_new F) (fun p hp => Nat.ne_of_lt (Heap.lt_size (N p hp).1)) trivial (R _) ?_
  · rw [List.mem_singleton.mp hb]
    show s₁.heap.objs.size < (s₁.heap.push _).objs.size
    rw [Heap.size_push]; exact Nat.lt_succ_self _
  · intro D C h tk m' ys news' F' N' o1 hn hC₀ hD₀ hCL hDL hCD offC fin
    refine ⟨m', hn, fun h'' hs'' => fin D h'' tk (F'.change hs'' hCL hC₀) (fun p hp => ?_) o1⟩
    refine ⟨hs''.extBut _ _ ?_ (N' p hp).1, (N' p hp).2⟩
    rcases List.mem_cons.mp hp with rfl | hp
    · exact Ne.symm hCD
    · exact offC p hp
variable {ct elt : Expr} {x : Str} {scope : Scope} {cl : List (Str × Addr)} {S : List (Addr × Obj) → Prop} {Fin : List Value → List (Addr × Obj) → Prop} {news : List (Addr × Obj)}
inductive Each (R : UInt8 → Value → Prop) : List Value → List UInt8 → Prop where
  | nil : Each R [] []
  | cons {v : Value} {c : UInt8} {vs : List Value} {l : List UInt8} : R c v → Each R vs l → Each R (v :: vs) (c :: l)
theorem Each.snoc {R : UInt8 → Value → Prop} {vs : List Value} {l : List UInt8} {v : Value} {c : UInt8} (h : Each R vs l) (r : R c v) : Each R (vs ++ [v]) (l ++ [c]) := by
  induction h with
  | nil => exact .cons r .nil
  | cons r' _ ih => exact .cons r' ih
noncomputable def REl (R : UInt8 → Value → Prop) (news : List (Addr × Obj)) (c : UInt8) (y : Value) (news' : List (Addr × Obj)) : Prop := news' = news ∧ R c y
theorem by_restT {l : List UInt8} (R : UInt8 → Value → Prop) (q : UInt8 → Bool)
    (turn : ∀ (c : UInt8) (t : Tok) I oI C oC D m₂ ys h tk (E' : Value → Shared → Prop), c ∈ l → LCg.NsObj oC m₂ → m₂ x = some (.int ((c.toNat : Nat) : Int) t) → Fr h₀ L h m → News h₀ L h ((I, oI) :: (C, oC) :: (D, LCg.lst ys) :: news) → LCg.Off3 I C D news → ((@Ne Nat I C) ∧ (@Ne Nat I D) ∧ (@Ne Nat C D)) →
      wpAny (model prog w) A (isTrue ct (compEnvC scope cl C env) (eval ct (compEnvC scope cl C env))) (fun ok s' => if ok = true then
        wpAny (model prog w) A (eval elt (compEnvC scope cl C env)) (LCg.CompEnd h₀ L m { s with heap := h, toks := tk } I oI C oC D (LCg.lst ys) S (fun y news' => q c = true ∧ REl R news c y news')) E' s'
        else LCg.CompEnd h₀ L m { s with heap := h, toks := tk } I oI C oC D (LCg.lst ys) S (fun _ news' => q c = false ∧ news' = news) Value.none s') E' { s with heap := h, toks := tk })
    (fin : ∀ ys, Each R ys (l.filter q) → Fin ys news) : LCt.CompRestT prog w A h₀ L m env ct elt x scope cl s S (fun i v => ∃ c u, l.toArray[i]? = some c ∧ v = .int ((c.toNat : Nat) : Int) u) Fin l.toArray.size 0 [] news := by
  have key : ∀ (j i : Nat) (ys : List Value), i + j = l.length → Each R ys ((l.take i).filter q) → LCt.CompRestT prog w A h₀ L m env ct elt x scope cl s S (fun i v => ∃ c u, l.toArray[i]? = some c ∧ v = .int ((c.toNat : Nat) : Int) u) Fin j i ys news := by
    intro j
    induction j with
    | zero =>
      intro i ys hi' hy
      have e : i = l.length := by omega
      subst e
      rw [List.take_length] at hy
      exact LCt.CompRestT.zero (fin ys hy)
    | succ j ih =>
      intro i ys hi' hy
      refine LCt.CompRestT.succ ?_
      intro v I oI C oC D m₂ h tk E' hv hC hx F N off ne
      obtain ⟨c, t, hl, rfl⟩ := hv
      have hl : l[i]? = some c := by simpa using hl
      have hs : l.take (i + 1) = l.take i ++ [c] := by simp [List.take_add_one, hl]
      refine wpAny_mono (turn c t I oI C oC D m₂ ys h tk E' (List.mem_of_getElem? hl) hC hx F N off ne) (fun ok s₂ hq => ?_) fun _ _ e => e
      cases ok with
      | true =>
        simp only [if_true] at hq ⊢
        refine wpAny_mono hq (fun y s₃ hq => ?_) fun _ _ e => e
        obtain ⟨h', tk', nw, e, F', N', off', hS, hql, hn, hr⟩ := hq
        subst hn
        refine ⟨h', tk', nw, e, F', N', off', hS, ih (i + 1) _ (by omega) ?_⟩
        rw [hs, List.filter_append]
        simpa [hql] using hy.snoc hr
      | false =>
        simp only [Bool.false_eq_true, if_false] at hq ⊢
        obtain ⟨h', tk', nw, e, F', N', off', hS, hql, hn⟩ := hq
        subst hn
        refine ⟨h', tk', nw, e, F', N', off', hS, ih (i + 1) _ (by omega) ?_⟩
        rw [hs, List.filter_append]
        simpa [hql] using hy
  have e : l.toArray.size = l.length := by simp
  rw [e]
  exact key l.length 0 [] (by omega) (by simp only [List.take_zero, List.filter_nil]; exact .nil)
end
noncomputable def RInt (c : UInt8) (v : Value) : Prop := ∃ t, v = .int ((c.toNat : Nat) : Int) t
theorem each_ints {vs : List Value} {l : List UInt8} (h : Each RInt vs l) : IntsAre vs (l.map fun c => ((c.toNat : Nat) : Int)) := by
  induction h with
  | nil => exact .nil
  | cons r _ ih =>
    obtain ⟨t, rfl⟩ := r
    exact .cons _ _ ih
section
variable {prog : Program} {w : World} {A : Around} {E : Value → Shared → Prop} {s : Shared} {h₀ : Heap} {L : Addr} {m : Str → Option Value} {news : List (Addr × Obj)}
theorem arr_of (l : List UInt8) : byteArr (l.map fun c => ((c.toNat : Nat) : Int)) = l.toArray := by
  unfold byteArr
  apply Array.ext'
  simp [List.map_map, Function.comp_def]
theorem callBytes {Q : Value → Shared → Prop} {D : Addr} {vs : List Value} {l : List UInt8} (F : Fr h₀ L s.heap m) (N : News h₀ L s.heap news) (hh : A.handled = none) (hl : s.heap.IsList D vs.toArray) (hi : Each RInt vs l) (hn : l.length ≤ 16777216)
    (h : ∀ h' t' k, Fr h₀ L h' m → News h₀ L h' news → Q (.bytes l.toArray t') { s with heap := h', toks := k }) : wpAny (model prog w) A (call (.type "bytes") [.ref D]) Q E s := by
  refine KBa.make_K F N hh hl (each_ints hi) ?_ (by simpa using hn) ?_
  · intro k hk
    obtain ⟨c, _, rfl⟩ := List.mem_map.mp hk
    exact ⟨by omega, by have := c.toNat_lt; omega⟩
  · intro h' t' k F' N' _
    rw [arr_of]
    exact h h' t' k F' N'
end
end Mine
end
section
set_option maxRecDepth 100000
open PySem PySem.W PySem.Calls PyProof.Rows PySem.SeqAt
set_option Elab.async false
namespace Mine
open Builtin
inductive SameVs : List Value → List Value → Prop where
  | nil : SameVs [] []
  | bytes {a : List UInt8} {t u : Tok} {vs ws : List Value} : SameVs vs ws → SameVs (.bytes a.toArray t :: vs) (.bytes a.toArray u :: ws)
  | int {k : Int} {t u : Tok} {vs ws : List Value} : SameVs vs ws → SameVs (.int k t :: vs) (.int k u :: ws)
theorem SameVs.len {vs ws : List Value} (h : SameVs vs ws) : vs.length = ws.length := by
  induction h with
  | nil => rfl
  | bytes _ ih => simp [ih]
  | int _ ih => simp [ih]
section
variable {prog : Program} {w : World} {A : Around} {E : Value → Shared → Prop} {s : Shared}
theorem eqAtI {k : Int} {t u : Tok} : EqAt A s (.int k t) (.int k u) true := by
  have h := EqAt.int_int (A := A) (s := s) k t k u
  have e : (k == k) = true := by simp
  rw [e] at h
  exact h
theorem SameVs.at {vs ws : List Value} (h : SameVs vs ws) : ∀ j (h1 : j < vs.length) (h2 : j < ws.length), EqAt A s vs[j] ws[j] true := by
  induction h with
  | nil => intro j h1; exact absurd h1 (Nat.not_lt_zero _)
  | bytes _ ih =>
    intro j h1 h2
    cases j with
    | zero =>
      rename_i a t u vs ws _
      have h := eqAtB (A := A) (s := s) (a := a) (b := a) (t := t) (u := u)
      have e : (a == a) = true := by simp
      rw [e] at h
      exact h
    | succ j => exact ih j (by simpa using h1) (by simpa using h2)
  | int _ ih =>
    intro j h1 h2
    cases j with
    | zero => exact eqAtI
    | succ j => exact ih j (by simpa using h1) (by simpa using h2)
theorem eqTup {h₀ : Heap} {L l b : Addr} {news : List (Addr × Obj)} {vs ws : List Value} {Q : Value → Shared → Prop} (N : News h₀ L s.heap news) (hl : (l, { cls := .type "tuple", data := .seq vs.toArray }) ∈ news) (hb : (b, { cls := .type "tuple", data := .seq ws.toArray }) ∈ news) (hu : A.units < cLine)
    (hv : SameVs vs ws) (h : Q (.bool true) s) : wpAny (model prog w) A (compareOp .Eq (.ref l) (.ref b)) Q E s := by
  have r := RcAt.tuples (A := A) (s := s) (l := l) (b := b) (items := vs.toArray) (items2 := ws.toArray) (e := fun _ => true) ⟨_, (N _ hl).1, rfl, _, rfl⟩ ⟨_, (N _ hb).1, rfl, _, rfl⟩ hu
    (fun j h1 h2 => by simpa using hv.at (A := A.in1) (s := s) j (by simpa using h1) (by simpa using h2))
  refine r prog w E Q ?_
  have e : ((List.range (min vs.toArray.size ws.toArray.size)).all (fun _ => true) && vs.toArray.size == ws.toArray.size) = true := by simp [hv.len]
  rw [e]; exact h
theorem neTup {h₀ : Heap} {L l b : Addr} {news : List (Addr × Obj)} {vs ws : List Value} {Q : Value → Shared → Prop} (N : News h₀ L s.heap news) (hl : (l, { cls := .type "tuple", data := .seq vs.toArray }) ∈ news) (hb : (b, { cls := .type "tuple", data := .seq ws.toArray }) ∈ news) (hu : A.units < cLine)
    (hv : SameVs vs ws) (h : Q (.bool false) s) : wpAny (model prog w) A (compareOp .NotEq (.ref l) (.ref b)) Q E s := by
  have r := RcNeAt.tuples (A := A) (s := s) (l := l) (b := b) (items := vs.toArray) (items2 := ws.toArray) (e := fun _ => true) ⟨_, (N _ hl).1, rfl, _, rfl⟩ ⟨_, (N _ hb).1, rfl, _, rfl⟩ hu
    (fun j h1 h2 => by simpa using hv.at (A := A.in1) (s := s) j (by simpa using h1) (by simpa using h2))
  refine r prog w E Q ?_
  have e : (!((List.range (min vs.toArray.size ws.toArray.size)).all (fun _ => true) && vs.toArray.size == ws.toArray.size)) = false := by simp [hv.len]
  rw [e]; exact h
end
end Mine
end
section
set_option maxRecDepth 100000
open PySem PySem.W PySem.Calls PyProof.Rows PyProof.V PySem.Spec
set_option Elab.async false
namespace Mine
open Builtin
section
variable {prog : Program} {w : World} {A : Around} {E : Value → Shared → Prop} {h₀ : Heap} {L : Addr} {m : Str → Option Value} {env : Env} {elt : Expr} {x : Str} {scope : Scope} {cl : List (Str × Addr)} {s : Shared} {S : List (Addr × Obj) → Prop} {Fin : List Value → List (Addr × Obj) → Prop}
/-- the turns of a comprehension over written bytes -/
noncomputable def BRest (prog : Program) (w : World) (A : Around) (h₀ : Heap) (L : Addr) (m : Str → Option Value) (env : Env) (elt : Expr) (x : Str) (scope : Scope) (cl : List (Str × Addr)) (s : Shared) (S : List (Addr × Obj) → Prop) (Fin : List Value → List (Addr × Obj) → Prop) : List Int → List Value → List (Addr × Obj) → Prop
  | [], ys, news => Fin ys news
  | k :: r, ys, news => ∀ t I oI C oC D m₂ h tk (E' : Value → Shared → Prop), LCg.NsObj oC m₂ → m₂ x = some (.int k t) → Fr h₀ L h m → News h₀ L h ((I, oI) :: (C, oC) :: (D, LCg.lst ys) :: news) → LCg.Off3 I C D news → ((@Ne Nat I C) ∧ (@Ne Nat I D) ∧ (@Ne Nat C D)) →
      wpAny (model prog w) A (eval elt (compEnvC scope cl C env)) (LCg.CompEnd h₀ L m { s with heap := h, toks := tk } I oI C oC D (LCg.lst ys) S (fun y news' => BRest prog w A h₀ L m env elt x scope cl s S Fin r (ys ++ [y]) news')) E' { s with heap := h, toks := tk }
theorem BRest.zero {ys : List Value} {news : List (Addr × Obj)} (h : Fin ys news) : BRest prog w A h₀ L m env elt x scope cl s S Fin [] ys news := h
theorem BRest.succ {k : Int} {r : List Int} {ys : List Value} {news : List (Addr × Obj)}
    (h : ∀ t I oI C oC D m₂ h tk (E' : Value → Shared → Prop), LCg.NsObj oC m₂ → m₂ x = some (.int k t) → Fr h₀ L h m → News h₀ L h ((I, oI) :: (C, oC) :: (D, LCg.lst ys) :: news) → LCg.Off3 I C D news → ((@Ne Nat I C) ∧ (@Ne Nat I D) ∧ (@Ne Nat C D)) →
      wpAny (model prog w) A (eval elt (compEnvC scope cl C env)) (LCg.CompEnd h₀ L m { s with heap := h, toks := tk } I oI C oC D (LCg.lst ys) S (fun y news' => BRest prog w A h₀ L m env elt x scope cl s S Fin r (ys ++ [y]) news')) E' { s with heap := h, toks := tk }) :
    BRest prog w A h₀ L m env elt x scope cl s S Fin (k :: r) ys news := h
theorem brest {l : List UInt8} {ks : List Int} {news : List (Addr × Obj)} (hx : (l.map fun c => ((c.toNat : Nat) : Int)) = ks) (h : BRest prog w A h₀ L m env elt x scope cl s S Fin ks [] news) :
    LCg.CompRest prog w A h₀ L m env elt x scope cl s S (fun i v => ∃ c u, l.toArray[i]? = some c ∧ v = .int ((c.toNat : Nat) : Int) u) Fin l.toArray.size 0 [] news := by
  subst hx
  have key : ∀ (j i : Nat) (ys : List Value) (news : List (Addr × Obj)), i + j = l.length → BRest prog w A h₀ L m env elt x scope cl s S Fin ((l.drop i).map fun c => ((c.toNat : Nat) : Int)) ys news → LCg.CompRest prog w A h₀ L m env elt x scope cl s S (fun i v => ∃ c u, l.toArray[i]? = some c ∧ v = .int ((c.toNat : Nat) : Int) u) Fin j i ys news := by
    intro j
    induction j with
    | zero =>
      intro i ys news hi' hy
      have e : i = l.length := by omega
      subst e
      rw [List.drop_length] at hy
      exact LCg.CompRest.zero hy
    | succ j ih =>
      intro i ys news hi' hy
      refine LCg.CompRest.succ ?_
      intro v I oI C oC D m₂ h tk E' hv hC hx F N off ne
      obtain ⟨c, t, hl, rfl⟩ := hv
      have hi : i < l.length := by omega
      have hl : l[i]? = some c := by simpa using hl
      rw [List.drop_eq_getElem_cons hi, List.map_cons] at hy
      have hc : l[i] = c := by rw [List.getElem?_eq_getElem hi] at hl; exact Option.some.inj hl
      rw [hc] at hy
      refine wpAny_mono (hy t I oI C oC D m₂ h tk E' hC hx F N off ne) (fun y s₃ hq => ?_) fun _ _ e => e
      obtain ⟨h', tk', nw, e, F', N', off', hS, hr⟩ := hq
      exact ⟨h', tk', nw, e, F', N', off', hS, ih (i + 1) _ _ (by omega) hr⟩
  have e : l.toArray.size = l.length := by simp
  rw [e]
  exact key l.length 0 [] news (by omega) (by simpa using h)
end
section
variable {prog : Program} {w : World} {A : Around} {E : Value → Shared → Prop} {s : Shared} {env : Env} {h₀ : Heap} {x : Str} {body : List Stmt} {Q : Flow → Shared → Prop}
noncomputable def ByS {σ : Type} (Led : σ → List (Addr × Obj)) (ps : σ → List (Str × Value)) (x : Str) (stored : List Str) (m₀ : Str → Option Value) (P : List UInt8 → σ → Prop) (pre : List UInt8) (m : Str → Option Value) (nx : List (Addr × Obj)) : Prop :=
  ∃ c : σ, nx = Led c ∧ (∀ p ∈ ps c, m p.1 = some p.2) ∧ (∀ z, z ≠ x → (∀ p ∈ ps c, z ≠ p.1) → stored.contains z = false → m z = m₀ z) ∧ P pre c
/-- a for over bytes -/
theorem by_for {σ : Type} {l : List UInt8} {tb : Tok} {m₀ : Str → Option Value} {L0 : List (Addr × Obj)} (ps : σ → List (Str × Value)) (stored : List Str) (P : List UInt8 → σ → Prop) (c₀ : σ)
    (hh : A.handled = none) (F : Fr h₀ env.locals s.heap m₀) (N : News h₀ env.locals s.heap L0) (hk : ∀ p ∈ ps c₀, m₀ p.1 = some p.2) (hp : P [] c₀)
    (turn : ∀ (c : σ) pre (y : UInt8) post t (u : Str → Option Value) h tk own, l = pre ++ y :: post → OwnOff own (L0.map (·.1)) → P pre c →
      Fr h₀ env.locals h (fun z => if z = x then some (.int ((y.toNat : Nat) : Int) t) else kstB (fun z => if stored.contains z then u z else m₀ z) (ps c) z) → News h₀ env.locals h (L0 ++ own) →
      wpAny (model prog w) A (execs body env) (InvPostN h₀ env.locals (ByS (fun _ => L0) ps x stored m₀ P (pre ++ [y])) own (L0.map (·.1)) { s with heap := h, toks := tk } Q) E { s with heap := h, toks := tk })
    (done : ∀ (c : σ) (u : Str → Option Value) h tk, P l c → Fr h₀ env.locals h (fun z => if z = x then u z else kstB (fun z => if stored.contains z then u z else m₀ z) (ps c) z) → News h₀ env.locals h L0 → Q .next { s with heap := h, toks := tk }) :
    wpAny (model prog w) A (pyIter (.bytes l.toArray tb)) (fun it s₂ => LoopAtV prog w A h₀ env x body Q E it s₂) E s := by
  refine KBw.pyIter_bytes ?_
  refine loop_invN (news := L0) (m₀ := m₀) (fun i m nx => ByS (fun _ => L0) ps x stored m₀ P (l.take i) m nx) (KBw.walks (prog := prog) (w := w) hh s.heap.objs.size l.toArray tb) ?_ ?_ ?_ ?_ ?_ (F.push _) (N.grown fun _ _ e => Heap.get?_push_of_some _ e) ⟨c₀, rfl, hk, fun _ _ _ _ => rfl, by simpa using hp⟩ ?_ ?_
  · intro hm
    exact Nat.ne_of_lt F.ns.lt (List.mem_singleton.mp hm)
  · intro b hb
    rw [List.mem_singleton.mp hb]
    exact next_is_new F
  · intro p hp hI
    exact Nat.ne_of_lt (Heap.lt_size (N p hp).1) (List.mem_singleton.mp hI)
  · intro p hp hI
    exact Nat.ne_of_lt (Heap.lt_size (N p hp).1) (List.mem_singleton.mp hI)
  · exact ⟨_, Heap.get?_push_size _ rfl, rfl, rfl⟩
  · rintro i v m₁ nx h tk own hi hv _ hoff' ⟨c, rfl, h1, h2, hp'⟩ F₁ N₁
    obtain ⟨y, t, hy, rfl⟩ := hv
    have hy : l[i]? = some y := by simpa using hy
    have hs : l.take (i + 1) = l.take i ++ [y] := by simp [List.take_add_one, hy]
    have e : l = l.take i ++ y :: l.drop (i + 1) := by
      have ht := List.take_append_drop (i + 1) l
      rw [hs, List.append_assoc] at ht
      exact ht.symm
    rw [hs]
    exact turn c _ y _ t m₁ h tk own e hoff' hp' (kst_fr h1 h2 F₁) N₁
  · rintro m₁ nx h tk ⟨c, rfl, h1, h2, hp'⟩ F₁ N₁
    have e : l.take l.toArray.size = l := by simp
    rw [e] at hp'
    exact done c m₁ h tk hp' (kst_frOut h1 h2 F₁) N₁
theorem by_end {σ : Type} {Led : σ → List (Addr × Obj)} {ps : σ → List (Str × Value)} {stored : List Str} {m₀ : Str → Option Value} {P : List UInt8 → σ → Prop} {pre : List UInt8} (c : σ) {L : Addr} {m' : Str → Option Value} {own news' : List (Addr × Obj)} {adr : List Addr} {s₁ : Shared} {h' : Heap} {tk : Nat}
    (F : Fr h₀ L h' m') (N : News h₀ L h' news') (hn : ∀ p ∈ Led c, p ∈ news') (ho : ∀ p ∈ own, p ∈ news') (ha : (Led c).map (·.1) = adr) (hk : ∀ p ∈ ps c, m' p.1 = some p.2) (hr : ∀ z, z ≠ x → (∀ p ∈ ps c, z ≠ p.1) → stored.contains z = false → m' z = m₀ z) (hp : P pre c) :
    InvEndN h₀ L (ByS Led ps x stored m₀ P pre) own adr s₁ { s₁ with heap := h', toks := tk } :=
  InvEndN.intro F N ⟨c, rfl, hk, hr, hp⟩ ha hn ho
end
end Mine
end
section
set_option maxRecDepth 100000
open PySem PySem.W PySem.Calls PyProof.Rows
set_option Elab.async false
namespace Mine
open Builtin
/-! steps on written bytes, with their answers said -/
theorem fnd_at {pre post : List UInt8} {k : Nat} (hk : k ≤ pre.length) (hn : (10 : UInt8) ∉ pre.drop k) : fnd (pre ++ 10 :: post) [10] k = (pre.length : Int) := by
  have hd : (pre ++ 10 :: post).drop k = pre.drop k ++ 10 :: post := by rw [List.drop_append_of_le_length hk]
  have key : ∀ x : List UInt8, (10 : UInt8) ∉ x → ∀ r, splitNL (x ++ 10 :: r) = x :: splitNL r := by
    intro x
    induction x with
    | nil => intro _ r; rw [List.nil_append, splitNL]; rfl
    | cons c x ih =>
      intro h r
      have h1 : c ≠ 10 := fun e => h (by rw [e]; exact .head _)
      have hb : (c == 10) = false := by simp [h1]
      rw [List.cons_append, splitNL]
      simp only [hb, Bool.false_eq_true, if_false]
      rw [ih (fun q => h (.tail _ q)) r]
  have hs := key _ hn post
  rcases fnd_split (pre ++ 10 :: post) k (by simp; omega) with ⟨_, h2⟩ | ⟨j, h1, h2, h3, h4⟩
  · exfalso
    rw [hd, hs] at h2
    have := (List.cons.inj h2).2
    exact splitNL_ne post this
  · rw [h1]
    rw [hd, hs] at h4
    have e := congrArg List.length (List.cons.inj h4).1
    rw [List.length_take, List.length_append, List.length_drop, List.length_cons] at e
    rw [List.length_append, List.length_cons] at h3
    rw [← Nat.sub_add_comm hk, Nat.min_eq_left (Nat.sub_le_sub_right (Nat.le_of_lt h3) k)] at e
    exact congrArg Int.ofNat ((Nat.add_sub_of_le h2).symm.trans ((congrArg (k + ·) e.symm).trans (Nat.add_sub_of_le hk)))
theorem fnd_no {l : List UInt8} {c : UInt8} {k : Nat} (h : c ∉ l) : fnd l [c] k = -1 := by
  unfold fnd
  have e : Bytes.find? l.toArray ([c] : List UInt8).toArray k l.length = none := by
    unfold Bytes.find?
    rw [List.find?_eq_none]
    intro i hi hq
    apply h
    have hq' : l.toArray.extract i (i + ([c] : List UInt8).toArray.size) == ([c] : List UInt8).toArray := hq
    have hq2 := congrArg Array.toList (eq_of_beq hq')
    simp at hq2
    have hm : c ∈ (l.drop i).take 1 := by
      have e1 : (l.take (i + 1)).drop i = (l.drop i).take 1 := by rw [List.drop_take]; congr 1; omega
      first
        | (rw [← e1, hq2]; exact .head _)
        | (rw [hq2]; exact .head _)
    exact List.mem_of_mem_drop (List.mem_of_mem_take hm)
  rw [e]
theorem clip_nat' {n k : Nat} (h : k ≤ n) : clipAt n (k : Int) = k := by
  rw [clipAt_nat]; exact Nat.min_eq_left h
theorem sl_lit {pre m : List UInt8} {a b : Nat} (hb : b ≤ pre.length) (ha : a ≤ b) : sl (pre ++ m) (some (a : Int)) (some (b : Int)) = (pre.drop a).take (b - a) := by
  unfold sl
  simp only [Option.elim]
  rw [clip_nat' (by simp; omega), clip_nat' (by simp; omega), List.drop_append_of_le_length (by omega), List.take_append_of_le_length (by simp; omega)]
theorem sl_tail {pre m : List UInt8} {a : Nat} (ha : a = pre.length) : sl (pre ++ m) (some (a : Int)) none = m := by
  subst ha
  unfold sl
  simp only [Option.elim]
  rw [clip_nat' (by simp)]
  simp
theorem slTo2 {l : List UInt8} {k : Int} (h0 : 0 ≤ k) : sl l none (some k) = l.take k.toNat := by
  obtain ⟨j, rfl⟩ := Int.eq_ofNat_of_zero_le h0
  unfold sl
  simp only [Option.elim, List.drop_zero, Nat.sub_zero]
  rw [clipAt_nat]
  show l.take (min j l.length) = l.take j
  rw [← List.take_take, List.take_length]
theorem slFrom2 {l : List UInt8} {k : Int} (h0 : 0 ≤ k) : sl l (some k) none = l.drop k.toNat := by
  obtain ⟨j, rfl⟩ := Int.eq_ofNat_of_zero_le h0
  unfold sl
  simp only [Option.elim]
  rw [clipAt_nat]
  show (l.drop (min j l.length)).take (l.length - min j l.length) = l.drop j
  rcases Nat.le_total j l.length with hj | hj
  · rw [Nat.min_eq_left hj, List.take_of_length_le (by rw [List.length_drop]; exact Nat.le_refl _)]
  · rw [Nat.min_eq_right hj, Nat.sub_self, List.take_zero, List.drop_of_length_le hj]
structure SlIs (l : List UInt8) (lo hi : Option Int) (r : List UInt8) : Prop where
  out : sl l lo hi = r
structure FnIs (l c : List UInt8) (k i : Int) : Prop where
  out : fnd l c k.toNat = i
section
variable {prog : Program} {w : World} {A : Around} {E : Value → Shared → Prop} {s : Shared} {t u v : Tok} {value : PySem.Expr} {h₀ : Heap} {L : Addr} {mm : Str → Option Value} {news : List (Addr × Obj)}
theorem find3E {l c : List UInt8} {k i : Int} {Q : Value → Shared → Prop} (h0 : 0 ≤ k) (e : FnIs l c k i) (h : ∀ t' k', Q (.int i t') { s with toks := k' }) :
    wpAny (model prog w) A (call (.builtin "bytes.find") [.bytes l.toArray t, .bytes c.toArray u, .int k v]) Q E s := callFind3 h0 (e.out ▸ h)
theorem find2E {l c : List UInt8} {i : Int} {Q : Value → Shared → Prop} (e : FnIs l c 0 i) (h : ∀ t' k', Q (.int i t') { s with toks := k' }) :
    wpAny (model prog w) A (call (.builtin "bytes.find") [.bytes l.toArray t, .bytes c.toArray u]) Q E s := callFind2 (by have := e.out; rw [show ((0 : Int)).toNat = 0 from rfl] at this; rw [this]; exact h)
theorem eqD {l m : List UInt8} {Q : Value → Shared → Prop} (b : Bool) (e : (l == m) = b) (h : Q (.bool b) s) : wpAny (model prog w) A (compareOp .Eq (.bytes l.toArray t) (.bytes m.toArray u)) Q E s := eqB (e ▸ h)
theorem neD {l m : List UInt8} {Q : Value → Shared → Prop} (b : Bool) (e : (l != m) = b) (h : Q (.bool b) s) : wpAny (model prog w) A (compareOp .NotEq (.bytes l.toArray t) (.bytes m.toArray u)) Q E s := neB (e ▸ h)
variable {slice : PySem.Expr} {lo' hi' : Value} {lo hi : Option Int} {l r : List UInt8} {Q : Value → Shared → Prop}
theorem sliceE (hF : Fr h₀ L s.heap mm) (hN : News h₀ L s.heap news) (hl : IsPart lo' lo) (hu : IsPart hi' hi) (hz : l.length ≤ 16777216) (e : SlIs l lo hi r)
    (h : ∀ h' t' k, Fr h₀ L h' mm → News h₀ L h' news → Q (.bytes r.toArray t') { s with heap := h', toks := k })
    (hs : subscripted slice false (.bytes l.toArray t) (.ref s.heap.objs.size) = operate [.ref s.heap.objs.size, .bytes l.toArray t] (getItem (.bytes l.toArray t) (.ref s.heap.objs.size)))
    (ht : ∀ r, letTemporaryGo value (.bytes l.toArray t) r = pure ()) :
    wpAny (model prog w) A (subscriptTail value slice (.bytes l.toArray t) (.ref s.heap.objs.size)) Q E { s with heap := s.heap.push { cls := .type "slice", data := .fields #[lo', hi', .none] } } :=
  sliceB hF hN hl hu hz (e.out ▸ h) hs ht
theorem itemE {ui : Tok} {i k : Int} (hfit : l.length ≤ 1099511627776) (h0 : 0 ≤ i) (h1 : i < (l.length : Int)) (e : (((l.getD i.toNat 0).toNat : Nat) : Int) = k) (h : ∀ t' n, Q (.int k t') { s with toks := n })
    (hs : subscripted slice false (.bytes l.toArray t) (.int i ui) = operate [.bytes l.toArray t, .int i ui] (getItem (.bytes l.toArray t) (.int i ui)))
    (ht : ∀ r, letTemporaryGo value (.bytes l.toArray t) r = pure ()) : wpAny (model prog w) A (subscriptTail value slice (.bytes l.toArray t) (.int i ui)) Q E s :=
  itemB hfit h0 h1 (e ▸ h) hs ht
end
end Mine
end
section
set_option maxRecDepth 100000
open PySem PySem.W PySem.Calls PyProof.Rows PyProof.V PySem.Spec
set_option Elab.async false
namespace Mine
open Builtin
theorem striter_st {h₀ : Heap} {L : Addr} {I : Addr} {y : Str} {t : Tok} : ∀ i (h h' : Heap) (o : Obj) (nw : List (Addr × Obj)), h.IsStrIter I "str_ascii_iterator" y t i → h.get? I = some o → h'.get? I = some o → (∀ b o, h₀.get? b = some o → h'.get? b = some o) → News h₀ L h' nw → True → h'.IsStrIter I "str_ascii_iterator" y t i :=
  fun i h h' o nw st e e' _ _ _ => by
    obtain ⟨o', q, r⟩ := st
    rw [e] at q
    cases q
    exact ⟨o, e', r⟩
/-- the source of a comprehension is a text of ascii signs -/
noncomputable def CompSrcSU (prog : Program) (w : World) (A : Around) (h₀ : Heap) (L : Addr) (m : Str → Option Value) (env : Env) (elt : Expr) (x : Str) (scope : Scope) (cl : List (Str × Addr)) (Fi : Shared → List Value → List (Addr × Obj) → Prop) (xv : Value) (s₁ : Shared) : Prop :=
  ∃ y t news, xv = .str y t ∧ y.cps.all (· < 128) = true ∧ A.handled = none ∧ Fr h₀ L s₁.heap m ∧ News h₀ L s₁.heap news ∧ y.cps.size ≤ sizeLine ∧
    ∀ g : Heap, LCg.CompRest prog w A h₀ L m env elt x scope cl { s₁ with heap := g } (fun _ => True) (SignAt y) (Fi { s₁ with heap := g }) y.cps.size 0 [] news
theorem CompSrcSU.intro {prog : Program} {w : World} {A : Around} {h₀ : Heap} {L : Addr} {m : Str → Option Value} {env : Env} {elt : Expr} {x : Str} {scope : Scope} {cl : List (Str × Addr)} {Fi : Shared → List Value → List (Addr × Obj) → Prop} {y : Str} {t : Tok} {news : List (Addr × Obj)} {s₁ : Shared}
    (hh : A.handled = none) (ha : y.cps.all (· < 128) = true) (F : Fr h₀ L s₁.heap m) (N : News h₀ L s₁.heap news) (hl : y.cps.size ≤ 1000000)
    (h : ∀ g : Heap, LCg.CompRest prog w A h₀ L m env elt x scope cl { s₁ with heap := g } (fun _ => True) (SignAt y) (Fi { s₁ with heap := g }) y.cps.size 0 [] news) :
    CompSrcSU prog w A h₀ L m env elt x scope cl Fi (.str y t) s₁ := ⟨_, _, news, rfl, ha, hh, F, N, by rw [sizeLine_eq]; omega, h⟩
section
variable {prog : Program} {w : World} {A : Around} {E : Value → Shared → Prop} {s : Shared} {h₀ : Heap} {L : Addr} {m : Str → Option Value} {env : Env}
theorem Assign_ListComp_S {elt iter : Expr} {x y : Str} {px py : Pos} {scope : Scope} {cl : List (Str × Addr)} {pos spos : Pos} {Q : Flow → Shared → Prop} (F₀ : Fr h₀ L s.heap m) (hLe : env.locals = L)
    (hsw : swapsWith (.ListComp elt [⟨.Name x px, iter, [], 0⟩] scope pos) (some (.Name y py)) spos.line env = pure true)
    (hclos : closureFor scope env = pure cl) (hcell : ∀ z ∈ scope.names, z.2 ≠ .cell) (hkind : scope.kind = .function)
    (hnames : ∀ z ∈ scope.names, z.2 = .local → scope.names.lookup z.1 = some .local) (hx : scope.names.lookup x = some .local)
    (hy : env.kindOf y = some .local) (hp : (env.scope.kind == .class || (env.scope.kind == .module && env.locals != env.globals)) = false)
    (h : wpAny (model prog w) A (eval iter env) (CompSrcSU prog w A h₀ L m env elt x scope cl (fun s₂ => LCg.FinA h₀ L m s₂ y Q)) E s)
    (hs : ∀ x, foldedSetIterable iter env x = pure x) :
    wpAny (model prog w) A (exec (.Assign [.Name y py] (.ListComp elt [⟨.Name x px, iter, [], 0⟩] scope pos) spos) env) Q E s := by
  subst hLe
  rw [exec_Assign_Name_used _ _ _ _ hsw]
  refine wpAny_bind (wpAny_standAt (wpAny_bind ?_))
  show wpAny _ A (do let _ ← comprehension (.ListComp elt [⟨.Name x px, iter, [], 0⟩] scope pos) scope env _ (newList []) false (eval iter env) (some (assign (.Name y py) env))) _ _ s
  refine wpAny_bind (wpAny_mono (wpAny_comprehension_free (use := some (assign (.Name y py) env)) (Q := fun _ s' => Q .next s') rfl hs hclos hkind hnames
    (wpAny_mono h (fun xv s₁ h₁ => ?_) fun _ _ e => e)) (fun _ s' hq => wpAny_pure (wpAny_pure hq)) fun _ _ e => e)
  obtain ⟨z, t, news, rfl, ha, hh, F, N, hsz, R⟩ := h₁
  refine wpAny_pyIter_ascii ha ?_
  refine LCg.block_U (Walks.strAscii hh s₁.heap.objs.size z t) hsz (fun i h st => by obtain ⟨o, e, _⟩ := st; exact ⟨o, e⟩) striter_st hcell hkind hx ⟨_, Heap.get?_push_size _ rfl, rfl, rfl⟩ (fun b hb => ?_)
    (F.push _) (N.grown fun _ _ e => Heap.get?_push_of_some _ e) (Nat.ne_of_lt F.ns.lt) (next_is_new F) (fun p hp => Nat.ne_of_lt (Heap.lt_size (N p hp).1)) trivial (R _) ?_
  · rw [List.mem_singleton.mp hb]
    show s₁.heap.objs.size < (s₁.heap.push _).objs.size
    rw [Heap.size_push]; exact Nat.lt_succ_self _
  · intro D C h' tk m' ys news' F' N' o1 hn hC₀ hD₀ hCL hDL hCD offC fin
    show wpAny _ A (assign (.Name y py) env (.ref D)) _ _ _
    refine wpAny_assign_Name (wpAny_storeName_local hy F'.ns (fun h₂ hn₂ hs₂ => ?_) hp)
    have hL₀ : h₀.get? env.locals = none := Heap.get?_none_of_le F'.above
    have F₂ : Fr h₀ env.locals h₂ (fun z => if z = y then some (.ref D) else m z) := ⟨hn₂, fun b o e => hs₂.extBut b o (fun q => by rw [q, hL₀] at e; cases e) (F'.keep b o e), F'.above⟩
    refine ⟨m', hn.sameBut hs₂ hCL, fun h'' hs'' => fin D h'' _ (F₂.change hs'' hCL hC₀) (fun p hp => ?_) o1⟩
    have z : h₂.get? p.1 = some p.2 := hs₂.extBut _ _ (N' p hp).2.1 (N' p hp).1
    refine ⟨hs''.extBut _ _ ?_ z, (N' p hp).2⟩
    rcases List.mem_cons.mp hp with rfl | hp
    · exact Ne.symm hCD
    · exact offC p hp
variable {elt : Expr} {x : Str} {scope : Scope} {cl : List (Str × Addr)} {S : List (Addr × Obj) → Prop} {Fin : List Value → List (Addr × Obj) → Prop}
/-- the turns of a comprehension over a written text -/
noncomputable def SRest (prog : Program) (w : World) (A : Around) (h₀ : Heap) (L : Addr) (m : Str → Option Value) (env : Env) (elt : Expr) (x : Str) (scope : Scope) (cl : List (Str × Addr)) (s : Shared) (S : List (Addr × Obj) → Prop) (Fin : List Value → List (Addr × Obj) → Prop) : List Nat → List Value → List (Addr × Obj) → Prop
  | [], ys, news => Fin ys news
  | k :: r, ys, news => ∀ t I oI C oC D m₂ h tk (E' : Value → Shared → Prop), LCg.NsObj oC m₂ → m₂ x = some (.str ⟨#[k]⟩ t) → Fr h₀ L h m → News h₀ L h ((I, oI) :: (C, oC) :: (D, LCg.lst ys) :: news) → LCg.Off3 I C D news → ((@Ne Nat I C) ∧ (@Ne Nat I D) ∧ (@Ne Nat C D)) →
      wpAny (model prog w) A (eval elt (compEnvC scope cl C env)) (LCg.CompEnd h₀ L m { s with heap := h, toks := tk } I oI C oC D (LCg.lst ys) S (fun y news' => SRest prog w A h₀ L m env elt x scope cl s S Fin r (ys ++ [y]) news')) E' { s with heap := h, toks := tk }
theorem SRest.zero {ys : List Value} {news : List (Addr × Obj)} (h : Fin ys news) : SRest prog w A h₀ L m env elt x scope cl s S Fin [] ys news := h
theorem SRest.succ {k : Nat} {r : List Nat} {ys : List Value} {news : List (Addr × Obj)}
    (h : ∀ t I oI C oC D m₂ h tk (E' : Value → Shared → Prop), LCg.NsObj oC m₂ → m₂ x = some (.str ⟨#[k]⟩ t) → Fr h₀ L h m → News h₀ L h ((I, oI) :: (C, oC) :: (D, LCg.lst ys) :: news) → LCg.Off3 I C D news → ((@Ne Nat I C) ∧ (@Ne Nat I D) ∧ (@Ne Nat C D)) →
      wpAny (model prog w) A (eval elt (compEnvC scope cl C env)) (LCg.CompEnd h₀ L m { s with heap := h, toks := tk } I oI C oC D (LCg.lst ys) S (fun y news' => SRest prog w A h₀ L m env elt x scope cl s S Fin r (ys ++ [y]) news')) E' { s with heap := h, toks := tk }) :
    SRest prog w A h₀ L m env elt x scope cl s S Fin (k :: r) ys news := h
theorem srest {y : Str} {ks : List Nat} {news : List (Addr × Obj)} (hx : y.cps.toList = ks) (h : SRest prog w A h₀ L m env elt x scope cl s S Fin ks [] news) :
    LCg.CompRest prog w A h₀ L m env elt x scope cl s S (SignAt y) Fin y.cps.size 0 [] news := by
  subst hx
  have key : ∀ (j i : Nat) (ys : List Value) (news : List (Addr × Obj)), i + j = y.cps.toList.length → SRest prog w A h₀ L m env elt x scope cl s S Fin (y.cps.toList.drop i) ys news → LCg.CompRest prog w A h₀ L m env elt x scope cl s S (SignAt y) Fin j i ys news := by
    intro j
    induction j with
    | zero =>
      intro i ys news hi' hy
      have e : i = y.cps.toList.length := by omega
      subst e
      rw [List.drop_length] at hy
      exact LCg.CompRest.zero hy
    | succ j ih =>
      intro i ys news hi' hy
      refine LCg.CompRest.succ ?_
      intro v I oI C oC D m₂ h tk E' hv hC hx F N off ne
      obtain ⟨c, t, hl, rfl⟩ := hv
      have hi : i < y.cps.toList.length := by omega
      have hl : y.cps.toList[i]? = some c := by rw [Array.getElem?_toList]; exact hl
      rw [List.drop_eq_getElem_cons hi] at hy
      have hc : y.cps.toList[i] = c := by rw [List.getElem?_eq_getElem hi] at hl; exact Option.some.inj hl
      rw [hc] at hy
      refine wpAny_mono (hy t I oI C oC D m₂ h tk E' hC hx F N off ne) (fun y s₃ hq => ?_) fun _ _ e => e
      obtain ⟨h', tk', nw, e, F', N', off', hS, hr⟩ := hq
      exact ⟨h', tk', nw, e, F', N', off', hS, ih (i + 1) _ _ (by omega) hr⟩
  have e : y.cps.size = y.cps.toList.length := by simp
  rw [e]
  exact key y.cps.toList.length 0 [] news (by omega) (by simpa using h)
end
section
variable {prog : Program} {w : World} {A : Around} {E : Value → Shared → Prop} {s : Shared} {t u : Tok}
theorem strItemX {value slice : PySem.Expr} {x y : PySem.Str} {n : Nat} {i j : Int} {Q : Value → Shared → Prop} (hk : x.length = n) (hi : i = j) (h0 : 0 ≤ j) (h1 : j < (n : Int)) (hn : n ≤ 16777216) (e : Txt.item x j = y) (h : ∀ t' k, Q (.str y t') { s with toks := k })
    (hs : subscripted slice false (.str x t) (.int i u) = operate [.str x t, .int i u] (getItem (.str x t) (.int i u)))
    (ht : ∀ r, letTemporaryGo value (.str x t) r = pure ()) :
    wpAny (model prog w) A (subscriptTail value slice (.str x t) (.int i u)) Q E s := by
  subst hi
  exact PySem.W.KXi.item hk (by omega) h1 hn (fun _ => e ▸ h _ _) hs ht
end
theorem hexs_len : (Str.ofString "0123456789abcdef").length = 16 := by decide +kernel
theorem hexs10 : Txt.item (Str.ofString "0123456789abcdef") 10 = Str.ofString "a" := by decide +kernel
theorem hexs11 : Txt.item (Str.ofString "0123456789abcdef") 11 = Str.ofString "b" := by decide +kernel
theorem hexs12 : Txt.item (Str.ofString "0123456789abcdef") 12 = Str.ofString "c" := by decide +kernel
theorem hexs13 : Txt.item (Str.ofString "0123456789abcdef") 13 = Str.ofString "d" := by decide +kernel
end Mine
end
section
set_option maxRecDepth 100000
open PySem PySem.W PySem.Calls PyProof.Rows PyProof.V PySem.Spec
set_option Elab.async false
namespace Mine
open Builtin
noncomputable def IEl (news : List (Addr × Obj)) (k : Int) (y : Value) (news' : List (Addr × Obj)) : Prop := news' = news ∧ ∃ t : Tok, y = .int k t
theorem ints_snoc {vs : List Value} {ns : List Int} (h : IntsAre vs ns) (k : Int) (t : Tok) : IntsAre (vs ++ [.int k t]) (ns ++ [k]) := by
  induction h with
  | nil => exact .cons _ _ .nil
  | cons _ _ _ ih => exact .cons _ _ ih
section
variable {prog : Program} {w : World} {A : Around} {h₀ : Heap} {L : Addr} {m : Str → Option Value} {env : Env} {elt : Expr} {x : Str} {scope : Scope} {cl : List (Str × Addr)} {s : Shared} {S : List (Addr × Obj) → Prop} {Fin : List Value → List (Addr × Obj) → Prop} {news : List (Addr × Obj)}
/-- a comprehension over a list of ints that hands each on -/
theorem int_rest {vs : List Value} {ns : List Int} (hi : IntsAre vs ns)
    (turn : ∀ (k : Int) (t : Tok) I oI C oC D m₂ ys h tk (E' : Value → Shared → Prop), k ∈ ns → LCg.NsObj oC m₂ → m₂ x = some (.int k t) → Fr h₀ L h m → News h₀ L h ((I, oI) :: (C, oC) :: (D, LCg.lst ys) :: news) → LCg.Off3 I C D news → ((@Ne Nat I C) ∧ (@Ne Nat I D) ∧ (@Ne Nat C D)) →
      wpAny (model prog w) A (eval elt (compEnvC scope cl C env)) (LCg.CompEnd h₀ L m { s with heap := h, toks := tk } I oI C oC D (LCg.lst ys) S (fun y news' => IEl news k y news')) E' { s with heap := h, toks := tk })
    (fin : ∀ ys, IntsAre ys ns → Fin ys news) : LCg.CompRest prog w A h₀ L m env elt x scope cl s S (fun i v => vs.toArray[i]? = some v) Fin vs.toArray.size 0 [] news := by
  have key : ∀ (j i : Nat) (ys : List Value), i + j = vs.length → IntsAre ys (ns.take i) → LCg.CompRest prog w A h₀ L m env elt x scope cl s S (fun i v => vs.toArray[i]? = some v) Fin j i ys news := by
    intro j
    induction j with
    | zero =>
      intro i ys hi' hy
      have e : i = ns.length := by have := hi.length; omega
      subst e
      rw [List.take_length] at hy
      exact LCg.CompRest.zero (fin ys hy)
    | succ j ih =>
      intro i ys hi' hy
      refine LCg.CompRest.succ ?_
      intro v I oI C oC D m₂ h tk E' hv hC hx F N off ne
      have hlt : i < ns.length := by have := hi.length; omega
      obtain ⟨t, ht⟩ := hi.get i ns[i] (by simp [hlt])
      have hv' : vs[i]? = some v := by simpa using hv
      rw [ht] at hv'
      obtain rfl := Option.some.inj hv'
      refine wpAny_mono (turn ns[i] t I oI C oC D m₂ ys h tk E' (List.getElem_mem hlt) hC hx F N off ne) (fun y s₂ hq => ?_) fun _ _ e => e
      obtain ⟨h', tk', nw, e, F', N', off', hS, hn, t', rfl⟩ := hq
      subst hn
      refine ⟨h', tk', nw, e, F', N', off', hS, ?_⟩
      refine ih (i + 1) _ (by omega) ?_
      rw [List.take_add_one, List.getElem?_eq_getElem hlt]
      exact ints_snoc hy ns[i] t'
  have e : vs.toArray.size = vs.length := by simp
  rw [e]
  exact key vs.length 0 [] (by omega) (by simp only [List.take_zero]; exact .nil)
end
section
variable {prog : Program} {w : World} {A : Around} {E : Value → Shared → Prop} {s : Shared} {env : Env} {h₀ : Heap} {x : Str} {body : List Stmt} {Q : Flow → Shared → Prop}
/-- a for over a list of ints of the ledger that stays -/
theorem kst_listC {σ : Type} {l : Addr} {vs : List Value} {ns : List Int} {nn : Nat} {m₀ : Str → Option Value} {L0 : List (Addr × Obj)} (ps : σ → List (Str × Value)) (stored : List Str) (P : List Int → σ → Prop) (c₀ : σ)
    (hh : A.handled = none) (hl : (l, listOf vs.toArray nn) ∈ L0) (hi : IntsAre vs ns) (F : Fr h₀ env.locals s.heap m₀) (N : News h₀ env.locals s.heap L0) (hk : ∀ p ∈ ps c₀, m₀ p.1 = some p.2) (hp : P [] c₀)
    (turn : ∀ (c : σ) pre post n t (u : Str → Option Value) h tk own, ns = pre ++ n :: post → n ∈ ns → OwnOff own (L0.map (·.1)) → P pre c →
      Fr h₀ env.locals h (fun y => if y = x then some (.int n t) else kstB (fun z => if stored.contains z then u z else m₀ z) (ps c) y) → News h₀ env.locals h (L0 ++ own) →
      wpAny (model prog w) A (execs body env) (InvPostN h₀ env.locals (KstS (fun _ => L0) ps (fun _ => True) x stored m₀ P (pre ++ [n])) own (L0.map (·.1)) { s with heap := h, toks := tk } Q) E { s with heap := h, toks := tk })
    (done : ∀ (c : σ) (u : Str → Option Value) h tk, P ns c → Fr h₀ env.locals h (fun y => if y = x then u y else kstB (fun z => if stored.contains z then u z else m₀ z) (ps c) y) → News h₀ env.locals h L0 → Q .next { s with heap := h, toks := tk }) :
    wpAny (model prog w) A (pyIter (.ref l)) (fun it s₂ => LoopAtV prog w A h₀ env x body Q E it s₂) E s :=
  kst_listL (fun _ => L0) ps (fun _ => True) stored P c₀ hh (fun _ => hl) hi F N trivial hk hp (fun c pre post n t u h tk own e hm ho _ hp F N => turn c pre post n t u h tk own e hm ho hp F N) fun c u h tk _ hp F N => done c u h tk hp F N
end
end Mine
end
section
set_option maxRecDepth 100000
open PySem PySem.W PySem.Calls PyProof.Rows
set_option Elab.async false
namespace Mine
/-! a logic for stacks on which nothing holds a bytearray's payload -/
noncomputable def holderIds : List String := Builtin.Bytes.decodersThatHold ++ ["bytearray.__contains__", "bytearray.__mod__", "bytearray.__rmod__", "_struct.pack_into.held", "bytearray.find.held"]
noncomputable def holder : Code → Bool
  | .builtin id _ => holderIds.contains id
  | _ => false
noncomputable def Cln (l : List (Code × Pos)) : Prop := ∀ x ∈ l, holder x.1 = false
theorem Cln.nil : Cln [] := fun _ h => nomatch h
theorem Cln.cons {c : Code} {p : Pos} {l : List (Code × Pos)} (h : holder c = false) (k : Cln l) : Cln ((c, p) :: l) := fun x hx => by
  cases hx with
  | head => exact h
  | tail _ hx => exact k x hx

noncomputable def wpS {α : Type} (M : Model) (A : Around) (t : Sem α) (Q : α → Shared → Prop) (s : Shared) : Prop :=
  ∀ Γ p, Γ.In A → holder Γ.code = false → Cln Γ.below → Sem.wp M Γ t (fun a _ s' => Q a s') (fun _ _ _ => False) p s
noncomputable def codeS (M : Model) (A : Around) (c : Code) (R : Result → Shared → Prop) (s : Shared) : Prop :=
  ∀ Γ p, Γ.code = c → Γ.Below A → Cln Γ.below → wpCode M Γ R p s
noncomputable abbrev NoE : Value → Shared → Prop := fun _ _ => False

section
variable {α β : Type} {M : Model} {A : Around} {s : Shared} {env : Env}
theorem wpS.any {t : Sem α} {Q : α → Shared → Prop} (h : wpAny M A t Q NoE s) : wpS M A t Q s := fun Γ p hΓ _ _ => h Γ p hΓ
theorem codeS.any {c : Code} {R : Result → Shared → Prop} (h : codeAny M A c R s) : codeS M A c R s := fun Γ p hc hΓ _ => h Γ p hc hΓ
theorem wpS.mono {t : Sem α} {Q Q' : α → Shared → Prop} (h : wpS M A t Q s) (hQ : ∀ a s, Q a s → Q' a s) : wpS M A t Q' s :=
  fun Γ p hΓ h1 h2 => Sem.wp_mono M Γ t (fun a _ s => hQ a s) (fun _ _ _ x => x) p s (h Γ p hΓ h1 h2)
theorem wpS.pure {a : α} {Q : α → Shared → Prop} (h : Q a s) : wpS M A (Pure.pure a) Q s := fun _ _ _ _ _ => h
theorem wpS.bind {m : Sem α} {f : α → Sem β} {Q : β → Shared → Prop} (h : wpS M A m (fun a s' => wpS M A (f a) Q s') s) : wpS M A (m >>= f) Q s := fun Γ p hΓ h1 h2 => by
  rw [Sem.wp_bind']
  exact Sem.wp_mono M Γ m (fun a p' s' h' => h' Γ p' hΓ h1 h2) (fun _ _ _ x => x) p s (h Γ p hΓ h1 h2)
theorem wpS.bindA {m : Sem α} {f : α → Sem β} {Q : β → Shared → Prop} (h : wpAny M A m (fun a s' => wpS M A (f a) Q s') NoE s) : wpS M A (m >>= f) Q s := .bind (.any h)
theorem wpS.standAt {pos : Pos} {Q : Unit → Shared → Prop} (h : Q () s) : wpS M A (PySem.standAt pos) Q s := fun _ _ _ _ _ => h
theorem wpS.onRaise {m : Sem α} {k : Value → Sem Unit} {Q : α → Shared → Prop} (h : wpS M A m Q s) : wpS M A (m.onRaise k) Q s := fun Γ p hΓ h1 h2 => by
  rw [Sem.wp_onRaise]
  exact Sem.wp_mono M Γ m (fun _ _ _ x => x) (fun _ _ _ x => x.elim) p s (h Γ p hΓ h1 h2)
theorem wpS.holding {vs : List Value} {m : Sem α} {Q : α → Shared → Prop} (h : wpS M A m Q s) : wpS M A (PySem.holding vs m) Q s := fun Γ p hΓ h1 h2 => by
  rw [Sem.wp_holding]; exact h Γ p hΓ h1 h2
theorem wpS.keep {vs : List Value} {m : Sem α} {Q : α → Shared → Prop} (h : wpS M A m Q s) : wpS M A (m.keep vs) Q s := fun Γ p hΓ h1 h2 => by
  rw [Sem.wp_keep]; exact h Γ p hΓ h1 h2
theorem wpS.units_le {t : Sem α} {Q : α → Shared → Prop} {u : Nat} (h : wpS M A t Q s) (hu : u ≤ A.units) : wpS M { A with units := u } t Q s :=
  fun Γ p hΓ => h Γ p (hΓ.units_le hu)

theorem wpS.runValue {c : Code} {Q : Value → Shared → Prop} (hc : codeS M A c (fun r s' => match r with | .ok (.ret v) => Q v s' | _ => False) s) : wpS M A (PySem.runValue c) Q s := fun Γ p hΓ h1 h2 => by
  rw [Sem.wp_runValue]
  refine wpCode_mono (fun r s' h => ?_) (hc _ p rfl (hΓ.enter c none p (by intro x; cases x)) (Cln.cons h1 h2))
  cases r with
  | error e => exact h
  | ok f => cases f <;> exact h
theorem wpS.call {f : Value} {pos : List Value} {kw : List (PySem.Str × Value)} {Q : Value → Shared → Prop} (hc : codeS M A (.call f ⟨pos, kw⟩) (fun r s' => match r with | .ok (.ret v) => Q v s' | _ => False) s) : wpS M A (PySem.call f pos kw) Q s :=
  .runValue hc
theorem wpS.run {c : Code} {Q : Flow → Shared → Prop} (hc : codeS M A c (fun r s' => match r with | .ok f => Q f s' | .error _ => False) s) : wpS M A (PySem.run c none) Q s := fun Γ p hΓ h1 h2 => by
  rw [Sem.wp_run]
  refine wpCode_mono (fun r s' h => ?_) (hc _ p rfl (hΓ.enter c none p (by intro x; cases x)) (Cln.cons h1 h2))
  cases r <;> exact h
theorem codeS.tree {c : Code} {R : Result → Shared → Prop} (hh : holder c = false) (h : wpS M (A.under c) (M.den c) (fun fin s' => match fin with | .done f => R (.ok f) s' | .again c' => c'.quiet = true ∧ codeS M A c' R s') s) : codeS M A c R s := fun Γ p hc hΓ h2 => by
  rw [wpCode_iff_wp, hc]
  refine Sem.wp_mono M Γ _ (fun fin p' s' h' => ?_) (fun _ _ _ x => x.elim) p s (h Γ p (hc ▸ hΓ.in) (hc ▸ hh) h2)
  cases fin with
  | done f => exact h'
  | again c' => exact ⟨h'.1, h'.2 (Γ.goto c') p' rfl (hΓ.goto c') h2⟩
theorem codeS.mono {c : Code} {R R' : Result → Shared → Prop} (h : codeS M A c R s) (hR : ∀ r s, R r s → R' r s) : codeS M A c R' s :=
  fun Γ p hc hΓ h2 => wpCode_mono hR (h Γ p hc hΓ h2)
theorem codeS.loop {c : Code} {R : Result → Shared → Prop} (hh : holder c = false) (hq : c.quiet = true) (I : Nat → Shared → Prop)
    (turn : ∀ n s, I n s → wpS M (A.under c) (M.den c) (fun fin s' => match fin with
      | .done f => R (.ok f) s'
      | .again c' => (c' = c ∧ ∃ m, m < n ∧ I m s') ∨ (c'.quiet = true ∧ codeS M A c' R s')) s)
    (n : Nat) (h : I n s) : codeS M A c R s := by
  induction n using Nat.strongRecOn generalizing s with
  | ind n ih =>
    refine codeS.tree hh (wpS.mono (turn n s h) fun fin s' hf => ?_)
    cases fin with
    | done f => exact hf
    | again c' =>
      rcases hf with ⟨rfl, m, hm, hI⟩ | hf
      · exact ⟨hq, ih m hm hI⟩
      · exact hf

theorem wpS.execs_nil {Q : Flow → Shared → Prop} (h : Q .next s) : wpS M A (execs [] env) Q s := fun _ _ _ _ _ => h
theorem wpS.execs_cons {st : Stmt} {rest : List Stmt} {Q : Flow → Shared → Prop} (h : wpS M A (exec st env) (fun f s' => match f with | .next => wpS M A (execs rest env) Q s' | f => Q f s') s) : wpS M A (execs (st :: rest) env) Q s := by
  rw [PySem.execs_cons]
  refine .bind (.mono h fun f s' h' => ?_)
  cases f <;> first | exact h' | exact .pure h'
theorem wpS.execs_consA {st : Stmt} {rest : List Stmt} {Q : Flow → Shared → Prop} (h : wpAny M A (exec st env) (fun f s' => match f with | .next => wpS M A (execs rest env) Q s' | f => Q f s') NoE s) : wpS M A (execs (st :: rest) env) Q s := .execs_cons (.any h)

theorem wpS.Assign_Name {x : PySem.Str} {pos' : Pos} {value : Expr} {pos : Pos} {Q : Flow → Shared → Prop} (h : wpS M A (eval value env) (fun v s₁ => wpAny M A (storeName env x v) (fun _ => Q .next) NoE s₁) s)
    (hs : swapsWith value (some (.Name x pos')) pos.line env = Pure.pure false) : wpS M A (exec (.Assign [.Name x pos'] value pos) env) Q s := by
  rw [exec_Assign_Name env x pos' value pos hs]
  refine .bind (.standAt (.bind (.mono h fun v s₁ h₁ => .bind (.standAt (.bind (.any ?_))))))
  exact wpAny_bindName (wpAny_mono h₁ (fun _ _ q => .pure q) fun _ _ x => x)
theorem wpS.If {test : Expr} {body orelse : List Stmt} {pos : Pos} {Q : Flow → Shared → Prop} (h : wpS M A (isTrue test env (eval test env)) (fun b s₂ => if b then wpS M A (execs body env) Q s₂ else wpS M A (execs orelse env) Q s₂) s) :
    wpS M A (exec (.If test body orelse pos) env) Q s := by
  rw [exec_If]
  refine .bind (.standAt (.bind (.mono h fun b s₂ h₂ => ?_)))
  cases b <;> exact h₂
theorem wpS.isTrue_not {x : Expr} {pos : Pos} {whole : Sem Value} {Q : Bool → Shared → Prop} (h : wpS M A (isTrue x env (eval x env)) (fun b s₁ => Q (!b) s₁) s) : wpS M A (isTrue (.UnaryOp .Not x pos) env whole) Q s := by
  show wpS M A (isTrue x env (eval x env) >>= fun b => Pure.pure (!b)) Q s
  exact .bind (.mono h fun b s' q => .pure q)
theorem wpS.isTrue_or {x y : Expr} {pos : Pos} {whole : Sem Value} {Q : Bool → Shared → Prop} (h : wpS M A (isTrue x env (eval x env)) (fun b s₁ => if b then Q true s₁ else wpS M A (isTrue y env (eval y env)) Q s₁) s) :
    wpS M A (isTrue (.BoolOp .Or [x, y] pos) env whole) Q s := by
  have e : isTrue (.BoolOp .Or [x, y] pos) env whole = (isTrue x env (eval x env) >>= fun b => match b with
      | true => Pure.pure true
      | false => (isTrue y env (eval y env) >>= fun b => match b with | true => Pure.pure true | false => Pure.pure false)) := by
    show (isTrue x env (eval x env) >>= _) = _
    congr 1; funext b; cases b
    · show (isTrue y env (eval y env) >>= _) = _
      congr 1; funext b; cases b <;> rfl
    · rfl
  rw [e]
  refine .bind (.mono h fun b s₁ h₁ => ?_)
  cases b
  · refine .bind (.mono h₁ fun b s₂ h₂ => ?_)
    cases b <;> exact .pure h₂
  · exact .pure h₁
theorem wpS.isTrue_call {f : Expr} {args : List Expr} {kws : List Keyword} {pos : Pos} {whole : Sem Value} {Q : Bool → Shared → Prop} (h : wpS M A whole (fun v s₁ => ∃ b, v = .bool b ∧ Q b s₁) s) : wpS M A (isTrue (.Call f args kws pos) env whole) Q s := by
  show wpS M A (whole >>= fun v => PySem.standAt pos >>= fun _ => PySem.holding [v] (truthy v)) Q s
  refine .bind (.mono h fun v s₁ h₁ => .bind (.standAt (.holding ?_)))
  obtain ⟨b, rfl, q⟩ := h₁
  exact .any (wpAny_truthy_bool q)
theorem wpS.Return {e : Expr} {pos : Pos} {Q : Flow → Shared → Prop} (h : wpS M A (eval e env) (fun v => Q (.ret v)) s) : wpS M A (exec (.Return (some e) pos) env) Q s := by
  rw [exec_Return_some]
  exact .bind (.standAt (.bind (.mono h fun v s' q => .pure q)))
theorem wpS.Expr {e : Expr} {pos : Pos} {Q : Flow → Shared → Prop} (h : wpS M A (eval e env) (fun v s' => v = .none ∧ Q .next s') s)
    (hi : interactive env = false) (hs : swapsWith e none pos.line env = Pure.pure false) : wpS M A (exec (.Expr e pos) env) Q s := by
  rw [exec_Expr env e pos hi hs]
  refine .bind (.standAt (.bind (.mono h fun v s' q => ?_)))
  obtain ⟨rfl, q⟩ := q
  rw [dropValue_plain (fun a => by intro e; cases e)]
  exact .pure q
theorem wpS.For {target iter : PySem.Expr} {body : List Stmt} {pos : Pos} {Q : Flow → Shared → Prop}
    (h : wpAny M A (eval iter env) (fun x s₁ => wpAny M A (pyIter x) (fun it s₂ => codeS M A (.forLoop target it body [] env) (fun r s' => match r with | .ok f => Q f s' | .error _ => False) s₂) NoE s₁) NoE s)
    (hs : ∀ x, foldedSetIterable iter env x = Pure.pure x) : wpS M A (exec (.For target iter body [] pos) env) Q s := by
  rw [exec_For]
  refine .bind (.standAt (.bind (.any (wpAny_mono h (fun x s₁ h₁ => ?_) fun _ _ x => x))))
  rw [hs x]
  refine .bind (.pure (.bind (.standAt (.bind (.holding (.any (wpAny_mono h₁ (fun it s₂ h₂ => ?_) fun _ _ x => x)))))))
  unfold runOwn
  exact .onRaise (.run h₂)
/-- a def is called -/
theorem wpS.callName {f : PySem.Expr} {args : List PySem.Expr} {pos : Pos} {Q : Value → Shared → Prop}
    (h : wpAny M A (eval f env) (fun fv s₁ => ∃ a o fd, fv = .ref a ∧ wpAny M A (evalArgs (.ref a) true (backTo pos (starEach args env)) []) (fun x s₂ => (s₂.heap.get? a = some o ∧ o.data = .func fd) ∧ wpS M A (PySem.call (.ref a) x.pos x.kw) Q s₂) NoE s₁) NoE s)
    (hp : (backTo pos (starEach args env)).any (·.1) = false) (hl : (backTo pos (starEach args env)).length ≤ 30)
    (he : eval (.Call f args [] pos) env = (do callWith pos (← eval f env) [] (backTo pos (starEach args env)) (backToKw pos (keywordEach [] env)))) :
    wpS M A (eval (.Call f args [] pos) env) Q s := by
  rw [he]
  refine .bind (.any (wpAny_mono h (fun fv s₁ h₁ => ?_) fun _ _ x => x))
  obtain ⟨a, o, fd, rfl, h₁⟩ := h₁
  show wpS M A (callWith pos (.ref a) [] (backTo pos (starEach args env)) []) Q s₁
  unfold callWith
  refine .bind (.holding (.any (wpAny_mono h₁ (fun x s₂ h₂ => .bind (.standAt ?_)) fun _ _ x => x)))
  obtain ⟨⟨h3, h4⟩, h5⟩ := h₂
  have tail : ∀ {t : Sem Value}, wpS M A t Q s₂ → wpS M A (t >>= fun r => PySem.holding [r] point >>= fun _ => Pure.pure r) Q s₂ :=
    fun ht => .bind (.mono ht fun r s₃ hr => .bind (.holding (.any (wpAny_point (wpS.pure hr)))))
  simp only [hp, List.any_nil, Bool.or_false]
  refine wpS.bind (m := keeperOf (.ref a)) (.any ?_)
  unfold keeperOf
  refine wpAny_bind (wpAny_load h3 ?_)
  rw [h4]
  refine wpAny_pure ?_
  have : ¬ (backTo pos (starEach args env)).length + 2 * 0 > 30 := by omega
  simp only [List.length_nil, if_neg this]
  exact tail (by unfold callMarked; exact wpS.keep h5)
/-- a method of a builtin type is called -/
theorem wpS.callMeth {o : PySem.Expr} {name : PySem.Str} {apos pos : Pos} {args : List PySem.Expr} {pl : Sem Bool} {id : String} {Q : Value → Shared → Prop}
    (h : wpAny M A (eval o env) (fun ov s₁ => wpAny M A (getMethod ov name pl) (fun fx s₂ => fx.1 = .builtin id ∧ wpAny M A (evalArgs (.builtin id) true (backTo pos (starEach args env)) []) (fun a s₃ => wpS M A (PySem.call (.builtin id) (fx.2 ++ a.pos) a.kw) Q s₃) NoE s₂) NoE s₁) NoE s)
    (hp : (backTo pos (starEach args env)).any (·.1) = false)
    (he : eval (.Call (.Attribute o name apos) args [] pos) env = (do
      let ov ← eval o env
      PySem.standAt apos.atName
      let (f, first) ← PySem.holding [ov] (getMethod ov name pl)
      callWith pos f first (backTo pos (starEach args env)) [])) :
    wpS M A (eval (.Call (.Attribute o name apos) args [] pos) env) Q s := by
  rw [he]
  refine .bind (.any (wpAny_mono h (fun ov s₁ h₁ => .bind (.standAt (.bind (.holding (.any (wpAny_mono h₁ (fun fx s₂ h₂ => ?_) fun _ _ x => x)))))) fun _ _ x => x))
  obtain ⟨f, first⟩ := fx
  obtain ⟨rfl, h₂⟩ := h₂
  show wpS M A (callWith pos (.builtin id) first (backTo pos (starEach args env)) []) Q s₂
  unfold callWith
  refine .bind (.holding (.any (wpAny_mono h₂ (fun a s₃ h₃ => .bind (.standAt ?_)) fun _ _ x => x)))
  simp only [hp, List.any_nil, Bool.or_false]
  refine .bind (.pure ?_)
  exact .bind (.mono h₃ fun r s₄ hr => .bind (.holding (.any (wpAny_point (wpS.pure hr)))))
end

section
variable {prog : Program} {w : World} {A A₀ : Around} {s : Shared} {env : Env}
theorem codeS.forLoop {R : Result → Shared → Prop} {x : PySem.Str} {px : Pos} {it : Value} {body : List Stmt} (I : Nat → Shared → Prop)
    (turn : ∀ n s, I n s → wpAny (model prog w) A (pyNext it) (fun r s₁ => match r with
      | none => R (.ok .next) s₁
      | some v => wpAny (model prog w) A (storeName env x v) (fun _ s₂ => wpS (model prog w) A (execs body env) (fun f s₃ => f = .next ∧ ∃ m, m < n ∧ I m s₃) s₂) NoE s₁) NoE s)
    (n : Nat) (h : I n s) : codeS (model prog w) A (.forLoop (.Name x px) it body [] env) R s := by
  refine codeS.loop rfl rfl I (fun n s hI => ?_) n h
  show wpS _ A ((forTurn (.Name x px) it body [] env).onRaise (fun x => do noteFrame x env; theTreesLotGoes x)) _ s
  refine .onRaise ?_
  simp only [forTurn]
  refine .bind (.standAt (.bind (.onRaise (.mono (.any (turn n s hI)) fun r s₁ h₁ => ?_))))
  cases r with
  | none => exact .pure (.inr ⟨rfl, .any (codeAny_block (wpAny_execs_nil h₁))⟩)
  | some v =>
    refine .bind (wpS.pure (a := ()) (.bind (.any (wpAny_assign_Name (wpAny_mono h₁ (fun _ s₂ h₂ => ?_) fun _ _ x => x)))))
    refine .bind (.mono h₂ fun f s₃ h₃ => ?_)
    obtain ⟨rfl, h₃⟩ := h₃
    exact .pure (.inl ⟨rfl, h₃⟩)
theorem codeS.func {body : List Stmt} {R : Result → Shared → Prop} (h : wpS (model prog w) (A.deeper env) (execs body env) (fun f s' => R (.ok (.ret (match f with | .ret v => v | _ => .none))) s') s) :
    codeS (model prog w) A (.func body env) R s := by
  refine codeS.tree rfl ?_
  show wpS _ (A.deeper env) (do point; match ← (execs body env).onRaise (leaving env) with | .ret v => ret v | _ => ret .none) _ s
  refine .bind (.any (wpAny_point (.bind (.onRaise (.mono h fun f s' h' => ?_)))))
  cases f <;> exact .pure h'
theorem codeS.call_def {R : Result → Shared → Prop} {a : Addr} {o : Obj} {fd : FuncData} {body : List Stmt} {args : Args} {binds : List (PySem.Str × Value)}
    (hroom : A.depth < recursionLimit) (ho : s.heap.get? a = some o) (hdata : o.data = .func fd) (hlim : s.heap.NoLimit) (hcd : s.heap.CodeRec fd.code fd.qualname)
    (hbody : fd.body = .stmts body) (hbind : BindsTo s fd args binds)
    (hcell : ∀ x ∈ fd.scope.names, x.2 ≠ .cell) (hloc : ∀ x ∈ binds, fd.scope.names.lookup x.1 = some .local)
    (h : ∀ h₀, h₀.Ns s.heap.objs.size (fun x => binds.reverse.lookup x) → (∀ b o, s.heap.get? b = some o → h₀.get? b = some o) →
      wpS (model prog w) (A.deeper (callEnv fd s.heap.objs.size a)) (execs body (callEnv fd s.heap.objs.size a)) (fun f s' => R (.ok (.ret (match f with | .ret v => v | _ => .none))) s') { s with heap := h₀, toks := s.toks + binds.length })
    (hco : fd.scope.isCoroutine = false) (hgen : fd.scope.isGenerator = false) (hk : fd.scope.kind = .function) :
    codeS (model prog w) A (.call (.ref a) args) R s := by
  refine codeS.tree rfl ?_
  show wpS _ A.in1 (callAny (.ref a) args) _ s
  simp only [callAny]
  refine .bind (.any (wpAny_load ho ?_))
  obtain ⟨c, oc, vs, tq, hc, hoc, hdc, hq⟩ := hcd
  simp only [hdata, callFunction, hco, hgen, hbody, hc]
  refine .bind (m := field (.ref c) 1) (.any (wpAny_field hoc hdc hq (.bind (.pure ?_))))
  refine .bind (.any (hbind _ _ _ _ ?_))
  rw [← hc]
  refine .bind (.any (wpAny_newFunctionEnv hcell hloc (fun h₀ hns₀ hsb₀ => ?_) hk))
  refine .bind (.any (wpAny_enterFrame (hlim.fresh _ hsb₀) hroom (wpS.pure ⟨rfl, codeS.func (h h₀ hns₀ fun b o e => ?_)⟩)))
  exact hsb₀.extBut b o (Nat.ne_of_lt (Heap.lt_size e)) (Heap.get?_push_of_some _ e)
theorem codeS.callX {base h₀ : Heap} {outer : List Env} {L : Addr} {m : PySem.Str → Option Value} {news : List (Addr × Obj)} {R : Result → Shared → Prop} {name qual : PySem.Str} {params : Arguments} {body : List Stmt} {scope : Scope} {cl : List (PySem.Str × Addr)} {dV kV doc pm cdv ct : Value} {an : Option Addr} {fo : Obj} {f : Addr} {args : Args} {binds : List (PySem.Str × Value)}
    (B : Below A₀ base outer h₀) (F : Fr h₀ L s.heap m) (N : News h₀ L s.heap news) (hlim : h₀.NoLimit) (hA : A.frames = some (env :: outer)) (hf : env.frame = some L) (hke : env.scope.kind = .function)
    (ho : s.heap.get? f = some fo) (hd : fo.data = .func (fnX name qual params body scope cl dV kV doc pm an cdv ct)) (hcd : s.heap.CodeRec cdv qual) (hroom : A.depth < recursionLimit)
    (hbind : BindsTo s (fnX name qual params body scope cl dV kV doc pm an cdv ct) args binds) (hloc : ∀ y ∈ binds, scope.names.lookup y.1 = some .local)
    (h : ∀ g L' h₁, Fr h₀ L g m → Fr g L' h₁ (fun y => binds.reverse.lookup y) → News g L' h₁ news → Below A base (env :: outer) g → h₀.StaysIn g → (∀ p ∈ news, p.1 < L') →
      wpS (model prog w) (A.deeper (envX qual scope L' f cdv cl)) (execs body (envX qual scope L' f cdv cl)) (fun fl s' => LeaveK h₀ L m g R (match fl with | .ret v => v | _ => .none) s') { s with heap := h₁, toks := s.toks + binds.length })
    (hcell : ∀ x ∈ scope.names, x.2 ≠ .cell) (hco : scope.isCoroutine = false) (hgen : scope.isGenerator = false) (hk : scope.kind = .function) : codeS (model prog w) A (.call (.ref f) args) R s := by
  obtain ⟨FG, BG, st, lv⟩ := groundX (R := R) B F N hA hf hke
  refine codeS.call_def (fd := fnX name qual params body scope cl dV kV doc pm an cdv ct) (body := body) (binds := binds) hroom ho hd (hlim.keeps F.keep) hcd rfl hbind hcell hloc (fun h₁ hns hk₁ => ?_) hco hgen hk
  exact wpS.mono (h _ s.heap.objs.size h₁ FG ⟨hns, fun b o e => hk₁ b o (of_hideAll _ e), Nat.le_of_eq (hideAll_size _ _)⟩
    (fun p hp => ⟨hk₁ _ _ (N p hp).1, Nat.ne_of_lt (Heap.lt_size (N p hp).1), hideAll_none _ (List.mem_map_of_mem hp)⟩) BG st (fun p hp => Heap.lt_size (N p hp).1)) fun fl s' hl => lv _ _ hl
end

section
variable {prog : Program} {w : World} {A : Around} {s : Shared}
open Builtin
theorem not_exported {l : List (Code × Pos)} (h : Cln l) (f : Code × Pos → Bool)
    (hf : ∀ c p, holder c = false → f (c, p) = false) : l.any f = false := by
  induction l with
  | nil => rfl
  | cons x l ih =>
    obtain ⟨c, p⟩ := x
    rw [List.any_cons, hf c p (h (c, p) (.head _)), ih fun y hy => h y (.tail _ hy)]; rfl
theorem wpS.exported {self : Value} {Q : Bool → Shared → Prop} (h : Q false s) : wpS (model prog w) A (Bytes.exported self) Q s := fun Γ p _ h1 h2 => by
  unfold Bytes.exported
  show Q (List.any ((Γ.code, p) :: Γ.below) _) s
  rw [not_exported (Cln.cons h1 h2)]
  · exact h
  · intro c p hc
    cases c
    case builtin id args =>
      have ne : ∀ x, holderIds.contains x = true → ¬ id = x := fun x hx e => by rw [← e] at hx; exact absurd (hc.symm.trans hx) (by decide)
      delta Bytes.exported.match_1
      refine (dif_neg (ne "bytearray.__contains__" (by decide +kernel))).trans ?_
      refine (dif_neg (ne "bytearray.__mod__" (by decide +kernel))).trans ?_
      refine (dif_neg (ne "bytearray.__rmod__" (by decide +kernel))).trans ?_
      refine (dif_neg (ne "_struct.pack_into.held" (by decide +kernel))).trans ?_
      refine (dif_neg (ne "bytearray.find.held" (by decide +kernel))).trans ?_
      cases args with
      | mk pos kw =>
        cases pos with
        | nil => rfl
        | cons v tl =>
          refine (Bool.and_eq_false_iff.mpr (.inr ?_) : (_ && _) = false)
          have hc' : (Builtin.Bytes.decodersThatHold ++ _).contains id = false := hc
          rw [List.contains_append, Bool.or_eq_false_iff] at hc'
          exact hc'.1
    all_goals rfl
end
end Mine
end
section
set_option maxRecDepth 100000
open PySem PySem.W PySem.Calls PyProof.Rows
set_option Elab.async false
namespace Mine
open Builtin
/-! a bytearray is made, grown and read, under stacks that hold none -/
theorem ba_mro : mroOf (.type "bytearray") = pure [.type "bytearray", .type "object"] := by rw [mroOf_type]; kernel_rfl
theorem ba_lookup_new : typeLookup (.type "bytearray") "__new__" = pure (some (.builtin "bytearray.__new__")) := by rw [typeLookup_type, builtinLookup_eq_fast]; kernel_rfl
theorem ba_slot_init : Slot "bytearray" "__init__" "bytearray.__init__" :=
  .of (owner := "bytearray") (n := "__init__") (by rw [typeLookup_type, builtinLookup_eq_fast]; kernel_rfl) (by decide +kernel) (by decide +kernel) (by decide +kernel)
    (by first | exact .inl (by decide +kernel) | exact .inr (by decide +kernel)) (by rw [isSubtype_type]; kernel_rfl)
theorem ba_made : Bind.madeBy (.type "bytearray") = pure (some "bytearray.__new__") := madeBy_type ba_mro ba_lookup_new (by decide +kernel)
theorem ba_sub : isSubtype (.type "bytearray") (.type "bytearray") = pure true := by rw [isSubtype_type]; kernel_rfl
theorem ba_slot_append : Slot "bytearray" "append" "bytearray.append" :=
  .of (owner := "bytearray") (n := "append") (by rw [typeLookup_type, builtinLookup_eq_fast]; kernel_rfl) (by decide +kernel) (by decide +kernel) (by decide +kernel)
    (by first | exact .inl (by decide +kernel) | exact .inr (by decide +kernel)) (by rw [isSubtype_type]; kernel_rfl)
theorem ba_ty_append : typeOf (.builtin "bytearray.append") = pure (.type "method_descriptor") := by show builtinType _ = _; rw [builtinType_eq_fast]; kernel_rfl
theorem ba_ent_append : entryFor table "bytearray.append" = some Builtin.«bytearray.append» := entryFor_of_tree (by kernel_rfl)
theorem ba_ent_init : entryFor table "bytearray.__init__" = some Builtin.«bytearray.__init__» := entryFor_of_tree (by kernel_rfl)
theorem ba_ent_new : entryFor table "bytearray.__new__" = some Builtin.«list.__new__» := entryFor_alias (id' := "list.__new__") (by kernel_rfl) rfl (by decide +kernel) (by kernel_rfl)
theorem ba_args_append (a b : Value) : argsOk "bytearray.append" ⟨[a, b], []⟩ := by unfold argsOk; kernel_rfl
theorem ba_args_init (a : Value) : argsOk "bytearray.__init__" ⟨[a], []⟩ := by unfold argsOk; kernel_rfl
theorem ba_call_type : checkTypeCall "bytearray" ⟨[], []⟩ = pure () := by kernel_rfl
theorem ba_call_new : checkBuiltinCall "bytearray.__new__" ⟨[.type "bytearray"], []⟩ = pure () := by kernel_rfl
theorem ba_release : typeLookup (.type "bytearray") "__release_buffer__" = pure (some (.builtin "bytearray.__release_buffer__")) := by rw [typeLookup_type, builtinLookup_eq_fast]; kernel_rfl
theorem ba_bind_init : Bytes.bindOptional "bytearray.__init__" "bytearray" ["source", "encoding", "errors"] [] [] = pure [none, none, none] := by kernel_rfl
theorem holder_b {id : String} {args : Args} : holder (.builtin id args) = holderIds.contains id := by simp [holder]
noncomputable def baObj (b : Array UInt8) : Obj := { cls := .type "bytearray", data := .bytearray b }
section
variable {prog : Program} {w : World} {A : Around} {E : Value → Shared → Prop} {s : Shared} {α : Type} {M : Model}
theorem wpS.ifF {c : Bool} {a b : Sem α} {Q : α → Shared → Prop} (hc : c = false) (h : wpS M A b Q s) : wpS M A (if c = true then a else b) Q s := by subst hc; exact h
theorem wpS.ifT {c : Bool} {a b : Sem α} {Q : α → Shared → Prop} (hc : c = true) (h : wpS M A a Q s) : wpS M A (if c = true then a else b) Q s := by subst hc; exact h
theorem wpS.eq {t : Sem α} {a : α} {Q : α → Shared → Prop} (h : t = Pure.pure a) (hQ : Q a s) : wpS M A t Q s := h ▸ .pure hQ
theorem codeS.builtin {id : String} {args : Args} {b : Builtin} {R : Result → Shared → Prop} (hb : entryFor table id = some b) (hh : holder (.builtin id args) = false)
    (h : wpS (model prog w) (A.under (.builtin id args)) (b args) (fun fin s' => match fin with | .done f => R (.ok f) s' | .again c' => c'.quiet = true ∧ codeS (model prog w) A c' R s') s) : codeS (model prog w) A (.builtin id args) R s := by
  refine codeS.tree hh ?_
  show wpS _ _ (match entryFor table id with | some b => b args | none => unsupported ((withoutEnding? id "#data").getD id)) _ s
  rw [hb]; exact h
theorem codeS.callBuiltin {id : String} {args : Args} {b : Builtin} {R : Result → Shared → Prop} (hp : plainId id = true) (hb : entryFor table id = some b) (hh : holder (.builtin id args) = false)
    (h : wpAny (model prog w) A.in1 (checkBuiltinCall id args) (fun _ s₁ => wpS (model prog w) A.in1 (b args) (fun fin s' => match fin with | .done f => R (.ok f) s' | .again c' => c'.quiet = true ∧ codeS (model prog w) A c' R s') s₁) NoE s) :
    codeS (model prog w) A (.call (.builtin id) args) R s := by
  refine codeS.tree rfl ?_
  show wpS _ A.in1 (do checkBuiltinCall id args; again (.builtin id args)) _ s
  refine .bind (.any (wpAny_mono h (fun _ s₁ h₁ => .pure ⟨plainId_quiet hp _, codeS.builtin hb hh ?_⟩) fun _ _ x => x))
  rw [Around.under_plainId hp args]
  exact h₁
theorem own_release {a : Addr} {o : Obj} {Q : Bool → Shared → Prop} (ho : s.heap.get? a = some o) (hc : o.cls = .type "bytearray") (h : Q false s) : wpAny M A (Bytes.ownRelease (.ref a)) Q E s := by
  have hT : s.TypeIs (.ref a) "bytearray" := ⟨o, ho, hc⟩
  unfold Bytes.ownRelease Bytes.slotIsOwn
  refine wpAny_bind (wpAny_bind (wpAny_specialOf hT ba_release ?_))
  dsimp only
  refine bm_if_false (by decide +kernel) ?_
  have e : "bytearray.__release_buffer__".dropRight ("__release_buffer__".length + 1) = "bytearray" := by decide +kernel
  rw [e]
  first
    | exact wpAny_bind (wpAny_isInstance hT ba_sub (wpAny_pure h))
    | exact wpAny_isInstance hT ba_sub (wpAny_pure h)
theorem ba_get {a : Addr} {b : Array UInt8} (f : Array UInt8 → Array UInt8) (ho : s.heap.get? a = some (baObj b)) : (s.heap.update a (Obj.mapBytearray f)).get? a = some (baObj (f b)) := Heap.get?_update_self (Obj.mapBytearray f) ho rfl
theorem ba_write {a : Addr} {b : Array UInt8} {f : Array UInt8 → Array UInt8} {Q : Unit → Shared → Prop} (ho : s.heap.get? a = some (baObj b)) (hz : (f b).size ≤ sizeLine) (h : Q () { s with heap := s.heap.update a (Obj.mapBytearray f) }) : wpAny M A (Bytes.write (.ref a) f) Q E s := by
  show wpAny _ _ (updateBytearray a f) _ _ _
  unfold updateBytearray
  refine wpAny_bind (wpAny_load ho ?_)
  show wpAny _ _ (update a (Obj.mapBytearray f) >>= fun _ => lookBehind a) _ _ _
  refine wpAny_bind (wpAny_update ho ?_)
  refine wpAny_lookBehind (ba_get f ho) ?_ h
  show (if (f b).size > sizeLine then some "bytearray:memory" else none) = none
  rw [if_neg (by omega)]
theorem ba_exports {a : Addr} {b : Array UInt8} {Q : Bool → Shared → Prop} (ho : s.heap.get? a = some (baObj b)) (h : Q false s) : wpS (model prog w) A (Bytes.exported (.ref a) <||> (do return (← Bytes.exportsOf (.ref a)) > 0)) Q s := by
  unfold orM
  refine .bind (wpS.exported ?_)
  show wpS _ _ (Bytes.exportsOf (.ref a) >>= fun n => Pure.pure (decide (n > 0))) _ _
  unfold Bytes.exportsOf
  refine .bind (.any ?_)
  refine wpAny_bind (wpAny_load ho ?_)
  exact wpAny_pure (wpS.pure h)
/-- a sign is appended -/
theorem ba_append {a : Addr} {b : Array UInt8} {c : UInt8} {t : Tok} {Q : Value → Shared → Prop} (ho : s.heap.get? a = some (baObj b)) (hz : b.size < 16777216)
    (h : ∀ h', h'.get? a = some (baObj (b.push c)) → Heap.SameBut a s.heap h' → Q .none { s with heap := h' }) : wpS (model prog w) A (call (.builtin "bytearray.append") [.ref a, .int ((c.toNat : Nat) : Int) t]) Q s := by
  have hT : s.TypeIs (.ref a) "bytearray" := ⟨_, ho, rfl⟩
  refine .call (codeS.callBuiltin ba_slot_append.plain ba_ent_append (by rw [holder_b]; decide +kernel) (ba_slot_append.check _ _ _ _ _ _ _ _ hT (ba_args_append _ _) ?_))
  have hc := c.toNat_lt
  unfold Builtin.«bytearray.append»
  refine .bind (.eq (a := (.ref a, .int ((c.toNat : Nat) : Int) t)) rfl ?_)
  unfold Bytes.byteValue
  refine .bind (.bind (.eq (a := ((c.toNat : Nat) : Int)) rfl ?_))
  refine .ifF (by simp only [Bool.or_eq_false_iff, decide_eq_false_iff_not]; omega) ?_
  refine .pure ?_
  unfold Bytes.checkResize
  refine .bind (.bind (ba_exports ho ?_))
  refine .ifF rfl ?_
  refine .pure ?_
  have e : (((c.toNat : Nat) : Int)).toNat.toUInt8 = c := by simp
  rw [e]
  refine .bind (.any (ba_write (f := fun x => x.push c) ho (by rw [sizeLine_eq]; simp; omega) ?_))
  exact wpS.pure (h _ (ba_get _ ho) (Heap.SameBut.update ..))
end
end Mine
end
section
set_option maxRecDepth 100000
open PySem PySem.W PySem.Calls PyProof.Rows
set_option Elab.async false
namespace Mine
open Builtin
theorem ba_owner : ("bytearray.__new__".splitOn ".__new__").headD "" = "bytearray" := by simp +decide [String.splitOn, String.splitOnAux]
section
variable {prog : Program} {w : World} {A : Around} {E : Value → Shared → Prop} {s : Shared}
theorem ba_code_new {Q₁ : Value → Shared → Prop} (h : Q₁ (.ref s.heap.objs.size) { s with heap := s.heap.push (baObj #[]) }) :
    codeAny (model prog w) A (.call (.builtin "bytearray.__new__") ⟨[.type "bytearray"], []⟩) (wants Q₁ E) s := by
  refine codeAny_of_tree ?_
  show wpAny _ A.in1 (do checkBuiltinCall "bytearray.__new__" ⟨[.type "bytearray"], []⟩; again (.builtin "bytearray.__new__" ⟨[.type "bytearray"], []⟩)) _ _ s
  refine wpAny_bind (wpAny_of_eq ba_call_new (wpAny_pure ⟨plainId_quiet (by decide +kernel) _, codeAny_builtin_stack ba_ent_new rfl fun p st => ?_⟩))
  rw [Around.under_plainId (by decide +kernel) _]
  have hsub := ba_sub
  have hown := ba_owner
  obtain ⟨hp, g, d, tk, os⟩ := s
  simp only [hown]
  wp_walk
  exact h
theorem ba_init {a : Addr} {Q : Unit → Shared → Prop} {R : Fin → Shared → Prop} (ho : s.heap.get? a = some (baObj #[]))
    (h : ∀ h', h'.get? a = some (baObj #[]) → Heap.SameBut a s.heap h' → R (.done (.ret .none)) { s with heap := h' }) : wpS (model prog w) A (Builtin.«bytearray.__init__» ⟨[.ref a], []⟩) R s := by
  unfold Builtin.«bytearray.__init__»
  refine .bind (.any (own_release ho rfl ?_))
  refine .ifF rfl ?_
  refine .bind (.eq ba_bind_init ?_)
  refine .bind (.eq (a := ()) rfl ?_)
  refine .bind (.eq (a := ()) rfl ?_)
  refine .bind (ba_exports ho ?_)
  refine .ifF rfl ?_
  refine .bind (.any (ba_write (f := fun _ => #[]) ho (Nat.zero_le _) ?_))
  refine .bind (.eq (a := ()) rfl ?_)
  exact .pure (h _ (ba_get _ ho) (Heap.SameBut.update ..))
theorem ba_can : ((Manifest.find? "bytearray").bind (·.mro.findSome? fun t => (Manifest.find? t).bind fun b => if b.noNew then some true else if b.attrs.any (·.1 == "__new__") then some false else none)).getD false = false := by decide +kernel
/-- «bytearray()» -/
theorem ba_make {Q : Value → Shared → Prop} (h : ∀ h', h'.get? s.heap.objs.size = some (baObj #[]) → Heap.SameBut s.heap.objs.size (s.heap.push (baObj #[])) h' → Q (.ref s.heap.objs.size) { s with heap := h' }) :
    wpS (model prog w) A (call (.type "bytearray") []) Q s := by
  refine wpS.call (codeS.tree rfl ?_)
  show wpS _ _ (callAny (.type "bytearray") ⟨[], []⟩) _ _
  refine .pure ⟨Code.quiet_builtin _ (by decide +kernel), codeS.builtin F.entry_type_call (by rw [holder_b]; decide +kernel) ?_⟩
  rw [Around.under_plain (weight_type_call_type "bytearray" [] []) rfl]
  unfold Builtin.«type.__call__»
  refine .ifF (by decide) ?_
  refine .ifF ba_can ?_
  refine .bind (.eq ba_call_type ?_)
  refine .bind (.eq ba_mro ?_)
  refine .ifF rfl ?_
  refine .bind (.eq ba_made ?_)
  refine .bind (.eq rfl ?_)
  refine .bind (.holding (.any (wpAny_call (codeAny_mono (ba_code_new (Q₁ := fun v s' => v = .ref s.heap.objs.size ∧ s' = { s with heap := s.heap.push (baObj #[]) }) (E := NoE) ⟨rfl, rfl⟩) fun r s₁ hr => ?_))))
  cases r with
  | error e => exact hr
  | ok f =>
    cases f with
    | ret v =>
      obtain ⟨rfl, rfl⟩ := hr
      have ho : (s.heap.push (baObj #[])).get? s.heap.objs.size = some (baObj #[]) := Heap.get?_push_size _ rfl
      have hT : ({ s with heap := s.heap.push (baObj #[]) } : Shared).TypeIs (.ref s.heap.objs.size) "bytearray" := ⟨_, ho, rfl⟩
      refine .bind (.any (wpAny_isInstance hT ba_sub ?_))
      refine .ifF rfl ?_
      unfold callSpecial?
      refine .bind (.holding (.bind (.any (wpAny_specialOf hT ba_slot_init.lookup ?_))))
      refine .holding ?_
      refine .bind (.eq (ba_slot_init.bind _) ?_)
      refine .bind (.call (codeS.callBuiltin ba_slot_init.plain ba_ent_init (by rw [holder_b]; decide +kernel) (ba_slot_init.check _ _ _ _ _ _ _ _ hT (ba_args_init _) (ba_init (Q := fun _ _ => True) ho fun h' h1 h2 => ?_))))
      refine .pure ?_
      refine .ifF rfl ?_
      exact .pure (h h' h1 h2)
    | _ => exact hr.elim
end
end Mine
end
section
set_option maxRecDepth 100000
open PySem PySem.W PySem.Calls PyProof.Rows
set_option Elab.async false
namespace Mine
open Builtin
theorem ba_no_bytes : typeLookup (.type "bytearray") "__bytes__" = pure none := by rw [typeLookup_type, builtinLookup_eq_fast]; kernel_rfl
theorem ba_no_index : typeLookup (.type "bytearray") "__index__" = pure none := by rw [typeLookup_type, builtinLookup_eq_fast]; kernel_rfl
theorem ba_buffer : typeLookup (.type "bytearray") "__buffer__" = pure (some (.builtin "bytearray.__buffer__")) := by rw [typeLookup_type, builtinLookup_eq_fast]; kernel_rfl
section
variable {prog : Program} {w : World} {A : Around} {E : Value → Shared → Prop} {s : Shared}
theorem ba_slotOwn {a : Addr} {o : Obj} {Q : Bool → Shared → Prop} (ho : s.heap.get? a = some o) (hc : o.cls = .type "bytearray") (h : Q true s) : wpAny (model prog w) A (Bytes.slotIsOwn (.ref a) "__buffer__") Q E s := by
  have hT : s.TypeIs (.ref a) "bytearray" := ⟨o, ho, hc⟩
  unfold Bytes.slotIsOwn
  refine wpAny_bind (wpAny_specialOf hT ba_buffer ?_)
  dsimp only
  refine bm_if_false (by decide +kernel) ?_
  have e : "bytearray.__buffer__".dropRight ("__buffer__".length + 1) = "bytearray" := by decide +kernel
  rw [e]
  exact wpAny_isInstance hT ba_sub h
theorem ba_new {a : Addr} {b : Array UInt8} {Q : Value → Shared → Prop} (ho : s.heap.get? a = some (baObj b)) (hz : b.size ≤ sizeLine)
    (hQ : ∀ t k, Q (.bytes b t) { s with toks := k }) : codeAny (model prog w) A (.call (.builtin "bytes.__new__") ⟨[.type "bytes", .ref a], []⟩) (wants Q E) s := by
  refine codeAny_of_tree ?_
  show wpAny _ A.in1 (do checkBuiltinCall "bytes.__new__" ⟨[.type "bytes", .ref a], []⟩; again (.builtin "bytes.__new__" ⟨[.type "bytes", .ref a], []⟩)) _ _ s
  refine wpAny_bind (wpAny_of_eq (F.bm_newCall _) (wpAny_pure ⟨plainId_quiet F.bm_plain _, codeAny_builtin F.bm_entry ?_⟩))
  rw [Around.under_plainId F.bm_plain _]
  have hT : s.TypeIs (.ref a) "bytearray" := ⟨_, ho, rfl⟩
  unfold Builtin.«bytes.__new__»
  refine wpAny_bind (wpAny_of_eq (a := true) rfl ?_)
  refine bm_if_false rfl ?_
  refine wpAny_bind (wpAny_of_eq F.bm_sub ?_)
  refine bm_if_false rfl ?_
  refine wpAny_bind (wpAny_of_eq (F.bm_bind _) ?_)
  refine wpAny_bind (wpAny_of_eq (a := ()) rfl ?_)
  refine wpAny_bind (wpAny_of_eq (a := ()) rfl ?_)
  refine bm_if_false rfl ?_
  refine wpAny_bind (wpAny_specialOf hT ba_no_bytes ?_)
  refine wpAny_bind (wpAny_bind ?_)
  show wpAny _ _ (load a >>= _) _ _ _
  refine wpAny_bind (wpAny_load ho ?_)
  refine wpAny_pure (wpAny_pure ?_)
  refine bm_if_false rfl ?_
  refine wpAny_bind (wpAny_specialOf hT ba_no_index ?_)
  refine bm_if_true rfl ?_
  first
    | show wpAny _ _ (Builtin.Bytes.buffer? "bytes.__new__" (.ref a) true >>= _) _ _ _
    | (refine wpAny_bind ?_; show wpAny _ _ (Builtin.Bytes.buffer? "bytes.__new__" (.ref a) true >>= _) _ _ _)
  refine wpAny_bind ?_
  unfold Builtin.Bytes.buffer?
  refine wpAny_bind (wpAny_specialOf hT ba_buffer ?_)
  refine wpAny_bind (ba_slotOwn ho rfl ?_)
  refine bm_if_false rfl ?_
  refine wpAny_bind (wpAny_specialOf hT ba_buffer ?_)
  refine wpAny_bind (own_release ho rfl ?_)
  refine bm_if_false rfl ?_
  refine wpAny_bind ?_
  unfold Builtin.Bytes.payload Builtin.Bytes.payload?
  refine wpAny_bind (wpAny_bind (wpAny_load ho ?_))
  refine wpAny_pure (wpAny_pure ?_)
  refine wpAny_pure ?_
  refine wpAny_bind (wpAny_rule ?_)
  refine wpAny_bind ?_
  refine wpAny_mkBytes ?_ hz
  show wpAny _ _ (if (Value.type "bytes" == Value.type "bytes") = true then _ else _) _ _ _
  refine bm_if_true (by decide) ?_
  first
    | exact wpAny_pure (hQ _ _)
    | exact wpAny_bind (wpAny_pure (wpAny_pure (hQ _ _)))
/-- «bytes(..)» of a bytearray -/
theorem ba_bytes {a : Addr} {b : Array UInt8} {Q : Value → Shared → Prop} (ho : s.heap.get? a = some (baObj b)) (hz : b.size ≤ sizeLine) (hQ : ∀ t k, Q (.bytes b t) { s with toks := k }) :
    wpAny (model prog w) A (call (.type "bytes") [.ref a]) Q E s := by
  refine callType_codes (Q₁ := fun obj s₁ => s₁.TypeIs obj "bytes" ∧ Q obj s₁) F.bm_called (F.bm_typeCall _) F.entry_object_init
    (ba_new ho hz fun t k => ⟨PySem.W.typeIs_bytes _ _ _, hQ t k⟩) fun obj s₁ h₁ => ?_
  exact ⟨h₁.1, F.args_object_init_2 obj _, object_init_meets F.bm_called.init.lookup F.bm_called.made (by decide) prog w A.in1 _ s₁ ⟨h₁.1, rfl, h₁.2⟩⟩
end
end Mine
end
section
set_option maxRecDepth 100000
open PySem PySem.W PySem.Calls PyProof.Rows
set_option Elab.async false
namespace Mine
open Builtin
/-- a def's contract, under stacks that hold no bytearray -/
noncomputable def ConS (w : World) (f : Addr) (d u : Nat) (led : List (Addr × Obj)) (vs : List Value) (Post : Value → List (Addr × Obj) → Prop) : Prop :=
  ∀ (dp un : Nat) (gd : Option (List Code)) (cn : Str) (cs : Scope) (a : Addr) (ccd : Value) (cl : List (Str × Addr)) (outer : List Env) (A₀ : Around) (base h₀ : Heap) (L : Addr) (m : Str → Option Value) (s : Shared) (Q : Value → Shared → Prop)
    (p : Program) (loose : List Str) (mean : ExcName → Option Value) (mg mb : Str → Option Value),
    Below A₀ base outer h₀ → Fr h₀ L s.heap m → (Mine.frag.heap_1 w.params).In h₀ → News h₀ L s.heap led → Top p loose mean mg mb h₀ → cs.kind = .function →
    dp + d < recursionLimit → un + u < cLine →
    (∀ (r : Value) (led' : List (Addr × Obj)) (h' : Heap) (tk' : Nat), Post r led' → Fr h₀ L h' m → News h₀ L h' led' → Q r { s with heap := h', toks := tk' }) →
    wpS (model PySem.Challenge.rw_nt0282_01.row.prog w) (ktrTop dp un gd cn cs L a ccd cl outer) (call (.ref f) vs) Q s
section
variable {prog : Program} {w : World} {A A₀ : Around} {s : Shared} {K : Frag} {L : Addr} {h₀ base : Heap} {m mg mb : Str → Option Value} {news : List (Addr × Obj)} {p : Program} {loose : List Str} {mean : ExcName → Option Value} {env : Env}
theorem codeS_def {outer : List Env} {R : Result → Shared → Prop} {name qual : Str} {params : Arguments} {body : List Stmt} {scope : Scope} {dV kV doc pm cdv ct oc : Value} {an od : Option Addr} {osl : Array (Option Value)} {f : Addr} {args : Args} {binds : List (Str × Value)}
    (B : Below A₀ base outer h₀) (F : Fr h₀ L s.heap m) (X₀ : K.In h₀) (N : News h₀ L s.heap news) (T : Top p loose mean mg mb h₀) (hA : A.frames = some (env :: outer)) (hf : env.frame = some L) (hke : env.scope.kind = .function)
    (ho : K.lookup f = some ⟨oc, od, .func (fnOf name qual params body scope dV kV doc pm an cdv ct), osl⟩) (hcd : codeIn K cdv qual = true) (hroom : A.depth < recursionLimit)
    (hbind : BindsTo s (fnOf name qual params body scope dV kV doc pm an cdv ct) args binds) (hloc : ∀ y ∈ binds, scope.names.lookup y.1 = some .local)
    (h : ∀ g L' h₁, Fr h₀ L g m → Fr g L' h₁ (fun y => binds.reverse.lookup y) → News g L' h₁ news → Below A base (env :: outer) g → K.In g → Top p loose mean mg mb g →
      wpS (model prog w) (A.deeper (envOf qual scope L' f cdv)) (execs body (envOf qual scope L' f cdv))
        (fun fl s' => LeaveK h₀ L m g R (match fl with | .ret v => v | _ => .none) s') { s with heap := h₁, toks := s.toks + binds.length })
    (hco : scope.isCoroutine = false) (hgen : scope.isGenerator = false) (hk : scope.kind = .function)
    (hcell : ∀ x ∈ scope.names, x.2 ≠ .cell) : codeS (model prog w) A (.call (.ref f) args) R s :=
  codeS.callX (cl := []) B F N T.nolimit hA hf hke ((X₀.keeps F.keep) _ _ ho) rfl (codeRec_of (X₀.keeps F.keep) hcd) hroom hbind hloc (fun g L' h₁ FG F' N' B' st _ => h g L' h₁ FG F' N' B' (X₀.keeps st) (T.keeps st)) hcell hco hgen hk
inductive SwP (h₀ : Heap) (L I : Addr) (oI : Obj) (J : (Str → Option Value) → List (Addr × Obj) → Prop) (s : Shared) (f : Flow) (s₂ : Shared) : Prop
  | mk (e0 : f = .next) (h' : Heap) (tk' : Nat) (m₂ : Str → Option Value) (nw₂ : List (Addr × Obj)) (e1 : s₂ = { s with heap := h', toks := tk' }) (e2 : Fr h₀ L h' m₂) (e3 : News h₀ L h' ((I, oI) :: nw₂)) (e4 : ∀ p ∈ nw₂, p.1 ≠ I) (e5 : J m₂ nw₂) : SwP h₀ L I oI J s f s₂
inductive SwI (h₀ : Heap) (L I : Addr) (n : Nat) (St : Nat → Heap → Prop) (J : Nat → (Str → Option Value) → List (Addr × Obj) → Prop) (s : Shared) (k : Nat) (s' : Shared) : Prop
  | mk (h' : Heap) (tk : Nat) (m' : Str → Option Value) (nw : List (Addr × Obj)) (i : Nat) (e1 : s' = { s with heap := h', toks := tk }) (e2 : St i h') (e3 : Fr h₀ L h' m') (e4 : News h₀ L h' nw) (e5 : ∀ p ∈ nw, p.1 ≠ I) (e6 : J i m' nw) (e7 : i ≤ n) (e8 : k = n + 1 - i) : SwI h₀ L I n St J s k s'
/-- a for that is walked by a relation between its turns -/
theorem codeS_walk {R : Result → Shared → Prop} {x : Str} {px : Pos} {body : List Stmt} {I : Addr} {fp : List Addr} {n : Nat} {P : Nat → Value → Prop} {St : Nat → Heap → Prop} (J : Nat → (Str → Option Value) → List (Addr × Obj) → Prop)
    (W : Walks prog w A I fp [I] n P St) (hIo : ∀ i h, St i h → ∃ o, h.get? I = some o) (hfp : ∀ b ∈ fp, b = I ∨ ∃ o, ∀ i m nw, J i m nw → (b, o) ∈ nw)
    (hx : env.kindOf x = some .local) (hp : (env.scope.kind == .class || (env.scope.kind == .module && env.locals != env.globals)) = false)
    (hLI : env.locals ≠ I) (hI0 : h₀.get? I = none) (hst : St 0 s.heap) (F : Fr h₀ env.locals s.heap m) (N : News h₀ env.locals s.heap news) (hJ : J 0 m news) (hoff : ∀ p ∈ news, p.1 ≠ I)
    (step : ∀ i v m₁ nw oI h tk, i < n → P i v → J i m₁ nw → (∀ p ∈ nw, p.1 ≠ I) → Fr h₀ env.locals h (fun y => if y = x then some v else m₁ y) → News h₀ env.locals h ((I, oI) :: nw) →
      wpS (model prog w) A (execs body env) (SwP h₀ env.locals I oI (J (i + 1)) s) { s with heap := h, toks := tk })
    (done : ∀ h tk m' nw, J n m' nw → Fr h₀ env.locals h m' → News h₀ env.locals h nw → R (.ok .next) { s with heap := h, toks := tk }) :
    codeS (model prog w) A (.forLoop (.Name x px) (.ref I) body [] env) R s := by
  refine codeS.forLoop (SwI h₀ env.locals I n St J s) ?_ (n + 1)
    ⟨s.heap, s.toks, m, news, 0, rfl, hst, F, N, hoff, hJ, Nat.zero_le _, rfl⟩
  rintro k s' ⟨h', tk, m', nw, i, rfl, hst', F', N', off', hJ', hi, rfl⟩
  have next : ∀ h₁ : Heap, (∀ b o, b ∉ [I] → h'.get? b = some o → h₁.get? b = some o) → Fr h₀ env.locals h₁ m' ∧ News h₀ env.locals h₁ nw := fun h₁ hk₁ =>
    ⟨⟨F'.ns.at' fun o e => hk₁ _ o (by simpa using hLI) e, fun b o e => hk₁ b o (by simp only [List.mem_singleton]; intro q; rw [q, hI0] at e; cases e) (F'.keep b o e), F'.above⟩,
      fun p hp => ⟨hk₁ _ _ (by simpa using off' p hp) (N' p hp).1, (N' p hp).2⟩⟩
  by_cases hlt : i < n
  · refine W.item i _ _ _ hlt hst' fun v h₁ tk₁ hP hst₁ hk₁ => ?_
    obtain ⟨F₁, N₁⟩ := next h₁ hk₁
    refine wpAny_storeName_local hx F₁.ns (fun h₂ hn₂ hs₂ => ?_) hp
    have F₂ := F₁.set hn₂ hs₂
    have N₂ := N₁.set hs₂
    have hLfp : ∀ b ∈ fp, b ≠ env.locals := fun b hb q => by
      rcases hfp b hb with rfl | ⟨o, ho⟩
      · exact hLI q.symm
      · exact (N' _ (ho _ _ _ hJ')).2.1 q
    have hst₂ : St (i + 1) h₂ := W.frame _ _ _ hst₁ fun b hb o e => (hs₂.2 b (hLfp b hb)).trans e
    obtain ⟨oI, hoI⟩ := hIo _ _ hst₂
    have N₃ : News h₀ env.locals h₂ ((I, oI) :: nw) := fun p hp => by
      rcases List.mem_cons.mp hp with rfl | hp
      · exact ⟨hoI, Ne.symm hLI, hI0⟩
      · exact N₂ p hp
    refine wpS.mono (step i v m' nw oI h₂ _ hlt hP hJ' off' F₂ N₃) fun f s₃ h₃ => ?_
    obtain ⟨rfl, h₃', tk₃, m₂, nw₂, rfl, F₃, N₄, off₃, hJ₃⟩ := h₃
    refine ⟨rfl, n + 1 - (i + 1), Nat.sub_lt_sub_left (Nat.lt_succ_of_le hi) (Nat.lt_succ_self i), h₃', tk₃, m₂, nw₂, i + 1, rfl, ?_, F₃, fun p hp => N₄ p (List.mem_cons_of_mem _ hp), off₃, hJ₃, hlt, rfl⟩
    refine W.frame _ _ _ hst₂ fun b hb o e => ?_
    rcases hfp b hb with rfl | ⟨o', ho'⟩
    · rw [hoI] at e; cases e
      exact (N₄ _ List.mem_cons_self).1
    · have e1 := (N₃ _ (List.mem_cons_of_mem _ (ho' _ _ _ hJ'))).1
      rw [e] at e1; cases e1
      exact (N₄ _ (List.mem_cons_of_mem _ (ho' _ _ _ hJ₃))).1
  · have hin : i = n := by omega
    subst hin
    refine W.done _ _ _ hst' fun h₁ tk₁ hk₁ => ?_
    obtain ⟨F₁, N₁⟩ := next h₁ hk₁
    exact done h₁ tk₁ m' nw hJ' F₁ N₁
end
end Mine
end
section
set_option maxRecDepth 100000
open PySem PySem.W PySem.Calls PyProof.Rows
set_option Elab.async false
namespace Mine
open Builtin
theorem kst_is {m : Str → Option Value} : ∀ {ps : List (Str × Value)}, (∀ p ∈ ps, m p.1 = some p.2) → kstB m ps = m
  | [], _ => rfl
  | q :: r, h => by
    funext z
    show (if z = q.1 then some q.2 else kstB m r z) = m z
    by_cases e : z = q.1
    · rw [if_pos e, e, h q (.head _)]
    · rw [if_neg e, kst_is fun p hp => h p (.tail _ hp)]
section
variable {prog : Program} {w : World} {A : Around} {s : Shared} {L : Addr} {h₀ : Heap} {m : Str → Option Value} {env : Env} {x : Str} {px : Pos} {body : List Stmt} {R : Result → Shared → Prop}
/-- a turn's end -/
inductive SEnd (h₀ : Heap) (L : Addr) (s : Shared) (keep : List (Str × Value)) (I : Addr) (oI : Obj) (Led : List (Addr × Obj) → Prop) (f : Flow) (s₂ : Shared) : Prop
  | mk (e0 : f = .next) (h' : Heap) (tk' : Nat) (m₂ : Str → Option Value) (nw : List (Addr × Obj)) (e1 : s₂ = { s with heap := h', toks := tk' }) (e2 : Fr h₀ L h' m₂) (e3 : ∀ p ∈ keep, m₂ p.1 = some p.2) (e4 : News h₀ L h' ((I, oI) :: nw)) (e5 : Led nw) : SEnd h₀ L s keep I oI Led f s₂
theorem SEnd.intro {keep : List (Str × Value)} {I : Addr} {oI : Obj} {Led : List (Addr × Obj) → Prop} {h' : Heap} {tk' : Nat} {m₂ : Str → Option Value} {nw : List (Addr × Obj)} (F : Fr h₀ L h' m₂) (hk : ∀ p ∈ keep, m₂ p.1 = some p.2) (N : News h₀ L h' ((I, oI) :: nw)) (hl : Led nw) : SEnd h₀ L s keep I oI Led .next { s with heap := h', toks := tk' } :=
  ⟨rfl, h', tk', m₂, nw, rfl, F, hk, N, hl⟩
/-- a for over bytes whose turns grow a bytearray -/
theorem S_forB {K : Addr} {rest : List (Addr × Obj)} {l : List UInt8} {t : Tok} (q : UInt8 → Bool) (keep : List (Str × Value)) (hh : A.handled = none)
    (hx : env.kindOf x = some .local) (hp : (env.scope.kind == .class || (env.scope.kind == .module && env.locals != env.globals)) = false)
    (F : Fr h₀ env.locals s.heap m) (N : News h₀ env.locals s.heap ((K, baObj #[]) :: rest)) (hk : ∀ p ∈ keep, m p.1 = some p.2)
    (turn : ∀ (c : UInt8) u (acc : List UInt8) (m₁ : Str → Option Value) I oI h tk, acc.length < l.length → (@Ne Nat K I) → (∀ p ∈ rest, p.1 ≠ I) → Fr h₀ env.locals h (fun z => if z = x then some (.int ((c.toNat : Nat) : Int) u) else kstB m₁ keep z) → News h₀ env.locals h ((I, oI) :: (K, baObj acc.toArray) :: rest) →
      wpS (model prog w) A (execs body env) (SEnd h₀ env.locals s keep I oI (fun nw => nw = (K, baObj (if q c then acc ++ [c] else acc).toArray) :: rest)) { s with heap := h, toks := tk })
    (done : ∀ h tk m', Fr h₀ env.locals h (kstB m' keep) → News h₀ env.locals h ((K, baObj (l.filter q).toArray) :: rest) → R (.ok .next) { s with heap := h, toks := tk }) :
    wpAny (model prog w) A (pyIter (.bytes l.toArray t)) (fun it s₂ => codeS (model prog w) A (.forLoop (.Name x px) it body [] env) R s₂) NoE s := by
  refine KBw.pyIter_bytes ?_
  have hK : K < s.heap.objs.size := Heap.lt_size (N _ (.head _)).1
  refine codeS_walk (h₀ := h₀) (fun i m' nw => (∀ p ∈ keep, m' p.1 = some p.2) ∧ nw = (K, baObj ((l.take i).filter q).toArray) :: rest) (KBw.walks hh s.heap.objs.size l.toArray t) (fun i h st => by obtain ⟨o, e, _⟩ := st; exact ⟨o, e⟩) (fun b hb => .inl (List.mem_singleton.mp hb)) hx hp
    (Nat.ne_of_lt F.ns.lt) (next_is_new F) ⟨_, Heap.get?_push_size _ rfl, rfl, rfl⟩ (F.push _) (N.grown fun _ _ e => Heap.get?_push_of_some _ e) ⟨hk, by simp⟩ (fun p hp => Nat.ne_of_lt (Heap.lt_size (N p hp).1)) ?_ ?_
  · rintro i v m₁ nw oI h tk hi ⟨c, u, hc, rfl⟩ ⟨hk₁, rfl⟩ hoff F₁ N₁
    have hc : l[i]? = some c := by simpa using hc
    have hs : (l.take (i + 1)).filter q = if q c then (l.take i).filter q ++ [c] else (l.take i).filter q := by
      rw [List.take_add_one, hc, List.filter_append]
      cases hq : q c <;> simp [hq]
    have hlen : ((l.take i).filter q).length < l.length := by
      have h1 := List.length_filter_le q (l.take i)
      have hi : i < l.length := by simpa using hi
      exact Nat.lt_of_le_of_lt (Nat.le_trans h1 (by rw [List.length_take]; exact Nat.min_le_left _ _)) hi
    refine wpS.mono (turn c u ((l.take i).filter q) m₁ s.heap.objs.size oI h tk hlen (hoff _ (.head _)) (fun p hp => hoff p (.tail _ hp)) (by rw [kst_is hk₁]; exact F₁) N₁) fun f s₂ hf => ?_
    obtain ⟨rfl, h', tk', m₂, nw, rfl, F₂, hk₂, N₂, rfl⟩ := hf
    refine ⟨rfl, h', tk', m₂, _, rfl, F₂, N₂, ?_, hk₂, by rw [hs]⟩
    intro p hp
    rcases List.mem_cons.mp hp with rfl | hp
    · exact hoff (K, baObj ((l.take i).filter q).toArray) (.head _)
    · exact hoff p (.tail _ hp)
  · rintro h tk m' nw ⟨hk', rfl⟩ F' N'
    have e : l.take l.toArray.size = l := by simp
    rw [e] at N'
    exact done h tk m' (by rw [kst_is hk']; exact F') N'
/-- a for over a made tuple of bytes whose turns grow a list -/
theorem S_forT {D P : Addr} {rest : List (Addr × Obj)} {vs : List Value} {ls : List (List UInt8)} {k0 : Nat} (g : List UInt8 → List UInt8) (keep : List (Str × Value)) (hh : A.handled = none)
    (hx : env.kindOf x = some .local) (hp : (env.scope.kind == .class || (env.scope.kind == .module && env.locals != env.globals)) = false)
    (F : Fr h₀ env.locals s.heap m) (N : News h₀ env.locals s.heap ((D, { cls := .type "tuple", data := .seq vs.toArray }) :: (P, listOf #[] k0) :: rest)) (hb : BsAre vs ls) (hk : ∀ p ∈ keep, m p.1 = some p.2)
    (turn : ∀ (y : List UInt8) u (ws : List Value) (k : Nat) (m₁ : Str → Option Value) I oI h tk, y ∈ ls → ws.length < ls.length → (@Ne Nat D I) → (@Ne Nat P I) → (∀ p ∈ rest, p.1 ≠ I) → Fr h₀ env.locals h (fun z => if z = x then some (.bytes y.toArray u) else kstB m₁ keep z) →
      News h₀ env.locals h ((I, oI) :: (D, { cls := .type "tuple", data := .seq vs.toArray }) :: (P, listOf ws.toArray k) :: rest) →
      wpS (model prog w) A (execs body env) (SEnd h₀ env.locals s keep I oI (fun nw => ∃ t' k', nw = (D, { cls := .type "tuple", data := .seq vs.toArray }) :: (P, listOf (ws ++ [Value.bytes (g y).toArray t']).toArray k') :: rest)) { s with heap := h, toks := tk })
    (done : ∀ h tk m' ws k, BsAre ws (ls.map g) → Fr h₀ env.locals h (kstB m' keep) → News h₀ env.locals h ((D, { cls := .type "tuple", data := .seq vs.toArray }) :: (P, listOf ws.toArray k) :: rest) → R (.ok .next) { s with heap := h, toks := tk }) :
    wpAny (model prog w) A (pyIter (.ref D)) (fun it s₂ => codeS (model prog w) A (.forLoop (.Name x px) it body [] env) R s₂) NoE s := by
  have hT : s.heap.IsTuple D vs.toArray := ⟨_, (N _ (.head _)).1, rfl, _, rfl⟩
  have hD : D < s.heap.objs.size := Heap.lt_size (N _ (.head _)).1
  refine wpAny_pyIter_tuple hT ?_
  refine codeS_walk (h₀ := h₀) (fun i m' nw => (∀ p ∈ keep, m' p.1 = some p.2) ∧ ∃ ws k, BsAre ws ((ls.take i).map g) ∧ nw = (D, { cls := .type "tuple", data := .seq vs.toArray }) :: (P, listOf ws.toArray k) :: rest) (Walks.tuple hh s.heap.objs.size D (Nat.ne_of_lt hD) vs.toArray) (fun i h st => by obtain ⟨o, e, _⟩ := st.1; exact ⟨o, e⟩) ?_ hx hp
    (Nat.ne_of_lt F.ns.lt) (next_is_new F) ⟨⟨_, Heap.get?_push_size _ rfl, rfl, rfl⟩, ⟨_, Heap.get?_push_of_some _ (N _ (.head _)).1, rfl, _, rfl⟩⟩ (F.push _) (N.grown fun _ _ e => Heap.get?_push_of_some _ e) ⟨hk, [], k0, by simpa using BsAre.nil, rfl⟩ (fun p hp => Nat.ne_of_lt (Heap.lt_size (N p hp).1)) ?_ ?_
  · intro b hb'
    rcases List.mem_cons.mp hb' with rfl | hb'
    · exact .inl rfl
    · refine .inr ⟨{ cls := .type "tuple", data := .seq vs.toArray }, ?_⟩
      rw [List.mem_singleton.mp hb']
      rintro i m' nw ⟨_, ws, k, _, rfl⟩
      exact .head _
  · rintro i v m₁ nw oI h tk hi hv ⟨hk₁, ws, k, hws, rfl⟩ hoff F₁ N₁
    obtain ⟨y, u, rfl, hy⟩ := hb.get (i := i) (v := v) (by simpa using hv)
    have hlen := hws.length
    have hil : i < ls.length := by
      have := hb.length
      have hi : i < vs.length := by simpa using hi
      omega
    have hwl : ws.length < ls.length := by simp at hlen; omega
    refine wpS.mono (turn y u ws k m₁ s.heap.objs.size oI h tk (List.mem_of_getElem? hy) hwl (hoff _ (.head _)) (hoff _ (.tail _ (.head _))) (fun p hp => hoff p (.tail _ (.tail _ hp))) (by rw [kst_is hk₁]; exact F₁) N₁) fun f s₂ hf => ?_
    obtain ⟨rfl, h', tk', m₂, nw, rfl, F₂, hk₂, N₂, t', k', rfl⟩ := hf
    refine ⟨rfl, h', tk', m₂, _, rfl, F₂, N₂, ?_, hk₂, _, _, ?_, rfl⟩
    · intro p hp
      rcases List.mem_cons.mp hp with rfl | hp
      · exact hoff (D, _) (.head _)
      · rcases List.mem_cons.mp hp with rfl | hp
        · exact hoff (P, listOf ws.toArray k) (.tail _ (.head _))
        · exact hoff p (.tail _ (.tail _ hp))
    · rw [List.take_add_one, hy]
      simpa using hws.snoc (g y) t'
  · rintro h tk m' nw ⟨hk', ws, k, hws, rfl⟩ F' N'
    have e : ls.take vs.toArray.size = ls := by
      have := hb.length
      rw [List.size_toArray, this, List.take_length]
    rw [e] at hws
    exact done h tk m' ws k hws (by rw [kst_is hk']; exact F') N'
end
end Mine
end
section
set_option maxRecDepth 100000
open PySem PySem.W PySem.Calls PyProof.Rows
set_option Elab.async false
namespace Mine
open Builtin
theorem ba_plainAttrs : PlainAttrs "bytearray" :=
  ⟨⟨"bytearray.__getattribute__", by rw [typeLookup_type, builtinLookup_eq_fast]; kernel_rfl, by decide +kernel⟩, by rw [typeLookup_type, builtinLookup_eq_fast]; kernel_rfl⟩
theorem News.setB {h₀ h h' : Heap} {L K : Addr} {o o' : Obj} {pre rest : List (Addr × Obj)} (N : News h₀ L h (pre ++ (K, o) :: rest)) (hK : h'.get? K = some o') (hs : Heap.SameBut K h h') (h1 : ∀ p ∈ pre, p.1 ≠ K) (h2 : ∀ p ∈ rest, p.1 ≠ K) : News h₀ L h' (pre ++ (K, o') :: rest) := fun p hp => by
  have hKm := N (K, o) (List.mem_append_right _ (.head _))
  rcases List.mem_append.mp hp with hp | hp
  · have z := N p (List.mem_append_left _ hp)
    exact ⟨hs.extBut _ _ (h1 p hp) z.1, z.2⟩
  · rcases List.mem_cons.mp hp with rfl | hp
    · exact ⟨hK, hKm.2⟩
    · have z := N p (List.mem_append_right _ (.tail _ hp))
      exact ⟨hs.extBut _ _ (h2 p hp) z.1, z.2⟩
theorem Fr.setB {h₀ h h' : Heap} {L K : Addr} {m : Str → Option Value} (F : Fr h₀ L h m) (hs : Heap.SameBut K h h') (hL : K ≠ L) (h0 : h₀.get? K = none) : Fr h₀ L h' m := F.change hs hL h0
section
variable {prog : Program} {w : World} {A : Around} {s : Shared} {L : Addr} {h₀ : Heap} {m : Str → Option Value} {env : Env}
/-- a builtin type is called without arguments -/
theorem wpS.callType0 {f : PySem.Expr} {pos : Pos} {T : String} {Q : Value → Shared → Prop}
    (h : wpAny (model prog w) A (eval f env) (fun fv s₁ => fv = .type T ∧ wpS (model prog w) A (PySem.call (.type T) []) Q s₁) NoE s)
    (he : eval (.Call f [] [] pos) env = (do callWith pos (← eval f env) [] (backTo pos (starEach [] env)) (backToKw pos (keywordEach [] env)))) :
    wpS (model prog w) A (eval (.Call f [] [] pos) env) Q s := by
  rw [he]
  refine .bind (.any (wpAny_mono h (fun fv s₁ h₁ => ?_) fun _ _ x => x))
  obtain ⟨rfl, h₁⟩ := h₁
  show wpS _ A (callWith pos (.type T) [] [] []) Q s₁
  unfold callWith
  refine .bind (.holding (.any (PyProof.Rows.evalArgs_none (.bind (.standAt ?_)))))
  refine .bind (.eq (a := Keeper.machine) rfl ?_)
  exact .bind (.mono h₁ fun r s₂ hr => .bind (.holding (.any (wpAny_point (wpS.pure hr)))))
/-- «kept = bytearray()» -/
theorem S_assignBA {x : Str} {px pn pc pos : Pos} {news : List (Addr × Obj)} {Q : Flow → Shared → Prop} (F : Fr h₀ env.locals s.heap m) (N : News h₀ env.locals s.heap news)
    (hn : wpAny (model prog w) A (eval (.Name "bytearray" pn) env) (fun v s₁ => v = .type "bytearray" ∧ s₁ = s) NoE s)
    (hx : env.kindOf x = some .local) (hp : (env.scope.kind == .class || (env.scope.kind == .module && env.locals != env.globals)) = false)
    (h : ∀ K h' tk, (∀ p ∈ news, @LT.lt Nat _ p.1 K) → Fr h₀ env.locals h' (fun z => if z = x then some (.ref K) else m z) → News h₀ env.locals h' ((K, baObj #[]) :: news) → Q .next { s with heap := h', toks := tk }) :
    wpS (model prog w) A (exec (.Assign [.Name x px] (.Call (.Name "bytearray" pn) [] [] pc) pos) env) Q s := by
  refine wpS.Assign_Name (hs := by rfl) (wpS.callType0 (he := by rfl) (T := "bytearray") (wpAny_mono hn (fun v s₁ hv => ?_) fun _ _ x => x))
  obtain ⟨rfl, rfl⟩ := hv
  refine ⟨rfl, ba_make fun h' h1 h2 => ?_⟩
  have up : ∀ b o, s₁.heap.get? b = some o → h'.get? b = some o := fun b o e => h2.extBut b o (Nat.ne_of_lt (Heap.lt_size e)) (Heap.get?_push_of_some _ e)
  have F₁ := F.keeps up
  have N₁ : News h₀ env.locals h' ((s₁.heap.objs.size, baObj #[]) :: news) := fun p hp => by
    rcases List.mem_cons.mp hp with rfl | hp
    · exact ⟨h1, Ne.symm (Nat.ne_of_lt F.ns.lt), next_is_new F⟩
    · exact ⟨up _ _ (N p hp).1, (N p hp).2⟩
  refine wpAny_storeName_local hx F₁.ns (fun h₂ hn₂ hs₂ => ?_) hp
  exact h _ h₂ _ (fun p hp => Heap.lt_size (N p hp).1) (F₁.set hn₂ hs₂) (N₁.set hs₂)
/-- «kept.append(sign)» -/
theorem S_appendStmt {x y : Str} {p1 p2 p3 p4 p5 : Pos} {K I : Addr} {oI : Obj} {rest : List (Addr × Obj)} {acc : List UInt8} {c : UInt8} {u : Tok} {Q : Flow → Shared → Prop} (F : Fr h₀ env.locals s.heap m) (N : News h₀ env.locals s.heap ((I, oI) :: (K, baObj acc.toArray) :: rest))
    (hI : @Ne Nat K I) (hr : ∀ p ∈ rest, p.1 ≠ K) (hx : m x = some (.ref K)) (hy : m y = some (.int ((c.toNat : Nat) : Int) u)) (hkx : env.kindOf x = some .local) (hky : env.kindOf y = some .local) (hkind : env.scope.kind = .function) (hl : acc.length < 16777216)
    (dx : (x == ("__debug__" : Str)) = false) (dy : (y == ("__debug__" : Str)) = false)
    (h : ∀ h', Fr h₀ env.locals h' m → News h₀ env.locals h' ((I, oI) :: (K, baObj (acc ++ [c]).toArray) :: rest) → Q .next { s with heap := h' })
    (he : eval (.Call (.Attribute (.Name x p1) "append" p2) [.Name y p3] [] p4) env = (do
      let ov ← eval (.Name x p1) env
      PySem.standAt p2.atName
      let (f, first) ← PySem.holding [ov] (getMethod ov "append" (do return (← importBound (.Name x p1) env).getD true))
      callWith p4 f first (backTo p4 (starEach [.Name y p3] env)) []))
    (hi : interactive env = false) (hs : swapsWith (.Call (.Attribute (.Name x p1) "append" p2) [.Name y p3] [] p4) none p5.line env = Pure.pure false) :
    wpS (model prog w) A (exec (.Expr (.Call (.Attribute (.Name x p1) "append" p2) [.Name y p3] [] p4) p5) env) Q s := by
  have hN := N (K, baObj acc.toArray) (.tail _ (.head _))
  have hT : s.TypeIs (.ref K) "bytearray" := ⟨_, hN.1, rfl⟩
  refine wpS.Expr (wpS.callMeth (id := "bytearray.append") (pl := (do return (← importBound (.Name x p1) env).getD true)) ?_ rfl he) hi hs
  refine wpAny_Name (wpAny_loadName_local hkind hkx F.ns hx ?_) dx
  refine getMethod_builtin hT ba_plainAttrs ba_slot_append ba_ty_append (fun a e => by cases e; exact ⟨_, hN.1, rfl⟩) ⟨rfl, ?_⟩
  refine evalArgs_plain (spliced_cons (wpAny_Name (wpAny_loadName_local hkind hky F.ns hy (spliced_nil ?_)) dy))
  refine ba_append hN.1 (by simpa using hl) fun h' h1 h2 => ⟨rfl, ?_⟩
  have e : acc.toArray.push c = (acc ++ [c]).toArray := by simp
  rw [e] at h1
  refine h h' (F.change h2 hN.2.1 hN.2.2) (News.setB (pre := [(I, oI)]) N h1 h2 (fun p hp => ?_) hr)
  rw [List.mem_singleton.mp hp]
  exact fun q => hI q.symm
/-- the same, the made objects named anew in the turn -/
theorem S_forTP {x : Str} {px : Pos} {body : List Stmt} {R : Result → Shared → Prop} {D P : Addr} {rest : List (Addr × Obj)} {vs : List Value} {ls : List (List UInt8)} {k0 : Nat} (g : List UInt8 → List UInt8) (keep : Addr → List (Str × Value)) (hh : A.handled = none)
    (hx : env.kindOf x = some .local) (hp : (env.scope.kind == .class || (env.scope.kind == .module && env.locals != env.globals)) = false)
    (F : Fr h₀ env.locals s.heap m) (N : News h₀ env.locals s.heap ((D, { cls := .type "tuple", data := .seq vs.toArray }) :: (P, listOf #[] k0) :: rest)) (hb : BsAre vs ls) (hk : ∀ p ∈ keep P, m p.1 = some p.2)
    (hDP : @Ne Nat D P) (hPr : ∀ p ∈ rest, p.1 ≠ P)
    (turn : ∀ (D P : Addr), (@Ne Nat D P) → (∀ p ∈ rest, p.1 ≠ P) → ∀ (y : List UInt8) u (ws : List Value) (k : Nat) (m₁ : Str → Option Value) I oI h tk, y ∈ ls → ws.length < ls.length → (@Ne Nat D I) → (@Ne Nat P I) → (∀ p ∈ rest, p.1 ≠ I) → Fr h₀ env.locals h (fun z => if z = x then some (.bytes y.toArray u) else kstB m₁ (keep P) z) →
      News h₀ env.locals h ((I, oI) :: (D, { cls := .type "tuple", data := .seq vs.toArray }) :: (P, listOf ws.toArray k) :: rest) →
      wpS (model prog w) A (execs body env) (SEnd h₀ env.locals s (keep P) I oI (fun nw => ∃ t' k', nw = (D, { cls := .type "tuple", data := .seq vs.toArray }) :: (P, listOf (ws ++ [Value.bytes (g y).toArray t']).toArray k') :: rest)) { s with heap := h, toks := tk })
    (done : ∀ (D P : Addr) h tk m' ws k, BsAre ws (ls.map g) → Fr h₀ env.locals h (kstB m' (keep P)) → News h₀ env.locals h ((D, { cls := .type "tuple", data := .seq vs.toArray }) :: (P, listOf ws.toArray k) :: rest) → R (.ok .next) { s with heap := h, toks := tk }) :
    wpAny (model prog w) A (pyIter (.ref D)) (fun it s₂ => codeS (model prog w) A (.forLoop (.Name x px) it body [] env) R s₂) NoE s :=
  S_forT g (keep P) hh hx hp F N hb hk (turn D P hDP hPr) (done D P)
end
end Mine
end
section
set_option maxRecDepth 100000
open PySem PySem.W PySem.Calls PyProof.Rows
set_option Elab.async false
namespace Mine
open Builtin
/-- a def of the text is called by name -/
theorem S_callK {prog : Program} {w : World} {A : Around} {s : Shared} {env : Env} {K : Frag} {fa : Addr} {oc : Value} {od : Option Addr} {fd : FuncData} {osl : Array (Option Value)} {f e0 : Expr} {es : List Expr} {pos : Pos} {Q : Value → Shared → Prop}
    (ho : K.lookup fa = some ⟨oc, od, .func fd, osl⟩)
    (h : wpAny (model prog w) A (eval f env) (fun fv s₁ => fv = .ref fa ∧ wpAny (model prog w) A (spliced (backTo pos (starEach (e0 :: es) env))) (fun vs s₂ => K.In s₂.heap ∧ wpS (model prog w) A (PySem.call (.ref fa) vs []) Q s₂) NoE s₁) NoE s)
    (hst : starEach (e0 :: es) env = (false, eval e0 env) :: starEach es env) (hp : (backTo pos (starEach (e0 :: es) env)).any (·.1) = false) (hl : Nat.ble (backTo pos (starEach (e0 :: es) env)).length 30 = true)
    (he : eval (.Call f (e0 :: es) [] pos) env = (do callWith pos (← eval f env) [] (backTo pos (starEach (e0 :: es) env)) (backToKw pos (keywordEach [] env)))) :
    wpS (model prog w) A (eval (.Call f (e0 :: es) [] pos) env) Q s := by
  refine wpS.callName (wpAny_mono h (fun fv s₁ h₁ => ?_) fun _ _ x => x) hp (Nat.le_of_ble_eq_true hl) he
  obtain ⟨rfl, h₁⟩ := h₁
  refine ⟨fa, ⟨oc, od, .func fd, osl⟩, fd, rfl, ?_⟩
  rw [hst] at h₁ ⊢
  refine evalArgs_plain (wpAny_mono h₁ (fun vs s₂ h₂ => ⟨⟨h₂.1 _ _ ho, rfl⟩, h₂.2⟩) fun _ _ x => x)
end Mine
end
section
set_option maxRecDepth 100000
open PySem PySem.W PySem.Calls PyProof.Rows
set_option Elab.async false
namespace Mine
/-! a law's call, walked under clean stacks alone -/
theorem caller_clean : holder (.builtin "claim.caller" {}) = false := by decide
theorem thread_S {prog : Program} {w : World} {t : Sem Fin} {s : Shared} {R : Result → Shared → Prop} (hz : s.asleep)
    (h : wpS (model prog w) callerA t (fun fin s' => ∃ f, fin = .done f ∧ (R (.ok f) s' ∧ leftWithCleanup s'.gens = false)) s) :
    ∃ n r s' s'', runN (denote table) prog w n s ⟨t, .builtin "claim.caller" {}, default, []⟩ = .halted (outcomeOf r) s' ∧
      schedN (denote table) prog w n (.single s ⟨t, .builtin "claim.caller" {}, default, []⟩) = .halted (outcomeOf r) s' ∧ s'.forget = s''.forget ∧ R r s'' := by
  have key := Sem.wp_mono (model prog w) ⟨.builtin "claim.caller" {}, none, none, [], none⟩ t (post' := Sem.finPost (model prog w) ⟨.builtin "claim.caller" {}, none, none, [], none⟩ fun r s' => R r s' ∧ leftWithCleanup s'.gens = false) (exc' := fun e _ s' => R (.error e) s' ∧ leftWithCleanup s'.gens = false)
    (fun fin p' s' h' => by obtain ⟨f, rfl, hf⟩ := h'; exact hf) (fun _ _ _ x => x.elim) default s (h _ _ caller_in caller_clean Cln.nil)
  obtain ⟨n, r, s₁, s₂, hs, hn, hfo, hR⟩ := wp_halts_full (M := model prog w) (R := R) hz key
  exact ⟨n, r, s₂, s₁, hn, hs, hfo, hR⟩
noncomputable def WalkS (l : OpenLaw) (q : Program) (loose : List Str) (XP : (Str → Option Value) → Heap → Prop) (YP : World → Heap → Prop) (d : DefRec) (kwd : List (Str × Expr)) : Prop :=
  ∀ (w : World) (s₀ s₁ : Shared) (mg mb : Str → Option Value), Ground q loose [] XP w s₀ mg mb s₁.heap → YP w s₁.heap → ∀ (a : Addr) (o : Obj) (pm cd doc dV kV : Value), s₁.heap.get? a = some o →
    o.data = .func { docDef d.name d.params d.body d.scope pm cd doc with defaults := dV, kwdefaults := kV } → s₁.heap.CodeRec cd d.name → Dflts mg s₁.heap d.params kwd dV kV → mg d.name = some (.ref a) → s₁.gens = #[] →
    ∀ (args : List WData) (vals : List Value) (as : List Addr), l.row.toRowW.claim.pre args = true → WData.layableAll args = true → ReadsAllW [] (classAt s₀.heap) s₁.heap vals args as → WellAll w.params s₁.heap vals args → (∀ a ∈ as, (a == sysModules) = false) →
      wpS (model l.prog w) callerA (PySem.call (.ref a) vals) (fun v s' => GoodWG l.row.toRowW.claim (classAt s₀.heap) (ExcName.means s₀.heap) args s₁ (.ok (.ret v)) s') s₁
theorem wpS.nsGet {prog : Program} {w : World} {A : Around} {s : Shared} {L : Addr} {m : Str → Option Value} {x : Str} {Q : Option Value → Shared → Prop} (hn : s.heap.Ns L m) (h : Q (m x) s) : wpS (model prog w) A (PySem.nsGet L x) Q s := .any (wpAny_nsGet hn h)
theorem holdsS {l : OpenLaw} {q : Program} {loose : List Str} {Xt : Shared → Bool} {XP : (Str → Option Value) → Heap → Prop} {α : Type} {Yf : Shared → α} {Ya : World → α} {YP : World → Heap → Prop} {d : DefRec} {kwd : List (Str × Expr)} {N : Nat}
    (left : LeftO l.prog q loose Xt Yf Ya N) (hY : ∀ w s, Yf s = Ya w → YP w s.heap) (hYk : ∀ w h h', YP w h → (∀ b o, h.get? b = some o → h'.get? b = some o) → YP w h')
    (hX : ∀ s, Xt s = true → XP (s.heap.nsMap mainGlobals) s.heap) (hXk : ∀ mg h h', XP mg h → (∀ b o, h.get? b = some o → h'.get? b = some o) → XP mg h')
    (hdef : defOf q l.name = some (d, kwd)) (hp : l.prog.theDef l.name = some (d.params, d.body, d.scope)) (hk : kwWritten? d.params.kwonlyargs d.params.kw_defaults = some kwd)
    (k1 : l.row.wellSaid = true) (ok : (chainsOk q && opensWell l.prog && (frees l.row.toRowW && l.row.within.isEmpty)) = true) (hb : l.prog.bare) (hw : l.row.toRowW.promised) (nw : l.writes = false)
    (call : WalkS l q loose XP YP d kwd) : l.row.Holds := by
  obtain ⟨ok, k5⟩ := Bool.and_eq_true_iff.mp ok
  obtain ⟨hch, o1⟩ := Bool.and_eq_true_iff.mp ok
  obtain ⟨hsame, hu, ha, hap, _⟩ := frees_parts (Bool.and_eq_true_iff.mp k5).1
  refine ⟨k1, hw, ⟨hb, o1, rfl⟩, hw.witness, fun w => ⟨(left.behind hX hch w).1, fun s' hs' => ?_⟩⟩
  refine hideG fun P₁ hP₁ => ?_
  obtain ⟨s₀, hf, hg0, s, hT, hz, hgens, hg, G, y⟩ := (left.behind hX hch w).2 s' hs'
  have hgens : s.gens = #[] := Array.eq_empty_of_size_eq_zero (beq_iff_eq.mp hgens)
  refine hP₁ ⟨s₀, hf, hg0, s, hT, fun n hn => ?_, (recFacts_nil (R := []) rfl).1, (recFacts_nil (R := []) (h := s.heap) rfl).2.1, fun args hpre hlay ord hord => ?_⟩
  · obtain rfl : n = l.name := by
      have hn : n ∈ [l.name] := hn
      simpa using hn
    exact pinned_of_view hg G hdef hp hk
  · refine hideG fun P₂ hP₂ => ?_
    obtain ⟨⟨vs, s₁⟩, hlaid⟩ := Option.isSome_iff_exists.mp (layAllW_isSome (P := w.params) (ord := ord) G.has args l.row.args s (pre_splitW (r := l.row.toRowW) hpre).1)
    have keeps := layAllW_keeps _ _ _ hlaid
    have hal := layAllW_rest _ _ _ hlaid
    obtain ⟨as, hrd, hin, hold⟩ := reads_layAllW hord _ _ _ hlaid hlay s₁.heap (fun _ _ e => e)
    have L : Laid [] w s s₁ args vs as := ⟨⟨ord, hord, hlaid⟩, hrd, hin, hold, keeps, hal.1.trans hgens, hal.2.2.1⟩
    have G₁ := G.keeps hXk keeps
    obtain ⟨a, o, pm, cd, doc, dV, kV, h1, h2, h3, h4, h5⟩ := G₁.fn hdef
    have z := call w s s₁ _ _ G₁ (hYk _ _ _ (hY w s y) keeps) a o pm cd doc dV kV h2 h3 h4 h5 (defOf_name hdef ▸ h1) L.gens args vs as hpre hlay L.reads L.well (L.low G.low)
    have hi := ident_freeW (r := l.row.toRowW) hu ha hap
    refine hP₂ ⟨vs, s₁, hlaid, ?_⟩
    refine hideG fun P₃ hP₃ => ?_
    obtain ⟨k, r, s', s'', hrun, hsched, hfo, hR⟩ := thread_S (prog := l.prog) (w := w) (s := s₁) (t := do match ← nsGet mainNs l.name with
      | some f => do ret (← PySem.call f vs)
      | none => unsupported "claim.caller:no-such-global")
      (R := fun r s' => l.row.toRowW.claim.Ends s args vs s₁ r s' ∧ s'.os = s.os) (Shared.asleep_of_life hal.2.2.2 hz)
      (.bind (.nsGet G₁.T.g (by
        rw [h1]
        refine .bind (.mono z fun v s' g => .pure ⟨_, rfl, ?_⟩)
        have e := g.laid (c := l.row.toRowW.claim) hsame rfl hi L
        exact ⟨⟨e.1, e.2.1⟩, leftWithCleanup_false_of_bare e.2.2⟩)))
    obtain ⟨hcase, hos⟩ := hR
    obtain ⟨eh, _, _, eo, _⟩ := Shared.forget_eq hfo
    have hcase := hcase.congr eh
    have hlife : s'.heap.life = s.heap.life := (runN_life _ _ _ hrun).trans hal.2.2.2
    refine hP₃ ⟨k, _, s', hsched, ?_, fun _ i x hx => by rw [hgens] at hx; simp at hx, fun q => absurd (nw.symm.trans q) (by decide), by rw [hlife], Shared.rest_eq (eo ▸ hos)⟩
    rcases hcase with ⟨v, rfl, d1, d2, d3, d4, d5⟩ | ⟨e, ob, cls, rfl, d1, d2, d3, d4, d5⟩
    · exact .inl ⟨v, rfl, d1, d2, d3, fun b o y _ => d4 b o y, d5⟩
    · exact .inr ⟨e, ob, cls, rfl, d1, d2, d3, d4, fun b o y _ => d5 b o y⟩
end Mine
end
section
set_option maxRecDepth 100000
open PySem PySem.W PySem.Calls PyProof.Rows
set_option Elab.async false
namespace Mine
section
variable {prog : Program} {w : World} {s : Shared} {K : Frag} {mg mb : Str → Option Value} {p : Program} {loose : List Str} {mean : ExcName → Option Value}
/-- a def of the text is called by the claim's caller -/
theorem codeS_top {R : Result → Shared → Prop} {name qual : Str} {params : Arguments} {body : List Stmt} {scope : Scope} {dV kV doc pm cdv ct oc : Value} {an od : Option Addr} {osl : Array (Option Value)} {f : Addr} {args : Args} {binds : List (Str × Value)}
    (X₀ : K.In s.heap) (T : Top p loose mean mg mb s.heap) (ho : K.lookup f = some ⟨oc, od, .func (fnOf name qual params body scope dV kV doc pm an cdv ct), osl⟩) (hcd : codeIn K cdv qual = true)
    (hbind : BindsTo s (fnOf name qual params body scope dV kV doc pm an cdv ct) args binds) (hloc : ∀ y ∈ binds, scope.names.lookup y.1 = some .local)
    (h : ∀ L' h₁, Fr s.heap L' h₁ (fun y => binds.reverse.lookup y) → News s.heap L' h₁ [] →
      wpS (model prog w) (callerA.deeper (envOf qual scope L' f cdv)) (execs body (envOf qual scope L' f cdv))
        (fun fl s' => R (.ok (.ret (match fl with | .ret v => v | _ => .none))) s') { s with heap := h₁, toks := s.toks + binds.length })
    (hco : scope.isCoroutine = false) (hgen : scope.isGenerator = false) (hk : scope.kind = .function)
    (hcell : ∀ x ∈ scope.names, x.2 ≠ .cell) : codeS (model prog w) callerA (.call (.ref f) args) R s := by
  refine codeS.call_def (fd := fnOf name qual params body scope dV kV doc pm an cdv ct) (body := body) (binds := binds) (by decide) (X₀ _ _ ho) rfl T.nolimit (codeRec_of X₀ hcd) rfl hbind hcell hloc (fun h₁ hns hk₁ => ?_) hco hgen hk
  exact h s.heap.objs.size h₁ ⟨hns, hk₁, Nat.le_refl _⟩ (fun _ q => nomatch q)
end
end Mine
end
section
/-! an address that lies under another one, out of a chain of «<» -/
namespace Mine
theorem ltOf {a x y : Nat} {R : Prop} (h : y < x ∧ R) (k : y < x ∧ R → a < x) : a < x := k h
theorem neLt {a x y : Nat} {R : Prop} (h : y < x ∧ R) (k : y < x ∧ R → a < x) : ¬ a = x := Nat.ne_of_lt (k h)
theorem neGt {a x y : Nat} {R : Prop} (h : y < x ∧ R) (k : y < x ∧ R → a < x) : ¬ x = a := Nat.ne_of_gt (k h)
end Mine
end
section
/-! plain expressions (local names, constants) in one step -/
set_option maxRecDepth 100000
namespace Mine
open PySem PySem.W PySem.Calls PyProof.Rows
noncomputable def isLoc (env : Env) (x : Str) : Bool := match env.kindOf x with | some .local => true | _ => false
noncomputable def pe (env : Env) (m : Str → Option Value) (e : Expr) (t : Nat) : Option (Value × Nat) :=
  match e with
  | .Name x _ => match isLoc env x, x == ("__debug__" : Str) with
    | true, false => (match m x with | some v => some (v, t) | none => none)
    | _, _ => none
  | .Constant (.int i) _ _ => some (.int i t, t + 1)
  | .Constant (.str x) _ _ => some (.str x t, t + 1)
  | .Constant (.bytes x) _ _ => some (.bytes x.toArray t, t + 1)
  | .Constant .none _ _ => some (.none, t)
  | .Constant (.bool b) _ _ => some (.bool b, t)
  | _ => none
noncomputable def pes (env : Env) (m : Str → Option Value) : List Expr → Nat → Option (List Value × Nat)
  | [], t => some ([], t)
  | e :: es, t => match pe env m e t with
    | some (v, t1) => (match pes env m es t1 with | some (vs, t2) => some (v :: vs, t2) | none => none)
    | none => none
noncomputable def pep (env : Env) (m : Str → Option Value) : Option Expr → Nat → Option (Value × Nat)
  | none, t => some (.none, t)
  | some e, t => pe env m e t
theorem noS {α : Type} {a : α} {P : Prop} (h : (none : Option α) = some a) : P := nomatch h
section
variable {M : Model} {A : Around} {E : Value → Shared → Prop} {h₀ hp : Heap} {L a : Addr} {m : Str → Option Value} {cn : Str} {cs : Scope} {ccd : Value} {cl : List (Str × Addr)} {t t1 t2 t3 : Nat} {gn : Array GenState} {os : OsState} {dr : Drawn}
theorem isLoc_is {env : Env} {x : Str} (h : isLoc env x = true) : env.kindOf x = some .local := by
  delta isLoc at h
  generalize env.kindOf x = o at h
  cases o with
  | none => cases h
  | some k => cases k with
    | «local» => rfl
    | _ => cases h
theorem pe_eval (F : Fr h₀ L hp m) (hk : cs.kind = .function) {e : Expr} {v : Value} {Q : Value → Shared → Prop} (hv : pe (envX cn cs L a ccd cl) m e t = some (v, t1)) (h : Q v ⟨hp, gn, dr, t1, os⟩) :
    wpAny M A (eval e (envX cn cs L a ccd cl)) Q E ⟨hp, gn, dr, t, os⟩ := by
  cases e with
  | Name x pos =>
    delta pe at hv
    dsimp only at hv
    generalize h1 : isLoc (envX cn cs L a ccd cl) x = b1 at hv
    generalize h2 : (x == ("__debug__" : Str)) = b2 at hv
    cases b1 with
    | false => exact noS hv
    | true =>
      cases b2 with
      | true => exact noS hv
      | false =>
        generalize hm : m x = o at hv
        cases o with
        | none => exact noS hv
        | some v' =>
          cases (hv : some (v', t) = some (v, t1))
          exact nameX_L (s := ⟨hp, gn, dr, _, os⟩) F hm h hk (isLoc_is h1) h2
  | Constant c k pos =>
    cases c with
    | int i => cases (hv : some (_, t + 1) = some (v, t1)); exact wpAny_Constant_int (s := ⟨hp, gn, dr, _, os⟩) h
    | str x => cases (hv : some (_, t + 1) = some (v, t1)); exact wpAny_Constant_str (s := ⟨hp, gn, dr, _, os⟩) h
    | bytes x => cases (hv : some (_, t + 1) = some (v, t1)); exact Constant_bytes (s := ⟨hp, gn, dr, _, os⟩) h
    | none => cases (hv : some (_, t) = some (v, t1)); exact wpAny_Constant_none (s := ⟨hp, gn, dr, _, os⟩) h
    | bool b => cases (hv : some (_, t) = some (v, t1)); exact wpAny_Constant_bool (s := ⟨hp, gn, dr, _, os⟩) h
    | _ => exact noS hv
  | _ => exact noS hv
theorem pe_plain {env : Env} {e : Expr} {rest : List Expr} {x : Value × Nat} (hv : pe env m e t = some x) : starEach (e :: rest) env = (false, eval e env) :: starEach rest env := by
  cases e with
  | Starred e p => exact noS hv
  | _ => rfl
theorem pes_eval (F : Fr h₀ L hp m) {es : List Expr} {pos : Pos} {vs : List Value} {Q : List Value → Shared → Prop} (hv : pes (envX cn cs L a ccd cl) m es t = some (vs, t1)) (h : Q vs ⟨hp, gn, dr, t1, os⟩) (hk : cs.kind = .function) :
    wpAny M A (spliced (backTo pos (starEach es (envX cn cs L a ccd cl)))) Q E ⟨hp, gn, dr, t, os⟩ := by
  induction es generalizing t vs Q with
  | nil =>
    unfold pes at hv
    injection hv with hv; injection hv with e1 e2; subst e1; subst e2
    exact args_nil h
  | cons e es ih =>
    unfold pes at hv
    split at hv
    · rename_i v t2 he
      split at hv
      · rename_i vs' t3 hes
        injection hv with hv; injection hv with e1 e2; subst e1; subst e2
        exact args_cons (pe_eval F hk he (ih hes h)) (pe_plain he)
      · cases hv
    · cases hv
theorem binop_pe (F : Fr h₀ L hp m) {l r : Expr} {op : Operator} {pos : Pos} {x y : Value} {Q : Value → Shared → Prop} (hx : pe (envX cn cs L a ccd cl) m l t = some (x, t1)) (hy : pe (envX cn cs L a ccd cl) m r t1 = some (y, t2))
    (h : wpAny M A (binaryOp op x y) Q E ⟨hp, gn, dr, t2, os⟩) (hk : cs.kind = .function) : wpAny M A (eval (.BinOp l op r pos) (envX cn cs L a ccd cl)) Q E ⟨hp, gn, dr, t, os⟩ :=
  wpAny_BinOp (pe_eval F hk hx (pe_eval F hk hy h))
theorem cmp_pe (F : Fr h₀ L hp m) {l r : Expr} {op : CmpOp} {pos : Pos} {x y : Value} {whole : Sem Value} {Q : Bool → Shared → Prop} (hx : pe (envX cn cs L a ccd cl) m l t = some (x, t1)) (hy : pe (envX cn cs L a ccd cl) m r t1 = some (y, t2))
    (h : wpAny M A (compareOp op x y) (fun c s₃ => wpAny M A (truthy c) Q E s₃) E ⟨hp, gn, dr, t2, os⟩) (hk : cs.kind = .function) (hm : behindInMarks op r = false) :
    wpAny M A (isTrue (.Compare l [op] [r] pos) (envX cn cs L a ccd cl) whole) Q E ⟨hp, gn, dr, t, os⟩ :=
  wpAny_isTrue_Compare1 (pe_eval F hk hx (pe_eval F hk hy h)) hm
theorem sub_pe (F : Fr h₀ L hp m) {l r : Expr} {pos : Pos} {x y : Value} {Q : Value → Shared → Prop} (hx : pe (envX cn cs L a ccd cl) m l t = some (x, t1)) (hy : pe (envX cn cs L a ccd cl) m r t1 = some (y, t2))
    (h : wpAny M A (subscriptTail l r x y) Q E ⟨hp, gn, dr, t2, os⟩) (hk : cs.kind = .function) : wpAny M A (eval (.Subscript l r pos) (envX cn cs L a ccd cl)) Q E ⟨hp, gn, dr, t, os⟩ :=
  Subscript_ (pe_eval F hk hx (pe_eval F hk hy h))
theorem pep_eval (F : Fr h₀ L hp m) (hk : cs.kind = .function) {e : Option Expr} {v : Value} {Q : Value → Shared → Prop} (hv : pep (envX cn cs L a ccd cl) m e t = some (v, t1)) (h : Q v ⟨hp, gn, dr, t1, os⟩) :
    wpAny M A (evalPart e (envX cn cs L a ccd cl)) Q E ⟨hp, gn, dr, t, os⟩ := by
  cases e with
  | none => unfold pep at hv; injection hv with hv; injection hv with e1 e2; subst e1; subst e2; exact evalPart_none_step h
  | some e => exact evalPart_some_step (pe_eval F hk hv h)
theorem slice_pe (F : Fr h₀ L hp m) {l r st : Option Expr} {pos : Pos} {x y z : Value} {Q : Value → Shared → Prop} (hx : pep (envX cn cs L a ccd cl) m l t = some (x, t1)) (hy : pep (envX cn cs L a ccd cl) m r t1 = some (y, t2)) (hz : pep (envX cn cs L a ccd cl) m st t2 = some (z, t3))
    (h : Q (.ref hp.objs.size) ⟨hp.push { cls := .type "slice", data := .fields #[x, y, z] }, gn, dr, t3, os⟩) (hk : cs.kind = .function) : wpAny M A (eval (.Slice l r st pos) (envX cn cs L a ccd cl)) Q E ⟨hp, gn, dr, t, os⟩ :=
  wpAny_Slice (pep_eval F hk hx (pep_eval F hk hy (pep_eval F hk hz h)))
end
end Mine
end
section
/-! a contract's start with its state written out; a store with a new count; a call of a def upon plain arguments -/
set_option maxRecDepth 100000
namespace Mine
open PySem PySem.W PySem.Calls PyProof.Rows
theorem conOf {w : World} {f : Addr} {d u : Nat} {led : List (Addr × Obj)} {vs : List Value} {Post : Value → List (Addr × Obj) → Prop}
    (h : ∀ (dp un : Nat) (gd : Option (List Code)) (cn : Str) (cs : Scope) (a : Addr) (ccd : Value) (cl : List (Str × Addr)) (outer : List Env) (A₀ : Around) (base h₀ : Heap) (L : Addr) (m : Str → Option Value)
      (hp : Heap) (gn : Array GenState) (dr : Drawn) (tk : Nat) (os : OsState) (Q E : Value → Shared → Prop) (p : Program) (loose : List Str) (mean : ExcName → Option Value) (mg mb : Str → Option Value),
      Below A₀ base outer h₀ → Fr h₀ L hp m → (Mine.frag.heap_1 w.params).In h₀ → News h₀ L hp led → Top p loose mean mg mb h₀ → cs.kind = .function → dp + d < recursionLimit → un + u < cLine →
      (∀ (r : Value) (led' : List (Addr × Obj)) (h' : Heap) (tk' : Nat), Post r led' → Fr h₀ L h' m → News h₀ L h' led' → Q r ⟨h', gn, dr, tk', os⟩) →
      wpAny (model PySem.Challenge.rw_nt0282_01.row.prog w) (ktrTop dp un gd cn cs L a ccd cl outer) (call (.ref f) vs) Q E ⟨hp, gn, dr, tk, os⟩) : Con w f d u led vs Post :=
  fun dp un gd cn cs a ccd cl outer A₀ base h₀ L m s Q E p loose mean mg mb B F X N T hk hd hu hret =>
    h dp un gd cn cs a ccd cl outer A₀ base h₀ L m s.heap s.gens s.drawn s.toks s.os Q E p loose mean mg mb B F X N T hk hd hu hret
section
variable {M : Model} {A : Around} {E : Value → Shared → Prop} {K : Frag} {h₀ hp : Heap} {L a : Addr} {m mg mb : Str → Option Value} {cn : Str} {cs : Scope} {ccd : Value} {cl : List (Str × Addr)} {p : Program} {loose : List Str}
  {t t1 : Nat} {gn : Array GenState} {os : OsState} {dr : Drawn} {x : Str} {pos pos' : Pos}
theorem storeL {v : Value} {news : List (Addr × Obj)} {Q : Unit → Shared → Prop} (F : Fr h₀ L hp m) (N : News h₀ L hp news)
    (h : ∀ h' tk', Fr h₀ L h' (fun y => if y = x then some v else m y) → News h₀ L h' news → Q () ⟨h', gn, dr, tk', os⟩)
    (hk : cs.kind = .function) (hx : (envX cn cs L a ccd cl).kindOf x = some .local) : wpAny M A (storeName (envX cn cs L a ccd cl) x v) Q E ⟨hp, gn, dr, t, os⟩ :=
  storeX_L (s := ⟨hp, gn, dr, t, os⟩) F N (fun h' F' N' => h h' _ F' N') hk hx
theorem pes_flat {env : Env} {es : List Expr} {y : List Value × Nat} (hv : pes env m es t = some y) : (backTo pos (starEach es env)).any (·.1) = false := by
  suffices H : ∀ (es : List Expr) (t : Nat) (y : List Value × Nat), pes env m es t = some y → ∀ q ∈ starEach es env, q.1 = false by
    have G := H es t y hv
    rw [List.any_eq_false]
    intro q hq
    unfold backTo at hq
    simp only [List.mem_map] at hq
    obtain ⟨q', h1, rfl⟩ := hq
    simp [G q' h1]
  intro es
  induction es with
  | nil => intro t y _ q hq; cases hq
  | cons e es ih =>
    intro t y hv q hq
    unfold pes at hv
    split at hv
    · rename_i v t2 he
      split at hv
      · rename_i vs' t3 hes
        rw [pe_plain he] at hq
        rcases List.mem_cons.mp hq with rfl | hq
        · rfl
        · exact ih _ _ hes q hq
      · cases hv
    · cases hv
theorem callK_pe {e₁ : Expr} {rest : List Expr} {f : Value} {vs : List Value} {Q : Value → Shared → Prop} (F : Fr h₀ L hp m) (X : K.In h₀) (T : TopRead p loose mg mb h₀) (e : nsIn K mainGlobals x = some (some f)) (hf : keepIn K f = true)
    (hv : pes (envX cn cs L a ccd cl) m (e₁ :: rest) t = some (vs, t1)) (h : wpAny M A (call f vs) Q E ⟨hp, gn, dr, t1, os⟩)
    (hk : cs.kind = .function) (hx : (envX cn cs L a ccd cl).kindOf x = some .globalImplicit) (hd : (x == ("__debug__" : Str)) = false) :
    wpAny M A (eval (.Call (.Name x pos') (e₁ :: rest) [] pos) (envX cn cs L a ccd cl)) Q E ⟨hp, gn, dr, t, os⟩ := by
  refine Call_ (nameX_K (s := ⟨hp, gn, dr, t, os⟩) F X T e (callWith_K X hf (pes_eval F hv ⟨Frag.In.keeps X F.keep, h⟩ hk) ?_ ?_) hk hx hd)
  · unfold pes at hv
    split at hv
    · rename_i v t2 he
      exact pe_plain he
    · cases hv
  · unfold pes at hv
    split at hv
    · split at hv
      · rename_i hes
        exact pes_flat hes
      · cases hv
    · cases hv
end
end Mine
end
section
set_option maxRecDepth 100000
open PySem PySem.W PySem.Calls PyProof.Rows
set_option Elab.async false
namespace Mine
open Builtin
local macro_rules | `(tactic| walk_at $s:str) => `(tactic| k_extra $s)
local macro_rules | `(tactic| tb_start) => `(tactic| k_extra "tb_start")
local macro_rules | `(tactic| ktr_rel) => `(tactic| k_extra "ktr_rel")
local macro_rules | `(tactic| tb_rel) => `(tactic| k_extra "tb_rel")
local macro_rules | `(tactic| lcg_sub) => `(tactic| k_extra "lcg_sub")
local macro_rules | `(tactic| ktd_rel) => `(tactic| k_extra "ktd_rel")
local macro_rules | `(tactic| k_all) => `(tactic| k_extra "k_all")
local macro_rules | `(tactic| units_room) => `(tactic| k_extra "units_room")
local macro_rules | `(tactic| ktr_unf) => `(tactic| k_extra "ktr_unf")
local macro_rules | `(tactic| lcg_off) => `(tactic| k_extra "lcg_off")
local macro_rules | `(tactic| cell_enter) => `(tactic| k_extra "cell_enter")
local macro_rules | `(tactic| ktr_enter) => `(tactic| k_extra "ktr_enter")
local macro_rules | `(tactic| ktr_room) => `(tactic| k_extra "ktr_room")
local macro_rules | `(tactic| k_ne) => `(tactic| k_extra "k_ne")
local macro_rules | `(tactic| kwd_inv) => `(tactic| k_extra "kwd_inv")
local macro_rules | `(tactic| kwd_rel) => `(tactic| k_extra "kwd_rel")
local macro_rules | `(tactic| kwd_less) => `(tactic| k_extra "kwd_less")
local macro_rules | `(tactic| size_fits) => `(tactic| k_extra "size_fits")
local macro_rules | `(tactic| kpa_ne) => `(tactic| k_extra "kpa_ne")
local macro_rules | `(tactic| kpa_room) => `(tactic| k_extra "kpa_room")
local macro_rules | `(tactic| k_mem) => `(tactic| k_extra "k_mem")
local macro_rules | `(tactic| ks_enter) => `(tactic| k_extra "ks_enter")

noncomputable def cutEnd (p : UInt8 → Bool) (l : List UInt8) : List UInt8 := (l.reverse.dropWhile p).reverse
noncomputable def blank (c : UInt8) : Bool := c == 32 || c == 9 || c == 13 || c == 11 || c == 12
theorem cut_snoc (p : UInt8 → Bool) (l : List UInt8) (c : UInt8) : cutEnd p (l ++ [c]) = if p c then cutEnd p l else l ++ [c] := by
  unfold cutEnd
  rw [List.reverse_append, List.reverse_singleton, List.singleton_append, List.dropWhile_cons]
  split <;> simp
theorem take_pred {l : List UInt8} {k : Int} (h0 : 0 < k) (h1 : k ≤ l.length) : l.take k.toNat = l.take (k - 1).toNat ++ [l.getD (k - 1).toNat 0] := by
  have e := toNatP h0
  have hk : (k - 1).toNat < l.length := toNatPL h0 h1
  rw [e, List.take_add_one, List.getD_eq_getElem?_getD, List.getElem?_eq_getElem hk]
  rfl
theorem blank_any (c : UInt8) : ([32, 9, 13, 11, 12].any fun x : Int => x == ((c.toNat : Nat) : Int)) = blank c := by
  have key : ∀ n : Nat, n < 256 → ([32, 9, 13, 11, 12].any fun x : Int => x == ((n : Nat) : Int)) = blank (UInt8.ofNat n) := by decide +kernel
  have h := key c.toNat c.toNat_lt
  rw [h]
  simp
theorem stCut1 {l : List UInt8} {p : UInt8 → Bool} {k : Int} (ha : 0 ≤ k) (hb : k ≤ (l.length : Int)) (hc : cutEnd p (l.take k.toNat) = cutEnd p l) (h2 : 0 < k) (h3 : p (l.getD (k - 1).toNat 0) = true) :
    0 ≤ k - 1 ∧ k - 1 ≤ (l.length : Int) ∧ cutEnd p (l.take (k - 1).toNat) = cutEnd p l := by
  refine ⟨by omega, by omega, ?_⟩
  rw [← hc, take_pred h2 hb, cut_snoc, if_pos h3]
theorem stCut0 {l : List UInt8} {p : UInt8 → Bool} : (0 : Int) ≤ (l.length : Nat) ∧ ((l.length : Nat) : Int) ≤ (l.length : Int) ∧ cutEnd p (l.take ((l.length : Nat) : Int).toNat) = cutEnd p l := by simp
theorem clip_in {n : Nat} {k : Int} (h0 : 0 ≤ k) (h1 : k ≤ n) : clipAt n k = k.toNat := by
  obtain ⟨j, rfl⟩ := Int.eq_ofNat_of_zero_le h0
  rw [clipAt_nat]
  have : ((j : Int)).toNat = j := by simp
  rw [this]; omega
theorem sl_to {l : List UInt8} {k : Int} (h0 : 0 ≤ k) (h1 : k ≤ l.length) : sl l none (some k) = l.take k.toNat := by
  unfold sl
  simp only [Option.elim]
  rw [clip_in h0 h1]
  simp
theorem cut_done0 {l : List UInt8} {p : UInt8 → Bool} {k : Int} (ha : 0 ≤ k) (hb : k ≤ (l.length : Int)) (hc : cutEnd p (l.take k.toNat) = cutEnd p l) (h2 : ¬ 0 < k) : sl l none (some k) = cutEnd p l := by
  rw [sl_to ha hb, ← hc]
  have : k = 0 := by omega
  subst this
  simp [cutEnd]
theorem cut_done1 {l : List UInt8} {p : UInt8 → Bool} {k : Int} (ha : 0 ≤ k) (hb : k ≤ (l.length : Int)) (hc : cutEnd p (l.take k.toNat) = cutEnd p l) (h2 : 0 < k) (h3 : p (l.getD (k - 1).toNat 0) = false) : sl l none (some k) = cutEnd p l := by
  rw [sl_to ha hb, ← hc, take_pred h2 hb, cut_snoc, h3]
  simp
set_option maxHeartbeats 8000000 in
theorem con_law_cut (w : World) (led : List (Addr × Obj)) (l : List UInt8) (t : Tok) (hl : l.length ≤ 100000) : Con w 375 1 8 led [.bytes l.toArray t] (PBytes led (cutEnd blank l)) := by
  refine conOf ?_
  k_fill
  intro dp un gd cn cs a ccd cl outer A₀ base h₀ L m hp gn dr tk os Q E p loose mean mg mb B F X N T hk hd hu hret
  k_with_none
  k_with "tb_start" => (
      first
      | (refine' Nat.le_trans ?zqq1 (Nat.le_of_ble_eq_true ?zqq2); (case zqq1 => with_reducible assumption); (case zqq2 => exact rfl))
      | omega
      | (simp only [List.length_append, List.length_cons, List.length_nil, List.length_map, List.length_take, List.length_drop]; omega)
      | ((try simp only [List.length_append, List.length_cons, List.length_nil]); (first | refine Nat.le_trans (sl_length _ _) ?_ | skip); omega)
      | fail "size")
  k_with "call builtin:len" => ((k_here; (with_reducible show wpAny _ _ (call (Value.builtin "len") [Value.bytes (List.toArray _) _]) _ _ _); (refine lenB (by tb_start) ?_); intro _ _))
  k_with "subscriptTail" => ((k_here; (with_reducible show wpAny _ _ (subscriptTail _ _ (Value.bytes (List.toArray _) _) (Value.int _ _)) _ _ _); (first | refine itemB (hs := by with_unfolding_all rfl) (ht := by intro _; with_unfolding_all rfl) (by tb_start) (by omega) (by omega) ?_ | refine itemNegB (hs := by with_unfolding_all rfl) (ht := by intro _; with_unfolding_all rfl) (by tb_start) (by omega) (by omega) ?_); intro _ _))
  k_with "subscriptTail" => ((k_here; (with_reducible show wpAny _ _ (subscriptTail _ (Expr.Slice _ _ none _) (Value.bytes (List.toArray _) _) (Value.ref _)) _ _ _); (with_reducible rename Fr _ _ _ _ => F'); (with_reducible rename News _ _ _ _ => N'); (refine sliceB (hs := by with_unfolding_all rfl) (ht := by intro _; with_unfolding_all rfl) (s := ⟨_, _, _, _, _⟩) F' N' (by constructor) (by constructor) (by tb_start) ?_); intro _ _ _ _ _))
  k_with "ktr_rel" => (
      (intro cbp cbh; first
      | exact cbh
      | exact List.mem_cons_of_mem _ cbh
      | exact List.mem_cons_of_mem _ (List.mem_cons_of_mem _ cbh)
      | (simp only [List.mem_cons, List.mem_append] at cbh ⊢; first | exact cbh | (simp [cbh]; done) | grind)
      | grind))
  k_with "tb_rel" => (
      first
      | assumption
      | (refine' News.dr1 ?zqcbN; (case zqcbN => assumption))
      | (refine' News.dr2 ?zqcbN; (case zqcbN => assumption))
      | (refine' News.dr3 ?zqcbN; (case zqcbN => assumption))
      | (refine' News.dr4 ?zqcbN; (case zqcbN => assumption))
      | (refine' News.dr5 ?zqcbN; (case zqcbN => assumption))
      | (refine' News.dr6 ?zqcbN; (case zqcbN => assumption))
      | (refine' cb_drop ?zqcbN ?zqcbS; (case zqcbN => assumption); (case zqcbS => ktr_rel)))
  k_with "KswEnd" => (((rename News _ _ _ _ => nE'); (try simp only [List.push_toArray] at nE'); (first | refine' ksw_end5 ?zqz0 nE' ?zqz1 ?zqz2 ?zqz3 ?zqz4 ?zqz5 ?zqz6 | refine' ksw_end4 ?zqz0 nE' ?zqz1 ?zqz2 ?zqz3 ?zqz4 ?zqz5 ?zqz6 | refine' ksw_end3 ?zqz0 nE' ?zqz1 ?zqz2 ?zqz3 ?zqz4 ?zqz5 ?zqz6 | refine' ksw_end2 ?zqz0 nE' ?zqz1 ?zqz2 ?zqz3 ?zqz4 ?zqz5 ?zqz6); (case zqz0 => assumption); (case zqz3 => kst_all); (case zqz1 => first | kst_in | lcg_sub); (case zqz2 => kst_facts); (case zqz4 => ksw_same); (case zqz5 => kst_p); (case zqz6 => ksw_less)))
  k_with "ktd_rel" => ((refine' hret _ _ _ _ (pBe ?zqe0) ?zqe1 ?zqe2; (case zqe1 => assumption); (case zqe2 => tb_rel); (case zqe0 => kwd_rel)))
  k_with "cell_enter" => ((refine' code_def ?zqk1 ?zqk2 ?zqk3 ?zqk4 ?zqk5 ?zqkA ?zqkF ?zqkK ?zqk6 ?zqk7 ?zqk8 ?zqk9 ?zqkB ?_ ?zqc2 ?zqc3 ?zqc4 ?zqc5; (case zqkA => exact rfl); (case zqkF => exact rfl); (case zqkK => assumption); (case zqk1 => k_asm); (case zqk2 => k_asm); (case zqk3 => k_asm); (case zqk4 => k_asm); (case zqk5 => k_asm); (case zqk6 => k_is); (case zqk7 => k_is); (case zqk8 => ktr_room); (case zqk9 => first | exact BindsTo.of_eq rfl | exact binds_K (by k_in) rfl (by k_is) rfl rfl rfl); (case zqc5 => decide); (case zqkB => exact locs rfl); (case zqc2 => exact rfl); (case zqc3 => exact rfl); (case zqc4 => exact rfl); k_whole; intro g' L' h' FG' F' N' B' X' T'; (try dsimp only); (try k_lift B'); (try k_fold)))
  k_with "k_ne" => ((refine neN ?_; (try dsimp only); first | (refine' neLt ?zqcbh ?zqcbk; (case zqcbh => with_reducible assumption); (case zqcbk => (intro cbz; repeat (first | exact cbz.1 | replace cbz := cbz.2)))) | (refine' neGt ?zqcbh ?zqcbk; (case zqcbh => with_reducible assumption); (case zqcbk => (intro cbz; repeat (first | exact cbz.1 | replace cbz := cbz.2)))) | omega))
  k_with "spliced" => ((k_here; k_dflt (refine' pes_eval ?zqcbF ?zqcbv ?_ ?zqcba; (case zqcbF => k_asm); (case zqcba => rfl); (case zqcbv => exact Eq.refl (some (_, _))); k_whole); (try dsimp only [List.cons_append, List.nil_append])))
  k_with "eval BinOp" => ((k_here; k_dflt (refine' binop_pe ?zqcbF ?zqcbv ?zqcbw ?_ ?zqcba; (case zqcbF => k_asm); (case zqcba => rfl); (case zqcbv => exact Eq.refl (some (_, _))); (case zqcbw => exact Eq.refl (some (_, _))); k_whole)))
  k_with "isTrue Compare" => ((k_here; k_dflt (refine' cmp_pe (hm := by with_unfolding_all rfl) ?zqcbF ?zqcbv ?zqcbw ?_ ?zqcba; (case zqcbF => k_asm); (case zqcba => rfl); (case zqcbv => exact Eq.refl (some (_, _))); (case zqcbw => exact Eq.refl (some (_, _))); k_whole)))
  k_with "eval Slice" => ((k_here; k_dflt (refine' slice_pe ?zqcbF ?zqcbu ?zqcbv ?zqcbw ?_ ?zqcba; (case zqcbF => k_asm); (case zqcba => rfl); (case zqcbu => exact Eq.refl (some (_, _))); (case zqcbv => exact Eq.refl (some (_, _))); (case zqcbw => exact Eq.refl (some (_, _))); k_whole)))
  k_with "eval Name" => ((k_here; k_dflt (refine' nameX_L ?zqcbF ?zqcbv ?_ ?zqcba ?zqcbb; (case zqcbF => k_asm); (case zqcba => rfl); (case zqcbb => rfl); (case zqcbv => exact Eq.refl (some _)); k_whole)))
  k_with "storeName" => ((k_here; k_dflt (refine' storeL ?zqcbF ?zqcbN ?_ ?zqcba ?zqcbb; (case zqcbF => k_asm); (case zqcbN => k_asm); (case zqcba => rfl); (case zqcbb => rfl); k_whole); intro _ _ _ _; (try k_sweep)))
  k_with "kwd_inv" => (
      first
      | exact stCut0
      | (refine' stCut1 ?zqq1 ?zqq2 ?zqq3 ?zqq4 ?zqq5; (case zqq1 => assumption); (case zqq2 => assumption); (case zqq3 => assumption); (case zqq4 => assumption); (case zqq5 => first | assumption | (rw [← blank_any]; assumption))))
  k_with "kwd_rel" => (
      first
      | (refine' cut_done0 ?zqq1 ?zqq2 ?zqq3 ?zqq4; (case zqq1 => assumption); (case zqq2 => assumption); (case zqq3 => assumption); (case zqq4 => assumption))
      | (refine' cut_done1 ?zqq1 ?zqq2 ?zqq3 ?zqq4 ?zqq5; (case zqq1 => assumption); (case zqq2 => assumption); (case zqq3 => assumption); (case zqq4 => assumption); (case zqq5 => first | assumption | (rw [← blank_any]; assumption))))
  k_with "exec While BoolOp cons nil" => k_while (fun _ k => 0 ≤ k ∧ k ≤ (l.length : Int) ∧ cutEnd blank (l.take k.toNat) = cutEnd blank l) (fun _ k => k.toNat) "many"
  k_with "state" => kwd_inv
  k_with "measure" => first | (refine' mUp ?x ?y; (case x => assumption); (case y => assumption)) | (refine' mDn ?x; (case x => assumption)) | (refine' mDs ?x ?y; (case x => assumption); (case y => assumption))
  w_strict (
    refine wpAny_call ?_
    k_dflt cell_enter
    k_steps
    all_goals ktd_rel)
set_option maxHeartbeats 8000000 in
theorem con_cut_end (w : World) (led : List (Addr × Obj)) (l sg : List UInt8) (t u : Tok) (hl : l.length ≤ 100000) : Con w 132 1 8 led [.bytes l.toArray t, .bytes sg.toArray u] (PBytes led (cutEnd sg.contains l)) := by
  refine conOf ?_
  k_fill
  intro dp un gd cn cs a ccd cl outer A₀ base h₀ L m hp gn dr tk os Q E p loose mean mg mb B F X N T hk hd hu hret
  k_with_none
  k_with "tb_start" => (
      first
      | (refine' Nat.le_trans ?zqq1 (Nat.le_of_ble_eq_true ?zqq2); (case zqq1 => with_reducible assumption); (case zqq2 => exact rfl))
      | omega
      | (simp only [List.length_append, List.length_cons, List.length_nil, List.length_map, List.length_take, List.length_drop]; omega)
      | ((try simp only [List.length_append, List.length_cons, List.length_nil]); (first | refine Nat.le_trans (sl_length _ _) ?_ | skip); omega)
      | fail "size")
  k_with "call builtin:len" => ((k_here; (with_reducible show wpAny _ _ (call (Value.builtin "len") [Value.bytes (List.toArray _) _]) _ _ _); (refine lenB (by tb_start) ?_); intro _ _))
  k_with "compareOp In" => ((k_here; (with_reducible show wpAny _ _ (compareOp CmpOp.In (Value.int (Nat.cast (UInt8.toNat _)) _) (Value.bytes (List.toArray _) _)) _ _ _); (refine inB ?_)))
  k_with "subscriptTail" => ((k_here; (with_reducible show wpAny _ _ (subscriptTail _ _ (Value.bytes (List.toArray _) _) (Value.int _ _)) _ _ _); (first | refine itemB (hs := by with_unfolding_all rfl) (ht := by intro _; with_unfolding_all rfl) (by tb_start) (by omega) (by omega) ?_ | refine itemNegB (hs := by with_unfolding_all rfl) (ht := by intro _; with_unfolding_all rfl) (by tb_start) (by omega) (by omega) ?_); intro _ _))
  k_with "subscriptTail" => ((k_here; (with_reducible show wpAny _ _ (subscriptTail _ (Expr.Slice _ _ none _) (Value.bytes (List.toArray _) _) (Value.ref _)) _ _ _); (with_reducible rename Fr _ _ _ _ => F'); (with_reducible rename News _ _ _ _ => N'); (refine sliceB (hs := by with_unfolding_all rfl) (ht := by intro _; with_unfolding_all rfl) (s := ⟨_, _, _, _, _⟩) F' N' (by constructor) (by constructor) (by tb_start) ?_); intro _ _ _ _ _))
  k_with "tb_rel" => (
      first
      | assumption
      | (refine' News.dr1 ?zqcbN; (case zqcbN => assumption))
      | (refine' News.dr2 ?zqcbN; (case zqcbN => assumption))
      | (refine' News.dr3 ?zqcbN; (case zqcbN => assumption))
      | (refine' News.dr4 ?zqcbN; (case zqcbN => assumption))
      | (refine' News.dr5 ?zqcbN; (case zqcbN => assumption))
      | (refine' News.dr6 ?zqcbN; (case zqcbN => assumption))
      | (refine' cb_drop ?zqcbN ?zqcbS; (case zqcbN => assumption); (case zqcbS => ktr_rel)))
  k_with "KswEnd" => (((rename News _ _ _ _ => nE'); (try simp only [List.push_toArray] at nE'); (first | refine' ksw_end5 ?zqz0 nE' ?zqz1 ?zqz2 ?zqz3 ?zqz4 ?zqz5 ?zqz6 | refine' ksw_end4 ?zqz0 nE' ?zqz1 ?zqz2 ?zqz3 ?zqz4 ?zqz5 ?zqz6 | refine' ksw_end3 ?zqz0 nE' ?zqz1 ?zqz2 ?zqz3 ?zqz4 ?zqz5 ?zqz6 | refine' ksw_end2 ?zqz0 nE' ?zqz1 ?zqz2 ?zqz3 ?zqz4 ?zqz5 ?zqz6); (case zqz0 => assumption); (case zqz3 => kst_all); (case zqz1 => first | kst_in | lcg_sub); (case zqz2 => kst_facts); (case zqz4 => ksw_same); (case zqz5 => kst_p); (case zqz6 => ksw_less)))
  k_with "ktd_rel" => ((refine' hret _ _ _ _ (pBe ?zqe0) ?zqe1 ?zqe2; (case zqe1 => assumption); (case zqe2 => tb_rel); (case zqe0 => kwd_rel)))
  k_with "cell_enter" => ((refine' code_def ?zqk1 ?zqk2 ?zqk3 ?zqk4 ?zqk5 ?zqkA ?zqkF ?zqkK ?zqk6 ?zqk7 ?zqk8 ?zqk9 ?zqkB ?_ ?zqc2 ?zqc3 ?zqc4 ?zqc5; (case zqkA => exact rfl); (case zqkF => exact rfl); (case zqkK => assumption); (case zqk1 => k_asm); (case zqk2 => k_asm); (case zqk3 => k_asm); (case zqk4 => k_asm); (case zqk5 => k_asm); (case zqk6 => k_is); (case zqk7 => k_is); (case zqk8 => ktr_room); (case zqk9 => first | exact BindsTo.of_eq rfl | exact binds_K (by k_in) rfl (by k_is) rfl rfl rfl); (case zqc5 => decide); (case zqkB => exact locs rfl); (case zqc2 => exact rfl); (case zqc3 => exact rfl); (case zqc4 => exact rfl); k_whole; intro g' L' h' FG' F' N' B' X' T'; (try dsimp only); (try k_lift B'); (try k_fold)))
  k_with "k_ne" => ((refine neN ?_; (try dsimp only); first | (refine' neLt ?zqcbh ?zqcbk; (case zqcbh => with_reducible assumption); (case zqcbk => (intro cbz; repeat (first | exact cbz.1 | replace cbz := cbz.2)))) | (refine' neGt ?zqcbh ?zqcbk; (case zqcbh => with_reducible assumption); (case zqcbk => (intro cbz; repeat (first | exact cbz.1 | replace cbz := cbz.2)))) | omega))
  k_with "spliced" => ((k_here; k_dflt (refine' pes_eval ?zqcbF ?zqcbv ?_ ?zqcba; (case zqcbF => k_asm); (case zqcba => rfl); (case zqcbv => exact Eq.refl (some (_, _))); k_whole); (try dsimp only [List.cons_append, List.nil_append])))
  k_with "eval BinOp" => ((k_here; k_dflt (refine' binop_pe ?zqcbF ?zqcbv ?zqcbw ?_ ?zqcba; (case zqcbF => k_asm); (case zqcba => rfl); (case zqcbv => exact Eq.refl (some (_, _))); (case zqcbw => exact Eq.refl (some (_, _))); k_whole)))
  k_with "isTrue Compare" => ((k_here; k_dflt (refine' cmp_pe (hm := by with_unfolding_all rfl) ?zqcbF ?zqcbv ?zqcbw ?_ ?zqcba; (case zqcbF => k_asm); (case zqcba => rfl); (case zqcbv => exact Eq.refl (some (_, _))); (case zqcbw => exact Eq.refl (some (_, _))); k_whole)))
  k_with "eval Slice" => ((k_here; k_dflt (refine' slice_pe ?zqcbF ?zqcbu ?zqcbv ?zqcbw ?_ ?zqcba; (case zqcbF => k_asm); (case zqcba => rfl); (case zqcbu => exact Eq.refl (some (_, _))); (case zqcbv => exact Eq.refl (some (_, _))); (case zqcbw => exact Eq.refl (some (_, _))); k_whole)))
  k_with "eval Name" => ((k_here; k_dflt (refine' nameX_L ?zqcbF ?zqcbv ?_ ?zqcba ?zqcbb; (case zqcbF => k_asm); (case zqcba => rfl); (case zqcbb => rfl); (case zqcbv => exact Eq.refl (some _)); k_whole)))
  k_with "storeName" => ((k_here; k_dflt (refine' storeL ?zqcbF ?zqcbN ?_ ?zqcba ?zqcbb; (case zqcbF => k_asm); (case zqcbN => k_asm); (case zqcba => rfl); (case zqcbb => rfl); k_whole); intro _ _ _ _; (try k_sweep)))
  k_with "kwd_inv" => (
      first
      | exact stCut0
      | (refine' stCut1 ?zqq1 ?zqq2 ?zqq3 ?zqq4 ?zqq5; (case zqq1 => assumption); (case zqq2 => assumption); (case zqq3 => assumption); (case zqq4 => assumption); (case zqq5 => first | assumption | (rw [← blank_any]; assumption))))
  k_with "kwd_rel" => (
      first
      | (refine' cut_done0 ?zqq1 ?zqq2 ?zqq3 ?zqq4; (case zqq1 => assumption); (case zqq2 => assumption); (case zqq3 => assumption); (case zqq4 => assumption))
      | (refine' cut_done1 ?zqq1 ?zqq2 ?zqq3 ?zqq4 ?zqq5; (case zqq1 => assumption); (case zqq2 => assumption); (case zqq3 => assumption); (case zqq4 => assumption); (case zqq5 => first | assumption | (rw [← blank_any]; assumption))))
  k_with "exec While BoolOp cons nil" => k_while (fun _ k => 0 ≤ k ∧ k ≤ (l.length : Int) ∧ cutEnd sg.contains (l.take k.toNat) = cutEnd sg.contains l) (fun _ k => k.toNat) "end"
  k_with "state" => kwd_inv
  k_with "measure" => first | (refine' mUp ?x ?y; (case x => assumption); (case y => assumption)) | (refine' mDn ?x; (case x => assumption)) | (refine' mDs ?x ?y; (case x => assumption); (case y => assumption))
  w_strict (
    refine wpAny_call ?_
    k_dflt cell_enter
    k_steps
    all_goals first | ktd_rel | trace_state)
noncomputable def trimB (p : UInt8 → Bool) (l : List UInt8) : List UInt8 := cutEnd p (l.dropWhile p)
theorem drop_succ' {l : List UInt8} {k : Int} (h0 : 0 ≤ k) (h1 : k < l.length) : l.drop k.toNat = l.getD k.toNat 0 :: l.drop (k + 1).toNat := by
  have e := toNatS h0
  have hk : k.toNat < l.length := toNatL h0 h1
  rw [e, List.drop_eq_getElem_cons hk, List.getD_eq_getElem?_getD, List.getElem?_eq_getElem hk]
  rfl
theorem stTr0 {p : UInt8 → Bool} {l : List UInt8} : (0 : Int) ≤ 0 ∧ (0 : Int) ≤ (l.length : Int) ∧ (l.drop (0 : Int).toNat).dropWhile p = l.dropWhile p := by simp
theorem stTr1 {p : UInt8 → Bool} {l : List UInt8} {k : Int} (h0 : 0 ≤ k) (_h1 : k ≤ (l.length : Int)) (hc : (l.drop k.toNat).dropWhile p = l.dropWhile p) (h2 : k < l.length) (h3 : p (l.getD k.toNat 0) = true) :
    0 ≤ k + 1 ∧ k + 1 ≤ (l.length : Int) ∧ (l.drop (k + 1).toNat).dropWhile p = l.dropWhile p := by
  refine ⟨by omega, by omega, ?_⟩
  rw [← hc, drop_succ' h0 h2, List.dropWhile_cons, if_pos h3]
theorem trDone0 {p : UInt8 → Bool} {l : List UInt8} {k : Int} (h1 : k ≤ (l.length : Int)) (hc : (l.drop k.toNat).dropWhile p = l.dropWhile p) (h2 : ¬ k < l.length) : l.drop k.toNat = l.dropWhile p := by
  rw [← hc]
  have : k = l.length := by omega
  subst this
  simp
theorem trDone1 {p : UInt8 → Bool} {l : List UInt8} {k : Int} (h0 : 0 ≤ k) (hc : (l.drop k.toNat).dropWhile p = l.dropWhile p) (h2 : k < l.length) (h3 : p (l.getD k.toNat 0) = false) : l.drop k.toNat = l.dropWhile p := by
  rw [← hc, drop_succ' h0 h2, List.dropWhile_cons, h3]
  simp
theorem stTe0 {p : UInt8 → Bool} {l : List UInt8} {st : Int} (h0 : 0 ≤ st) (h1 : st ≤ (l.length : Int)) :
    0 ≤ st ∧ st ≤ ((l.length : Nat) : Int) ∧ ((l.length : Nat) : Int) ≤ (l.length : Int) ∧ cutEnd p ((l.drop st.toNat).take (((l.length : Nat) : Int).toNat - st.toNat)) = cutEnd p (l.drop st.toNat) := by
  refine ⟨h0, h1, by omega, ?_⟩
  rw [List.take_of_length_le (by simp)]
theorem take_in {l : List UInt8} {st k : Int} (h0 : 0 ≤ st) (h1 : st < k) (h2 : k ≤ l.length) :
    (l.drop st.toNat).take (k.toNat - st.toNat) = (l.drop st.toNat).take ((k - 1).toNat - st.toNat) ++ [l.getD (k - 1).toNat 0] := by
  have p : 0 < k := Int.lt_of_le_of_lt h0 h1
  have hk2 := toNatPL p h2
  rw [toNatP p]
  have hs : st.toNat ≤ (k - 1).toNat := by
    obtain ⟨i, rfl⟩ := Int.eq_ofNat_of_zero_le h0
    obtain ⟨d, rfl⟩ := Int.lt.dest h1
    show i ≤ (((i + d : Nat) : Int) + 1 - 1).toNat
    rw [Int.add_sub_cancel]; exact Nat.le_add_right _ _
  obtain ⟨d, e⟩ := Nat.exists_eq_add_of_le hs
  rw [e, Nat.add_assoc, Nat.add_sub_cancel_left, Nat.add_sub_cancel_left, List.take_add_one, List.getElem?_drop, ← e, List.getD_eq_getElem?_getD, List.getElem?_eq_getElem hk2]
  rfl
theorem stTe1 {p : UInt8 → Bool} {l : List UInt8} {st k : Int} (h0 : 0 ≤ st) (h1 : st ≤ k) (h2 : k ≤ (l.length : Int)) (hc : cutEnd p ((l.drop st.toNat).take (k.toNat - st.toNat)) = cutEnd p (l.drop st.toNat)) (h3 : st < k) (h4 : p (l.getD (k - 1).toNat 0) = true) :
    0 ≤ st ∧ st ≤ k - 1 ∧ k - 1 ≤ (l.length : Int) ∧ cutEnd p ((l.drop st.toNat).take ((k - 1).toNat - st.toNat)) = cutEnd p (l.drop st.toNat) := by
  refine ⟨h0, by omega, by omega, ?_⟩
  rw [← hc, take_in h0 h3 h2, cut_snoc, if_pos h4]
theorem sl_two {l : List UInt8} {st k : Int} (h0 : 0 ≤ st) (h1 : st ≤ k) (h2 : k ≤ l.length) : sl l (some st) (some k) = (l.drop st.toNat).take (k.toNat - st.toNat) := by
  unfold sl
  simp only [Option.elim]
  rw [clip_in h0 (by omega), clip_in (by omega) h2]
theorem trEnd0 {p : UInt8 → Bool} {l : List UInt8} {st k : Int} (h0 : 0 ≤ st) (h1 : st ≤ k) (h2 : k ≤ (l.length : Int)) (hc : cutEnd p ((l.drop st.toNat).take (k.toNat - st.toNat)) = cutEnd p (l.drop st.toNat)) (h3 : ¬ st < k) (hd : l.drop st.toNat = l.dropWhile p) :
    sl l (some st) (some k) = trimB p l := by
  rw [sl_two h0 h1 h2]
  unfold trimB
  rw [← hd, ← hc]
  have : k = st := by omega
  subst this
  simp [cutEnd]
theorem trEnd1 {p : UInt8 → Bool} {l : List UInt8} {st k : Int} (h0 : 0 ≤ st) (h1 : st ≤ k) (h2 : k ≤ (l.length : Int)) (hc : cutEnd p ((l.drop st.toNat).take (k.toNat - st.toNat)) = cutEnd p (l.drop st.toNat)) (h3 : st < k) (h4 : p (l.getD (k - 1).toNat 0) = false) (hd : l.drop st.toNat = l.dropWhile p) :
    sl l (some st) (some k) = trimB p l := by
  rw [sl_two h0 h1 h2]
  unfold trimB
  rw [← hd, ← hc, take_in h0 h3 h2, cut_snoc, h4]
  simp
set_option maxHeartbeats 8000000 in
theorem con_trimmed (w : World) (led : List (Addr × Obj)) (l sg : List UInt8) (t u : Tok) (hl : l.length ≤ 100000) : Con w 125 1 8 led [.bytes l.toArray t, .bytes sg.toArray u] (PBytes led (trimB sg.contains l)) := by
  refine conOf ?_
  k_fill
  intro dp un gd cn cs a ccd cl outer A₀ base h₀ L m hp gn dr tk os Q E p loose mean mg mb B F X N T hk hd hu hret
  k_with_none
  k_with "tb_start" => (
      first
      | (refine' Nat.le_trans ?zqq1 (Nat.le_of_ble_eq_true ?zqq2); (case zqq1 => with_reducible assumption); (case zqq2 => exact rfl))
      | omega
      | (simp only [List.length_append, List.length_cons, List.length_nil, List.length_map, List.length_take, List.length_drop]; omega)
      | ((try simp only [List.length_append, List.length_cons, List.length_nil]); (first | refine Nat.le_trans (sl_length _ _) ?_ | skip); omega)
      | fail "size")
  k_with "call builtin:len" => ((k_here; (with_reducible show wpAny _ _ (call (Value.builtin "len") [Value.bytes (List.toArray _) _]) _ _ _); (refine lenB (by tb_start) ?_); intro _ _))
  k_with "compareOp In" => ((k_here; (with_reducible show wpAny _ _ (compareOp CmpOp.In (Value.int (Nat.cast (UInt8.toNat _)) _) (Value.bytes (List.toArray _) _)) _ _ _); (refine inB ?_)))
  k_with "subscriptTail" => ((k_here; (with_reducible show wpAny _ _ (subscriptTail _ _ (Value.bytes (List.toArray _) _) (Value.int _ _)) _ _ _); (first | refine itemB (hs := by with_unfolding_all rfl) (ht := by intro _; with_unfolding_all rfl) (by tb_start) (by omega) (by omega) ?_ | refine itemNegB (hs := by with_unfolding_all rfl) (ht := by intro _; with_unfolding_all rfl) (by tb_start) (by omega) (by omega) ?_); intro _ _))
  k_with "subscriptTail" => ((k_here; (with_reducible show wpAny _ _ (subscriptTail _ (Expr.Slice _ _ none _) (Value.bytes (List.toArray _) _) (Value.ref _)) _ _ _); (with_reducible rename Fr _ _ _ _ => F'); (with_reducible rename News _ _ _ _ => N'); (refine sliceB (hs := by with_unfolding_all rfl) (ht := by intro _; with_unfolding_all rfl) (s := ⟨_, _, _, _, _⟩) F' N' (by constructor) (by constructor) (by tb_start) ?_); intro _ _ _ _ _))
  k_with "ktr_rel" => (
      (intro cbp cbh; first
      | exact cbh
      | exact List.mem_cons_of_mem _ cbh
      | exact List.mem_cons_of_mem _ (List.mem_cons_of_mem _ cbh)
      | (simp only [List.mem_cons, List.mem_append] at cbh ⊢; first | exact cbh | (simp [cbh]; done) | grind)
      | grind))
  k_with "tb_rel" => (
      first
      | assumption
      | (refine' News.dr1 ?zqcbN; (case zqcbN => assumption))
      | (refine' News.dr2 ?zqcbN; (case zqcbN => assumption))
      | (refine' News.dr3 ?zqcbN; (case zqcbN => assumption))
      | (refine' News.dr4 ?zqcbN; (case zqcbN => assumption))
      | (refine' News.dr5 ?zqcbN; (case zqcbN => assumption))
      | (refine' News.dr6 ?zqcbN; (case zqcbN => assumption))
      | (refine' cb_drop ?zqcbN ?zqcbS; (case zqcbN => assumption); (case zqcbS => ktr_rel)))
  k_with "KswEnd" => (((rename News _ _ _ _ => nE'); (try simp only [List.push_toArray] at nE'); (first | refine' ksw_end5 ?zqz0 nE' ?zqz1 ?zqz2 ?zqz3 ?zqz4 ?zqz5 ?zqz6 | refine' ksw_end4 ?zqz0 nE' ?zqz1 ?zqz2 ?zqz3 ?zqz4 ?zqz5 ?zqz6 | refine' ksw_end3 ?zqz0 nE' ?zqz1 ?zqz2 ?zqz3 ?zqz4 ?zqz5 ?zqz6 | refine' ksw_end2 ?zqz0 nE' ?zqz1 ?zqz2 ?zqz3 ?zqz4 ?zqz5 ?zqz6); (case zqz0 => assumption); (case zqz3 => kst_all); (case zqz1 => first | kst_in | lcg_sub); (case zqz2 => kst_facts); (case zqz4 => ksw_same); (case zqz5 => kst_p); (case zqz6 => ksw_less)))
  k_with "ktd_rel" => ((refine' hret _ _ _ _ (pBe ?zqe0) ?zqe1 ?zqe2; (case zqe1 => assumption); (case zqe2 => tb_rel); (case zqe0 => kwd_rel)))
  k_with "cell_enter" => ((refine' code_def ?zqk1 ?zqk2 ?zqk3 ?zqk4 ?zqk5 ?zqkA ?zqkF ?zqkK ?zqk6 ?zqk7 ?zqk8 ?zqk9 ?zqkB ?_ ?zqc2 ?zqc3 ?zqc4 ?zqc5; (case zqkA => exact rfl); (case zqkF => exact rfl); (case zqkK => assumption); (case zqk1 => k_asm); (case zqk2 => k_asm); (case zqk3 => k_asm); (case zqk4 => k_asm); (case zqk5 => k_asm); (case zqk6 => k_is); (case zqk7 => k_is); (case zqk8 => ktr_room); (case zqk9 => first | exact BindsTo.of_eq rfl | exact binds_K (by k_in) rfl (by k_is) rfl rfl rfl); (case zqc5 => decide); (case zqkB => exact locs rfl); (case zqc2 => exact rfl); (case zqc3 => exact rfl); (case zqc4 => exact rfl); k_whole; intro g' L' h' FG' F' N' B' X' T'; (try dsimp only); (try k_lift B'); (try k_fold)))
  k_with "k_ne" => ((refine neN ?_; (try dsimp only); first | (refine' neLt ?zqcbh ?zqcbk; (case zqcbh => with_reducible assumption); (case zqcbk => (intro cbz; repeat (first | exact cbz.1 | replace cbz := cbz.2)))) | (refine' neGt ?zqcbh ?zqcbk; (case zqcbh => with_reducible assumption); (case zqcbk => (intro cbz; repeat (first | exact cbz.1 | replace cbz := cbz.2)))) | omega))
  k_with "spliced" => ((k_here; k_dflt (refine' pes_eval ?zqcbF ?zqcbv ?_ ?zqcba; (case zqcbF => k_asm); (case zqcba => rfl); (case zqcbv => exact Eq.refl (some (_, _))); k_whole); (try dsimp only [List.cons_append, List.nil_append])))
  k_with "eval BinOp" => ((k_here; k_dflt (refine' binop_pe ?zqcbF ?zqcbv ?zqcbw ?_ ?zqcba; (case zqcbF => k_asm); (case zqcba => rfl); (case zqcbv => exact Eq.refl (some (_, _))); (case zqcbw => exact Eq.refl (some (_, _))); k_whole)))
  k_with "isTrue Compare" => ((k_here; k_dflt (refine' cmp_pe (hm := by with_unfolding_all rfl) ?zqcbF ?zqcbv ?zqcbw ?_ ?zqcba; (case zqcbF => k_asm); (case zqcba => rfl); (case zqcbv => exact Eq.refl (some (_, _))); (case zqcbw => exact Eq.refl (some (_, _))); k_whole)))
  k_with "eval Subscript" => ((k_here; k_dflt (refine' sub_pe ?zqcbF ?zqcbv ?zqcbw ?_ ?zqcba; (case zqcbF => k_asm); (case zqcba => rfl); (case zqcbv => exact Eq.refl (some (_, _))); (case zqcbw => exact Eq.refl (some (_, _))); k_whole)))
  k_with "eval Slice" => ((k_here; k_dflt (refine' slice_pe ?zqcbF ?zqcbu ?zqcbv ?zqcbw ?_ ?zqcba; (case zqcbF => k_asm); (case zqcba => rfl); (case zqcbu => exact Eq.refl (some (_, _))); (case zqcbv => exact Eq.refl (some (_, _))); (case zqcbw => exact Eq.refl (some (_, _))); k_whole)))
  k_with "eval Name" => ((k_here; k_dflt (refine' nameX_L ?zqcbF ?zqcbv ?_ ?zqcba ?zqcbb; (case zqcbF => k_asm); (case zqcba => rfl); (case zqcbb => rfl); (case zqcbv => exact Eq.refl (some _)); k_whole)))
  k_with "storeName" => ((k_here; k_dflt (refine' storeL ?zqcbF ?zqcbN ?_ ?zqcba ?zqcbb; (case zqcbF => k_asm); (case zqcbN => k_asm); (case zqcba => rfl); (case zqcbb => rfl); k_whole); intro _ _ _ _; (try k_sweep)))
  k_with "kwd_inv" => (
      first
      | exact stTr0
      | (refine' stTr1 ?_ ?_ ?_ ?_ ?_ <;> assumption)
      | (refine' stTe0 ?_ ?_ <;> assumption)
      | (refine' stTe1 ?_ ?_ ?_ ?_ ?_ ?_ <;> first | assumption | omega))
  k_with "kwd_less" => (
      first
      | (refine' trDone0 ?_ ?_ ?_ <;> assumption)
      | (refine' trDone1 ?_ ?_ ?_ ?_ <;> assumption))
  k_with "kwd_rel" => (
      first
      | (refine' trEnd0 ?_ ?_ ?_ ?_ ?_ ?_ <;> first | assumption | omega | kwd_less)
      | (refine' trEnd1 ?_ ?_ ?_ ?_ ?_ ?_ ?_ <;> first | assumption | omega | kwd_less))
  k_with "exec While BoolOp cons nil" => k_while (fun _ k => 0 ≤ k ∧ k ≤ (l.length : Int) ∧ (l.drop k.toNat).dropWhile sg.contains = l.dropWhile sg.contains) (fun _ k => l.length - k.toNat) "start"
  k_with "exec While BoolOp cons nil" => k_while_given ["start"] (fun st _ k => 0 ≤ st ∧ st ≤ k ∧ k ≤ (l.length : Int) ∧ cutEnd sg.contains ((l.drop st.toNat).take (k.toNat - st.toNat)) = cutEnd sg.contains (l.drop st.toNat)) (fun st _ k => k.toNat) "end"
  k_with "state" => kwd_inv
  k_with "measure" => first | (refine' mUp ?x ?y; (case x => assumption); (case y => assumption)) | (refine' mDn ?x; (case x => assumption)) | (refine' mDs ?x ?y; (case x => assumption); (case y => assumption))
  w_strict (
    refine wpAny_call ?_
    k_dflt cell_enter
    k_steps
    all_goals first | ktd_rel | trace_state)
noncomputable def DeckIs (w : World) (o : Obj) (D : Addr) (M T : Int) : Prop := ∃ k1 k2 k3 k4 k5 : Tok,
  Obj.IsDictOf (strKind PySem.Challenge.rw_nt0282_01.row.prog w) o (strPairs [(Value.str (PySem.Str.ofString "cells") k1, Value.ref D), (Value.str (PySem.Str.ofString "mixed") k2, Value.int M k3), (Value.str (PySem.Str.ofString "turn") k4, Value.int T k5)])
noncomputable def PDraw (w : World) (rest : List (Addr × Obj)) (d D : Addr) (N : Nat) (M T below : Int) : Value → List (Addr × Obj) → Prop := fun r led' =>
  ∃ (k : Int) (t : Tok) (o' : Obj) (ws' : List Value) (ns' : List Int) (n' : Nat), r = .int k t ∧ 0 ≤ k ∧ k < below ∧ DeckIs w o' D M (T + 1) ∧ IntsAre ws' ns' ∧ ns'.length ≤ N ∧ led' = (d, o') :: (D, listOf ws'.toArray n') :: rest
theorem popNe {us : List Value} {l : List Int} (hi : IntsAre us l) {inst : Decidable (l = [])} (h : @decide (l = []) inst = false) : 0 < us.length := by
  rw [hi.length]
  cases l with
  | nil => simp at h
  | cons a r => simp
theorem popRoom {us : List Value} {l : List Int} {N : Nat} (hi : IntsAre us l) (h : l.length ≤ N) (h2 : N ≤ 63) : us.length ≤ sizeLine := by
  rw [hi.length, sizeLine_eq]; omega
theorem appRoom {us : List Value} {l : List Int} {N : Nat} (hi : IntsAre us l) (h : l.length ≤ N) (h2 : N ≤ 63) : us.dropLast.toArray.size ≤ sizeLine := by
  have := hi.length
  rw [sizeLine_eq]; simp; omega
theorem fmodLo {x b : Int} (h : 0 < b) : 0 ≤ x.fmod b := by
  rw [Int.fmod_eq_emod_of_nonneg _ (Int.le_of_lt h)]; exact Int.emod_nonneg _ (by omega)
theorem fmodHi {x b : Int} (h : 0 < b) : x.fmod b < b := by
  rw [Int.fmod_eq_emod_of_nonneg _ (Int.le_of_lt h)]; exact Int.emod_lt_of_pos _ h
theorem drawEnd {w : World} {rest : List (Addr × Obj)} {d D : Addr} {N : Nat} {M T below x : Int} {t : Tok} {o' : Obj} {ws' : List Value} {ns' : List Int} {n' : Nat} {k3 k5 : Tok} (hb : 0 < below)
    (hd : Obj.IsDictOf (strKind PySem.Challenge.rw_nt0282_01.row.prog w) o' [(PySem.Str.ofString "cells", Value.ref D), (PySem.Str.ofString "mixed", Value.int M k3), (PySem.Str.ofString "turn", Value.int (T + 1) k5)]) (hi : IntsAre ws' ns') (hl : ns'.length ≤ N) :
    PDraw w rest d D N M T below (.int (x.fmod below) t) ((d, o') :: (D, listOf ws'.toArray n') :: rest) :=
  ⟨_, t, o', ws', ns', n', rfl, fmodLo hb, fmodHi hb, ⟨0, 0, k3, 0, k5, hd⟩, hi, hl, rfl⟩
theorem drawEnd2 {w : World} {rest : List (Addr × Obj)} {d D : Addr} {N : Nat} {M T below x y : Int} {t u : Tok} {o' : Obj} {ws : List Value} {ns : List Int} {n' : Nat} {k3 k5 : Tok} (hb : 0 < below)
    (hd : Obj.IsDictOf (strKind PySem.Challenge.rw_nt0282_01.row.prog w) o' [(PySem.Str.ofString "cells", Value.ref D), (PySem.Str.ofString "mixed", Value.int M k3), (PySem.Str.ofString "turn", Value.int (T + 1) k5)])
    (hi : IntsAre ws.dropLast ns.dropLast) (hl : ns.length ≤ N) {inst : Decidable (ns = [])} (hne : @decide (ns = []) inst = false) :
    PDraw w rest d D N M T below (.int (x.fmod below) t) ((d, o') :: (D, listOf (ws.dropLast.toArray.push (.int y u)) n') :: rest) :=
  ⟨_, t, o', ws.dropLast ++ [.int y u], ns.dropLast ++ [y], n', rfl, fmodLo hb, fmodHi hb, ⟨0, 0, k3, 0, k5, hd⟩, IntsAre.append hi (.cons _ _ .nil), by
    have : ns ≠ [] := fun e => by simp [e] at hne
    have := List.length_pos_iff.mpr this
    simp; omega, by simp⟩
set_option maxHeartbeats 8000000 in
theorem con_draw (w : World) (rest : List (Addr × Obj)) (d D : Addr) (o : Obj) (ws : List Value) (ns : List Int) (n N : Nat) (M T below : Int) (tb : Tok)
    (hD : DeckIs w o D M T) (hI : IntsAre ws ns) (hN : ns.length ≤ N) (hN63 : N ≤ 63) (hM0 : 0 ≤ M) (hM1 : M < 2147483587) (hT0 : 0 ≤ T) (hT1 : T ≤ 1000) (hb0 : 0 < below) (hb1 : below ≤ 1000)
    (hdD : @Ne Nat d D) (hs1 : ∀ p ∈ rest, p.1 ≠ d) (hs2 : ∀ p ∈ rest, p.1 ≠ D) (lo : (d == sysModules) = false) :
    Con w 361 1 100 ((d, o) :: (D, listOf ws.toArray n) :: rest) [.ref d, .int below tb] (PDraw w rest d D N M T below) := by
  refine conOf ?_
  k_fill
  intro dp un gd cn cs a ccd cl outer A₀ base h₀ L m hp gn dr tk os Q E p loose mean mg mb B F X N' T' hk hd hu hret
  obtain ⟨k1, k2, k3, k4, k5, hd'⟩ := hD
  k_with_none
  k_with "ktr_rel" => (
      (intro cbp cbh; first
      | exact cbh
      | exact List.mem_cons_of_mem _ cbh
      | exact List.mem_cons_of_mem _ (List.mem_cons_of_mem _ cbh)
      | (simp only [List.mem_cons, List.mem_append] at cbh ⊢; first | exact cbh | (simp [cbh]; done) | grind)
      | grind))
  k_with "tb_rel" => (
      first
      | assumption
      | (refine' News.dr1 ?zqcbN; (case zqcbN => assumption))
      | (refine' News.dr2 ?zqcbN; (case zqcbN => assumption))
      | (refine' News.dr3 ?zqcbN; (case zqcbN => assumption))
      | (refine' News.dr4 ?zqcbN; (case zqcbN => assumption))
      | (refine' News.dr5 ?zqcbN; (case zqcbN => assumption))
      | (refine' News.dr6 ?zqcbN; (case zqcbN => assumption))
      | (refine' cb_drop ?zqcbN ?zqcbS; (case zqcbN => assumption); (case zqcbS => ktr_rel)))
  k_with "k_all" => (lcg_off)
  k_with "units_room" => (first | exact roomA hu rfl | exact roomB hu rfl | exact roomC hu rfl | (have hcL9 := cLine_is; (try simp only [units_in1, units_deeper, Around.mark_units, units_caller] at *); (try dsimp only [ktrTop] at *); omega))
  k_with "lcg_off" => (
      first
      | assumption
      | (refine' off_lt ?zqal; (case zqal => assumption))
      | (refine' off_lt1 ?zqal; (case zqal => assumption))
      | (refine' OwnOff.ne ?zqal ?zqam; (case zqal => assumption); (case zqam => first | exact List.Mem.head _ | (simp; done)))
      | (refine' off_app ?zqal ?zqam; (case zqal => lcg_off); (case zqam => lcg_off))
      | (apply off_cons; assumption)
      | (refine' (fmc ?zqla ?zqlb); (case zqla => k_ne); (case zqlb => lcg_off))
      | (apply off_tail1; assumption)
      | (apply off_cons; apply off_cons; assumption)
      | (refine' ltNe ?zqal; (case zqal => first | assumption | (apply And.right; assumption) | (apply And.right; apply And.right; assumption) | (apply And.right; apply And.right; apply And.right; assumption) | (apply And.right; apply And.right; apply And.right; apply And.right; assumption) | (apply And.right; apply And.right; apply And.right; apply And.right; apply And.right; assumption))))
  k_with "cell_enter" => ((refine' code_def ?zqk1 ?zqk2 ?zqk3 ?zqk4 ?zqk5 ?zqkA ?zqkF ?zqkK ?zqk6 ?zqk7 ?zqk8 ?zqk9 ?zqkB ?_ ?zqc2 ?zqc3 ?zqc4 ?zqc5; (case zqkA => exact rfl); (case zqkF => exact rfl); (case zqkK => assumption); (case zqk1 => k_asm); (case zqk2 => k_asm); (case zqk3 => k_asm); (case zqk4 => k_asm); (case zqk5 => k_asm); (case zqk6 => k_is); (case zqk7 => k_is); (case zqk8 => ktr_room); (case zqk9 => first | exact BindsTo.of_eq rfl | exact binds_K (by k_in) rfl (by k_is) rfl rfl rfl); (case zqc5 => decide); (case zqkB => exact locs rfl); (case zqc2 => exact rfl); (case zqc3 => exact rfl); (case zqc4 => exact rfl); k_whole; intro g' L' h' FG' F' N' B' X' T'; (try dsimp only); (try k_lift B'); (try k_fold)))
  k_with "k_ne" => ((refine neN ?_; (try dsimp only); first | (refine' neLt ?zqcbh ?zqcbk; (case zqcbh => with_reducible assumption); (case zqcbk => (intro cbz; repeat (first | exact cbz.1 | replace cbz := cbz.2)))) | (refine' neGt ?zqcbh ?zqcbk; (case zqcbh => with_reducible assumption); (case zqcbk => (intro cbz; repeat (first | exact cbz.1 | replace cbz := cbz.2)))) | omega))
  k_with "spliced" => ((k_here; k_dflt (refine' pes_eval ?zqcbF ?zqcbv ?_ ?zqcba; (case zqcbF => k_asm); (case zqcba => rfl); (case zqcbv => exact Eq.refl (some (_, _))); k_whole); (try dsimp only [List.cons_append, List.nil_append])))
  k_with "eval BinOp" => ((k_here; k_dflt (refine' binop_pe ?zqcbF ?zqcbv ?zqcbw ?_ ?zqcba; (case zqcbF => k_asm); (case zqcba => rfl); (case zqcbv => exact Eq.refl (some (_, _))); (case zqcbw => exact Eq.refl (some (_, _))); k_whole)))
  k_with "isTrue Compare" => ((k_here; k_dflt (refine' cmp_pe (hm := by with_unfolding_all rfl) ?zqcbF ?zqcbv ?zqcbw ?_ ?zqcba; (case zqcbF => k_asm); (case zqcba => rfl); (case zqcbv => exact Eq.refl (some (_, _))); (case zqcbw => exact Eq.refl (some (_, _))); k_whole)))
  k_with "eval Subscript" => ((k_here; k_dflt (refine' sub_pe ?zqcbF ?zqcbv ?zqcbw ?_ ?zqcba; (case zqcbF => k_asm); (case zqcba => rfl); (case zqcbv => exact Eq.refl (some (_, _))); (case zqcbw => exact Eq.refl (some (_, _))); k_whole)))
  k_with "eval Name" => ((k_here; k_dflt (refine' nameX_L ?zqcbF ?zqcbv ?_ ?zqcba ?zqcbb; (case zqcbF => k_asm); (case zqcba => rfl); (case zqcbb => rfl); (case zqcbv => exact Eq.refl (some _)); k_whole)))
  k_with "storeName" => ((k_here; k_dflt (refine' storeL ?zqcbF ?zqcbN ?_ ?zqcba ?zqcbb; (case zqcbF => k_asm); (case zqcbN => k_asm); (case zqcba => rfl); (case zqcbb => rfl); k_whole); intro _ _ _ _; (try k_sweep)))
  k_with "size_fits" => ((refine' appRoom ?zqpa ?zqpb ?zqpc; (case zqpa => assumption); (case zqpb => assumption); (case zqpc => assumption)))
  k_with "kpa_ne" => ((refine' popNe ?zqpa ?zqpb; (case zqpa => assumption); (case zqpb => assumption)))
  k_with "kpa_room" => ((refine' popRoom ?zqpa ?zqpb ?zqpc; (case zqpa => assumption); (case zqpb => assumption); (case zqpc => assumption)))
  k_with "kwd_rel" => (
      first
      | (refine' hret _ _ _ _ (drawEnd ?zqz1 ?zqz2 ?zqz3 ?zqz4) ?zqz5 ?zqz6; (case zqz5 => assumption); (case zqz6 => tb_rel); (case zqz1 => assumption); (case zqz2 => assumption); (case zqz3 => assumption); (case zqz4 => first | assumption | (simp; omega)))
      | (refine' hret _ _ _ _ (drawEnd2 ?zqz1 ?zqz2 ?zqz3 ?zqz4 ?zqz7) ?zqz5 ?zqz6; (case zqz5 => assumption); (case zqz6 => tb_rel); (case zqz1 => assumption); (case zqz2 => assumption); (case zqz3 => assumption); (case zqz4 => assumption); (case zqz7 => assumption)))
  w_strict (
    refine wpAny_call ?_
    k_dflt cell_enter
    k_steps
    all_goals first | kwd_rel | trace_state)
noncomputable def Deck (w : World) (d D : Addr) (B : Nat) (o : Obj) (ws : List Value) : Prop := ∃ (ns : List Int) (M T : Int), DeckIs w o D M T ∧ IntsAre ws ns ∧ ns.length ≤ 63 ∧ 0 ≤ M ∧ M < 2147483587 ∧ 0 ≤ T ∧ T ≤ (B : Int) ∧ @Ne Nat d D ∧ (d == sysModules) = false
theorem use_draw {w : World} {rest : List (Addr × Obj)} {d D : Addr} {Bd : Nat} {o : Obj} {ws : List Value} {n : Nat} {below : Int} {tb : Tok}
    (hD : Deck w d D Bd o ws) (hB : Bd ≤ 1000) (hb0 : 0 < below) (hb1 : below ≤ 1000) (hs1 : ∀ p ∈ rest, p.1 ≠ d) (hs2 : ∀ p ∈ rest, p.1 ≠ D)
    {dp un : Nat} {gd : Option (List Code)} {cn : Str} {cs : Scope} {a : Addr} {ccd : Value} {cl : List (Str × Addr)} {outer : List Env} {A₀ : Around} {base h₀ : Heap} {L : Addr} {m : Str → Option Value} {s : Shared} {Q E : Value → Shared → Prop}
    {p : Program} {loose : List Str} {mean : ExcName → Option Value} {mg mb : Str → Option Value}
    (B : Below A₀ base outer h₀) (F : Fr h₀ L s.heap m) (X : (Mine.frag.heap_1 w.params).In h₀) (N : News h₀ L s.heap ((d, o) :: (D, listOf ws.toArray n) :: rest)) (T : Top p loose mean mg mb h₀) (hk : cs.kind = .function)
    (hd : dp + 1 < recursionLimit) (hu : un + 100 < cLine)
    (ret : ∀ (k : Int) (t : Tok) (o' : Obj) (ws' : List Value) (n' : Nat) (h' : Heap) (tk' : Nat), 0 ≤ k → k < below → Deck w d D (Bd + 1) o' ws' → Fr h₀ L h' m → News h₀ L h' ((d, o') :: (D, listOf ws'.toArray n') :: rest) → Q (.int k t) { s with heap := h', toks := tk' }) :
    wpAny (model PySem.Challenge.rw_nt0282_01.row.prog w) (ktrTop dp un gd cn cs L a ccd cl outer) (call (.ref 361) [.ref d, .int below tb]) Q E s := by
  obtain ⟨ns, M, T1, hD, hI, hN, hM0, hM1, hT0, hT1, hne, lo⟩ := hD
  refine Con.use (con_draw w rest d D o ws ns n 63 M T1 below tb hD hI hN (Nat.le_refl _) hM0 hM1 hT0 (by omega) hb0 hb1 hne hs1 hs2 lo) B F X N T hk hd hu ?_
  rintro r led' h' tk' ⟨k, t, o', ws', ns', n', rfl, k0, k1, hD', hI', hN', rfl⟩ F' N'
  exact ret k t o' ws' n' h' tk' k0 k1 ⟨ns', M, T1 + 1, hD', hI', hN', hM0, hM1, by omega, by omega, hne, lo⟩ F' N'
noncomputable def PPick (w : World) (rest : List (Addr × Obj)) (d D : Addr) (B : Nat) (vs : List Value) : Value → List (Addr × Obj) → Prop := fun r led' =>
  ∃ (k : Nat) (o' : Obj) (ws' : List Value) (n' : Nat), vs[k]? = some r ∧ Deck w d D (B + 1) o' ws' ∧ led' = (d, o') :: (D, listOf ws'.toArray n') :: rest
set_option maxHeartbeats 8000000 in
theorem con_pick (w : World) (rest : List (Addr × Obj)) (d D S : Addr) (o : Obj) (ws vs : List Value) (n nn Bd : Nat)
    (hD : Deck w d D Bd o ws) (hB : Bd ≤ 1000)
    (hv0 : 0 < vs.length) (hv1 : vs.length ≤ 1000) (hS : (S, listOf vs.toArray nn) ∈ rest) (hs1 : ∀ p ∈ rest, p.1 ≠ d) (hs2 : ∀ p ∈ rest, p.1 ≠ D) :
    Con w 368 2 108 ((d, o) :: (D, listOf ws.toArray n) :: rest) [.ref d, .ref S] (PPick w rest d D Bd vs) := by
  refine conOf ?_
  k_fill
  intro dp un gd cn cs a ccd cl outer A₀ base h₀ L m hp gn dr tk os Q E p loose mean mg mb B F X N' T' hk hd hu hret
  k_with_none
  k_with "tb_start" => (
      first
      | (refine' Nat.le_trans ?zqq1 (Nat.le_of_ble_eq_true ?zqq2); (case zqq1 => with_reducible assumption); (case zqq2 => exact rfl))
      | omega
      | (simp only [List.length_append, List.length_cons, List.length_nil, List.length_map, List.length_take, List.length_drop]; omega)
      | ((try simp only [List.length_append, List.length_cons, List.length_nil]); (first | refine Nat.le_trans (sl_length _ _) ?_ | skip); omega)
      | fail "size")
  k_with "units_room" => (first | exact roomA hu rfl | exact roomB hu rfl | exact roomC hu rfl | (have hcL9 := cLine_is; (try simp only [units_in1, units_deeper, Around.mark_units, units_caller] at *); (try dsimp only [ktrTop] at *); omega))
  k_with "ktr_unf" => (
      first
      | assumption
      | exact List.Mem.head _
      | (refine' List.mem_append_left _ ?_; ktr_unf)
      | (refine' List.Mem.tail _ ?_; ktr_unf))
  k_with "call builtin:len" => ((k_here; (with_reducible show wpAny _ _ (call (Value.builtin "len") [Value.ref _]) _ _ _); (refine' lenAny (News.isList ?zqn1 ?zqn2) ?zqn3 ?_; (case zqn1 => assumption); (case zqn2 => ktr_unf); (case zqn3 => tb_start); intro _ _)))
  k_with "subscriptTail" => ((k_here; (with_reducible show wpAny _ _ (subscriptTail _ _ (Value.ref _) (Value.int _ _)) _ _ _); (refine' itemAny (hs := by with_unfolding_all rfl) (News.isList ?zqn1 ?zqn2) ?zqn3 ?zqn4 ?zqn5 ?_; (case zqn1 => assumption); (case zqn2 => ktr_unf); (case zqn3 => omega); (case zqn4 => omega); (case zqn5 => tb_start); intro _ _)))
  k_with "cell_enter" => ((refine' code_def ?zqk1 ?zqk2 ?zqk3 ?zqk4 ?zqk5 ?zqkA ?zqkF ?zqkK ?zqk6 ?zqk7 ?zqk8 ?zqk9 ?zqkB ?_ ?zqc2 ?zqc3 ?zqc4 ?zqc5; (case zqkA => exact rfl); (case zqkF => exact rfl); (case zqkK => assumption); (case zqk1 => k_asm); (case zqk2 => k_asm); (case zqk3 => k_asm); (case zqk4 => k_asm); (case zqk5 => k_asm); (case zqk6 => k_is); (case zqk7 => k_is); (case zqk8 => ktr_room); (case zqk9 => first | exact BindsTo.of_eq rfl | exact binds_K (by k_in) rfl (by k_is) rfl rfl rfl); (case zqc5 => decide); (case zqkB => exact locs rfl); (case zqc2 => exact rfl); (case zqc3 => exact rfl); (case zqc4 => exact rfl); k_whole; intro g' L' h' FG' F' N' B' X' T'; (try dsimp only); (try k_lift B'); (try k_fold)))
  k_with "ktr_room" => (first | exact roomA hd rfl | exact roomB hd rfl | exact roomC hd rfl)
  k_with "k_ne" => ((refine neN ?_; (try dsimp only); first | (refine' neLt ?zqcbh ?zqcbk; (case zqcbh => with_reducible assumption); (case zqcbk => (intro cbz; repeat (first | exact cbz.1 | replace cbz := cbz.2)))) | (refine' neGt ?zqcbh ?zqcbk; (case zqcbh => with_reducible assumption); (case zqcbk => (intro cbz; repeat (first | exact cbz.1 | replace cbz := cbz.2)))) | omega))
  k_with "spliced" => ((k_here; k_dflt (refine' pes_eval ?zqcbF ?zqcbv ?_ ?zqcba; (case zqcbF => k_asm); (case zqcba => rfl); (case zqcbv => exact Eq.refl (some (_, _))); k_whole); (try dsimp only [List.cons_append, List.nil_append])))
  k_with "eval Name" => ((k_here; k_dflt (refine' nameX_L ?zqcbF ?zqcbv ?_ ?zqcba ?zqcbb; (case zqcbF => k_asm); (case zqcba => rfl); (case zqcbb => rfl); (case zqcbv => exact Eq.refl (some _)); k_whole)))
  k_with "call ref" => ((k_here; (with_reducible show wpAny _ _ (call (Value.ref 361) _) _ _ _); k_dflt (refine' use_draw ?zqc1 ?zqc2 ?zqc3 ?zqc4 ?zqc5 ?zqc6 ?zqn1 ?zqn2 ?zqn3 ?zqn4 ?zqn5 ?zqn6 ?zqn7 ?zqn8 ?_; (case zqn4 => assumption); (case zqn1 => k_asm); (case zqn2 => k_asm); (case zqn3 => k_asm); (case zqn5 => k_asm); (case zqn6 => exact rfl); (case zqn7 => ktr_room); (case zqn8 => units_room); (case zqc1 => assumption); (case zqc2 => omega); (case zqc3 => omega); (case zqc4 => omega); (case zqc5 => assumption); (case zqc6 => assumption)); intro _ _ _ _ _ _ _ _ _ _ _ _; (try dsimp only)))
  w_strict (
    refine wpAny_call ?_
    k_dflt cell_enter
    k_steps
    all_goals (refine' hret _ _ _ _ ⟨_, _, _, _, ?e0, ?e1, rfl⟩ ?e2 ?e3; (case e0 => assumption); (case e1 => assumption); (case e2 => assumption); (case e3 => assumption)))
theorem use_pick {w : World} {rest : List (Addr × Obj)} {d D S : Addr} {Bd : Nat} {o : Obj} {ws vs : List Value} {n nn : Nat}
    (hD : Deck w d D Bd o ws) (hB : Bd ≤ 1000) (hv0 : 0 < vs.length) (hv1 : vs.length ≤ 1000) (hS : (S, listOf vs.toArray nn) ∈ rest) (hs1 : ∀ p ∈ rest, p.1 ≠ d) (hs2 : ∀ p ∈ rest, p.1 ≠ D)
    {dp un : Nat} {gd : Option (List Code)} {cn : Str} {cs : Scope} {a : Addr} {ccd : Value} {cl : List (Str × Addr)} {outer : List Env} {A₀ : Around} {base h₀ : Heap} {L : Addr} {m : Str → Option Value} {s : Shared} {Q E : Value → Shared → Prop}
    {p : Program} {loose : List Str} {mean : ExcName → Option Value} {mg mb : Str → Option Value}
    (B : Below A₀ base outer h₀) (F : Fr h₀ L s.heap m) (X : (Mine.frag.heap_1 w.params).In h₀) (N : News h₀ L s.heap ((d, o) :: (D, listOf ws.toArray n) :: rest)) (T : Top p loose mean mg mb h₀) (hk : cs.kind = .function)
    (hd : dp + 2 < recursionLimit) (hu : un + 108 < cLine)
    (ret : ∀ (r : Value) (o' : Obj) (ws' : List Value) (n' : Nat) (h' : Heap) (tk' : Nat), r ∈ vs → Deck w d D (Bd + 1) o' ws' → Fr h₀ L h' m → News h₀ L h' ((d, o') :: (D, listOf ws'.toArray n') :: rest) → Q r { s with heap := h', toks := tk' }) :
    wpAny (model PySem.Challenge.rw_nt0282_01.row.prog w) (ktrTop dp un gd cn cs L a ccd cl outer) (call (.ref 368) [.ref d, .ref S]) Q E s := by
  refine Con.use (con_pick w rest d D S o ws vs n nn Bd hD hB hv0 hv1 hS hs1 hs2) B F X N T hk hd hu ?_
  rintro r led' h' tk' ⟨k, o', ws', n', hr, hD', rfl⟩ F' N'
  exact ret r o' ws' n' h' tk' (List.mem_of_getElem? hr) hD' F' N'
theorem blanksEq : cutEnd (List.contains [32, 9, 13, 11, 12]) = cutEnd blank := by
  have h : List.contains [32, 9, 13, 11, 12] = blank := by
    funext c
    have key : ∀ n : Nat, n < 256 → List.contains [32, 9, 13, 11, 12] (UInt8.ofNat n) = blank (UInt8.ofNat n) := by decide +kernel
    have h := key c.toNat c.toNat_lt
    simpa using h
  rw [h]
noncomputable def rowsOf (l : List UInt8) : List (List UInt8) := (splitNL l).map (cutEnd blank)
theorem rows_len (l : List UInt8) : (rowsOf l).length ≤ l.length + 1 := by
  unfold rowsOf; rw [List.length_map]; exact split_len l
theorem sizeSplit {vs : List Value} {l : List UInt8} (h : BsAre vs (splitNL l)) (hl : l.length ≤ 10000) : vs.toArray.size ≤ sizeLine := by
  have := split_len l
  have := h.length
  rw [sizeLine_eq]; simp; omega
theorem partSize {l x : List UInt8} (h : x ∈ splitNL l) (hl : l.length ≤ 10000) : x.length ≤ 100000 := by
  have := split_part l x h
  omega
theorem pList {led : List (Addr × Obj)} {ls : List (List UInt8)} {R D : Addr} {o : Obj} {ys : List Value} (hb : BsAre ys ls) (h : LCg.Off1 R ((D, o) :: led)) : PList led ls (.ref R) ((R, LCg.lst ys) :: led) := ⟨R, ys, ys.length, rfl, hb, rfl, off1_mem h.2⟩
set_option maxHeartbeats 8000000 in
theorem con_rows (w : World) (led : List (Addr × Obj)) (l : List UInt8) (t : Tok) (hl : l.length ≤ 10000) : Con w 242 2 108 led [.bytes l.toArray t] (PList led (rowsOf l)) := by
  refine conOf ?_
  k_fill
  intro dp un gd cn cs a ccd cl outer A₀ base h₀ L m hp gn dr tk os Q E p loose mean mg mb B F X N T hk hd hu hret
  k_with_none
  k_with "tb_start" => (
      first
      | (refine' Nat.le_trans ?zqq1 (Nat.le_of_ble_eq_true ?zqq2); (case zqq1 => with_reducible assumption); (case zqq2 => exact rfl))
      | omega
      | (simp only [List.length_append, List.length_cons, List.length_nil, List.length_map, List.length_take, List.length_drop]; omega)
      | ((try simp only [List.length_append, List.length_cons, List.length_nil]); (first | refine Nat.le_trans (sl_length _ _) ?_ | skip); omega)
      | fail "size")
  k_with "getMethod bytes" => ((k_here; (with_reducible show wpAny _ _ (getMethod (Value.bytes (List.toArray _) _) (PySem.Str.ofString "split") _) _ _ _); (refine methB slotSplit tySplit ?_)))
  k_with "ktr_rel" => (
      (intro cbp cbh; first
      | exact cbh
      | exact List.mem_cons_of_mem _ cbh
      | exact List.mem_cons_of_mem _ (List.mem_cons_of_mem _ cbh)
      | (simp only [List.mem_cons, List.mem_append] at cbh ⊢; first | exact cbh | (simp [cbh]; done) | grind)
      | grind))
  k_with "tb_rel" => (
      first
      | assumption
      | (refine' News.dr1 ?zqcbN; (case zqcbN => assumption))
      | (refine' News.dr2 ?zqcbN; (case zqcbN => assumption))
      | (refine' News.dr3 ?zqcbN; (case zqcbN => assumption))
      | (refine' News.dr4 ?zqcbN; (case zqcbN => assumption))
      | (refine' News.dr5 ?zqcbN; (case zqcbN => assumption))
      | (refine' News.dr6 ?zqcbN; (case zqcbN => assumption))
      | (refine' cb_drop ?zqcbN ?zqcbS; (case zqcbN => assumption); (case zqcbS => ktr_rel)))
  k_with "units_room" => (first | exact roomA hu rfl | exact roomB hu rfl | exact roomC hu rfl | (have hcL9 := cLine_is; (try simp only [units_in1, units_deeper, Around.mark_units, units_caller] at *); (try dsimp only [ktrTop] at *); omega))
  k_with "ktr_unf" => (
      first
      | assumption
      | exact List.Mem.head _
      | (refine' List.mem_append_left _ ?_; ktr_unf)
      | (refine' List.Mem.tail _ ?_; ktr_unf))
  k_with "call builtin:bytes.split" => ((k_here; (with_reducible show wpAny _ _ (call (Value.builtin "bytes.split") _) _ _ _); (try dsimp only [List.append, List.cons_append, List.nil_append]); (refine' callSplit ?zqn1 ?zqn2 ?zqn3 ?_; (case zqn1 => k_asm); (case zqn2 => assumption); (case zqn3 => tb_start); intro _ _ _ _ _ _ _ _); (try dsimp only)))
  k_with "eval ListComp" => (k_extra "own ListComp")
  k_with "CompEnd" => ((k_here; (refine' LCg.CompEnd.intro ?zqn1 ?zqn2 _ ?zqn3 ?zqn4 ?zqn5 (bEl ?zqn6 rfl); (case zqn1 => assumption); (case zqn2 => assumption); (case zqn3 => ktr_rel); (case zqn4 => assumption); (case zqn5 => first | (refine' Or.inr ⟨_, ?zqhm, ?zqh1, _, ?zqh2⟩; (case zqhm => ktr_unf); (case zqh1 => exact rfl); (case zqh2 => exact rfl)) | ktr_unf); (case zqn6 => kwd_rel))))
  k_with "FinE" => ((k_here; (unfold LCg.FinE); intro _ _ _ _ _ _; (try dsimp only)))
  k_with "cell_enter" => ((refine' code_def ?zqk1 ?zqk2 ?zqk3 ?zqk4 ?zqk5 ?zqkA ?zqkF ?zqkK ?zqk6 ?zqk7 ?zqk8 ?zqk9 ?zqkB ?_ ?zqc2 ?zqc3 ?zqc4 ?zqc5; (case zqkA => exact rfl); (case zqkF => exact rfl); (case zqkK => assumption); (case zqk1 => k_asm); (case zqk2 => k_asm); (case zqk3 => k_asm); (case zqk4 => k_asm); (case zqk5 => k_asm); (case zqk6 => k_is); (case zqk7 => k_is); (case zqk8 => ktr_room); (case zqk9 => first | exact BindsTo.of_eq rfl | exact binds_K (by k_in) rfl (by k_is) rfl rfl rfl); (case zqc5 => decide); (case zqkB => exact locs rfl); (case zqc2 => exact rfl); (case zqc3 => exact rfl); (case zqc4 => exact rfl); k_whole; intro g' L' h' FG' F' N' B' X' T'; (try dsimp only); (try k_lift B'); (try k_fold)))
  k_with "ktr_room" => (first | exact roomA hd rfl | exact roomB hd rfl | exact roomC hd rfl)
  k_with "k_ne" => ((refine neN ?_; (try dsimp only); first | (refine' neLt ?zqcbh ?zqcbk; (case zqcbh => with_reducible assumption); (case zqcbk => (intro cbz; repeat (first | exact cbz.1 | replace cbz := cbz.2)))) | (refine' neGt ?zqcbh ?zqcbk; (case zqcbh => with_reducible assumption); (case zqcbk => (intro cbz; repeat (first | exact cbz.1 | replace cbz := cbz.2)))) | omega))
  k_with "spliced" => ((k_here; k_dflt (refine' pes_eval ?zqcbF ?zqcbv ?_ ?zqcba; (case zqcbF => k_asm); (case zqcba => rfl); (case zqcbv => exact Eq.refl (some (_, _))); k_whole); (try dsimp only [List.cons_append, List.nil_append])))
  k_with "eval Name" => ((k_here; k_dflt (refine' nameX_L ?zqcbF ?zqcbv ?_ ?zqcba ?zqcbb; (case zqcbF => k_asm); (case zqcba => rfl); (case zqcbb => rfl); (case zqcbv => exact Eq.refl (some _)); k_whole)))
  k_with "tb_start" => ((refine' partSize ?zqe1 ?zqe2; (case zqe1 => assumption); (case zqe2 => assumption)))
  k_with "kwd_rel" => (exact congrFun blanksEq _)
  k_with "call ref" => ((k_here; (with_reducible show wpAny _ _ (call (Value.ref 132) _) _ _ _); k_dflt (refine' Con.useB (con_cut_end _ _ _ _ _ _ ?zqc1) ?zqn1 ?zqn2 ?zqn3 ?zqn4 ?zqn5 ?zqn6 ?zqn7 ?zqn8 ?_; (case zqn4 => assumption); (case zqn1 => k_asm); (case zqn2 => k_asm); (case zqn3 => k_asm); (case zqn5 => k_asm); (case zqn6 => exact rfl); (case zqn7 => ktr_room); (case zqn8 => units_room); (case zqc1 => tb_start)); intro _ _ _ _ _; (try dsimp only)))
  k_with "CompSrc" => ((k_here; k_dflt (refine' LCg.CompSrc.ledger ?zqn1 ?zqn2 ?zqn3 ?zqn4 ?zqn5 ?_; (case zqn1 => exact rfl); (case zqn2 => k_asm); (case zqn3 => k_asm); (case zqn4 => ktr_unf); (case zqn5 => refine' sizeSplit ?zqe1 ?zqe2; (case zqe1 => assumption); (case zqe2 => assumption))); intro _; refine bs_rest (cutEnd blank) (by assumption) (fun _ _ _ _ _ _ _ _ _ _ _ _ _ _ _ _ _ _ _ => ?_) (fun _ _ => ?_)))
  k_with "own ListComp" => (k_here; k_dflt (refine LCg.ListComp_U (F₀ := by k_asm) (by with_unfolding_all rfl) (by decide) (by rfl) (by decide) (by rfl) ?_))
  w_strict (
    refine wpAny_call ?_
    k_dflt cell_enter
    k_steps
    all_goals (refine' hret _ _ _ _ (pList ?e1 ?e2) ?e3 ?e4; (case e1 => assumption); (case e2 => assumption); (case e3 => assumption); (case e4 => tb_rel)))
noncomputable def isNil (l : List UInt8) : Bool := l == []
noncomputable def notNil (l : List UInt8) : Bool := !(l == [])
theorem dw_succ {ls : List (List UInt8)} {k : Int} (h0 : 0 ≤ k) (h1 : k < ls.length) : ls.drop k.toNat = ls.getD k.toNat [] :: ls.drop (k + 1).toNat := by
  have e := toNatS h0
  have hk : k.toNat < ls.length := toNatL h0 h1
  rw [e, List.drop_eq_getElem_cons hk, List.getD_eq_getElem?_getD, List.getElem?_eq_getElem hk]
  rfl
theorem dw0 {p : List UInt8 → Bool} {ls : List (List UInt8)} : (0 : Int) ≤ 0 ∧ (0 : Int) ≤ (ls.length : Int) ∧ (ls.drop (0 : Int).toNat).dropWhile p = ls.dropWhile p := by simp
theorem dw1 {p : List UInt8 → Bool} {ls rs : List (List UInt8)} {k : Int} (h0 : 0 ≤ k) (hc : (ls.drop k.toNat).dropWhile p = rs) (h2 : k < ls.length) (h3 : p (ls.getD k.toNat []) = true) :
    0 ≤ k + 1 ∧ k + 1 ≤ (ls.length : Int) ∧ (ls.drop (k + 1).toNat).dropWhile p = rs := by
  refine ⟨by omega, by omega, ?_⟩
  rw [← hc, dw_succ h0 h2, List.dropWhile_cons, if_pos h3]
theorem dwS {p : List UInt8 → Bool} {ls : List (List UInt8)} {k : Int} (h0 : 0 ≤ k) (h1 : k ≤ (ls.length : Int)) : 0 ≤ k ∧ k ≤ k ∧ k ≤ (ls.length : Int) ∧ (ls.drop k.toNat).dropWhile p = (ls.drop k.toNat).dropWhile p := ⟨h0, Int.le_refl _, h1, rfl⟩
theorem dwE0 {p : List UInt8 → Bool} {ls rs : List (List UInt8)} {k : Int} (hc : (ls.drop k.toNat).dropWhile p = rs) (h2 : ¬ k < ls.length) : ls.drop k.toNat = rs := by
  rw [← hc, List.drop_of_length_le (by omega)]
  rfl
theorem dwE1 {p : List UInt8 → Bool} {ls rs : List (List UInt8)} {k : Int} (h0 : 0 ≤ k) (hc : (ls.drop k.toNat).dropWhile p = rs) (h2 : k < ls.length) (h3 : p (ls.getD k.toNat []) = false) : ls.drop k.toNat = rs := by
  rw [← hc, dw_succ h0 h2, List.dropWhile_cons, h3]
  simp
theorem notNil_of {x : List UInt8} (h : (x != []) = true) : notNil x = true := h
theorem notNil_no {x : List UInt8} (h : (x != []) = false) : notNil x = false := h
/-- how many rows lie ahead of the body -/
noncomputable def skipAt (ls : List (List UInt8)) : Nat := ls.length - ((ls.dropWhile isNil).dropWhile notNil).length
theorem skip_is {ls : List (List UInt8)} {st k : Int} (h0 : 0 ≤ st) (h1 : st ≤ k) (h2 : k ≤ (ls.length : Int)) (hs : ls.drop st.toNat = ls.dropWhile isNil) (hk : ls.drop k.toNat = (ls.drop st.toNat).dropWhile notNil) : k = (skipAt ls : Int) := by
  unfold skipAt
  rw [← hs, ← hk, List.length_drop]
  obtain ⟨j, rfl⟩ := Int.eq_ofNat_of_zero_le (Int.le_trans h0 h1)
  exact congrArg Int.ofNat (Nat.sub_sub_self (Int.ofNat_le.mp h2)).symm

theorem rows_mem {l x : List UInt8} (h : x ∈ rowsOf l) : x.length ≤ l.length := by
  unfold rowsOf at h
  obtain ⟨y, hy, rfl⟩ := List.mem_map.mp h
  have h1 := split_part l y hy
  have h2 : (cutEnd blank y).length ≤ y.length := by
    unfold cutEnd
    rw [List.length_reverse]
    have := (List.dropWhile_sublist blank (l := y.reverse)).length_le
    simpa using this
  omega
theorem join_bound {sep : List UInt8} {a b : Nat} : ∀ {ls : List (List UInt8)}, (∀ x ∈ ls, x.length ≤ a) → ls.length ≤ b → (joinB sep ls).length ≤ b * (a + sep.length) := by
  intro ls
  cases ls with
  | nil => intro _ _; exact Nat.zero_le _
  | cons x r =>
    intro h1 h2
    rw [joinSize]
    have key : ∀ r : List (List UInt8), (∀ x ∈ r, x.length ≤ a) → (r.map List.length).sum ≤ r.length * a := by
      intro r
      induction r with
      | nil => intro _; simp
      | cons y q ih =>
        intro h
        have := ih fun z hz => h z (.tail _ hz)
        have := h y (.head _)
        simp only [List.map_cons, List.sum_cons, List.length_cons, Nat.succ_mul]
        omega
    have h3 := key (x :: r) h1
    have h4 : (x :: r).length * a ≤ b * a := Nat.mul_le_mul_right _ h2
    have h5 : sep.length * r.length ≤ sep.length * b := Nat.mul_le_mul_left _ (by simp at h2; omega)
    rw [Nat.mul_add, Nat.mul_comm b sep.length]
    omega
theorem lsl_mem {ls : List (List UInt8)} {lo hi : Option Int} {x : List UInt8} (h : x ∈ lsl ls lo hi) : x ∈ ls := List.mem_of_mem_drop (List.mem_of_mem_take h)
theorem lsl_len {ls : List (List UInt8)} {lo hi : Option Int} : (lsl ls lo hi).length ≤ ls.length := by
  unfold lsl
  rw [List.length_take, List.length_drop]
  exact Nat.le_trans (Nat.min_le_right _ _) (Nat.sub_le _ _)
theorem joinSubj {sep : List UInt8} {l : List UInt8} {lo hi : Option Int} (hl : l.length ≤ 1000) (hs : sep.length ≤ 1) : (joinB sep (lsl (rowsOf l) lo hi)).length ≤ 16777216 := by
  have h1 := rows_len l
  have h2 := lsl_len (ls := rowsOf l) (lo := lo) (hi := hi)
  have := join_bound (sep := sep) (a := 1000) (b := 1001) (ls := lsl (rowsOf l) lo hi) (fun x hx => Nat.le_trans (rows_mem (lsl_mem hx)) hl) (by omega)
  omega
noncomputable def PPair (led : List (Addr × Obj)) (k : Int) : Value → List (Addr × Obj) → Prop := fun r led' => ∃ (R : Addr) (o : Obj) (x : Value) (u : Tok), r = .ref R ∧ o = { cls := .type "tuple", data := .seq #[x, .int k u] } ∧ led' = (R, o) :: led ∧ ∀ p ∈ led, p.1 ≠ R
theorem pPair {led : List (Addr × Obj)} {R : Addr} {x : Value} {k : Int} {u : Tok} {K : Int} (e : k = K) (hR : ∀ p ∈ led, p.1 ≠ R) : PPair led K (.ref R) ((R, { cls := .type "tuple", data := .seq #[x, .int k u] }) :: led) := ⟨R, _, x, u, rfl, by rw [e], rfl, hR⟩
structure StA (ls : List (List UInt8)) (k : Int) : Prop where
  out : (ls.drop k.toNat).dropWhile isNil = ls.dropWhile isNil
structure ExA (ls : List (List UInt8)) (k : Int) : Prop where
  out : ls.drop k.toNat = ls.dropWhile isNil
structure StB (ls : List (List UInt8)) (k : Int) : Prop where
  out : ∃ st : Int, 0 ≤ st ∧ st ≤ k ∧ ExA ls st ∧ (ls.drop k.toNat).dropWhile notNil = (ls.drop st.toNat).dropWhile notNil
noncomputable def InA (ls : List (List UInt8)) (k : Int) : Prop := 0 ≤ k ∧ k ≤ (ls.length : Int) ∧ StA ls k
noncomputable def OutA (ls : List (List UInt8)) (k : Int) : Prop := 0 ≤ k ∧ k ≤ (ls.length : Int) ∧ ExA ls k
noncomputable def InB (ls : List (List UInt8)) (k : Int) : Prop := 0 ≤ k ∧ k ≤ (ls.length : Int) ∧ StB ls k
noncomputable def OutB (ls : List (List UInt8)) (k : Int) : Prop := 0 ≤ k ∧ k ≤ (ls.length : Int) ∧ k = (skipAt ls : Int)
section
variable {ls : List (List UInt8)} {k : Int}
theorem inA0 : InA ls 0 := ⟨by omega, by omega, ⟨by simp⟩⟩
theorem inA1 (h0 : 0 ≤ k) (h : StA ls k) (h2 : k < ls.length) (h3 : (ls.getD k.toNat [] == []) = true) : InA ls (k + 1) := by
  obtain ⟨a, b, c⟩ := dw1 (p := isNil) h0 h.out h2 h3
  exact ⟨a, b, ⟨c⟩⟩
theorem outA0 (h0 : 0 ≤ k) (h1 : k ≤ (ls.length : Int)) (h : StA ls k) (h2 : ¬ k < ls.length) : OutA ls k := ⟨h0, h1, ⟨dwE0 h.out h2⟩⟩
theorem outA1 (h0 : 0 ≤ k) (h1 : k ≤ (ls.length : Int)) (h : StA ls k) (h2 : k < ls.length) (h3 : (ls.getD k.toNat [] == []) = false) : OutA ls k := ⟨h0, h1, ⟨dwE1 (p := isNil) h0 h.out h2 h3⟩⟩
theorem inB0 (h0 : 0 ≤ k) (h1 : k ≤ (ls.length : Int)) (h : ExA ls k) : InB ls k := ⟨h0, h1, ⟨k, h0, Int.le_refl _, h, rfl⟩⟩
theorem inB1 (h0 : 0 ≤ k) (h : StB ls k) (h2 : k < ls.length) (h3 : (ls.getD k.toNat [] != []) = true) : InB ls (k + 1) := by
  obtain ⟨st, s0, s1, s2, s3⟩ := h.out
  obtain ⟨a, b, c⟩ := dw1 (p := notNil) h0 s3 h2 h3
  exact ⟨a, b, ⟨st, s0, by omega, s2, c⟩⟩
theorem outB0 (h0 : 0 ≤ k) (h1 : k ≤ (ls.length : Int)) (h : StB ls k) (h2 : ¬ k < ls.length) : OutB ls k := by
  obtain ⟨st, s0, s1, s2, s3⟩ := h.out
  exact ⟨h0, h1, skip_is s0 s1 h1 s2.out (dwE0 s3 h2)⟩
theorem outB1 (h0 : 0 ≤ k) (h1 : k ≤ (ls.length : Int)) (h : StB ls k) (h2 : k < ls.length) (h3 : (ls.getD k.toNat [] != []) = false) : OutB ls k := by
  obtain ⟨st, s0, s1, s2, s3⟩ := h.out
  exact ⟨h0, h1, skip_is s0 s1 h1 s2.out (dwE1 (p := notNil) h0 s3 h2 h3)⟩
end
set_option maxHeartbeats 8000000 in
theorem con_subject (w : World) (led : List (Addr × Obj)) (l : List UInt8) (t : Tok) (hl : l.length ≤ 1000) : Con w 249 3 208 led [.bytes l.toArray t] (PPair led (skipAt (rowsOf l))) := by
  refine conOf ?_
  k_fill
  intro dp un gd cn cs a ccd cl outer A₀ base h₀ L m hp gn dr tk os Q E p loose mean mg mb B F X N T hk hd hu hret
  have hrl := rows_len l
  k_with_none
  k_with "tb_start" => (
      first
      | (refine' Nat.le_trans ?zqq1 (Nat.le_of_ble_eq_true ?zqq2); (case zqq1 => with_reducible assumption); (case zqq2 => exact rfl))
      | omega
      | (simp only [List.length_append, List.length_cons, List.length_nil, List.length_map, List.length_take, List.length_drop]; omega)
      | ((try simp only [List.length_append, List.length_cons, List.length_nil]); (first | refine Nat.le_trans (sl_length _ _) ?_ | skip); omega)
      | fail "size")
  k_with "getMethod bytes" => ((k_here; (with_reducible show wpAny _ _ (getMethod (Value.bytes (List.toArray _) _) (PySem.Str.ofString "join") _) _ _ _); (refine methB slotJoin tyJoin ?_)))
  k_with "tb_rel" => (
      first
      | assumption
      | (refine' News.dr1 ?zqcbN; (case zqcbN => assumption))
      | (refine' News.dr2 ?zqcbN; (case zqcbN => assumption))
      | (refine' News.dr3 ?zqcbN; (case zqcbN => assumption))
      | (refine' News.dr4 ?zqcbN; (case zqcbN => assumption))
      | (refine' News.dr5 ?zqcbN; (case zqcbN => assumption))
      | (refine' News.dr6 ?zqcbN; (case zqcbN => assumption))
      | (refine' cb_drop ?zqcbN ?zqcbS; (case zqcbN => assumption); (case zqcbS => ktr_rel)))
  k_with "KswEnd" => (((rename News _ _ _ _ => nE'); (try simp only [List.push_toArray] at nE'); (first | refine' ksw_end5 ?zqz0 nE' ?zqz1 ?zqz2 ?zqz3 ?zqz4 ?zqz5 ?zqz6 | refine' ksw_end4 ?zqz0 nE' ?zqz1 ?zqz2 ?zqz3 ?zqz4 ?zqz5 ?zqz6 | refine' ksw_end3 ?zqz0 nE' ?zqz1 ?zqz2 ?zqz3 ?zqz4 ?zqz5 ?zqz6 | refine' ksw_end2 ?zqz0 nE' ?zqz1 ?zqz2 ?zqz3 ?zqz4 ?zqz5 ?zqz6); (case zqz0 => assumption); (case zqz3 => kst_all); (case zqz1 => first | kst_in | lcg_sub); (case zqz2 => kst_facts); (case zqz4 => ksw_same); (case zqz5 => kst_p); (case zqz6 => ksw_less)))
  k_with "units_room" => (first | exact roomA hu rfl | exact roomB hu rfl | exact roomC hu rfl | (have hcL9 := cLine_is; (try simp only [units_in1, units_deeper, Around.mark_units, units_caller] at *); (try dsimp only [ktrTop] at *); omega))
  k_with "ktr_unf" => (
      first
      | assumption
      | exact List.Mem.head _
      | (refine' List.mem_append_left _ ?_; ktr_unf)
      | (refine' List.Mem.tail _ ?_; ktr_unf))
  k_with "call builtin:len" => ((k_here; (with_reducible show wpAny _ _ (call (Value.builtin "len") [Value.ref _]) _ _ _); (refine' lenBs ?zqn3 (News.isList ?zqn1 ?zqn2) ?zqn4 ?_; (case zqn1 => assumption); (case zqn2 => ktr_unf); (case zqn3 => assumption); (case zqn4 => tb_start); intro _ _)))
  k_with "subscriptTail" => ((k_here; (with_reducible show wpAny _ _ (subscriptTail _ _ (Value.ref _) (Value.int _ _)) _ _ _); (refine' itemBs (hs := by with_unfolding_all rfl) ?zqn6 (News.isList ?zqn1 ?zqn2) ?zqn3 ?zqn4 ?zqn5 ?_; (case zqn1 => assumption); (case zqn2 => ktr_unf); (case zqn6 => assumption); (case zqn3 => omega); (case zqn4 => first | omega | (refine' neLen ?zqh; (case zqh => assumption))); (case zqn5 => tb_start); intro _)))
  k_with "subscriptTail Name Slice ref ref" => ((k_here; (with_reducible show wpAny _ _ (subscriptTail _ (PySem.Expr.Slice _ _ none _) (Value.ref _) (Value.ref _)) _ _ _); (refine' sliceBs (hs := by with_unfolding_all rfl) (ht := by intro _; with_unfolding_all rfl) (s := ⟨_, _, _, _, _⟩) ?zqn1 ?zqn2 ?zqn3 ?zqn4 ?zqn5 ?zqn6 ?zqn7 ?_; (case zqn1 => assumption); (case zqn2 => assumption); (case zqn3 => ktr_unf); (case zqn4 => assumption); (case zqn5 => constructor); (case zqn6 => constructor); (case zqn7 => tb_start)); intro _ _ _ _ _ _ _; (try dsimp only)))
  k_with "call builtin:bytes.join" => ((k_here; (with_reducible show wpAny _ _ (call (Value.builtin "bytes.join") _) _ _ _); (try dsimp only [List.append, List.cons_append, List.nil_append]); (refine' callJoin (News.get ?zqn1 ?zqn2) ?zqn3 ?zqn4 ?zqn5 ?_; (case zqn1 => assumption); (case zqn2 => ktr_unf); (case zqn3 => assumption); (case zqn4 => tb_start); (case zqn5 => tb_start); intro _ _)))
  k_with "lcg_off" => (
      first
      | assumption
      | (refine' off_lt ?zqal; (case zqal => assumption))
      | (refine' off_lt1 ?zqal; (case zqal => assumption))
      | (refine' OwnOff.ne ?zqal ?zqam; (case zqal => assumption); (case zqam => first | exact List.Mem.head _ | (simp; done)))
      | (refine' off_app ?zqal ?zqam; (case zqal => lcg_off); (case zqam => lcg_off))
      | (apply off_cons; assumption)
      | (refine' (fmc ?zqla ?zqlb); (case zqla => k_ne); (case zqlb => lcg_off))
      | (apply off_tail1; assumption)
      | (apply off_cons; apply off_cons; assumption)
      | (refine' ltNe ?zqal; (case zqal => first | assumption | (apply And.right; assumption) | (apply And.right; apply And.right; assumption) | (apply And.right; apply And.right; apply And.right; assumption) | (apply And.right; apply And.right; apply And.right; apply And.right; assumption) | (apply And.right; apply And.right; apply And.right; apply And.right; apply And.right; assumption))))
  k_with "cell_enter" => ((refine' code_def ?zqk1 ?zqk2 ?zqk3 ?zqk4 ?zqk5 ?zqkA ?zqkF ?zqkK ?zqk6 ?zqk7 ?zqk8 ?zqk9 ?zqkB ?_ ?zqc2 ?zqc3 ?zqc4 ?zqc5; (case zqkA => exact rfl); (case zqkF => exact rfl); (case zqkK => assumption); (case zqk1 => k_asm); (case zqk2 => k_asm); (case zqk3 => k_asm); (case zqk4 => k_asm); (case zqk5 => k_asm); (case zqk6 => k_is); (case zqk7 => k_is); (case zqk8 => ktr_room); (case zqk9 => first | exact BindsTo.of_eq rfl | exact binds_K (by k_in) rfl (by k_is) rfl rfl rfl); (case zqc5 => decide); (case zqkB => exact locs rfl); (case zqc2 => exact rfl); (case zqc3 => exact rfl); (case zqc4 => exact rfl); k_whole; intro g' L' h' FG' F' N' B' X' T'; (try dsimp only); (try k_lift B'); (try k_fold)))
  k_with "KExit" => ((k_dflt (refine' kexit ?zqn1 ?zqn2 ?zqn3; (case zqn1 => assumption); (case zqn2 => tb_rel); (case zqn3 => kwd_less); (all_goals (intro _; exact none)))))
  k_with "ktr_room" => (first | exact roomA hd rfl | exact roomB hd rfl | exact roomC hd rfl)
  k_with "k_ne" => ((refine neN ?_; (try dsimp only); first | (refine' neLt ?zqcbh ?zqcbk; (case zqcbh => with_reducible assumption); (case zqcbk => (intro cbz; repeat (first | exact cbz.1 | replace cbz := cbz.2)))) | (refine' neGt ?zqcbh ?zqcbk; (case zqcbh => with_reducible assumption); (case zqcbk => (intro cbz; repeat (first | exact cbz.1 | replace cbz := cbz.2)))) | omega))
  k_with "spliced" => ((k_here; k_dflt (refine' pes_eval ?zqcbF ?zqcbv ?_ ?zqcba; (case zqcbF => k_asm); (case zqcba => rfl); (case zqcbv => exact Eq.refl (some (_, _))); k_whole); (try dsimp only [List.cons_append, List.nil_append])))
  k_with "eval Subscript" => ((k_here; k_dflt (refine' sub_pe ?zqcbF ?zqcbv ?zqcbw ?_ ?zqcba; (case zqcbF => k_asm); (case zqcba => rfl); (case zqcbv => exact Eq.refl (some (_, _))); (case zqcbw => exact Eq.refl (some (_, _))); k_whole)))
  k_with "eval Slice" => ((k_here; k_dflt (refine' slice_pe ?zqcbF ?zqcbu ?zqcbv ?zqcbw ?_ ?zqcba; (case zqcbF => k_asm); (case zqcba => rfl); (case zqcbu => exact Eq.refl (some (_, _))); (case zqcbv => exact Eq.refl (some (_, _))); (case zqcbw => exact Eq.refl (some (_, _))); k_whole)))
  k_with "eval Name" => ((k_here; k_dflt (refine' nameX_L ?zqcbF ?zqcbv ?_ ?zqcba ?zqcbb; (case zqcbF => k_asm); (case zqcba => rfl); (case zqcbb => rfl); (case zqcbv => exact Eq.refl (some _)); k_whole)))
  k_with "storeName" => ((k_here; k_dflt (refine' storeL ?zqcbF ?zqcbN ?_ ?zqcba ?zqcbb; (case zqcbF => k_asm); (case zqcbN => k_asm); (case zqcba => rfl); (case zqcbb => rfl); k_whole); intro _ _ _ _; (try k_sweep)))
  k_with "eval Call" => ((k_here; k_dflt (refine' callK_pe (hd := by decide) ?zqcbF ?zqcbX ?zqcbT ?zqcbe ?zqcbf ?zqcbv ?_ ?zqcba ?zqcbb; (case zqcbF => k_asm); (case zqcbX => k_asm); (case zqcbT => k_asm); (case zqcba => rfl); (case zqcbb => rfl); (case zqcbe => k_is); (case zqcbf => k_is); (case zqcbv => exact Eq.refl (some (_, _))); k_whole); (try dsimp only [List.cons_append, List.nil_append])))
  k_with "call ref" => ((k_here; (with_reducible show wpAny _ _ (call (Value.ref 242) _) _ _ _); k_dflt (refine' Con.useL (con_rows _ _ _ _ ?zqc1) ?zqn1 ?zqn2 ?zqn3 ?zqn4 ?zqn5 ?zqn6 ?zqn7 ?zqn8 ?_; (case zqn4 => assumption); (case zqn1 => k_asm); (case zqn2 => k_asm); (case zqn3 => k_asm); (case zqn5 => k_asm); (case zqn6 => exact rfl); (case zqn7 => ktr_room); (case zqn8 => units_room); (case zqc1 => tb_start)); intro _ _ _ _ _ _ _ _ _; (try dsimp only)))
  k_with "tb_start" => ((refine' joinSubj ?zqe1 ?zqe2; (case zqe1 => assumption); (case zqe2 => decide)))
  k_with "tb_start" => ((refine' joinSubj ?zqe1 ?zqe2; (case zqe1 => assumption); (case zqe2 => decide)))
  k_with "kwd_inv" => (
      first
      | (refine' inA1 ?zqq1 ?zqq2 ?zqq3 ?zqq4; (case zqq1 => assumption); (case zqq2 => assumption); (case zqq3 => assumption); (case zqq4 => assumption))
      | (refine' inB1 ?zqq1 ?zqq2 ?zqq3 ?zqq4; (case zqq1 => assumption); (case zqq2 => assumption); (case zqq3 => assumption); (case zqq4 => assumption)))
  k_with "kwd_less" => (
      first
      | (refine' outA0 ?zqq1 ?zqq2 ?zqq3 ?zqq4; (case zqq1 => assumption); (case zqq2 => assumption); (case zqq3 => assumption); (case zqq4 => assumption))
      | (refine' outA1 ?zqq1 ?zqq2 ?zqq3 ?zqq4 ?zqq5; (case zqq1 => assumption); (case zqq2 => assumption); (case zqq3 => assumption); (case zqq4 => assumption); (case zqq5 => assumption))
      | (refine' outB0 ?zqq1 ?zqq2 ?zqq3 ?zqq4; (case zqq1 => assumption); (case zqq2 => assumption); (case zqq3 => assumption); (case zqq4 => assumption))
      | (refine' outB1 ?zqq1 ?zqq2 ?zqq3 ?zqq4 ?zqq5; (case zqq1 => assumption); (case zqq2 => assumption); (case zqq3 => assumption); (case zqq4 => assumption); (case zqq5 => assumption)))
  k_with "exec While BoolOp cons nil" => (k_dflt ((rename Fr _ _ _ _ => lF'); (rename News _ _ _ _ => lN'); (with_unfolding_all refine' ksw_joinC (hE := by passes_own) (σ := Int × Tok) (fun c => [(PySem.Str.ofString "at", .int c.1 c.2)]) [] (fun c => InA (rowsOf l) c.1) (fun c => (rowsOf l).length - c.1.toNat) (fun c => OutA (rowsOf l) c.1) ⟨_, _⟩ lF' lN' ?zqkk ?zqkp ?_ ?_); (case zqkk => kst_all); (case zqkp => exact inA0); (all_goals (clear lF' lN'; intro cC cU cH cTk cP cF cN; obtain ⟨cA, cB, cD⟩ := cP; (try dsimp only [kstB] at cF); (try dsimp only at cN)))))
  k_with "exec While BoolOp cons nil" => (k_dflt ((rename Fr _ _ _ _ => lF'); (rename News _ _ _ _ => lN'); (with_unfolding_all refine' ksw_joinC (hE := by passes_own) (σ := Int × Tok) (fun c => [(PySem.Str.ofString "at", .int c.1 c.2)]) [] (fun c => InB (rowsOf l) c.1) (fun c => (rowsOf l).length - c.1.toNat) (fun c => OutB (rowsOf l) c.1) ⟨_, _⟩ lF' lN' ?zqkk ?zqkp ?_ ?_); (case zqkk => kst_all); (case zqkp => refine' inB0 ?zqa ?zqb ?zqd; (case zqa => assumption); (case zqb => assumption); (case zqd => assumption)); (all_goals (clear lF' lN'; intro cC cU cH cTk cP cF cN; obtain ⟨cA, cB, cD⟩ := cP; (try dsimp only [kstB] at cF); (try dsimp only at cN)))))
  k_with "state" => kwd_inv
  k_with "measure" => first | (refine' mUp ?x ?y; (case x => assumption); (case y => assumption)) | (refine' mDn ?x; (case x => assumption)) | (refine' mDs ?x ?y; (case x => assumption); (case y => assumption))
  w_strict (
    refine wpAny_call ?_
    k_dflt cell_enter
    k_steps
    all_goals (refine' hret _ _ _ _ (pPair ?e0 ?e1) ?e2 ?e3; (case e2 => assumption); (case e3 => tb_rel); (case e1 => lcg_off); (case e0 => assumption)))
noncomputable def lawSkip (cm : Option (List UInt8)) (bare : List UInt8) : Bool := match cm with
  | none => false
  | some c => bare.take c.length == c
noncomputable def lawStep (cm : Option (List UInt8)) (st : List UInt8 × Bool) (row : List UInt8) : List UInt8 × Bool :=
  if lawSkip cm (cutEnd blank row) then st
  else if cutEnd blank row == [] then (st.1, st.1 != [])
  else (st.1 ++ (if st.2 then [10] else []) ++ cutEnd blank row ++ [10], false)
/-- what the law says of a message -/
noncomputable def lawCleaned (cm : Option (List UInt8)) (l : List UInt8) : List UInt8 := ((splitNL l).foldl (lawStep cm) ([], false)).1
theorem cut_le (p : UInt8 → Bool) (y : List UInt8) : (cutEnd p y).length ≤ y.length := by
  unfold cutEnd
  rw [List.length_reverse]
  have := (List.dropWhile_sublist p (l := y.reverse)).length_le
  simpa using this
theorem turnOf {l y : List UInt8} {pre post : List (List UInt8)} (e : splitNL l = pre ++ y :: post) (hl : l.length ≤ 1000) : y.length ≤ 1000 ∧ pre.length ≤ 1000 ∧ ∀ x ∈ pre, x.length ≤ 1000 := by
  have h1 : ∀ x ∈ pre ++ y :: post, x.length ≤ 1000 := fun x hx => Nat.le_trans (split_part l x (e ▸ hx)) hl
  have h2 := split_len l
  rw [e] at h2
  simp at h2
  exact ⟨h1 y (by simp), by omega, fun x hx => h1 x (by simp [hx])⟩
theorem lawFold_size (cm : Option (List UInt8)) : ∀ (pre : List (List UInt8)) (st : List UInt8 × Bool), (∀ x ∈ pre, x.length ≤ 1000) → (pre.foldl (lawStep cm) st).1.length ≤ st.1.length + pre.length * 1002 := by
  intro pre
  induction pre with
  | nil => intro st _; simp
  | cons x r ih =>
    intro st h
    have h1 := ih (lawStep cm st x) fun y hy => h y (.tail _ hy)
    have h2 : (lawStep cm st x).1.length ≤ st.1.length + 1002 := by
      have h3 := cut_le blank x
      have h4 := h x (.head _)
      unfold lawStep
      split
      · omega
      · split
        · simp
        · simp only [List.length_append, List.length_cons, List.length_nil]
          split <;> simp <;> omega
    simp only [List.foldl_cons, List.length_cons, Nat.succ_mul]
    omega
theorem lawSize {cm : Option (List UInt8)} {l y f : List UInt8} {o : Bool} {pre post : List (List UInt8)} (e : splitNL l = pre ++ y :: post) (hl : l.length ≤ 1000) (hP : (f, o) = pre.foldl (lawStep cm) ([], false)) : f.length ≤ 1100000 ∧ y.length ≤ 1000 ∧ (cutEnd blank y).length ≤ 1000 := by
  obtain ⟨h1, h2, h3⟩ := turnOf e hl
  have h4 := lawFold_size cm pre ([], false) h3
  rw [← hP] at h4
  have h5 := cut_le blank y
  simp at h4
  refine ⟨by omega, h1, by omega⟩
theorem lawA {cm : Option (List UInt8)} {f y : List UInt8} {o : Bool} {pre : List (List UInt8)} (hP : (f, o) = pre.foldl (lawStep cm) ([], false)) (h1 : lawSkip cm (cutEnd blank y) = true) : (f, o) = (pre ++ [y]).foldl (lawStep cm) ([], false) := by
  rw [List.foldl_append, ← hP]
  simp [lawStep, h1]
theorem lawB {cm : Option (List UInt8)} {f y : List UInt8} {o : Bool} {pre : List (List UInt8)} (hP : (f, o) = pre.foldl (lawStep cm) ([], false)) (h1 : lawSkip cm (cutEnd blank y) = false) (h2 : (cutEnd blank y == []) = true) : (f, f != []) = (pre ++ [y]).foldl (lawStep cm) ([], false) := by
  rw [List.foldl_append, ← hP]
  simp [lawStep, h1, h2]
theorem lawC {cm : Option (List UInt8)} {f y g : List UInt8} {o : Bool} {pre : List (List UInt8)} (hP : (f, o) = pre.foldl (lawStep cm) ([], false)) (h1 : lawSkip cm (cutEnd blank y) = false) (h2 : (cutEnd blank y == []) = false) (ho : o = true) (hg : g = [10]) : (f ++ g ++ cutEnd blank y ++ [10], false) = (pre ++ [y]).foldl (lawStep cm) ([], false) := by
  subst ho hg
  rw [List.foldl_append, ← hP]
  simp only [List.foldl_cons, List.foldl_nil, lawStep, h1, h2, Bool.false_eq_true, if_false, if_true]
theorem lawD {cm : Option (List UInt8)} {f y g : List UInt8} {o : Bool} {pre : List (List UInt8)} (hP : (f, o) = pre.foldl (lawStep cm) ([], false)) (h1 : lawSkip cm (cutEnd blank y) = false) (h2 : (cutEnd blank y == []) = false) (ho : o = false) (hg : g = []) : (f ++ g ++ cutEnd blank y ++ [10], false) = (pre ++ [y]).foldl (lawStep cm) ([], false) := by
  subst ho hg
  rw [List.foldl_append, ← hP]
  simp only [List.foldl_cons, List.foldl_nil, lawStep, h1, h2, Bool.false_eq_true, if_false]
theorem lawE {cm : Option (List UInt8)} {l f : List UInt8} {o : Bool} (hP : (f, o) = (splitNL l).foldl (lawStep cm) ([], false)) : f = lawCleaned cm l := by
  unfold lawCleaned
  rw [← hP]
theorem skip0 {b : List UInt8} : lawSkip none b = false := rfl
theorem skip1 {c b : List UInt8} {k : Int} {x : Bool} (hk : k = c.length) (h : (sl b none (some k) == c) = x) : lawSkip (some c) b = x := by
  subst hk
  rw [← h]
  unfold lawSkip sl
  simp only [Option.elim]
  rw [clipAt_nat]
  by_cases hc : c.length ≤ b.length
  · rw [Nat.min_eq_left hc]; simp
  · rw [Nat.min_eq_right (by omega)]
    have e : b.take c.length = b.take b.length := by rw [List.take_of_length_le (by omega), List.take_length]
    simp [e]
set_option maxHeartbeats 8000000 in
theorem con_cleaned0 (w : World) (led : List (Addr × Obj)) (l : List UInt8) (t : Tok) (hl : l.length ≤ 1000) : Con w 382 2 108 led [.bytes l.toArray t, .none] (PBytes led (lawCleaned (none) l)) := by
  refine conOf ?_
  k_fill
  intro dp un gd cn cs a ccd cl outer A₀ base h₀ L m hp gn dr tk os Q E p loose mean mg mb B F X N T hk hd hu hret
  k_with_none
  k_with "tb_start" => (
      first
      | (refine' Nat.le_trans ?zqq1 (Nat.le_of_ble_eq_true ?zqq2); (case zqq1 => with_reducible assumption); (case zqq2 => exact rfl))
      | omega
      | (simp only [List.length_append, List.length_cons, List.length_nil, List.length_map, List.length_take, List.length_drop]; omega)
      | ((try simp only [List.length_append, List.length_cons, List.length_nil]); (first | refine Nat.le_trans (sl_length _ _) ?_ | skip); omega)
      | fail "size")
  k_with "call builtin:len" => ((k_here; (with_reducible show wpAny _ _ (call (Value.builtin "len") [Value.bytes (List.toArray _) _]) _ _ _); (refine lenB (by tb_start) ?_); intro _ _))
  k_with "binaryOp Add bytes bytes" => ((k_here; (with_reducible show wpAny _ _ (binaryOp Operator.Add (Value.bytes (List.toArray _) _) (Value.bytes (List.toArray _) _)) _ _ _); (refine addB (by tb_start) ?_); intro _ _))
  k_with "subscriptTail" => ((k_here; (with_reducible show wpAny _ _ (subscriptTail _ (Expr.Slice _ _ none _) (Value.bytes (List.toArray _) _) (Value.ref _)) _ _ _); (with_reducible rename Fr _ _ _ _ => F'); (with_reducible rename News _ _ _ _ => N'); (refine sliceB (hs := by with_unfolding_all rfl) (ht := by intro _; with_unfolding_all rfl) (s := ⟨_, _, _, _, _⟩) F' N' (by constructor) (by constructor) (by tb_start) ?_); intro _ _ _ _ _))
  k_with "getMethod bytes" => ((k_here; (with_reducible show wpAny _ _ (getMethod (Value.bytes (List.toArray _) _) (PySem.Str.ofString "split") _) _ _ _); (refine methB slotSplit tySplit ?_)))
  k_with "ktr_rel" => (
      (intro cbp cbh; first
      | exact cbh
      | exact List.mem_cons_of_mem _ cbh
      | exact List.mem_cons_of_mem _ (List.mem_cons_of_mem _ cbh)
      | (simp only [List.mem_cons, List.mem_append] at cbh ⊢; first | exact cbh | (simp [cbh]; done) | grind)
      | grind))
  k_with "tb_rel" => (
      first
      | assumption
      | (refine' News.dr1 ?zqcbN; (case zqcbN => assumption))
      | (refine' News.dr2 ?zqcbN; (case zqcbN => assumption))
      | (refine' News.dr3 ?zqcbN; (case zqcbN => assumption))
      | (refine' News.dr4 ?zqcbN; (case zqcbN => assumption))
      | (refine' News.dr5 ?zqcbN; (case zqcbN => assumption))
      | (refine' News.dr6 ?zqcbN; (case zqcbN => assumption))
      | (refine' cb_drop ?zqcbN ?zqcbS; (case zqcbN => assumption); (case zqcbS => ktr_rel)))
  k_with "lcg_sub" => (
      first
      | (refine' (fmc ?zqha ?zqhb); (case zqha => ktr_unf); (case zqhb => lcg_sub))
      | ktr_rel)
  k_with "ktd_rel" => ((refine' hret _ _ _ _ (pBe ?zqe0) ?zqe1 ?zqe2; (case zqe1 => assumption); (case zqe2 => tb_rel); (case zqe0 => kwd_rel)))
  k_with "units_room" => (first | exact roomA hu rfl | exact roomB hu rfl | exact roomC hu rfl | (have hcL9 := cLine_is; (try simp only [units_in1, units_deeper, Around.mark_units, units_caller] at *); (try dsimp only [ktrTop] at *); omega))
  k_with "ktr_unf" => (
      first
      | assumption
      | exact List.Mem.head _
      | (refine' List.mem_append_left _ ?_; ktr_unf)
      | (refine' List.Mem.tail _ ?_; ktr_unf))
  k_with "call builtin:bytes.split" => ((k_here; (with_reducible show wpAny _ _ (call (Value.builtin "bytes.split") _) _ _ _); (try dsimp only [List.append, List.cons_append, List.nil_append]); (refine' callSplit ?zqn1 ?zqn2 ?zqn3 ?_; (case zqn1 => k_asm); (case zqn2 => assumption); (case zqn3 => tb_start); intro _ _ _ _ _ _ _ _); (try dsimp only)))
  k_with "lcg_off" => (
      first
      | assumption
      | (refine' off_lt ?zqal; (case zqal => assumption))
      | (refine' off_lt1 ?zqal; (case zqal => assumption))
      | (refine' OwnOff.ne ?zqal ?zqam; (case zqal => assumption); (case zqam => first | exact List.Mem.head _ | (simp; done)))
      | (refine' off_app ?zqal ?zqam; (case zqal => lcg_off); (case zqam => lcg_off))
      | (apply off_cons; assumption)
      | (refine' (fmc ?zqla ?zqlb); (case zqla => k_ne); (case zqlb => lcg_off))
      | (apply off_tail1; assumption)
      | (apply off_cons; apply off_cons; assumption)
      | (refine' ltNe ?zqal; (case zqal => first | assumption | (apply And.right; assumption) | (apply And.right; apply And.right; assumption) | (apply And.right; apply And.right; apply And.right; assumption) | (apply And.right; apply And.right; apply And.right; apply And.right; assumption) | (apply And.right; apply And.right; apply And.right; apply And.right; apply And.right; assumption))))
  k_with "exec For Name Call cons nil" => ((k_here; (rename Fr _ _ _ _ => lF'); (with_unfolding_all refine' For_invVF lF' ?zqk1 ?zqk2 ?_; (case zqk1 => exact rfl); (case zqk2 => exact rfl); k_whole)))
  k_with "InvEndN" => ((k_here; (rename News _ _ _ _ => nE'); (try simp only [List.push_toArray] at nE'); (first | refine' bs_end5 ?zqz0 nE' ?zqz1 ?zqz2 ?zqz3 ?zqz4 ?zqz5 ?zqz6 | refine' bs_end4 ?zqz0 nE' ?zqz1 ?zqz2 ?zqz3 ?zqz4 ?zqz5 ?zqz6 | refine' bs_end3 ?zqz0 nE' ?zqz1 ?zqz2 ?zqz3 ?zqz4 ?zqz5 ?zqz6 | refine' bs_end2 ?zqz0 nE' ?zqz1 ?zqz2 ?zqz3 ?zqz4 ?zqz5 ?zqz6); (case zqz0 => assumption); (case zqz4 => kst_all); (case zqz1 => lcg_sub); (case zqz2 => ktr_rel); (case zqz3 => rfl); (case zqz5 => kst_same); (case zqz6 => kst_p)))
  k_with "cell_enter" => ((refine' code_def ?zqk1 ?zqk2 ?zqk3 ?zqk4 ?zqk5 ?zqkA ?zqkF ?zqkK ?zqk6 ?zqk7 ?zqk8 ?zqk9 ?zqkB ?_ ?zqc2 ?zqc3 ?zqc4 ?zqc5; (case zqkA => exact rfl); (case zqkF => exact rfl); (case zqkK => assumption); (case zqk1 => k_asm); (case zqk2 => k_asm); (case zqk3 => k_asm); (case zqk4 => k_asm); (case zqk5 => k_asm); (case zqk6 => k_is); (case zqk7 => k_is); (case zqk8 => ktr_room); (case zqk9 => first | exact BindsTo.of_eq rfl | exact binds_K (by k_in) rfl (by k_is) rfl rfl rfl); (case zqc5 => decide); (case zqkB => exact locs rfl); (case zqc2 => exact rfl); (case zqc3 => exact rfl); (case zqc4 => exact rfl); k_whole; intro g' L' h' FG' F' N' B' X' T'; (try dsimp only); (try k_lift B'); (try k_fold)))
  k_with "ktr_room" => (first | exact roomA hd rfl | exact roomB hd rfl | exact roomC hd rfl)
  k_with "k_ne" => ((refine neN ?_; (try dsimp only); first | (refine' neLt ?zqcbh ?zqcbk; (case zqcbh => with_reducible assumption); (case zqcbk => (intro cbz; repeat (first | exact cbz.1 | replace cbz := cbz.2)))) | (refine' neGt ?zqcbh ?zqcbk; (case zqcbh => with_reducible assumption); (case zqcbk => (intro cbz; repeat (first | exact cbz.1 | replace cbz := cbz.2)))) | omega))
  k_with "spliced" => ((k_here; k_dflt (refine' pes_eval ?zqcbF ?zqcbv ?_ ?zqcba; (case zqcbF => k_asm); (case zqcba => rfl); (case zqcbv => exact Eq.refl (some (_, _))); k_whole); (try dsimp only [List.cons_append, List.nil_append])))
  k_with "isTrue Compare" => ((k_here; k_dflt (refine' cmp_pe (hm := by with_unfolding_all rfl) ?zqcbF ?zqcbv ?zqcbw ?_ ?zqcba; (case zqcbF => k_asm); (case zqcba => rfl); (case zqcbv => exact Eq.refl (some (_, _))); (case zqcbw => exact Eq.refl (some (_, _))); k_whole)))
  k_with "eval Name" => ((k_here; k_dflt (refine' nameX_L ?zqcbF ?zqcbv ?_ ?zqcba ?zqcbb; (case zqcbF => k_asm); (case zqcba => rfl); (case zqcbb => rfl); (case zqcbv => exact Eq.refl (some _)); k_whole)))
  k_with "storeName" => ((k_here; k_dflt (refine' storeL ?zqcbF ?zqcbN ?_ ?zqcba ?zqcbb; (case zqcbF => k_asm); (case zqcbN => k_asm); (case zqcba => rfl); (case zqcbb => rfl); k_whole); intro _ _ _ _; (try k_sweep)))
  k_with "eval Call" => ((k_here; k_dflt (refine' callK_pe (hd := by decide) ?zqcbF ?zqcbX ?zqcbT ?zqcbe ?zqcbf ?zqcbv ?_ ?zqcba ?zqcbb; (case zqcbF => k_asm); (case zqcbX => k_asm); (case zqcbT => k_asm); (case zqcba => rfl); (case zqcbb => rfl); (case zqcbe => k_is); (case zqcbf => k_is); (case zqcbv => exact Eq.refl (some (_, _))); k_whole); (try dsimp only [List.cons_append, List.nil_append])))
  k_with "kwd_less" => (first | exact skip0 | (refine' skip1 rfl ?zqh; (case zqh => assumption)))
  k_with "kwd_inv" => (
      first
      | (refine' lawA ?zqq1 ?zqq2; (case zqq1 => assumption); (case zqq2 => kwd_less))
      | (refine' lawB ?zqq1 ?zqq2 ?zqq3; (case zqq1 => assumption); (case zqq2 => kwd_less); (case zqq3 => assumption))
      | (refine' lawC ?zqq1 ?zqq2 ?zqq3 ?zqq4 ?zqq5; (case zqq1 => assumption); (case zqq2 => kwd_less); (case zqq3 => assumption); (case zqq4 => assumption); (case zqq5 => exact rfl))
      | (refine' lawD ?zqq1 ?zqq2 ?zqq3 ?zqq4 ?zqq5; (case zqq1 => assumption); (case zqq2 => kwd_less); (case zqq3 => assumption); (case zqq4 => assumption); (case zqq5 => exact rfl)))
  k_with "kwd_rel" => ((refine' lawE ?zqq1; (case zqq1 => assumption)))
  k_with "call ref" => ((k_here; (with_reducible show wpAny _ _ (call (Value.ref 375) _) _ _ _); k_dflt (refine' Con.useB (con_law_cut _ _ _ _ ?zqc1) ?zqn1 ?zqn2 ?zqn3 ?zqn4 ?zqn5 ?zqn6 ?zqn7 ?zqn8 ?_; (case zqn4 => assumption); (case zqn1 => k_asm); (case zqn2 => k_asm); (case zqn3 => k_asm); (case zqn5 => k_asm); (case zqn6 => exact rfl); (case zqn7 => ktr_room); (case zqn8 => units_room); (case zqc1 => tb_start)); intro _ _ _ _ _; (try dsimp only)))
  k_with "state" => kwd_inv
  k_with "pyIter ref" => (
    (rename Fr _ _ _ _ => lF'); (rename News _ _ _ _ => lN')
    refine' bs_for (σ := List UInt8 × Tok × Bool) (fun _ => led) (fun c => [(PySem.Str.ofString "found", .bytes c.1.toArray c.2.1), (PySem.Str.ofString "is_open", .bool c.2.2)]) [PySem.Str.ofString "bare"] (fun pre c => (c.1, c.2.2) = pre.foldl (lawStep (none)) ([], false)) ([], _, false) ?hh lF' lN' ?hl ?hb ?hsub ?hoff ?hk ?hp ?turn ?done
    case hh => exact rfl
    case hl => ktr_unf
    case hb => assumption
    case hsub => ktr_rel
    case hoff => lcg_off
    case hk => kst_all
    case hp => exact rfl
    (case' turn => (clear lF' lN'; intro cC cPre cPost cY cT cU cH cTk cOwn cE cO cP cF cN; obtain ⟨cS1, cS2, cS3⟩ := lawSize cE hl cP; (try dsimp only [kstB] at cF); (try dsimp only at cN); (try simp only [List.cons_append, List.nil_append] at cN)))
    (case' done => (clear lF' lN'; intro cC cU cH cTk cP cF cN; (try dsimp only [kstB] at cF); (try dsimp only at cN); (try simp only [List.cons_append, List.nil_append] at cN))))
  w_strict (
    refine wpAny_call ?_
    k_dflt cell_enter
    k_steps
    all_goals first | ktd_rel | trace_state)
set_option maxHeartbeats 8000000 in
theorem con_cleaned1 (w : World) (led : List (Addr × Obj)) (l : List UInt8) (t : Tok) (hl : l.length ≤ 1000) (cm : List UInt8) (u : Tok) (hc : cm.length ≤ 100) : Con w 382 2 108 led [.bytes l.toArray t, .bytes cm.toArray u] (PBytes led (lawCleaned (some cm) l)) := by
  refine conOf ?_
  k_fill
  intro dp un gd cn cs a ccd cl outer A₀ base h₀ L m hp gn dr tk os Q E p loose mean mg mb B F X N T hk hd hu hret
  k_with_none
  k_with "tb_start" => (
      first
      | (refine' Nat.le_trans ?zqq1 (Nat.le_of_ble_eq_true ?zqq2); (case zqq1 => with_reducible assumption); (case zqq2 => exact rfl))
      | omega
      | (simp only [List.length_append, List.length_cons, List.length_nil, List.length_map, List.length_take, List.length_drop]; omega)
      | ((try simp only [List.length_append, List.length_cons, List.length_nil]); (first | refine Nat.le_trans (sl_length _ _) ?_ | skip); omega)
      | fail "size")
  k_with "call builtin:len" => ((k_here; (with_reducible show wpAny _ _ (call (Value.builtin "len") [Value.bytes (List.toArray _) _]) _ _ _); (refine lenB (by tb_start) ?_); intro _ _))
  k_with "binaryOp Add bytes bytes" => ((k_here; (with_reducible show wpAny _ _ (binaryOp Operator.Add (Value.bytes (List.toArray _) _) (Value.bytes (List.toArray _) _)) _ _ _); (refine addB (by tb_start) ?_); intro _ _))
  k_with "subscriptTail" => ((k_here; (with_reducible show wpAny _ _ (subscriptTail _ (Expr.Slice _ _ none _) (Value.bytes (List.toArray _) _) (Value.ref _)) _ _ _); (with_reducible rename Fr _ _ _ _ => F'); (with_reducible rename News _ _ _ _ => N'); (refine sliceB (hs := by with_unfolding_all rfl) (ht := by intro _; with_unfolding_all rfl) (s := ⟨_, _, _, _, _⟩) F' N' (by constructor) (by constructor) (by tb_start) ?_); intro _ _ _ _ _))
  k_with "getMethod bytes" => ((k_here; (with_reducible show wpAny _ _ (getMethod (Value.bytes (List.toArray _) _) (PySem.Str.ofString "split") _) _ _ _); (refine methB slotSplit tySplit ?_)))
  k_with "ktr_rel" => (
      (intro cbp cbh; first
      | exact cbh
      | exact List.mem_cons_of_mem _ cbh
      | exact List.mem_cons_of_mem _ (List.mem_cons_of_mem _ cbh)
      | (simp only [List.mem_cons, List.mem_append] at cbh ⊢; first | exact cbh | (simp [cbh]; done) | grind)
      | grind))
  k_with "tb_rel" => (
      first
      | assumption
      | (refine' News.dr1 ?zqcbN; (case zqcbN => assumption))
      | (refine' News.dr2 ?zqcbN; (case zqcbN => assumption))
      | (refine' News.dr3 ?zqcbN; (case zqcbN => assumption))
      | (refine' News.dr4 ?zqcbN; (case zqcbN => assumption))
      | (refine' News.dr5 ?zqcbN; (case zqcbN => assumption))
      | (refine' News.dr6 ?zqcbN; (case zqcbN => assumption))
      | (refine' cb_drop ?zqcbN ?zqcbS; (case zqcbN => assumption); (case zqcbS => ktr_rel)))
  k_with "lcg_sub" => (
      first
      | (refine' (fmc ?zqha ?zqhb); (case zqha => ktr_unf); (case zqhb => lcg_sub))
      | ktr_rel)
  k_with "ktd_rel" => ((refine' hret _ _ _ _ (pBe ?zqe0) ?zqe1 ?zqe2; (case zqe1 => assumption); (case zqe2 => tb_rel); (case zqe0 => kwd_rel)))
  k_with "units_room" => (first | exact roomA hu rfl | exact roomB hu rfl | exact roomC hu rfl | (have hcL9 := cLine_is; (try simp only [units_in1, units_deeper, Around.mark_units, units_caller] at *); (try dsimp only [ktrTop] at *); omega))
  k_with "ktr_unf" => (
      first
      | assumption
      | exact List.Mem.head _
      | (refine' List.mem_append_left _ ?_; ktr_unf)
      | (refine' List.Mem.tail _ ?_; ktr_unf))
  k_with "call builtin:bytes.split" => ((k_here; (with_reducible show wpAny _ _ (call (Value.builtin "bytes.split") _) _ _ _); (try dsimp only [List.append, List.cons_append, List.nil_append]); (refine' callSplit ?zqn1 ?zqn2 ?zqn3 ?_; (case zqn1 => k_asm); (case zqn2 => assumption); (case zqn3 => tb_start); intro _ _ _ _ _ _ _ _); (try dsimp only)))
  k_with "lcg_off" => (
      first
      | assumption
      | (refine' off_lt ?zqal; (case zqal => assumption))
      | (refine' off_lt1 ?zqal; (case zqal => assumption))
      | (refine' OwnOff.ne ?zqal ?zqam; (case zqal => assumption); (case zqam => first | exact List.Mem.head _ | (simp; done)))
      | (refine' off_app ?zqal ?zqam; (case zqal => lcg_off); (case zqam => lcg_off))
      | (apply off_cons; assumption)
      | (refine' (fmc ?zqla ?zqlb); (case zqla => k_ne); (case zqlb => lcg_off))
      | (apply off_tail1; assumption)
      | (apply off_cons; apply off_cons; assumption)
      | (refine' ltNe ?zqal; (case zqal => first | assumption | (apply And.right; assumption) | (apply And.right; apply And.right; assumption) | (apply And.right; apply And.right; apply And.right; assumption) | (apply And.right; apply And.right; apply And.right; apply And.right; assumption) | (apply And.right; apply And.right; apply And.right; apply And.right; apply And.right; assumption))))
  k_with "exec For Name Call cons nil" => ((k_here; (rename Fr _ _ _ _ => lF'); (with_unfolding_all refine' For_invVF lF' ?zqk1 ?zqk2 ?_; (case zqk1 => exact rfl); (case zqk2 => exact rfl); k_whole)))
  k_with "InvEndN" => ((k_here; (rename News _ _ _ _ => nE'); (try simp only [List.push_toArray] at nE'); (first | refine' bs_end5 ?zqz0 nE' ?zqz1 ?zqz2 ?zqz3 ?zqz4 ?zqz5 ?zqz6 | refine' bs_end4 ?zqz0 nE' ?zqz1 ?zqz2 ?zqz3 ?zqz4 ?zqz5 ?zqz6 | refine' bs_end3 ?zqz0 nE' ?zqz1 ?zqz2 ?zqz3 ?zqz4 ?zqz5 ?zqz6 | refine' bs_end2 ?zqz0 nE' ?zqz1 ?zqz2 ?zqz3 ?zqz4 ?zqz5 ?zqz6); (case zqz0 => assumption); (case zqz4 => kst_all); (case zqz1 => lcg_sub); (case zqz2 => ktr_rel); (case zqz3 => rfl); (case zqz5 => kst_same); (case zqz6 => kst_p)))
  k_with "cell_enter" => ((refine' code_def ?zqk1 ?zqk2 ?zqk3 ?zqk4 ?zqk5 ?zqkA ?zqkF ?zqkK ?zqk6 ?zqk7 ?zqk8 ?zqk9 ?zqkB ?_ ?zqc2 ?zqc3 ?zqc4 ?zqc5; (case zqkA => exact rfl); (case zqkF => exact rfl); (case zqkK => assumption); (case zqk1 => k_asm); (case zqk2 => k_asm); (case zqk3 => k_asm); (case zqk4 => k_asm); (case zqk5 => k_asm); (case zqk6 => k_is); (case zqk7 => k_is); (case zqk8 => ktr_room); (case zqk9 => first | exact BindsTo.of_eq rfl | exact binds_K (by k_in) rfl (by k_is) rfl rfl rfl); (case zqc5 => decide); (case zqkB => exact locs rfl); (case zqc2 => exact rfl); (case zqc3 => exact rfl); (case zqc4 => exact rfl); k_whole; intro g' L' h' FG' F' N' B' X' T'; (try dsimp only); (try k_lift B'); (try k_fold)))
  k_with "ktr_room" => (first | exact roomA hd rfl | exact roomB hd rfl | exact roomC hd rfl)
  k_with "k_ne" => ((refine neN ?_; (try dsimp only); first | (refine' neLt ?zqcbh ?zqcbk; (case zqcbh => with_reducible assumption); (case zqcbk => (intro cbz; repeat (first | exact cbz.1 | replace cbz := cbz.2)))) | (refine' neGt ?zqcbh ?zqcbk; (case zqcbh => with_reducible assumption); (case zqcbk => (intro cbz; repeat (first | exact cbz.1 | replace cbz := cbz.2)))) | omega))
  k_with "spliced" => ((k_here; k_dflt (refine' pes_eval ?zqcbF ?zqcbv ?_ ?zqcba; (case zqcbF => k_asm); (case zqcba => rfl); (case zqcbv => exact Eq.refl (some (_, _))); k_whole); (try dsimp only [List.cons_append, List.nil_append])))
  k_with "isTrue Compare" => ((k_here; k_dflt (refine' cmp_pe (hm := by with_unfolding_all rfl) ?zqcbF ?zqcbv ?zqcbw ?_ ?zqcba; (case zqcbF => k_asm); (case zqcba => rfl); (case zqcbv => exact Eq.refl (some (_, _))); (case zqcbw => exact Eq.refl (some (_, _))); k_whole)))
  k_with "eval Name" => ((k_here; k_dflt (refine' nameX_L ?zqcbF ?zqcbv ?_ ?zqcba ?zqcbb; (case zqcbF => k_asm); (case zqcba => rfl); (case zqcbb => rfl); (case zqcbv => exact Eq.refl (some _)); k_whole)))
  k_with "storeName" => ((k_here; k_dflt (refine' storeL ?zqcbF ?zqcbN ?_ ?zqcba ?zqcbb; (case zqcbF => k_asm); (case zqcbN => k_asm); (case zqcba => rfl); (case zqcbb => rfl); k_whole); intro _ _ _ _; (try k_sweep)))
  k_with "eval Call" => ((k_here; k_dflt (refine' callK_pe (hd := by decide) ?zqcbF ?zqcbX ?zqcbT ?zqcbe ?zqcbf ?zqcbv ?_ ?zqcba ?zqcbb; (case zqcbF => k_asm); (case zqcbX => k_asm); (case zqcbT => k_asm); (case zqcba => rfl); (case zqcbb => rfl); (case zqcbe => k_is); (case zqcbf => k_is); (case zqcbv => exact Eq.refl (some (_, _))); k_whole); (try dsimp only [List.cons_append, List.nil_append])))
  k_with "kwd_less" => (first | exact skip0 | (refine' skip1 rfl ?zqh; (case zqh => assumption)))
  k_with "kwd_inv" => (
      first
      | (refine' lawA ?zqq1 ?zqq2; (case zqq1 => assumption); (case zqq2 => kwd_less))
      | (refine' lawB ?zqq1 ?zqq2 ?zqq3; (case zqq1 => assumption); (case zqq2 => kwd_less); (case zqq3 => assumption))
      | (refine' lawC ?zqq1 ?zqq2 ?zqq3 ?zqq4 ?zqq5; (case zqq1 => assumption); (case zqq2 => kwd_less); (case zqq3 => assumption); (case zqq4 => assumption); (case zqq5 => exact rfl))
      | (refine' lawD ?zqq1 ?zqq2 ?zqq3 ?zqq4 ?zqq5; (case zqq1 => assumption); (case zqq2 => kwd_less); (case zqq3 => assumption); (case zqq4 => assumption); (case zqq5 => exact rfl)))
  k_with "kwd_rel" => ((refine' lawE ?zqq1; (case zqq1 => assumption)))
  k_with "call ref" => ((k_here; (with_reducible show wpAny _ _ (call (Value.ref 375) _) _ _ _); k_dflt (refine' Con.useB (con_law_cut _ _ _ _ ?zqc1) ?zqn1 ?zqn2 ?zqn3 ?zqn4 ?zqn5 ?zqn6 ?zqn7 ?zqn8 ?_; (case zqn4 => assumption); (case zqn1 => k_asm); (case zqn2 => k_asm); (case zqn3 => k_asm); (case zqn5 => k_asm); (case zqn6 => exact rfl); (case zqn7 => ktr_room); (case zqn8 => units_room); (case zqc1 => tb_start)); intro _ _ _ _ _; (try dsimp only)))
  k_with "state" => kwd_inv
  k_with "pyIter ref" => (
    (rename Fr _ _ _ _ => lF'); (rename News _ _ _ _ => lN')
    refine' bs_for (σ := List UInt8 × Tok × Bool) (fun _ => led) (fun c => [(PySem.Str.ofString "found", .bytes c.1.toArray c.2.1), (PySem.Str.ofString "is_open", .bool c.2.2)]) [PySem.Str.ofString "bare"] (fun pre c => (c.1, c.2.2) = pre.foldl (lawStep (some cm)) ([], false)) ([], _, false) ?hh lF' lN' ?hl ?hb ?hsub ?hoff ?hk ?hp ?turn ?done
    case hh => exact rfl
    case hl => ktr_unf
    case hb => assumption
    case hsub => ktr_rel
    case hoff => lcg_off
    case hk => kst_all
    case hp => exact rfl
    (case' turn => (clear lF' lN'; intro cC cPre cPost cY cT cU cH cTk cOwn cE cO cP cF cN; obtain ⟨cS1, cS2, cS3⟩ := lawSize cE hl cP; (try dsimp only [kstB] at cF); (try dsimp only at cN); (try simp only [List.cons_append, List.nil_append] at cN)))
    (case' done => (clear lF' lN'; intro cC cU cH cTk cP cF cN; (try dsimp only [kstB] at cF); (try dsimp only at cN); (try simp only [List.cons_append, List.nil_append] at cN))))
  w_strict (
    refine wpAny_call ?_
    k_dflt cell_enter
    k_steps
    all_goals first | ktd_rel | trace_state)
noncomputable def projSkip (cm : Option (List UInt8)) (row : List UInt8) : Bool := match cm with
  | none => false
  | some c => sw row c 0
noncomputable def projStep (cm : Option (List UInt8)) (st : List (List UInt8) × Bool) (row : List UInt8) : List (List UInt8) × Bool :=
  if projSkip cm row then st
  else if row == [] then (st.1, true)
  else (st.1 ++ (if st.2 && decide (0 < st.1.length) then [[]] else []) ++ [row], false)
/-- what the project tells of a message -/
noncomputable def projMessage (cm : Option (List UInt8)) (l : List UInt8) : List UInt8 :=
  if ((rowsOf l).foldl (projStep cm) ([], false)).1 = [] then [] else joinB [10] ((rowsOf l).foldl (projStep cm) ([], false)).1 ++ [10]
theorem turnR {l y : List UInt8} {pre post : List (List UInt8)} (e : rowsOf l = pre ++ y :: post) (hl : l.length ≤ 1000) : y.length ≤ 1000 ∧ pre.length ≤ 1000 ∧ ∀ x ∈ pre, x.length ≤ 1000 := by
  have h1 : ∀ x ∈ pre ++ y :: post, x.length ≤ 1000 := fun x hx => Nat.le_trans (rows_mem (e ▸ hx)) hl
  have h2 := rows_len l
  rw [e] at h2
  simp at h2
  exact ⟨h1 y (by simp), by omega, fun x hx => h1 x (by simp [hx])⟩
theorem projFold (cm : Option (List UInt8)) : ∀ (pre : List (List UInt8)) (st : List (List UInt8) × Bool), (∀ x ∈ pre, x.length ≤ 1000) → (∀ x ∈ st.1, x.length ≤ 1000) →
    (pre.foldl (projStep cm) st).1.length ≤ st.1.length + pre.length * 2 ∧ ∀ x ∈ (pre.foldl (projStep cm) st).1, x.length ≤ 1000 := by
  intro pre
  induction pre with
  | nil => intro st _ h; exact ⟨by simp, h⟩
  | cons x r ih =>
    intro st h hs
    have h2 : (projStep cm st x).1.length ≤ st.1.length + 2 ∧ ∀ y ∈ (projStep cm st x).1, y.length ≤ 1000 := by
      unfold projStep
      split
      · exact ⟨by omega, hs⟩
      · split
        · exact ⟨by simp, hs⟩
        · refine ⟨by simp only [List.length_append, List.length_cons, List.length_nil]; split <;> simp <;> omega, fun y hy => ?_⟩
          simp only [List.mem_append, List.mem_singleton] at hy
          rcases hy with (hy | hy) | hy
          · exact hs y hy
          · split at hy
            · simp at hy; simp [hy]
            · simp at hy
          · rw [hy]; exact h x (.head _)
    have h1 := ih (projStep cm st x) (fun y hy => h y (.tail _ hy)) h2.2
    refine ⟨?_, h1.2⟩
    simp only [List.foldl_cons, List.length_cons, Nat.succ_mul]
    omega
theorem projSize {cm : Option (List UInt8)} {l y : List UInt8} {ks : List (List UInt8)} {o : Bool} {pre post : List (List UInt8)} (e : rowsOf l = pre ++ y :: post) (hl : l.length ≤ 1000) (hP : (ks, o) = pre.foldl (projStep cm) ([], false)) : ks.length ≤ 2000 ∧ y.length ≤ 1000 := by
  obtain ⟨h1, h2, h3⟩ := turnR e hl
  have h4 := (projFold cm pre ([], false) h3 (by simp)).1
  rw [← hP] at h4
  simp at h4
  exact ⟨by omega, h1⟩
theorem projAll {cm : Option (List UInt8)} {l : List UInt8} {ks : List (List UInt8)} {o : Bool} (hl : l.length ≤ 1000) (hP : (ks, o) = (rowsOf l).foldl (projStep cm) ([], false)) : ks.length ≤ 2002 ∧ (joinB [10] ks).length ≤ 3000000 := by
  have h0 := rows_len l
  have h4 := projFold cm (rowsOf l) ([], false) (fun x hx => Nat.le_trans (rows_mem hx) hl) (by simp)
  rw [← hP] at h4
  simp at h4
  refine ⟨by omega, ?_⟩
  have := join_bound (sep := [10]) (a := 1000) (b := 2002) h4.2 (by omega)
  simp at this
  omega
theorem bsRoom {vs : List Value} {ls : List (List UInt8)} (h : BsAre vs ls) (hl : ls.length ≤ 3000) : vs.toArray.size ≤ sizeLine := by
  have := h.length
  rw [sizeLine_eq]; simp; omega
theorem bsRoom1 {vs : List Value} {ls : List (List UInt8)} {x : Value} (h : BsAre vs ls) (hl : ls.length ≤ 3000) : (vs.toArray.push x).size ≤ sizeLine := by
  have := h.length
  rw [sizeLine_eq]; simp; omega
theorem pmE0 {cm : Option (List UInt8)} {l : List UInt8} {ks : List (List UInt8)} {o : Bool} (hP : (ks, o) = (rowsOf l).foldl (projStep cm) ([], false)) (h : (ks.length : Int) = 0) : [] = projMessage cm l := by
  unfold projMessage
  rw [← hP, if_pos (by simpa using h)]
theorem pmE1 {cm : Option (List UInt8)} {l : List UInt8} {ks : List (List UInt8)} {o : Bool} (hP : (ks, o) = (rowsOf l).foldl (projStep cm) ([], false)) (h : (ks.length : Int) ≠ 0) : joinB [10] ks ++ [10] = projMessage cm l := by
  unfold projMessage
  rw [← hP, if_neg (by simpa using h)]
section
variable {cm : Option (List UInt8)} {ks : List (List UInt8)} {o : Bool} {pre : List (List UInt8)} {y : List UInt8} {vs : List Value} {t u : Tok}
theorem pmA (hB : BsAre vs ks) (hP : (ks, o) = pre.foldl (projStep cm) ([], false)) (h1 : projSkip cm y = true) : ∃ ls, BsAre vs ls ∧ (ls, o) = (pre ++ [y]).foldl (projStep cm) ([], false) :=
  ⟨ks, hB, by rw [List.foldl_append, ← hP]; simp [projStep, h1]⟩
theorem pmB (hB : BsAre vs ks) (hP : (ks, o) = pre.foldl (projStep cm) ([], false)) (h1 : projSkip cm y = false) (h2 : (y == []) = true) : ∃ ls, BsAre vs ls ∧ (ls, true) = (pre ++ [y]).foldl (projStep cm) ([], false) :=
  ⟨ks, hB, by rw [List.foldl_append, ← hP]; simp [projStep, h1, h2]⟩
theorem pmC (hB : BsAre vs ks) (hP : (ks, o) = pre.foldl (projStep cm) ([], false)) (h1 : projSkip cm y = false) (h2 : (y == []) = false) (ho : o = true) (hl : (0 : Int) < ks.length) : ∃ ls, BsAre (vs ++ [.bytes [].toArray t] ++ [.bytes y.toArray u]) ls ∧ (ls, false) = (pre ++ [y]).foldl (projStep cm) ([], false) := by
  refine ⟨ks ++ [[]] ++ [y], (hB.snoc [] t).snoc y u, ?_⟩
  have hl' : 0 < ks.length := by omega
  rw [List.foldl_append, ← hP]
  simp only [List.foldl_cons, List.foldl_nil, projStep, h1, h2, ho, hl', decide_true, Bool.and_self, Bool.false_eq_true, if_false, if_true]
theorem pmD (hB : BsAre vs ks) (hP : (ks, o) = pre.foldl (projStep cm) ([], false)) (h1 : projSkip cm y = false) (h2 : (y == []) = false) (ho : o = false ∨ ¬ (0 : Int) < ks.length) : ∃ ls, BsAre (vs ++ [.bytes y.toArray u]) ls ∧ (ls, false) = (pre ++ [y]).foldl (projStep cm) ([], false) := by
  refine ⟨ks ++ [y], hB.snoc y u, ?_⟩
  have e : (o && decide (0 < ks.length)) = false := by
    rcases ho with ho | ho
    · simp [ho]
    · have : ¬ 0 < ks.length := by omega
      simp [this]
  rw [List.foldl_append, ← hP]
  simp only [List.foldl_cons, List.foldl_nil, projStep, h1, h2, e, Bool.false_eq_true, if_false, List.append_nil]
theorem pskip0 : projSkip none y = false := rfl
theorem pskip1 {c : List UInt8} {b : Bool} (h : sw y c 0 = b) : projSkip (some c) y = b := h
end
set_option maxHeartbeats 8000000 in
theorem con_message0 (w : World) (led : List (Addr × Obj)) (l : List UInt8) (t : Tok) (hl : l.length ≤ 1000) : Con w 349 3 208 led [.bytes l.toArray t, .none] (PBytes led (projMessage (none) l)) := by
  refine conOf ?_
  k_fill
  intro dp un gd cn cs a ccd cl outer A₀ base h₀ L m hp gn dr tk os Q E p loose mean mg mb B F X N T hk hd hu hret
  k_with_none
  k_with "tb_start" => (
      first
      | (refine' Nat.le_trans ?zqq1 (Nat.le_of_ble_eq_true ?zqq2); (case zqq1 => with_reducible assumption); (case zqq2 => exact rfl))
      | omega
      | (simp only [List.length_append, List.length_cons, List.length_nil, List.length_map, List.length_take, List.length_drop]; omega)
      | ((try simp only [List.length_append, List.length_cons, List.length_nil]); (first | refine Nat.le_trans (sl_length _ _) ?_ | skip); omega)
      | fail "size")
  k_with "binaryOp Add bytes bytes" => ((k_here; (with_reducible show wpAny _ _ (binaryOp Operator.Add (Value.bytes (List.toArray _) _) (Value.bytes (List.toArray _) _)) _ _ _); (refine addB (by tb_start) ?_); intro _ _))
  k_with "getMethod bytes" => ((k_here; (with_reducible show wpAny _ _ (getMethod (Value.bytes (List.toArray _) _) (PySem.Str.ofString "join") _) _ _ _); (refine methB slotJoin tyJoin ?_)))
  k_with "getMethod bytes" => ((k_here; (with_reducible show wpAny _ _ (getMethod (Value.bytes (List.toArray _) _) (PySem.Str.ofString "startswith") _) _ _ _); (refine methB FB.slot_bytes_startswith FB.type_bytes_startswith ?_)))
  k_with "call builtin:bytes.startswith" => ((k_here; (with_reducible show wpAny _ _ (call (Value.builtin "bytes.startswith") _) _ _ _); (try dsimp only [List.append, List.cons_append, List.nil_append]); (first | refine callStarts2 ?_ | refine callStarts3 (by omega) ?_)))
  k_with "ktr_rel" => (
      (intro cbp cbh; first
      | exact cbh
      | exact List.mem_cons_of_mem _ cbh
      | exact List.mem_cons_of_mem _ (List.mem_cons_of_mem _ cbh)
      | (simp only [List.mem_cons, List.mem_append] at cbh ⊢; first | exact cbh | (simp [cbh]; done) | grind)
      | grind))
  k_with "tb_rel" => (
      first
      | assumption
      | (refine' News.dr1 ?zqcbN; (case zqcbN => assumption))
      | (refine' News.dr2 ?zqcbN; (case zqcbN => assumption))
      | (refine' News.dr3 ?zqcbN; (case zqcbN => assumption))
      | (refine' News.dr4 ?zqcbN; (case zqcbN => assumption))
      | (refine' News.dr5 ?zqcbN; (case zqcbN => assumption))
      | (refine' News.dr6 ?zqcbN; (case zqcbN => assumption))
      | (refine' cb_drop ?zqcbN ?zqcbS; (case zqcbN => assumption); (case zqcbS => ktr_rel)))
  k_with "lcg_sub" => (
      first
      | (refine' (fmc ?zqha ?zqhb); (case zqha => ktr_unf); (case zqhb => lcg_sub))
      | ktr_rel)
  k_with "ktd_rel" => ((refine' hret _ _ _ _ (pBe ?zqe0) ?zqe1 ?zqe2; (case zqe1 => assumption); (case zqe2 => tb_rel); (case zqe0 => kwd_rel)))
  k_with "k_all" => (lcg_off)
  k_with "units_room" => (first | exact roomA hu rfl | exact roomB hu rfl | exact roomC hu rfl | (have hcL9 := cLine_is; (try simp only [units_in1, units_deeper, Around.mark_units, units_caller] at *); (try dsimp only [ktrTop] at *); omega))
  k_with "ktr_unf" => (
      first
      | assumption
      | exact List.Mem.head _
      | (refine' List.mem_append_left _ ?_; ktr_unf)
      | (refine' List.Mem.tail _ ?_; ktr_unf))
  k_with "call builtin:len" => ((k_here; (with_reducible show wpAny _ _ (call (Value.builtin "len") [Value.ref _]) _ _ _); (refine' lenBs ?zqn3 (News.isList ?zqn1 ?zqn2) ?zqn4 ?_; (case zqn1 => assumption); (case zqn2 => ktr_unf); (case zqn3 => assumption); (case zqn4 => tb_start); intro _ _)))
  k_with "call builtin:bytes.join" => ((k_here; (with_reducible show wpAny _ _ (call (Value.builtin "bytes.join") _) _ _ _); (try dsimp only [List.append, List.cons_append, List.nil_append]); (refine' callJoin (News.get ?zqn1 ?zqn2) ?zqn3 ?zqn4 ?zqn5 ?_; (case zqn1 => assumption); (case zqn2 => ktr_unf); (case zqn3 => assumption); (case zqn4 => tb_start); (case zqn5 => tb_start); intro _ _)))
  k_with "lcg_off" => (
      first
      | assumption
      | (refine' off_lt ?zqal; (case zqal => assumption))
      | (refine' off_lt1 ?zqal; (case zqal => assumption))
      | (refine' OwnOff.ne ?zqal ?zqam; (case zqal => assumption); (case zqam => first | exact List.Mem.head _ | (simp; done)))
      | (refine' off_app ?zqal ?zqam; (case zqal => lcg_off); (case zqam => lcg_off))
      | (apply off_cons; assumption)
      | (refine' (fmc ?zqla ?zqlb); (case zqla => k_ne); (case zqlb => lcg_off))
      | (apply off_tail1; assumption)
      | (apply off_cons; apply off_cons; assumption)
      | (refine' ltNe ?zqal; (case zqal => first | assumption | (apply And.right; assumption) | (apply And.right; apply And.right; assumption) | (apply And.right; apply And.right; apply And.right; assumption) | (apply And.right; apply And.right; apply And.right; apply And.right; assumption) | (apply And.right; apply And.right; apply And.right; apply And.right; apply And.right; assumption))))
  k_with "exec For Name Call cons nil" => ((k_here; (rename Fr _ _ _ _ => lF'); (with_unfolding_all refine' For_invVF lF' ?zqk1 ?zqk2 ?_; (case zqk1 => exact rfl); (case zqk2 => exact rfl); k_whole)))
  k_with "InvEndN" => ((k_here; (rename News _ _ _ _ => nE'); (try simp only [List.push_toArray] at nE'); (first | refine' bs_end5 ?zqz0 nE' ?zqz1 ?zqz2 ?zqz3 ?zqz4 ?zqz5 ?zqz6 | refine' bs_end4 ?zqz0 nE' ?zqz1 ?zqz2 ?zqz3 ?zqz4 ?zqz5 ?zqz6 | refine' bs_end3 ?zqz0 nE' ?zqz1 ?zqz2 ?zqz3 ?zqz4 ?zqz5 ?zqz6 | refine' bs_end2 ?zqz0 nE' ?zqz1 ?zqz2 ?zqz3 ?zqz4 ?zqz5 ?zqz6); (case zqz0 => assumption); (case zqz4 => kst_all); (case zqz1 => lcg_sub); (case zqz2 => ktr_rel); (case zqz3 => rfl); (case zqz5 => kst_same); (case zqz6 => kst_p)))
  k_with "cell_enter" => ((refine' code_def ?zqk1 ?zqk2 ?zqk3 ?zqk4 ?zqk5 ?zqkA ?zqkF ?zqkK ?zqk6 ?zqk7 ?zqk8 ?zqk9 ?zqkB ?_ ?zqc2 ?zqc3 ?zqc4 ?zqc5; (case zqkA => exact rfl); (case zqkF => exact rfl); (case zqkK => assumption); (case zqk1 => k_asm); (case zqk2 => k_asm); (case zqk3 => k_asm); (case zqk4 => k_asm); (case zqk5 => k_asm); (case zqk6 => k_is); (case zqk7 => k_is); (case zqk8 => ktr_room); (case zqk9 => first | exact BindsTo.of_eq rfl | exact binds_K (by k_in) rfl (by k_is) rfl rfl rfl); (case zqc5 => decide); (case zqkB => exact locs rfl); (case zqc2 => exact rfl); (case zqc3 => exact rfl); (case zqc4 => exact rfl); k_whole; intro g' L' h' FG' F' N' B' X' T'; (try dsimp only); (try k_lift B'); (try k_fold)))
  k_with "ktr_room" => (first | exact roomA hd rfl | exact roomB hd rfl | exact roomC hd rfl)
  k_with "k_ne" => ((refine neN ?_; (try dsimp only); first | (refine' neLt ?zqcbh ?zqcbk; (case zqcbh => with_reducible assumption); (case zqcbk => (intro cbz; repeat (first | exact cbz.1 | replace cbz := cbz.2)))) | (refine' neGt ?zqcbh ?zqcbk; (case zqcbh => with_reducible assumption); (case zqcbk => (intro cbz; repeat (first | exact cbz.1 | replace cbz := cbz.2)))) | omega))
  k_with "spliced" => ((k_here; k_dflt (refine' pes_eval ?zqcbF ?zqcbv ?_ ?zqcba; (case zqcbF => k_asm); (case zqcba => rfl); (case zqcbv => exact Eq.refl (some (_, _))); k_whole); (try dsimp only [List.cons_append, List.nil_append])))
  k_with "isTrue Compare" => ((k_here; k_dflt (refine' cmp_pe (hm := by with_unfolding_all rfl) ?zqcbF ?zqcbv ?zqcbw ?_ ?zqcba; (case zqcbF => k_asm); (case zqcba => rfl); (case zqcbv => exact Eq.refl (some (_, _))); (case zqcbw => exact Eq.refl (some (_, _))); k_whole)))
  k_with "eval Name" => ((k_here; k_dflt (refine' nameX_L ?zqcbF ?zqcbv ?_ ?zqcba ?zqcbb; (case zqcbF => k_asm); (case zqcba => rfl); (case zqcbb => rfl); (case zqcbv => exact Eq.refl (some _)); k_whole)))
  k_with "storeName" => ((k_here; k_dflt (refine' storeL ?zqcbF ?zqcbN ?_ ?zqcba ?zqcbb; (case zqcbF => k_asm); (case zqcbN => k_asm); (case zqcba => rfl); (case zqcbb => rfl); k_whole); intro _ _ _ _; (try k_sweep)))
  k_with "eval Call" => ((k_here; k_dflt (refine' callK_pe (hd := by decide) ?zqcbF ?zqcbX ?zqcbT ?zqcbe ?zqcbf ?zqcbv ?_ ?zqcba ?zqcbb; (case zqcbF => k_asm); (case zqcbX => k_asm); (case zqcbT => k_asm); (case zqcba => rfl); (case zqcbb => rfl); (case zqcbe => k_is); (case zqcbf => k_is); (case zqcbv => exact Eq.refl (some (_, _))); k_whole); (try dsimp only [List.cons_append, List.nil_append])))
  k_with "kwd_less" => (first | exact pskip0 | (refine' pskip1 ?zqh; (case zqh => assumption)))
  k_with "kwd_inv" => (
      first
      | (refine' pmA ?zqq0 ?zqq1 ?zqq2; (case zqq0 => assumption); (case zqq1 => assumption); (case zqq2 => kwd_less))
      | (refine' pmB ?zqq0 ?zqq1 ?zqq2 ?zqq3; (case zqq0 => assumption); (case zqq1 => assumption); (case zqq2 => kwd_less); (case zqq3 => assumption))
      | (refine' pmC ?zqq0 ?zqq1 ?zqq2 ?zqq3 ?zqq4 ?zqq5; (case zqq0 => assumption); (case zqq1 => assumption); (case zqq2 => kwd_less); (case zqq3 => assumption); (case zqq4 => assumption); (case zqq5 => assumption))
      | (refine' pmD ?zqq0 ?zqq1 ?zqq2 ?zqq3 ?zqq4; (case zqq0 => assumption); (case zqq1 => assumption); (case zqq2 => kwd_less); (case zqq3 => assumption); (case zqq4 => first | (apply Or.inl; assumption) | (apply Or.inr; assumption))))
  k_with "kwd_rel" => (
      first
      | (refine' pmE0 ?zqq1 ?zqq2; (case zqq1 => assumption); (case zqq2 => assumption))
      | (refine' pmE1 ?zqq1 ?zqq2; (case zqq1 => assumption); (case zqq2 => assumption)))
  k_with "size_fits" => (first | (refine' bsRoom ?zqpa ?zqpb; (case zqpa => assumption); (case zqpb => omega)) | (refine' bsRoom1 ?zqpa ?zqpb; (case zqpa => assumption); (case zqpb => omega)))
  k_with "call ref" => ((k_here; (with_reducible show wpAny _ _ (call (Value.ref 242) _) _ _ _); k_dflt (refine' Con.useL (con_rows _ _ _ _ ?zqc1) ?zqn1 ?zqn2 ?zqn3 ?zqn4 ?zqn5 ?zqn6 ?zqn7 ?zqn8 ?_; (case zqn4 => assumption); (case zqn1 => k_asm); (case zqn2 => k_asm); (case zqn3 => k_asm); (case zqn5 => k_asm); (case zqn6 => exact rfl); (case zqn7 => ktr_room); (case zqn8 => units_room); (case zqc1 => tb_start)); intro _ _ _ _ _ _ _ _ _; (try dsimp only)))
  k_with "state" => kwd_inv
  k_with "pyIter ref" => (
    (rename Fr _ _ _ _ => lF'); (rename News _ _ _ _ => lN')
    refine' bs_forK (σ := List Value × Nat × Bool) (PySem.Str.ofString "kept") (fun kK c => (kK, listOf c.1.toArray c.2.1) :: led) (fun kK c => [(PySem.Str.ofString "kept", .ref kK), (PySem.Str.ofString "is_gap", .bool c.2.2)]) [] (fun pre c => ∃ ls, BsAre c.1 ls ∧ (ls, c.2.2) = pre.foldl (projStep (none)) ([], false)) ([], 0, false) ?hK ?hh lF' lN' ?hl ?hb ?hsub ?hoff ?hk ?hp ?turn ?done
    case hK => exact rfl
    case hh => exact rfl
    case hl => ktr_unf
    case hb => assumption
    case hsub => ktr_rel
    case hoff => lcg_off
    case hk => kst_all
    case hp => exact ⟨_, .nil, rfl⟩
    (case' turn => (clear lF' lN'; intro cC cPre cPost cY cT cU cH cTk cOwn cE cO cP cF cN; obtain ⟨cL, cB, cP⟩ := cP; obtain ⟨cS1, cS2⟩ := projSize cE hl cP; (try dsimp only [kstB] at cF); (try dsimp only at cN); (try simp only [List.cons_append, List.nil_append] at cN)))
    (case' done => (clear lF' lN'; intro cC cU cH cTk cP cF cN; obtain ⟨cL, cB, cP⟩ := cP; obtain ⟨cS1, cS2⟩ := projAll hl cP; (try dsimp only [kstB] at cF); (try dsimp only at cN); (try simp only [List.cons_append, List.nil_append] at cN))))
  w_strict (
    refine wpAny_call ?_
    k_dflt cell_enter
    k_steps
    all_goals first | ktd_rel | trace_state)
set_option maxHeartbeats 8000000 in
theorem con_message1 (w : World) (led : List (Addr × Obj)) (l : List UInt8) (t : Tok) (hl : l.length ≤ 1000) (cm : List UInt8) (u : Tok) (hc : cm.length ≤ 100) : Con w 349 3 208 led [.bytes l.toArray t, .bytes cm.toArray u] (PBytes led (projMessage (some cm) l)) := by
  refine conOf ?_
  k_fill
  intro dp un gd cn cs a ccd cl outer A₀ base h₀ L m hp gn dr tk os Q E p loose mean mg mb B F X N T hk hd hu hret
  k_with_none
  k_with "tb_start" => (
      first
      | (refine' Nat.le_trans ?zqq1 (Nat.le_of_ble_eq_true ?zqq2); (case zqq1 => with_reducible assumption); (case zqq2 => exact rfl))
      | omega
      | (simp only [List.length_append, List.length_cons, List.length_nil, List.length_map, List.length_take, List.length_drop]; omega)
      | ((try simp only [List.length_append, List.length_cons, List.length_nil]); (first | refine Nat.le_trans (sl_length _ _) ?_ | skip); omega)
      | fail "size")
  k_with "binaryOp Add bytes bytes" => ((k_here; (with_reducible show wpAny _ _ (binaryOp Operator.Add (Value.bytes (List.toArray _) _) (Value.bytes (List.toArray _) _)) _ _ _); (refine addB (by tb_start) ?_); intro _ _))
  k_with "getMethod bytes" => ((k_here; (with_reducible show wpAny _ _ (getMethod (Value.bytes (List.toArray _) _) (PySem.Str.ofString "join") _) _ _ _); (refine methB slotJoin tyJoin ?_)))
  k_with "getMethod bytes" => ((k_here; (with_reducible show wpAny _ _ (getMethod (Value.bytes (List.toArray _) _) (PySem.Str.ofString "startswith") _) _ _ _); (refine methB FB.slot_bytes_startswith FB.type_bytes_startswith ?_)))
  k_with "call builtin:bytes.startswith" => ((k_here; (with_reducible show wpAny _ _ (call (Value.builtin "bytes.startswith") _) _ _ _); (try dsimp only [List.append, List.cons_append, List.nil_append]); (first | refine callStarts2 ?_ | refine callStarts3 (by omega) ?_)))
  k_with "ktr_rel" => (
      (intro cbp cbh; first
      | exact cbh
      | exact List.mem_cons_of_mem _ cbh
      | exact List.mem_cons_of_mem _ (List.mem_cons_of_mem _ cbh)
      | (simp only [List.mem_cons, List.mem_append] at cbh ⊢; first | exact cbh | (simp [cbh]; done) | grind)
      | grind))
  k_with "tb_rel" => (
      first
      | assumption
      | (refine' News.dr1 ?zqcbN; (case zqcbN => assumption))
      | (refine' News.dr2 ?zqcbN; (case zqcbN => assumption))
      | (refine' News.dr3 ?zqcbN; (case zqcbN => assumption))
      | (refine' News.dr4 ?zqcbN; (case zqcbN => assumption))
      | (refine' News.dr5 ?zqcbN; (case zqcbN => assumption))
      | (refine' News.dr6 ?zqcbN; (case zqcbN => assumption))
      | (refine' cb_drop ?zqcbN ?zqcbS; (case zqcbN => assumption); (case zqcbS => ktr_rel)))
  k_with "lcg_sub" => (
      first
      | (refine' (fmc ?zqha ?zqhb); (case zqha => ktr_unf); (case zqhb => lcg_sub))
      | ktr_rel)
  k_with "ktd_rel" => ((refine' hret _ _ _ _ (pBe ?zqe0) ?zqe1 ?zqe2; (case zqe1 => assumption); (case zqe2 => tb_rel); (case zqe0 => kwd_rel)))
  k_with "k_all" => (lcg_off)
  k_with "units_room" => (first | exact roomA hu rfl | exact roomB hu rfl | exact roomC hu rfl | (have hcL9 := cLine_is; (try simp only [units_in1, units_deeper, Around.mark_units, units_caller] at *); (try dsimp only [ktrTop] at *); omega))
  k_with "ktr_unf" => (
      first
      | assumption
      | exact List.Mem.head _
      | (refine' List.mem_append_left _ ?_; ktr_unf)
      | (refine' List.Mem.tail _ ?_; ktr_unf))
  k_with "call builtin:len" => ((k_here; (with_reducible show wpAny _ _ (call (Value.builtin "len") [Value.ref _]) _ _ _); (refine' lenBs ?zqn3 (News.isList ?zqn1 ?zqn2) ?zqn4 ?_; (case zqn1 => assumption); (case zqn2 => ktr_unf); (case zqn3 => assumption); (case zqn4 => tb_start); intro _ _)))
  k_with "call builtin:bytes.join" => ((k_here; (with_reducible show wpAny _ _ (call (Value.builtin "bytes.join") _) _ _ _); (try dsimp only [List.append, List.cons_append, List.nil_append]); (refine' callJoin (News.get ?zqn1 ?zqn2) ?zqn3 ?zqn4 ?zqn5 ?_; (case zqn1 => assumption); (case zqn2 => ktr_unf); (case zqn3 => assumption); (case zqn4 => tb_start); (case zqn5 => tb_start); intro _ _)))
  k_with "lcg_off" => (
      first
      | assumption
      | (refine' off_lt ?zqal; (case zqal => assumption))
      | (refine' off_lt1 ?zqal; (case zqal => assumption))
      | (refine' OwnOff.ne ?zqal ?zqam; (case zqal => assumption); (case zqam => first | exact List.Mem.head _ | (simp; done)))
      | (refine' off_app ?zqal ?zqam; (case zqal => lcg_off); (case zqam => lcg_off))
      | (apply off_cons; assumption)
      | (refine' (fmc ?zqla ?zqlb); (case zqla => k_ne); (case zqlb => lcg_off))
      | (apply off_tail1; assumption)
      | (apply off_cons; apply off_cons; assumption)
      | (refine' ltNe ?zqal; (case zqal => first | assumption | (apply And.right; assumption) | (apply And.right; apply And.right; assumption) | (apply And.right; apply And.right; apply And.right; assumption) | (apply And.right; apply And.right; apply And.right; apply And.right; assumption) | (apply And.right; apply And.right; apply And.right; apply And.right; apply And.right; assumption))))
  k_with "exec For Name Call cons nil" => ((k_here; (rename Fr _ _ _ _ => lF'); (with_unfolding_all refine' For_invVF lF' ?zqk1 ?zqk2 ?_; (case zqk1 => exact rfl); (case zqk2 => exact rfl); k_whole)))
  k_with "InvEndN" => ((k_here; (rename News _ _ _ _ => nE'); (try simp only [List.push_toArray] at nE'); (first | refine' bs_end5 ?zqz0 nE' ?zqz1 ?zqz2 ?zqz3 ?zqz4 ?zqz5 ?zqz6 | refine' bs_end4 ?zqz0 nE' ?zqz1 ?zqz2 ?zqz3 ?zqz4 ?zqz5 ?zqz6 | refine' bs_end3 ?zqz0 nE' ?zqz1 ?zqz2 ?zqz3 ?zqz4 ?zqz5 ?zqz6 | refine' bs_end2 ?zqz0 nE' ?zqz1 ?zqz2 ?zqz3 ?zqz4 ?zqz5 ?zqz6); (case zqz0 => assumption); (case zqz4 => kst_all); (case zqz1 => lcg_sub); (case zqz2 => ktr_rel); (case zqz3 => rfl); (case zqz5 => kst_same); (case zqz6 => kst_p)))
  k_with "cell_enter" => ((refine' code_def ?zqk1 ?zqk2 ?zqk3 ?zqk4 ?zqk5 ?zqkA ?zqkF ?zqkK ?zqk6 ?zqk7 ?zqk8 ?zqk9 ?zqkB ?_ ?zqc2 ?zqc3 ?zqc4 ?zqc5; (case zqkA => exact rfl); (case zqkF => exact rfl); (case zqkK => assumption); (case zqk1 => k_asm); (case zqk2 => k_asm); (case zqk3 => k_asm); (case zqk4 => k_asm); (case zqk5 => k_asm); (case zqk6 => k_is); (case zqk7 => k_is); (case zqk8 => ktr_room); (case zqk9 => first | exact BindsTo.of_eq rfl | exact binds_K (by k_in) rfl (by k_is) rfl rfl rfl); (case zqc5 => decide); (case zqkB => exact locs rfl); (case zqc2 => exact rfl); (case zqc3 => exact rfl); (case zqc4 => exact rfl); k_whole; intro g' L' h' FG' F' N' B' X' T'; (try dsimp only); (try k_lift B'); (try k_fold)))
  k_with "ktr_room" => (first | exact roomA hd rfl | exact roomB hd rfl | exact roomC hd rfl)
  k_with "k_ne" => ((refine neN ?_; (try dsimp only); first | (refine' neLt ?zqcbh ?zqcbk; (case zqcbh => with_reducible assumption); (case zqcbk => (intro cbz; repeat (first | exact cbz.1 | replace cbz := cbz.2)))) | (refine' neGt ?zqcbh ?zqcbk; (case zqcbh => with_reducible assumption); (case zqcbk => (intro cbz; repeat (first | exact cbz.1 | replace cbz := cbz.2)))) | omega))
  k_with "spliced" => ((k_here; k_dflt (refine' pes_eval ?zqcbF ?zqcbv ?_ ?zqcba; (case zqcbF => k_asm); (case zqcba => rfl); (case zqcbv => exact Eq.refl (some (_, _))); k_whole); (try dsimp only [List.cons_append, List.nil_append])))
  k_with "isTrue Compare" => ((k_here; k_dflt (refine' cmp_pe (hm := by with_unfolding_all rfl) ?zqcbF ?zqcbv ?zqcbw ?_ ?zqcba; (case zqcbF => k_asm); (case zqcba => rfl); (case zqcbv => exact Eq.refl (some (_, _))); (case zqcbw => exact Eq.refl (some (_, _))); k_whole)))
  k_with "eval Name" => ((k_here; k_dflt (refine' nameX_L ?zqcbF ?zqcbv ?_ ?zqcba ?zqcbb; (case zqcbF => k_asm); (case zqcba => rfl); (case zqcbb => rfl); (case zqcbv => exact Eq.refl (some _)); k_whole)))
  k_with "storeName" => ((k_here; k_dflt (refine' storeL ?zqcbF ?zqcbN ?_ ?zqcba ?zqcbb; (case zqcbF => k_asm); (case zqcbN => k_asm); (case zqcba => rfl); (case zqcbb => rfl); k_whole); intro _ _ _ _; (try k_sweep)))
  k_with "eval Call" => ((k_here; k_dflt (refine' callK_pe (hd := by decide) ?zqcbF ?zqcbX ?zqcbT ?zqcbe ?zqcbf ?zqcbv ?_ ?zqcba ?zqcbb; (case zqcbF => k_asm); (case zqcbX => k_asm); (case zqcbT => k_asm); (case zqcba => rfl); (case zqcbb => rfl); (case zqcbe => k_is); (case zqcbf => k_is); (case zqcbv => exact Eq.refl (some (_, _))); k_whole); (try dsimp only [List.cons_append, List.nil_append])))
  k_with "kwd_less" => (first | exact pskip0 | (refine' pskip1 ?zqh; (case zqh => assumption)))
  k_with "kwd_inv" => (
      first
      | (refine' pmA ?zqq0 ?zqq1 ?zqq2; (case zqq0 => assumption); (case zqq1 => assumption); (case zqq2 => kwd_less))
      | (refine' pmB ?zqq0 ?zqq1 ?zqq2 ?zqq3; (case zqq0 => assumption); (case zqq1 => assumption); (case zqq2 => kwd_less); (case zqq3 => assumption))
      | (refine' pmC ?zqq0 ?zqq1 ?zqq2 ?zqq3 ?zqq4 ?zqq5; (case zqq0 => assumption); (case zqq1 => assumption); (case zqq2 => kwd_less); (case zqq3 => assumption); (case zqq4 => assumption); (case zqq5 => assumption))
      | (refine' pmD ?zqq0 ?zqq1 ?zqq2 ?zqq3 ?zqq4; (case zqq0 => assumption); (case zqq1 => assumption); (case zqq2 => kwd_less); (case zqq3 => assumption); (case zqq4 => first | (apply Or.inl; assumption) | (apply Or.inr; assumption))))
  k_with "kwd_rel" => (
      first
      | (refine' pmE0 ?zqq1 ?zqq2; (case zqq1 => assumption); (case zqq2 => assumption))
      | (refine' pmE1 ?zqq1 ?zqq2; (case zqq1 => assumption); (case zqq2 => assumption)))
  k_with "size_fits" => (first | (refine' bsRoom ?zqpa ?zqpb; (case zqpa => assumption); (case zqpb => omega)) | (refine' bsRoom1 ?zqpa ?zqpb; (case zqpa => assumption); (case zqpb => omega)))
  k_with "call ref" => ((k_here; (with_reducible show wpAny _ _ (call (Value.ref 242) _) _ _ _); k_dflt (refine' Con.useL (con_rows _ _ _ _ ?zqc1) ?zqn1 ?zqn2 ?zqn3 ?zqn4 ?zqn5 ?zqn6 ?zqn7 ?zqn8 ?_; (case zqn4 => assumption); (case zqn1 => k_asm); (case zqn2 => k_asm); (case zqn3 => k_asm); (case zqn5 => k_asm); (case zqn6 => exact rfl); (case zqn7 => ktr_room); (case zqn8 => units_room); (case zqc1 => tb_start)); intro _ _ _ _ _ _ _ _ _; (try dsimp only)))
  k_with "state" => kwd_inv
  k_with "pyIter ref" => (
    (rename Fr _ _ _ _ => lF'); (rename News _ _ _ _ => lN')
    refine' bs_forK (σ := List Value × Nat × Bool) (PySem.Str.ofString "kept") (fun kK c => (kK, listOf c.1.toArray c.2.1) :: led) (fun kK c => [(PySem.Str.ofString "kept", .ref kK), (PySem.Str.ofString "is_gap", .bool c.2.2)]) [] (fun pre c => ∃ ls, BsAre c.1 ls ∧ (ls, c.2.2) = pre.foldl (projStep (some cm)) ([], false)) ([], 0, false) ?hK ?hh lF' lN' ?hl ?hb ?hsub ?hoff ?hk ?hp ?turn ?done
    case hK => exact rfl
    case hh => exact rfl
    case hl => ktr_unf
    case hb => assumption
    case hsub => ktr_rel
    case hoff => lcg_off
    case hk => kst_all
    case hp => exact ⟨_, .nil, rfl⟩
    (case' turn => (clear lF' lN'; intro cC cPre cPost cY cT cU cH cTk cOwn cE cO cP cF cN; obtain ⟨cL, cB, cP⟩ := cP; obtain ⟨cS1, cS2⟩ := projSize cE hl cP; (try dsimp only [kstB] at cF); (try dsimp only at cN); (try simp only [List.cons_append, List.nil_append] at cN)))
    (case' done => (clear lF' lN'; intro cC cU cH cTk cP cF cN; obtain ⟨cL, cB, cP⟩ := cP; obtain ⟨cS1, cS2⟩ := projAll hl cP; (try dsimp only [kstB] at cF); (try dsimp only at cN); (try simp only [List.cons_append, List.nil_append] at cN))))
  w_strict (
    refine wpAny_call ?_
    k_dflt cell_enter
    k_steps
    all_goals first | ktd_rel | trace_state)
noncomputable def bareNil (x : List UInt8) : Bool := cutEnd blank x == []
noncomputable def bareNot (x : List UInt8) : Bool := !(cutEnd blank x == [])
/-- what the law says of a body -/
noncomputable def lawBody (l : List UInt8) : List UInt8 := joinB [10] ((((splitNL l).dropWhile bareNil).dropWhile bareNot).dropWhile bareNil)
noncomputable def Rows (l : List UInt8) (ls : List (List UInt8)) : Prop := ls.length ≤ 1001 ∧ ∀ x ∈ ls, x.length ≤ 1000
theorem Rows.of {l : List UInt8} (hl : l.length ≤ 1000) : Rows l (splitNL l) := ⟨by have := split_len l; omega, fun x hx => Nat.le_trans (split_part l x hx) hl⟩
theorem Rows.tail {l : List UInt8} {ls : List (List UInt8)} (h : Rows l ls) : Rows l (lsl ls (some 1) none) := by
  rw [lsl_from (by omega)]
  exact ⟨by have := h.1; simp; omega, fun x hx => h.2 x (List.mem_of_mem_drop hx)⟩
theorem Rows.head {l : List UInt8} {ls : List (List UInt8)} (h : Rows l ls) : (ls.getD (0 : Int).toNat []).length ≤ 100000 := by
  cases ls with
  | nil => simp
  | cons a r => have := h.2 a (.head _); simp; omega
inductive Kd where | a | b
noncomputable def pk : Kd → List UInt8 → Bool
  | .a => bareNil
  | .b => bareNot
structure DW (k : Kd) (X ls : List (List UInt8)) : Prop where
  out : ls.dropWhile (pk k) = X.dropWhile (pk k)
structure DWE (k : Kd) (X ls : List (List UInt8)) : Prop where
  out : ls = X.dropWhile (pk k)
noncomputable def Ph (l : List UInt8) (k : Kd) (X : List (List UInt8)) (vs : List Value) : Prop := ∃ ls, BsAre vs ls ∧ DW k X ls ∧ Rows l ls
theorem ph0 {l : List UInt8} {k : Kd} {vs : List Value} (hl : l.length ≤ 1000) (h : BsAre vs (splitNL l)) : Ph l k (splitNL l) vs := ⟨_, h, ⟨rfl⟩, .of hl⟩
theorem ph1 {l : List UInt8} {k : Kd} {X ls : List (List UInt8)} {vs : List Value} (hd : DW k X ls) (hr : Rows l ls) (h : BsAre vs (lsl ls (some 1) none)) (hne : (ls != []) = true) (hp : pk k (ls.getD (0 : Int).toNat []) = true) : Ph l k X vs := by
  refine ⟨_, h, ⟨?_⟩, hr.tail⟩
  rw [lsl_from (by omega), ← hd.out]
  cases ls with
  | nil => simp at hne
  | cons a r =>
    have hp' : pk k a = true := hp
    show r.dropWhile (pk k) = _
    rw [List.dropWhile_cons, if_pos hp']
theorem ph1a {l : List UInt8} {X ls : List (List UInt8)} {vs : List Value} (hd : DW .a X ls) (hr : Rows l ls) (h : BsAre vs (lsl ls (some 1) none)) (hne : (ls != []) = true) (hp : (cutEnd blank (ls.getD (0 : Int).toNat []) == []) = true) : Ph l .a X vs := ph1 hd hr h hne hp
theorem ph1b {l : List UInt8} {X ls : List (List UInt8)} {vs : List Value} (hd : DW .b X ls) (hr : Rows l ls) (h : BsAre vs (lsl ls (some 1) none)) (hne : (ls != []) = true) (hp : (cutEnd blank (ls.getD (0 : Int).toNat []) != []) = true) : Ph l .b X vs := ph1 hd hr h hne hp
theorem phE0 {k : Kd} {X ls : List (List UInt8)} (hd : DW k X ls) (hne : (ls != []) = false) : DWE k X ls := by
  constructor
  cases ls with
  | nil => rw [← hd.out]; rfl
  | cons a r => simp at hne
theorem phE1 {k : Kd} {X ls : List (List UInt8)} (hd : DW k X ls) (hp : pk k (ls.getD (0 : Int).toNat []) = false) : DWE k X ls := by
  constructor
  cases ls with
  | nil => rw [← hd.out]; rfl
  | cons a r =>
    have hp' : pk k a = false := hp
    rw [← hd.out, List.dropWhile_cons, hp']
    simp
theorem phE1a {X ls : List (List UInt8)} (hd : DW .a X ls) (hp : (cutEnd blank (ls.getD (0 : Int).toNat []) == []) = false) : DWE .a X ls := phE1 hd hp
theorem phE1b {X ls : List (List UInt8)} (hd : DW .b X ls) (hp : (cutEnd blank (ls.getD (0 : Int).toNat []) != []) = false) : DWE .b X ls := phE1 hd hp
theorem phN {l : List UInt8} {k k' : Kd} {X ls : List (List UInt8)} {vs : List Value} (h : BsAre vs ls) (hr : Rows l ls) (e : DWE k X ls) : Ph l k' (X.dropWhile (pk k)) vs := ⟨_, h, ⟨by rw [e.out]⟩, hr⟩
noncomputable def PhX (l : List UInt8) (k : Kd) (X : List (List UInt8)) (vs : List Value) : Prop := ∃ ls, BsAre vs ls ∧ DWE k X ls ∧ Rows l ls
theorem phX {l : List UInt8} {k : Kd} {X ls : List (List UInt8)} {vs : List Value} (h : BsAre vs ls) (hr : Rows l ls) (e : DWE k X ls) : PhX l k X vs := ⟨_, h, e, hr⟩
theorem phLess {vs ws : List Value} {ls : List (List UInt8)} (h : BsAre vs ls) (hw : BsAre ws (lsl ls (some 1) none)) (hne : (ls != []) = true) : ws.length < vs.length := by
  have h1 := h.length
  have h2 := hw.length
  have h3 := neLen hne
  rw [lsl_from (by omega)] at h2
  simp at h2
  omega
theorem bodyJoin {l : List UInt8} {ls : List (List UInt8)} (h : Rows l ls) : (joinB [10] ls).length ≤ 16777216 := by
  have := join_bound (sep := [10]) (a := 1000) (b := 1001) h.2 h.1
  simp at this
  omega
theorem bodyEnd {l : List UInt8} {ls : List (List UInt8)} (e : DWE .a (((splitNL l).dropWhile (pk .a)).dropWhile (pk .b)) ls) : joinB [10] ls = lawBody l := by rw [e.out]; rfl
theorem rowsLen {l : List UInt8} {ls : List (List UInt8)} (h : Rows l ls) : ls.length ≤ 15000 := by have := h.1; omega
theorem rowsLen2 {l : List UInt8} {ls : List (List UInt8)} (h : Rows l ls) : ls.length ≤ 20000 := by have := h.1; omega
set_option maxHeartbeats 8000000 in
theorem con_law_body (w : World) (led : List (Addr × Obj)) (l : List UInt8) (t : Tok) (hl : l.length ≤ 1000) : Con w 389 2 208 led [.bytes l.toArray t] (PBytes led (lawBody l)) := by
  refine conOf ?_
  k_fill
  intro dp un gd cn cs a ccd cl outer A₀ base h₀ L m hp gn dr tk os Q E p loose mean mg mb B F X N T hk hd hu hret
  k_with_none
  k_with "tb_start" => (
      first
      | (refine' Nat.le_trans ?zqq1 (Nat.le_of_ble_eq_true ?zqq2); (case zqq1 => with_reducible assumption); (case zqq2 => exact rfl))
      | omega
      | (simp only [List.length_append, List.length_cons, List.length_nil, List.length_map, List.length_take, List.length_drop]; omega)
      | ((try simp only [List.length_append, List.length_cons, List.length_nil]); (first | refine Nat.le_trans (sl_length _ _) ?_ | skip); omega)
      | fail "size")
  k_with "getMethod bytes" => ((k_here; (with_reducible show wpAny _ _ (getMethod (Value.bytes (List.toArray _) _) (PySem.Str.ofString "split") _) _ _ _); (refine methB slotSplit tySplit ?_)))
  k_with "getMethod bytes" => ((k_here; (with_reducible show wpAny _ _ (getMethod (Value.bytes (List.toArray _) _) (PySem.Str.ofString "join") _) _ _ _); (refine methB slotJoin tyJoin ?_)))
  k_with "ktr_rel" => (
      (intro cbp cbh; first
      | exact cbh
      | exact List.mem_cons_of_mem _ cbh
      | exact List.mem_cons_of_mem _ (List.mem_cons_of_mem _ cbh)
      | (simp only [List.mem_cons, List.mem_append] at cbh ⊢; first | exact cbh | (simp [cbh]; done) | grind)
      | grind))
  k_with "tb_rel" => (
      first
      | assumption
      | (refine' News.dr1 ?zqcbN; (case zqcbN => assumption))
      | (refine' News.dr2 ?zqcbN; (case zqcbN => assumption))
      | (refine' News.dr3 ?zqcbN; (case zqcbN => assumption))
      | (refine' News.dr4 ?zqcbN; (case zqcbN => assumption))
      | (refine' News.dr5 ?zqcbN; (case zqcbN => assumption))
      | (refine' News.dr6 ?zqcbN; (case zqcbN => assumption))
      | (refine' cb_drop ?zqcbN ?zqcbS; (case zqcbN => assumption); (case zqcbS => ktr_rel)))
  k_with "KswEnd" => (((rename News _ _ _ _ => nE'); (try simp only [List.push_toArray] at nE'); (first | refine' ksw_end5 ?zqz0 nE' ?zqz1 ?zqz2 ?zqz3 ?zqz4 ?zqz5 ?zqz6 | refine' ksw_end4 ?zqz0 nE' ?zqz1 ?zqz2 ?zqz3 ?zqz4 ?zqz5 ?zqz6 | refine' ksw_end3 ?zqz0 nE' ?zqz1 ?zqz2 ?zqz3 ?zqz4 ?zqz5 ?zqz6 | refine' ksw_end2 ?zqz0 nE' ?zqz1 ?zqz2 ?zqz3 ?zqz4 ?zqz5 ?zqz6); (case zqz0 => assumption); (case zqz3 => kst_all); (case zqz1 => first | kst_in | lcg_sub); (case zqz2 => kst_facts); (case zqz4 => ksw_same); (case zqz5 => kst_p); (case zqz6 => ksw_less)))
  k_with "ktd_rel" => ((refine' hret _ _ _ _ (pBe ?zqe0) ?zqe1 ?zqe2; (case zqe1 => assumption); (case zqe2 => tb_rel); (case zqe0 => kwd_rel)))
  k_with "units_room" => (first | exact roomA hu rfl | exact roomB hu rfl | exact roomC hu rfl | (have hcL9 := cLine_is; (try simp only [units_in1, units_deeper, Around.mark_units, units_caller] at *); (try dsimp only [ktrTop] at *); omega))
  k_with "ktr_unf" => (
      first
      | assumption
      | exact List.Mem.head _
      | (refine' List.mem_append_left _ ?_; ktr_unf)
      | (refine' List.Mem.tail _ ?_; ktr_unf))
  k_with "call builtin:bytes.split" => ((k_here; (with_reducible show wpAny _ _ (call (Value.builtin "bytes.split") _) _ _ _); (try dsimp only [List.append, List.cons_append, List.nil_append]); (refine' callSplit ?zqn1 ?zqn2 ?zqn3 ?_; (case zqn1 => k_asm); (case zqn2 => assumption); (case zqn3 => tb_start); intro _ _ _ _ _ _ _ _); (try dsimp only)))
  k_with "subscriptTail" => ((k_here; (with_reducible show wpAny _ _ (subscriptTail _ _ (Value.ref _) (Value.int _ _)) _ _ _); (refine' itemBs (hs := by with_unfolding_all rfl) ?zqn6 (News.isList ?zqn1 ?zqn2) ?zqn3 ?zqn4 ?zqn5 ?_; (case zqn1 => assumption); (case zqn2 => ktr_unf); (case zqn6 => assumption); (case zqn3 => omega); (case zqn4 => first | omega | (refine' neLen ?zqh; (case zqh => assumption))); (case zqn5 => tb_start); intro _)))
  k_with "subscriptTail Name Slice ref ref" => ((k_here; (with_reducible show wpAny _ _ (subscriptTail _ (PySem.Expr.Slice _ _ none _) (Value.ref _) (Value.ref _)) _ _ _); (refine' sliceBs (hs := by with_unfolding_all rfl) (ht := by intro _; with_unfolding_all rfl) (s := ⟨_, _, _, _, _⟩) ?zqn1 ?zqn2 ?zqn3 ?zqn4 ?zqn5 ?zqn6 ?zqn7 ?_; (case zqn1 => assumption); (case zqn2 => assumption); (case zqn3 => ktr_unf); (case zqn4 => assumption); (case zqn5 => constructor); (case zqn6 => constructor); (case zqn7 => tb_start)); intro _ _ _ _ _ _ _; (try dsimp only)))
  k_with "call builtin:bytes.join" => ((k_here; (with_reducible show wpAny _ _ (call (Value.builtin "bytes.join") _) _ _ _); (try dsimp only [List.append, List.cons_append, List.nil_append]); (refine' callJoin (News.get ?zqn1 ?zqn2) ?zqn3 ?zqn4 ?zqn5 ?_; (case zqn1 => assumption); (case zqn2 => ktr_unf); (case zqn3 => assumption); (case zqn4 => tb_start); (case zqn5 => tb_start); intro _ _)))
  k_with "compareOp NotEq ref ref" => ((k_here; (with_reducible show wpAny _ _ (compareOp CmpOp.NotEq (Value.ref _) (Value.ref _)) _ _ _); (refine' neNilBs ?zqn5 (News.isList ?zqn1 ?zqn2) (News.isList ?zqn1 ?zqn4) ?zqn6 ?_; (case zqn1 => assumption); (case zqn4 => exact List.Mem.head _); (case zqn2 => ktr_unf); (case zqn5 => assumption); (case zqn6 => units_room))))
  k_with "cell_enter" => ((refine' code_def ?zqk1 ?zqk2 ?zqk3 ?zqk4 ?zqk5 ?zqkA ?zqkF ?zqkK ?zqk6 ?zqk7 ?zqk8 ?zqk9 ?zqkB ?_ ?zqc2 ?zqc3 ?zqc4 ?zqc5; (case zqkA => exact rfl); (case zqkF => exact rfl); (case zqkK => assumption); (case zqk1 => k_asm); (case zqk2 => k_asm); (case zqk3 => k_asm); (case zqk4 => k_asm); (case zqk5 => k_asm); (case zqk6 => k_is); (case zqk7 => k_is); (case zqk8 => ktr_room); (case zqk9 => first | exact BindsTo.of_eq rfl | exact binds_K (by k_in) rfl (by k_is) rfl rfl rfl); (case zqc5 => decide); (case zqkB => exact locs rfl); (case zqc2 => exact rfl); (case zqc3 => exact rfl); (case zqc4 => exact rfl); k_whole; intro g' L' h' FG' F' N' B' X' T'; (try dsimp only); (try k_lift B'); (try k_fold)))
  k_with "KExit" => ((k_dflt (refine' kexit ?zqn1 ?zqn2 ?zqn3; (case zqn1 => assumption); (case zqn2 => tb_rel); (case zqn3 => kwd_less); (all_goals (intro _; exact none)))))
  k_with "ktr_room" => (first | exact roomA hd rfl | exact roomB hd rfl | exact roomC hd rfl)
  k_with "k_ne" => ((refine neN ?_; (try dsimp only); first | (refine' neLt ?zqcbh ?zqcbk; (case zqcbh => with_reducible assumption); (case zqcbk => (intro cbz; repeat (first | exact cbz.1 | replace cbz := cbz.2)))) | (refine' neGt ?zqcbh ?zqcbk; (case zqcbh => with_reducible assumption); (case zqcbk => (intro cbz; repeat (first | exact cbz.1 | replace cbz := cbz.2)))) | omega))
  k_with "spliced" => ((k_here; k_dflt (refine' pes_eval ?zqcbF ?zqcbv ?_ ?zqcba; (case zqcbF => k_asm); (case zqcba => rfl); (case zqcbv => exact Eq.refl (some (_, _))); k_whole); (try dsimp only [List.cons_append, List.nil_append])))
  k_with "eval Subscript" => ((k_here; k_dflt (refine' sub_pe ?zqcbF ?zqcbv ?zqcbw ?_ ?zqcba; (case zqcbF => k_asm); (case zqcba => rfl); (case zqcbv => exact Eq.refl (some (_, _))); (case zqcbw => exact Eq.refl (some (_, _))); k_whole)))
  k_with "eval Slice" => ((k_here; k_dflt (refine' slice_pe ?zqcbF ?zqcbu ?zqcbv ?zqcbw ?_ ?zqcba; (case zqcbF => k_asm); (case zqcba => rfl); (case zqcbu => exact Eq.refl (some (_, _))); (case zqcbv => exact Eq.refl (some (_, _))); (case zqcbw => exact Eq.refl (some (_, _))); k_whole)))
  k_with "eval Name" => ((k_here; k_dflt (refine' nameX_L ?zqcbF ?zqcbv ?_ ?zqcba ?zqcbb; (case zqcbF => k_asm); (case zqcba => rfl); (case zqcbb => rfl); (case zqcbv => exact Eq.refl (some _)); k_whole)))
  k_with "storeName" => ((k_here; k_dflt (refine' storeL ?zqcbF ?zqcbN ?_ ?zqcba ?zqcbb; (case zqcbF => k_asm); (case zqcbN => k_asm); (case zqcba => rfl); (case zqcbb => rfl); k_whole); intro _ _ _ _; (try k_sweep)))
  k_with "tb_start" => (
      first
      | (refine' Rows.head ?zqe1; (case zqe1 => assumption))
      | (refine' bodyJoin ?zqe1; (case zqe1 => assumption))
      | (refine' rowsLen ?zqe1; (case zqe1 => assumption))
      | (refine' rowsLen2 ?zqe1; (case zqe1 => assumption)))
  k_with "kwd_less" => (
      (refine' phX ?zqp ?zqq ?zqr; (case zqp => assumption); (case zqq => assumption); (case zqr => first
      | (refine' phE0 ?zqx ?zqy; (case zqx => assumption); (case zqy => assumption))
      | (refine' phE1a ?zqx ?zqy; (case zqx => assumption); (case zqy => assumption))
      | (refine' phE1b ?zqx ?zqy; (case zqx => assumption); (case zqy => assumption)))))
  k_with "kwd_inv" => (
      first
      | (refine' ph1a ?zqx ?zqy ?zqz ?zqu ?zqv; (case zqx => assumption); (case zqy => assumption); (case zqz => assumption); (case zqu => assumption); (case zqv => assumption))
      | (refine' ph1b ?zqx ?zqy ?zqz ?zqu ?zqv; (case zqx => assumption); (case zqy => assumption); (case zqz => assumption); (case zqu => assumption); (case zqv => assumption)))
  k_with "kwd_rel" => ((refine' bodyEnd ?zqx; (case zqx => assumption)))
  k_with "call ref" => ((k_here; (with_reducible show wpAny _ _ (call (Value.ref 375) _) _ _ _); k_dflt (refine' Con.useB (con_law_cut _ _ _ _ ?zqc1) ?zqn1 ?zqn2 ?zqn3 ?zqn4 ?zqn5 ?zqn6 ?zqn7 ?zqn8 ?_; (case zqn4 => assumption); (case zqn1 => k_asm); (case zqn2 => k_asm); (case zqn3 => k_asm); (case zqn5 => k_asm); (case zqn6 => exact rfl); (case zqn7 => ktr_room); (case zqn8 => units_room); (case zqc1 => tb_start)); intro _ _ _ _ _; (try dsimp only)))
  k_with "exec While BoolOp cons nil" => (k_dflt ((rename Fr _ _ _ _ => lF'); (rename News _ _ _ _ => lN'); (with_unfolding_all refine' ksw_join (hE := by passes_own) (σ := List Value × Addr × Nat) (fun c => (c.2.1, listOf c.1.toArray c.2.2) :: led) (fun c => [(PySem.Str.ofString "rows", .ref c.2.1)]) [] (fun c => Ph l Kd.a (splitNL l) c.1) (fun c => c.1.length) (fun c => PhX l Kd.a (splitNL l) c.1) ⟨_, _, _⟩ lF' ?zqkn ?zqkk ?zqkp ?_ ?_); (case zqkk => kst_all); (case zqkn => refine' cb_drop lN' ((fmc ?zqh1 ?zqh2)); (case zqh1 => ktr_unf); (case zqh2 => ktr_rel)); (case zqkp => refine' ph0 ?zqa ?zqb; (case zqa => assumption); (case zqb => assumption)); (all_goals (clear lF' lN'; intro cC cU cH cTk cP cF cN; obtain ⟨cL, cB, cD, cR⟩ := cP; (try dsimp only [kstB] at cF); (try dsimp only at cN); (try simp only [List.cons_append, List.nil_append] at cN)))))
  k_with "exec While BoolOp cons nil" => (k_dflt ((rename Fr _ _ _ _ => lF'); (rename News _ _ _ _ => lN'); (with_unfolding_all refine' ksw_join (hE := by passes_own) (σ := List Value × Addr × Nat) (fun c => (c.2.1, listOf c.1.toArray c.2.2) :: led) (fun c => [(PySem.Str.ofString "rows", .ref c.2.1)]) [] (fun c => Ph l Kd.b ((splitNL l).dropWhile (pk Kd.a)) c.1) (fun c => c.1.length) (fun c => PhX l Kd.b ((splitNL l).dropWhile (pk Kd.a)) c.1) ⟨_, _, _⟩ lF' ?zqkn ?zqkk ?zqkp ?_ ?_); (case zqkk => kst_all); (case zqkn => refine' cb_drop lN' ((fmc ?zqh1 ?zqh2)); (case zqh1 => ktr_unf); (case zqh2 => ktr_rel)); (case zqkp => refine' phN ?zqa ?zqb ?zqd; (case zqa => assumption); (case zqb => assumption); (case zqd => assumption)); (all_goals (clear lF' lN'; intro cC cU cH cTk cP cF cN; obtain ⟨cL, cB, cD, cR⟩ := cP; (try dsimp only [kstB] at cF); (try dsimp only at cN); (try simp only [List.cons_append, List.nil_append] at cN)))))
  k_with "exec While BoolOp cons nil" => (k_dflt ((rename Fr _ _ _ _ => lF'); (rename News _ _ _ _ => lN'); (with_unfolding_all refine' ksw_join (hE := by passes_own) (σ := List Value × Addr × Nat) (fun c => (c.2.1, listOf c.1.toArray c.2.2) :: led) (fun c => [(PySem.Str.ofString "rows", .ref c.2.1)]) [] (fun c => Ph l Kd.a (((splitNL l).dropWhile (pk Kd.a)).dropWhile (pk Kd.b)) c.1) (fun c => c.1.length) (fun c => PhX l Kd.a (((splitNL l).dropWhile (pk Kd.a)).dropWhile (pk Kd.b)) c.1) ⟨_, _, _⟩ lF' ?zqkn ?zqkk ?zqkp ?_ ?_); (case zqkk => kst_all); (case zqkn => refine' cb_drop lN' ((fmc ?zqh1 ?zqh2)); (case zqh1 => ktr_unf); (case zqh2 => ktr_rel)); (case zqkp => refine' phN ?zqa ?zqb ?zqd; (case zqa => assumption); (case zqb => assumption); (case zqd => assumption)); (all_goals (clear lF' lN'; intro cC cU cH cTk cP cF cN; obtain ⟨cL, cB, cD, cR⟩ := cP; (try dsimp only [kstB] at cF); (try dsimp only at cN); (try simp only [List.cons_append, List.nil_append] at cN)))))
  k_with "state" => kwd_inv
  k_with "measure" => (refine' phLess ?x ?y ?z; (case x => assumption); (case y => assumption); (case z => assumption))
  w_strict (
    refine wpAny_call ?_
    k_dflt cell_enter
    k_steps
    all_goals first | ktd_rel | trace_state)
noncomputable def kinds : List (List UInt8) := [[80, 71, 80, 32, 83, 73, 71, 78, 65, 84, 85, 82, 69], [80, 71, 80, 32, 77, 69, 83, 83, 65, 71, 69], [83, 83, 72, 32, 83, 73, 71, 78, 65, 84, 85, 82, 69], [83, 73, 71, 78, 69, 68, 32, 77, 69, 83, 83, 65, 71, 69]]
noncomputable def opnOf (k : List UInt8) : List UInt8 := [45, 45, 45, 45, 45, 66, 69, 71, 73, 78, 32] ++ k ++ [45, 45, 45, 45, 45]
noncomputable def opn : List (List UInt8) := kinds.map opnOf
theorem kindsLen {l : List UInt8} (h : l ∈ kinds) : l.length ≤ 20 := by
  have key : ∀ l ∈ kinds, l.length ≤ 20 := by decide
  exact key l h
theorem bsKinds {a b c d : Tok} : BsAre [.bytes #[80, 71, 80, 32, 83, 73, 71, 78, 65, 84, 85, 82, 69] a, .bytes #[80, 71, 80, 32, 77, 69, 83, 83, 65, 71, 69] b, .bytes #[83, 83, 72, 32, 83, 73, 71, 78, 65, 84, 85, 82, 69] c, .bytes #[83, 73, 71, 78, 69, 68, 32, 77, 69, 83, 83, 65, 71, 69] d] kinds := .cons _ _ (.cons _ _ (.cons _ _ (.cons _ _ .nil)))
set_option maxHeartbeats 8000000 in
theorem con_opens (w : World) (led : List (Addr × Obj)) : Con w 394 1 8 led [] (PList led opn) := by
  refine conOf ?_
  k_fill
  intro dp un gd cn cs a ccd cl outer A₀ base h₀ L m hp gn dr tk os Q E p loose mean mg mb B F X N T hk hd hu hret
  k_with_none
  k_with "tb_start" => (
      first
      | (refine' Nat.le_trans ?zqq1 (Nat.le_of_ble_eq_true ?zqq2); (case zqq1 => with_reducible assumption); (case zqq2 => exact rfl))
      | omega
      | (simp only [List.length_append, List.length_cons, List.length_nil, List.length_map, List.length_take, List.length_drop]; omega)
      | ((try simp only [List.length_append, List.length_cons, List.length_nil]); (first | refine Nat.le_trans (sl_length _ _) ?_ | skip); omega)
      | fail "size")
  k_with "binaryOp Add bytes bytes" => ((k_here; (with_reducible show wpAny _ _ (binaryOp Operator.Add (Value.bytes (List.toArray _) _) (Value.bytes (List.toArray _) _)) _ _ _); (refine addB (by tb_start) ?_); intro _ _))
  k_with "ktr_rel" => (
      (intro cbp cbh; first
      | exact cbh
      | exact List.mem_cons_of_mem _ cbh
      | exact List.mem_cons_of_mem _ (List.mem_cons_of_mem _ cbh)
      | (simp only [List.mem_cons, List.mem_append] at cbh ⊢; first | exact cbh | (simp [cbh]; done) | grind)
      | grind))
  k_with "tb_rel" => (
      first
      | assumption
      | (refine' News.dr1 ?zqcbN; (case zqcbN => assumption))
      | (refine' News.dr2 ?zqcbN; (case zqcbN => assumption))
      | (refine' News.dr3 ?zqcbN; (case zqcbN => assumption))
      | (refine' News.dr4 ?zqcbN; (case zqcbN => assumption))
      | (refine' News.dr5 ?zqcbN; (case zqcbN => assumption))
      | (refine' News.dr6 ?zqcbN; (case zqcbN => assumption))
      | (refine' cb_drop ?zqcbN ?zqcbS; (case zqcbN => assumption); (case zqcbS => ktr_rel)))
  k_with "ktr_unf" => (
      first
      | assumption
      | exact List.Mem.head _
      | (refine' List.mem_append_left _ ?_; ktr_unf)
      | (refine' List.Mem.tail _ ?_; ktr_unf))
  k_with "eval ListComp" => (k_extra "own ListComp")
  k_with "CompEnd" => ((k_here; (refine' LCg.CompEnd.intro ?zqn1 ?zqn2 _ ?zqn3 ?zqn4 ?zqn5 (bEl ?zqn6 rfl); (case zqn1 => assumption); (case zqn2 => assumption); (case zqn3 => ktr_rel); (case zqn4 => assumption); (case zqn5 => first | (refine' Or.inr ⟨_, ?zqhm, ?zqh1, _, ?zqh2⟩; (case zqhm => ktr_unf); (case zqh1 => exact rfl); (case zqh2 => exact rfl)) | ktr_unf); (case zqn6 => kwd_rel))))
  k_with "FinE" => ((k_here; (unfold LCg.FinE); intro _ _ _ _ _ _; (try dsimp only)))
  k_with "cell_enter" => ((refine' code_def ?zqk1 ?zqk2 ?zqk3 ?zqk4 ?zqk5 ?zqkA ?zqkF ?zqkK ?zqk6 ?zqk7 ?zqk8 ?zqk9 ?zqkB ?_ ?zqc2 ?zqc3 ?zqc4 ?zqc5; (case zqkA => exact rfl); (case zqkF => exact rfl); (case zqkK => assumption); (case zqk1 => k_asm); (case zqk2 => k_asm); (case zqk3 => k_asm); (case zqk4 => k_asm); (case zqk5 => k_asm); (case zqk6 => k_is); (case zqk7 => k_is); (case zqk8 => ktr_room); (case zqk9 => first | exact BindsTo.of_eq rfl | exact binds_K (by k_in) rfl (by k_is) rfl rfl rfl); (case zqc5 => decide); (case zqkB => exact locs rfl); (case zqc2 => exact rfl); (case zqc3 => exact rfl); (case zqc4 => exact rfl); k_whole; intro g' L' h' FG' F' N' B' X' T'; (try dsimp only); (try k_lift B'); (try k_fold)))
  k_with "k_ne" => ((refine neN ?_; (try dsimp only); first | (refine' neLt ?zqcbh ?zqcbk; (case zqcbh => with_reducible assumption); (case zqcbk => (intro cbz; repeat (first | exact cbz.1 | replace cbz := cbz.2)))) | (refine' neGt ?zqcbh ?zqcbk; (case zqcbh => with_reducible assumption); (case zqcbk => (intro cbz; repeat (first | exact cbz.1 | replace cbz := cbz.2)))) | omega))
  k_with "spliced" => ((k_here; k_dflt (refine' pes_eval ?zqcbF ?zqcbv ?_ ?zqcba; (case zqcbF => k_asm); (case zqcba => rfl); (case zqcbv => exact Eq.refl (some (_, _))); k_whole); (try dsimp only [List.cons_append, List.nil_append])))
  k_with "eval Name" => ((k_here; k_dflt (refine' nameX_L ?zqcbF ?zqcbv ?_ ?zqcba ?zqcbb; (case zqcbF => k_asm); (case zqcba => rfl); (case zqcbb => rfl); (case zqcbv => exact Eq.refl (some _)); k_whole)))
  k_with "storeName" => ((k_here; k_dflt (refine' storeL ?zqcbF ?zqcbN ?_ ?zqcba ?zqcbb; (case zqcbF => k_asm); (case zqcbN => k_asm); (case zqcba => rfl); (case zqcbb => rfl); k_whole); intro _ _ _ _; (try k_sweep)))
  k_with "kwd_rel" => (exact rfl)
  k_with "TupSrc" => ((k_here; k_dflt (refine' ⟨_, _, _, rfl, ?zqn1, ?zqn2, ?zqn3, ?zqn4, ?zqn5, ?_⟩; (case zqn1 => rfl); (case zqn2 => k_asm); (case zqn3 => k_asm); (case zqn4 => ktr_unf); (case zqn5 => (rw [PySem.sizeLine_eq]; simp)); intro _; refine bs_rest opnOf bsKinds (fun _ _ _ _ _ _ _ _ _ _ _ _ cM _ _ _ _ _ _ => ?_) (fun _ _ => ?_); (have cM := kindsLen cM))))
  k_with "own ListComp" => (k_here; k_dflt (refine tupComp (hs := by intro _; rfl) (_F₀ := by k_asm) (by with_unfolding_all rfl) (by decide) (by rfl) (by decide) (by rfl) ?_))
  w_strict (
    refine wpAny_call ?_
    k_dflt cell_enter
    k_steps
    all_goals (refine' hret _ _ _ _ (pList ?e1 ?e2) ?e3 ?e4; (case e1 => assumption); (case e2 => assumption); (case e3 => assumption); (case e4 => tb_rel)))
noncomputable def opens (row : List UInt8) (o : List UInt8) : Bool := row.take o.length == o
noncomputable def sgStep (st : Int × Int) (row : List UInt8) : Int × Int := (if opn.filter (opens row) != [] then st.2 else st.1, st.2 + row.length + 1)
/-- where the law says that the signature begins -/
noncomputable def lawSigned (l : List UInt8) : Int := ((splitNL l).foldl sgStep ((l.length : Int), 0)).1
theorem opnLen {o : List UInt8} (h : o ∈ opn) : o.length ≤ 100 := by
  unfold opn at h
  obtain ⟨k, hk, rfl⟩ := List.mem_map.mp h
  have := kindsLen hk
  unfold opnOf
  simp
  omega
theorem opnRoom {vs : List Value} (h : BsAre vs opn) : vs.toArray.size ≤ sizeLine := by
  have := h.length
  have e : opn.length = 4 := rfl
  rw [sizeLine_eq]; simp; omega
theorem opens1 {y o : List UInt8} {k : Int} {b : Bool} (hk : k = o.length) (h : (sl y none (some k) == o) = b) : opens y o = b := by
  subst hk
  rw [← h]
  unfold opens sl
  simp only [Option.elim]
  rw [clipAt_nat]
  by_cases hc : o.length ≤ y.length
  · rw [Nat.min_eq_left hc]; simp
  · rw [Nat.min_eq_right (by omega)]
    have e : y.take o.length = y.take y.length := by rw [List.take_of_length_le (by omega), List.take_length]
    simp [e]
theorem turnY {l y : List UInt8} {pre post : List (List UInt8)} (e : splitNL l = pre ++ y :: post) (hl : l.length ≤ 1000) : y.length ≤ 1000 := Nat.le_trans (split_part l y (by rw [e]; simp)) hl
theorem sgA {f a : Int} {y : List UInt8} {l : Int} {pre : List (List UInt8)} (hP : (f, a) = pre.foldl sgStep (l, 0)) (h : (opn.filter (opens y) != []) = true) : (a, a + (y.length : Int) + 1) = (pre ++ [y]).foldl sgStep (l, 0) := by
  rw [List.foldl_append, ← hP]
  simp only [List.foldl_cons, List.foldl_nil, sgStep, h, if_true]
theorem sgB {f a : Int} {y : List UInt8} {l : Int} {pre : List (List UInt8)} (hP : (f, a) = pre.foldl sgStep (l, 0)) (h : (opn.filter (opens y) != []) = false) : (f, a + (y.length : Int) + 1) = (pre ++ [y]).foldl sgStep (l, 0) := by
  rw [List.foldl_append, ← hP]
  simp only [List.foldl_cons, List.foldl_nil, sgStep, h, Bool.false_eq_true, if_false]
theorem sgE {f a : Int} {l : List UInt8} (hP : (f, a) = (splitNL l).foldl sgStep ((l.length : Int), 0)) : f = lawSigned l := by
  unfold lawSigned
  rw [← hP]
theorem pInt {led : List (Addr × Obj)} {k x : Int} {t : Tok} (e : x = k) : PInt led k (.int x t) led := ⟨rfl, t, by rw [e]⟩
set_option maxHeartbeats 8000000 in
theorem con_signed (w : World) (led : List (Addr × Obj)) (l : List UInt8) (t : Tok) (hl : l.length ≤ 1000) : Con w 399 3 208 led [.bytes l.toArray t] (PInt led (lawSigned l)) := by
  refine conOf ?_
  k_fill
  intro dp un gd cn cs a ccd cl outer A₀ base h₀ L m hp gn dr tk os Q E p loose mean mg mb B F X N T hk hd hu hret
  k_with_none
  k_with "tb_start" => (
      first
      | (refine' Nat.le_trans ?zqq1 (Nat.le_of_ble_eq_true ?zqq2); (case zqq1 => with_reducible assumption); (case zqq2 => exact rfl))
      | omega
      | (simp only [List.length_append, List.length_cons, List.length_nil, List.length_map, List.length_take, List.length_drop]; omega)
      | ((try simp only [List.length_append, List.length_cons, List.length_nil]); (first | refine Nat.le_trans (sl_length _ _) ?_ | skip); omega)
      | fail "size")
  k_with "call builtin:len" => ((k_here; (with_reducible show wpAny _ _ (call (Value.builtin "len") [Value.bytes (List.toArray _) _]) _ _ _); (refine lenB (by tb_start) ?_); intro _ _))
  k_with "subscriptTail" => ((k_here; (with_reducible show wpAny _ _ (subscriptTail _ (Expr.Slice _ _ none _) (Value.bytes (List.toArray _) _) (Value.ref _)) _ _ _); (with_reducible rename Fr _ _ _ _ => F'); (with_reducible rename News _ _ _ _ => N'); (refine sliceB (hs := by with_unfolding_all rfl) (ht := by intro _; with_unfolding_all rfl) (s := ⟨_, _, _, _, _⟩) F' N' (by constructor) (by constructor) (by tb_start) ?_); intro _ _ _ _ _))
  k_with "getMethod bytes" => ((k_here; (with_reducible show wpAny _ _ (getMethod (Value.bytes (List.toArray _) _) (PySem.Str.ofString "split") _) _ _ _); (refine methB slotSplit tySplit ?_)))
  k_with "ktr_rel" => (
      (intro cbp cbh; first
      | exact cbh
      | exact List.mem_cons_of_mem _ cbh
      | exact List.mem_cons_of_mem _ (List.mem_cons_of_mem _ cbh)
      | (simp only [List.mem_cons, List.mem_append] at cbh ⊢; first | exact cbh | (simp [cbh]; done) | grind)
      | grind))
  k_with "tb_rel" => (
      first
      | assumption
      | (refine' News.dr1 ?zqcbN; (case zqcbN => assumption))
      | (refine' News.dr2 ?zqcbN; (case zqcbN => assumption))
      | (refine' News.dr3 ?zqcbN; (case zqcbN => assumption))
      | (refine' News.dr4 ?zqcbN; (case zqcbN => assumption))
      | (refine' News.dr5 ?zqcbN; (case zqcbN => assumption))
      | (refine' News.dr6 ?zqcbN; (case zqcbN => assumption))
      | (refine' cb_drop ?zqcbN ?zqcbS; (case zqcbN => assumption); (case zqcbS => ktr_rel)))
  k_with "lcg_sub" => (
      first
      | (refine' (fmc ?zqha ?zqhb); (case zqha => ktr_unf); (case zqhb => lcg_sub))
      | ktr_rel)
  k_with "units_room" => (first | exact roomA hu rfl | exact roomB hu rfl | exact roomC hu rfl | (have hcL9 := cLine_is; (try simp only [units_in1, units_deeper, Around.mark_units, units_caller] at *); (try dsimp only [ktrTop] at *); omega))
  k_with "ktr_unf" => (
      first
      | assumption
      | exact List.Mem.head _
      | (refine' List.mem_append_left _ ?_; ktr_unf)
      | (refine' List.Mem.tail _ ?_; ktr_unf))
  k_with "call builtin:bytes.split" => ((k_here; (with_reducible show wpAny _ _ (call (Value.builtin "bytes.split") _) _ _ _); (try dsimp only [List.append, List.cons_append, List.nil_append]); (refine' callSplit ?zqn1 ?zqn2 ?zqn3 ?_; (case zqn1 => k_asm); (case zqn2 => assumption); (case zqn3 => tb_start); intro _ _ _ _ _ _ _ _); (try dsimp only)))
  k_with "eval ListComp" => (k_extra "own ListComp")
  k_with "CompEnd" => ((k_here; (refine' LCg.CompEnd.intro ?zqn1 ?zqn2 _ ?zqn3 ?zqn4 ?zqn5 ⟨?zqn6, bEl rfl rfl⟩; (case zqn1 => assumption); (case zqn2 => assumption); (case zqn3 => ktr_rel); (case zqn4 => assumption); (case zqn5 => first | (refine' Or.inr ⟨_, ?zqhm, ?zqh1, _, ?zqh2⟩; (case zqhm => ktr_unf); (case zqh1 => exact rfl); (case zqh2 => exact rfl)) | ktr_unf); (case zqn6 => kwd_rel))))
  k_with "CompEnd" => ((k_here; (refine' LCg.CompEnd.intro ?zqn1 ?zqn2 _ ?zqn3 ?zqn4 ?zqn5 ⟨?zqn6, rfl⟩; (case zqn1 => assumption); (case zqn2 => assumption); (case zqn3 => ktr_rel); (case zqn4 => assumption); (case zqn5 => first | (refine' Or.inr ⟨_, ?zqhm, ?zqh1, _, ?zqh2⟩; (case zqhm => ktr_unf); (case zqh1 => exact rfl); (case zqh2 => exact rfl)) | ktr_unf); (case zqn6 => kwd_rel))))
  k_with "FinE" => ((k_here; (unfold LCg.FinE); intro _ _ _ _ _ _; (try dsimp only)))
  k_with "compareOp NotEq ref ref" => ((k_here; (with_reducible show wpAny _ _ (compareOp CmpOp.NotEq (Value.ref _) (Value.ref _)) _ _ _); (refine' neNilBs ?zqn5 (News.isList ?zqn1 ?zqn2) (News.isList ?zqn1 ?zqn4) ?zqn6 ?_; (case zqn1 => assumption); (case zqn4 => exact List.Mem.head _); (case zqn2 => ktr_unf); (case zqn5 => assumption); (case zqn6 => units_room))))
  k_with "lcg_off" => (
      first
      | assumption
      | (refine' off_lt ?zqal; (case zqal => assumption))
      | (refine' off_lt1 ?zqal; (case zqal => assumption))
      | (refine' OwnOff.ne ?zqal ?zqam; (case zqal => assumption); (case zqam => first | exact List.Mem.head _ | (simp; done)))
      | (refine' off_app ?zqal ?zqam; (case zqal => lcg_off); (case zqam => lcg_off))
      | (apply off_cons; assumption)
      | (refine' (fmc ?zqla ?zqlb); (case zqla => k_ne); (case zqlb => lcg_off))
      | (apply off_tail1; assumption)
      | (apply off_cons; apply off_cons; assumption)
      | (refine' ltNe ?zqal; (case zqal => first | assumption | (apply And.right; assumption) | (apply And.right; apply And.right; assumption) | (apply And.right; apply And.right; apply And.right; assumption) | (apply And.right; apply And.right; apply And.right; apply And.right; assumption) | (apply And.right; apply And.right; apply And.right; apply And.right; apply And.right; assumption))))
  k_with "exec For Name Call cons nil" => ((k_here; k_dflt ((rename Fr _ _ _ _ => lF'); with_unfolding_all refine' For_cellF (hs := by intro _; rfl) (hE := by passes_own) lF' ?zqk1 ?zqk2 ?zqk3 ?_; (case zqk1 => exact rfl); (case zqk2 => exact rfl); (case zqk3 => exact rfl))))
  k_with "CPost" => ((dsimp only [CPost]))
  k_with "CEnd" => ((k_here; k_dflt ((rename News _ _ _ _ => nE'); (first | refine' c_end5 ?zqz0 nE' ?zqz1 ?zqz2 ?zqz3 ?zqz4 ?zqz5 ?zqz6 ?zqz7 ?zqz8 ?zqz9 | refine' c_end4 ?zqz0 nE' ?zqz1 ?zqz2 ?zqz3 ?zqz4 ?zqz5 ?zqz6 ?zqz7 ?zqz8 ?zqz9 | refine' c_end3 ?zqz0 nE' ?zqz1 ?zqz2 ?zqz3 ?zqz4 ?zqz5 ?zqz6 ?zqz7 ?zqz8 ?zqz9 | refine' c_end2 ?zqz0 nE' ?zqz1 ?zqz2 ?zqz3 ?zqz4 ?zqz5 ?zqz6 ?zqz7 ?zqz8 ?zqz9); (case zqz0 => assumption); (case zqz7 => kst_all); (case zqz1 => ktr_unf); (case zqz2 => ktr_unf); (case zqz3 => ktr_unf); (case zqz4 => lcg_sub); (case zqz5 => assumption); (case zqz6 => rfl); (case zqz8 => ksw_same); (case zqz9 => kst_p))))
  k_with "ktr_enter" => ((refine' code_defC ?zqk1 ?zqk2 ?zqk3 ?zqk4 ?zqk5 ?zqkA ?zqkF ?zqkK ?zqk6 ?zqk7 ?zqk8 ?zqk9 ?zqkB ?zqkD ?_ ?zqc2 ?zqc3 ?zqc4; (case zqkA => exact rfl); (case zqkF => exact rfl); (case zqkK => assumption); (case zqk1 => k_asm); (case zqk2 => k_asm); (case zqk3 => k_asm); (case zqk4 => k_asm); (case zqk5 => k_asm); (case zqk6 => k_is); (case zqk7 => k_is); (case zqk8 => ktr_room); (case zqk9 => exact BindsTo.of_eq rfl); (case zqkB => exact rfl); (case zqkD => decide +kernel); (case zqc2 => exact rfl); (case zqc3 => exact rfl); (case zqc4 => exact rfl); k_whole; intro g' L' h' tk' cells' FG' F' N' Y' B' X' T' l1; (try k_lt l1); k_cells Y'; (try simp only [List.cons_append, List.nil_append] at N'); (try dsimp only); (try k_lift B'); (try k_fold)))
  k_with "ktr_room" => (first | exact roomA hd rfl | exact roomB hd rfl | exact roomC hd rfl)
  k_with "k_ne" => ((refine neN ?_; (try dsimp only); first | (refine' neLt ?zqcbh ?zqcbk; (case zqcbh => with_reducible assumption); (case zqcbk => (intro cbz; repeat (first | exact cbz.1 | replace cbz := cbz.2)))) | (refine' neGt ?zqcbh ?zqcbk; (case zqcbh => with_reducible assumption); (case zqcbk => (intro cbz; repeat (first | exact cbz.1 | replace cbz := cbz.2)))) | omega))
  k_with "spliced" => ((k_here; k_dflt (refine' pes_eval ?zqcbF ?zqcbv ?_ ?zqcba; (case zqcbF => k_asm); (case zqcba => rfl); (case zqcbv => exact Eq.refl (some (_, _))); k_whole); (try dsimp only [List.cons_append, List.nil_append])))
  k_with "eval Name" => ((k_here; k_dflt (refine' nameX_L ?zqcbF ?zqcbv ?_ ?zqcba ?zqcbb; (case zqcbF => k_asm); (case zqcba => rfl); (case zqcbb => rfl); (case zqcbv => exact Eq.refl (some _)); k_whole)))
  k_with "storeName" => ((k_here; k_dflt (refine' storeL ?zqcbF ?zqcbN ?_ ?zqcba ?zqcbb; (case zqcbF => k_asm); (case zqcbN => k_asm); (case zqcba => rfl); (case zqcbb => rfl); k_whole); intro _ _ _ _; (try k_sweep)))
  k_with "kwd_rel" => ((refine' opens1 rfl ?zqh; (case zqh => assumption)))
  k_with "kwd_inv" => (
      first
      | (refine' sgA ?zqq1 ?zqq2; (case zqq1 => assumption); (case zqq2 => assumption))
      | (refine' sgB ?zqq1 ?zqq2; (case zqq1 => assumption); (case zqq2 => assumption)))
  k_with "call ref" => ((k_here; (with_reducible show wpAny _ _ (call (Value.ref 394) _) _ _ _); k_dflt (refine' Con.useL (con_opens _ _) ?zqn1 ?zqn2 ?zqn3 ?zqn4 ?zqn5 ?zqn6 ?zqn7 ?zqn8 ?_; (case zqn4 => assumption); (case zqn1 => k_asm); (case zqn2 => k_asm); (case zqn3 => k_asm); (case zqn5 => k_asm); (case zqn6 => exact rfl); (case zqn7 => ktr_room); (case zqn8 => units_room)); intro _ _ _ _ _ _ _ _ _; (try dsimp only)))
  k_with "own ListComp" => (k_here; k_dflt (refine LCt.ListComp_T (F₀ := by k_asm) (by with_unfolding_all rfl) (by decide) (by rfl) (by decide) (by rfl) ?_))
  k_with "state" => kwd_inv
  k_with "CompSrcT" => k_dflt (
    refine' LCt.CompSrcT.ledger ?n1 ?n2 ?n3 ?n4 ?n5 ?_
    case n1 => exact rfl
    case n2 => k_asm
    case n3 => k_asm
    case n4 => ktr_unf
    case n5 => refine' opnRoom ?x; (case x => assumption)
    intro _
    refine bs_restT (opens cY) (by assumption) (fun _ _ _ _ _ _ _ _ _ _ _ _ cM _ _ _ _ _ _ => ?_) (fun _ _ => ?_)
    (have cM := opnLen cM))
  k_with "CForSrc" => k_dflt (
    (rename Fr _ _ _ _ => lF'); (rename News _ _ _ _ => lN')
    refine' cfor_src (σ := Int × Tok × Int × Tok) (fun _ => led) (fun c => [(PySem.Str.ofString "found", .int c.1 c.2.1), (PySem.Str.ofString "at", .int c.2.2.1 c.2.2.2)]) [] (fun pre c => (c.1, c.2.2.1) = pre.foldl sgStep ((l.length : Int), 0)) ⟨_, _, _, _⟩ ?hh lF' lN' ?hl ?hb ?hc ?hd ?hsub ?hoff ?hlc ?hk ?hp ?_ ?_
    case hk => kst_all
    case hh => exact rfl
    case hl => ktr_unf
    case hb => assumption
    case hc => exact List.Mem.tail _ (List.Mem.tail _ (List.Mem.head _))
    case hd => assumption
    case hsub => ktr_rel
    case hoff => lcg_off
    case hlc => refine' ne_off ?xh ?xm; (case xh => assumption); (case xm => exact List.Mem.tail _ (List.Mem.head _))
    case hp => exact rfl
    all_goals (clear lF' lN')
    all_goals (first | (intro cC cPre cY cPost cT cU cH cTk cCo cI cOI cE cP cD cF cN; have cS := turnY cE hl; (try dsimp only [kstB] at cF); (try dsimp only at cN)) | (intro cC cU cH cTk cP cF cN; (try dsimp only [kstB] at cF); (try dsimp only at cN))))
  w_strict (
    refine wpAny_call ?_
    k_dflt ktr_enter
    k_steps
    all_goals first | (refine' hret _ _ _ _ (pInt ?e0) ?e1 ?e2; (case e1 => assumption); (case e2 => tb_rel); (case e0 => refine' sgE ?x; (case x => assumption))) | trace_state)
noncomputable def osig : List (List UInt8) := [[45, 45, 45, 45, 45, 66, 69, 71, 73, 78, 32, 80, 71, 80, 32, 83, 73, 71, 78, 65, 84, 85, 82, 69, 45, 45, 45, 45, 45], [45, 45, 45, 45, 45, 66, 69, 71, 73, 78, 32, 80, 71, 80, 32, 77, 69, 83, 83, 65, 71, 69, 45, 45, 45, 45, 45], [45, 45, 45, 45, 45, 66, 69, 71, 73, 78, 32, 83, 73, 71, 78, 69, 68, 32, 77, 69, 83, 83, 65, 71, 69, 45, 45, 45, 45, 45], [45, 45, 45, 45, 45, 66, 69, 71, 73, 78, 32, 83, 83, 72, 32, 83, 73, 71, 78, 65, 84, 85, 82, 69, 45, 45, 45, 45, 45]]
theorem bsOsig {a b c d : Tok} : BsAre [.bytes #[45, 45, 45, 45, 45, 66, 69, 71, 73, 78, 32, 80, 71, 80, 32, 83, 73, 71, 78, 65, 84, 85, 82, 69, 45, 45, 45, 45, 45] a, .bytes #[45, 45, 45, 45, 45, 66, 69, 71, 73, 78, 32, 80, 71, 80, 32, 77, 69, 83, 83, 65, 71, 69, 45, 45, 45, 45, 45] b, .bytes #[45, 45, 45, 45, 45, 66, 69, 71, 73, 78, 32, 83, 73, 71, 78, 69, 68, 32, 77, 69, 83, 83, 65, 71, 69, 45, 45, 45, 45, 45] c, .bytes #[45, 45, 45, 45, 45, 66, 69, 71, 73, 78, 32, 83, 83, 72, 32, 83, 73, 71, 78, 65, 84, 85, 82, 69, 45, 45, 45, 45, 45] d] osig := .cons _ _ (.cons _ _ (.cons _ _ (.cons _ _ .nil)))
theorem osigNe {o : List UInt8} (h : o ∈ osig) : 0 < o.length := by
  have key : ∀ o ∈ osig, 0 < o.length := by decide
  exact key o h
noncomputable def psStep (l : List UInt8) (st : Int × Int) (row : List UInt8) : Int × Int := (if osig.any (fun o => sw l o st.2.toNat) then st.2 else st.1, st.2 + row.length + 1)
/-- where the project says that the signature begins -/
noncomputable def projSigned (l : List UInt8) : Int := ((splitNL l).foldl (psStep l) ((l.length : Int), 0)).1
structure SgF (l : List UInt8) (f a : Int) : Prop where
  out : ((splitNL (l.drop a.toNat)).foldl (psStep l) (f, a)).1 = projSigned l
noncomputable def InS (l : List UInt8) (f a : Int) : Prop := 0 ≤ a ∧ a ≤ (l.length : Int) ∧ SgF l f a
theorem inS0 {l : List UInt8} : InS l (l.length : Int) 0 := ⟨by omega, by omega, ⟨rfl⟩⟩
theorem noSw {l : List UInt8} : osig.any (fun o => sw l o l.length) = false := by
  rw [List.any_eq_false]
  intro o ho
  have := osigNe ho
  unfold sw
  have h : ¬ (l.length + o.length ≤ l.length) := by omega
  simp [h]
structure Hit (l : List UInt8) (a f f' : Int) : Prop where
  out : f' = if osig.any (fun o => sw l o a.toNat) then a else f
theorem inS1 {l : List UInt8} {f a f' : Int} (h0 : 0 ≤ a) (h1 : a < (l.length : Int)) (h : SgF l f a) (hf : Hit l a f f') (he : fnd l [10] a.toNat < 0) : InS l f' (l.length : Int) := by
  refine ⟨by omega, by omega, ⟨?_⟩⟩
  rcases fnd_split l a.toNat (toNatLe h0 (Int.le_of_lt h1)) with ⟨_, h2⟩ | ⟨j, h2, _⟩
  · rw [← h.out, h2]
    have e : (l.drop ((l.length : Int)).toNat) = [] := by simp
    rw [e]
    have e2 : ((l.length : Int)).toNat = l.length := by simp
    simp only [splitNL, List.foldl_cons, List.foldl_nil, psStep, e2, noSw, Bool.false_eq_true, if_false]
    exact hf.out
  · rw [h2] at he; omega
theorem inS2 {l : List UInt8} {f a f' : Int} (h0 : 0 ≤ a) (h1 : a < (l.length : Int)) (h : SgF l f a) (hf : Hit l a f f') (he : ¬ fnd l [10] a.toNat < 0) : InS l f' (fnd l [10] a.toNat + 1) := by
  rcases fnd_split l a.toNat (toNatLe h0 (Int.le_of_lt h1)) with ⟨h2, _⟩ | ⟨j, h2, h3, h4, h5⟩
  · rw [h2] at he; omega
  · rw [h2]
    have e1 : ((j : Int) + 1).toNat = j + 1 := rfl
    refine ⟨Int.natCast_nonneg (j + 1), Int.ofNat_le.mpr h4, ⟨?_⟩⟩
    rw [e1, ← h.out, h5, List.foldl_cons]
    have e2 : psStep l (f, a) ((l.drop a.toNat).take (j - a.toNat)) = (f', (j : Int) + 1) := by
      unfold psStep
      rw [← hf.out]
      congr 1
      obtain ⟨i, rfl⟩ := Int.eq_ofNat_of_zero_le h0
      rw [List.length_take, List.length_drop]
      show ((i + min (j - i) (l.length - i) + 1 : Nat) : Int) = ((j + 1 : Nat) : Int)
      rw [Nat.min_eq_left (Nat.sub_le_sub_right (Nat.le_of_lt h4) i), Nat.add_sub_of_le (show i ≤ j from h3)]
    rw [e2]
theorem meS2 {l : List UInt8} {a : Int} (h0 : 0 ≤ a) (h1 : a < (l.length : Int)) (he : ¬ fnd l [10] a.toNat < 0) : l.length - (fnd l [10] a.toNat + 1).toNat < l.length - a.toNat := by
  rcases fnd_split l a.toNat (toNatLe h0 (Int.le_of_lt h1)) with ⟨h2, _⟩ | ⟨j, h2, h3, h4, h5⟩
  · rw [h2] at he; exact absurd (by decide) he
  · rw [h2]
    show l.length - (j + 1) < l.length - a.toNat
    exact Nat.sub_lt_sub_left (Nat.lt_of_le_of_lt h3 h4) (Nat.lt_succ_of_le h3)
theorem meS1 {l : List UInt8} {a : Int} (h0 : 0 ≤ a) (h1 : a < (l.length : Int)) : l.length - ((l.length : Nat) : Int).toNat < l.length - a.toNat := by
  obtain ⟨j, rfl⟩ := Int.eq_ofNat_of_zero_le h0
  show l.length - l.length < l.length - j
  rw [Nat.sub_self]
  exact Nat.sub_pos_of_lt (Int.ofNat_lt.mp h1)
structure OutS (l : List UInt8) (f : Int) : Prop where
  out : f = projSigned l
theorem outS {l : List UInt8} {f a : Int} (h0 : 0 ≤ a) (h1 : a ≤ (l.length : Int)) (h : SgF l f a) (hn : ¬ a < (l.length : Int)) : OutS l f := by
  constructor
  rw [← h.out]
  have e : a = (l.length : Int) := by omega
  subst e
  have e2 : ((l.length : Int)).toNat = l.length := by simp
  rw [e2, List.drop_length]
  simp only [splitNL, List.foldl_cons, List.foldl_nil, psStep, e2, noSw, Bool.false_eq_true, if_false]
structure HitP (l : List UInt8) (a f : Int) (pre : List (List UInt8)) (f' : Int) : Prop where
  out : f' = if pre.any (fun o => sw l o a.toNat) then a else f
theorem hit0 {l : List UInt8} {a f : Int} : HitP l a f [] f := ⟨by simp⟩
theorem hit1 {l : List UInt8} {a f : Int} {pre : List (List UInt8)} {y : List UInt8} (h : sw l y a.toNat = true) : HitP l a f (pre ++ [y]) a := ⟨by simp [h]⟩
theorem hit2 {l : List UInt8} {a f f' : Int} {pre : List (List UInt8)} {y : List UInt8} (hp : HitP l a f pre f') (h : sw l y a.toNat = false) : HitP l a f (pre ++ [y]) f' := ⟨by rw [hp.out]; simp [h]⟩
theorem hitE {l : List UInt8} {a f f' : Int} (hp : HitP l a f osig f') : Hit l a f f' := ⟨hp.out⟩
theorem topT0 {K : Frag} {h₀ : Heap} {t : Addr} {o : Obj} (X : K.In h₀) (ho : K.lookup t = some o) : ∃ o, h₀.get? t = some o := ⟨_, X _ _ ho⟩
set_option maxHeartbeats 8000000 in
theorem con_sig_at (w : World) (led : List (Addr × Obj)) (l : List UInt8) (t : Tok) (hl : l.length ≤ 1000) : Con w 298 1 8 led [.bytes l.toArray t] (PInt led (projSigned l)) := by
  refine conOf ?_
  k_fill
  intro dp un gd cn cs a ccd cl outer A₀ base h₀ L m hp gn dr tk os Q E p loose mean mg mb B F X N T hk hd hu hret
  k_with_none
  k_with "tb_start" => (
      first
      | (refine' Nat.le_trans ?zqq1 (Nat.le_of_ble_eq_true ?zqq2); (case zqq1 => with_reducible assumption); (case zqq2 => exact rfl))
      | omega
      | (simp only [List.length_append, List.length_cons, List.length_nil, List.length_map, List.length_take, List.length_drop]; omega)
      | ((try simp only [List.length_append, List.length_cons, List.length_nil]); (first | refine Nat.le_trans (sl_length _ _) ?_ | skip); omega)
      | fail "size")
  k_with "call builtin:len" => ((k_here; (with_reducible show wpAny _ _ (call (Value.builtin "len") [Value.bytes (List.toArray _) _]) _ _ _); (refine lenB (by tb_start) ?_); intro _ _))
  k_with "getMethod bytes" => ((k_here; (with_reducible show wpAny _ _ (getMethod (Value.bytes (List.toArray _) _) (PySem.Str.ofString "find") _) _ _ _); (refine methB slotFind tyFind ?_)))
  k_with "getMethod bytes" => ((k_here; (with_reducible show wpAny _ _ (getMethod (Value.bytes (List.toArray _) _) (PySem.Str.ofString "startswith") _) _ _ _); (refine methB FB.slot_bytes_startswith FB.type_bytes_startswith ?_)))
  k_with "call builtin:bytes.find" => ((k_here; (with_reducible show wpAny _ _ (call (Value.builtin "bytes.find") _) _ _ _); (try dsimp only [List.append, List.cons_append, List.nil_append]); (first | refine callFind2 ?_ | refine callFind3 (by omega) ?_); intro _ _))
  k_with "call builtin:bytes.startswith" => ((k_here; (with_reducible show wpAny _ _ (call (Value.builtin "bytes.startswith") _) _ _ _); (try dsimp only [List.append, List.cons_append, List.nil_append]); (first | refine callStarts2 ?_ | refine callStarts3 (by omega) ?_)))
  k_with "ktr_rel" => (
      (intro cbp cbh; first
      | exact cbh
      | exact List.mem_cons_of_mem _ cbh
      | exact List.mem_cons_of_mem _ (List.mem_cons_of_mem _ cbh)
      | (simp only [List.mem_cons, List.mem_append] at cbh ⊢; first | exact cbh | (simp [cbh]; done) | grind)
      | grind))
  k_with "tb_rel" => (
      first
      | assumption
      | (refine' News.dr1 ?zqcbN; (case zqcbN => assumption))
      | (refine' News.dr2 ?zqcbN; (case zqcbN => assumption))
      | (refine' News.dr3 ?zqcbN; (case zqcbN => assumption))
      | (refine' News.dr4 ?zqcbN; (case zqcbN => assumption))
      | (refine' News.dr5 ?zqcbN; (case zqcbN => assumption))
      | (refine' News.dr6 ?zqcbN; (case zqcbN => assumption))
      | (refine' cb_drop ?zqcbN ?zqcbS; (case zqcbN => assumption); (case zqcbS => ktr_rel)))
  k_with "lcg_sub" => (
      first
      | (refine' (fmc ?zqha ?zqhb); (case zqha => ktr_unf); (case zqhb => lcg_sub))
      | ktr_rel)
  k_with "KswEnd" => (((rename News _ _ _ _ => nE'); (try simp only [List.push_toArray] at nE'); (first | refine' ksw_end5 ?zqz0 nE' ?zqz1 ?zqz2 ?zqz3 ?zqz4 ?zqz5 ?zqz6 | refine' ksw_end4 ?zqz0 nE' ?zqz1 ?zqz2 ?zqz3 ?zqz4 ?zqz5 ?zqz6 | refine' ksw_end3 ?zqz0 nE' ?zqz1 ?zqz2 ?zqz3 ?zqz4 ?zqz5 ?zqz6 | refine' ksw_end2 ?zqz0 nE' ?zqz1 ?zqz2 ?zqz3 ?zqz4 ?zqz5 ?zqz6); (case zqz0 => assumption); (case zqz3 => kst_all); (case zqz1 => first | kst_in | lcg_sub); (case zqz2 => kst_facts); (case zqz4 => ksw_same); (case zqz5 => kst_p); (case zqz6 => ksw_less)))
  k_with "ktr_unf" => (
      first
      | assumption
      | exact List.Mem.head _
      | (refine' List.mem_append_left _ ?_; ktr_unf)
      | (refine' List.Mem.tail _ ?_; ktr_unf))
  k_with "InvEndN" => ((k_here; (rename News _ _ _ _ => nE'); (try simp only [List.push_toArray] at nE'); (first | refine' bs_end5 ?zqz0 nE' ?zqz1 ?zqz2 ?zqz3 ?zqz4 ?zqz5 ?zqz6 | refine' bs_end4 ?zqz0 nE' ?zqz1 ?zqz2 ?zqz3 ?zqz4 ?zqz5 ?zqz6 | refine' bs_end3 ?zqz0 nE' ?zqz1 ?zqz2 ?zqz3 ?zqz4 ?zqz5 ?zqz6 | refine' bs_end2 ?zqz0 nE' ?zqz1 ?zqz2 ?zqz3 ?zqz4 ?zqz5 ?zqz6); (case zqz0 => assumption); (case zqz4 => kst_all); (case zqz1 => lcg_sub); (case zqz2 => ktr_rel); (case zqz3 => rfl); (case zqz5 => kst_same); (case zqz6 => kst_p)))
  k_with "cell_enter" => ((refine' code_def ?zqk1 ?zqk2 ?zqk3 ?zqk4 ?zqk5 ?zqkA ?zqkF ?zqkK ?zqk6 ?zqk7 ?zqk8 ?zqk9 ?zqkB ?_ ?zqc2 ?zqc3 ?zqc4 ?zqc5; (case zqkA => exact rfl); (case zqkF => exact rfl); (case zqkK => assumption); (case zqk1 => k_asm); (case zqk2 => k_asm); (case zqk3 => k_asm); (case zqk4 => k_asm); (case zqk5 => k_asm); (case zqk6 => k_is); (case zqk7 => k_is); (case zqk8 => ktr_room); (case zqk9 => first | exact BindsTo.of_eq rfl | exact binds_K (by k_in) rfl (by k_is) rfl rfl rfl); (case zqc5 => decide); (case zqkB => exact locs rfl); (case zqc2 => exact rfl); (case zqc3 => exact rfl); (case zqc4 => exact rfl); k_whole; intro g' L' h' FG' F' N' B' X' T'; (try dsimp only); (try k_lift B'); (try k_fold)))
  k_with "KExit" => ((k_dflt (refine' kexit ?zqn1 ?zqn2 ?zqn3; (case zqn1 => assumption); (case zqn2 => tb_rel); (case zqn3 => kwd_less); (all_goals (intro _; exact none)))))
  k_with "k_ne" => ((refine neN ?_; (try dsimp only); first | (refine' neLt ?zqcbh ?zqcbk; (case zqcbh => with_reducible assumption); (case zqcbk => (intro cbz; repeat (first | exact cbz.1 | replace cbz := cbz.2)))) | (refine' neGt ?zqcbh ?zqcbk; (case zqcbh => with_reducible assumption); (case zqcbk => (intro cbz; repeat (first | exact cbz.1 | replace cbz := cbz.2)))) | omega))
  k_with "spliced" => ((k_here; k_dflt (refine' pes_eval ?zqcbF ?zqcbv ?_ ?zqcba; (case zqcbF => k_asm); (case zqcba => rfl); (case zqcbv => exact Eq.refl (some (_, _))); k_whole); (try dsimp only [List.cons_append, List.nil_append])))
  k_with "eval BinOp" => ((k_here; k_dflt (refine' binop_pe ?zqcbF ?zqcbv ?zqcbw ?_ ?zqcba; (case zqcbF => k_asm); (case zqcba => rfl); (case zqcbv => exact Eq.refl (some (_, _))); (case zqcbw => exact Eq.refl (some (_, _))); k_whole)))
  k_with "isTrue Compare" => ((k_here; k_dflt (refine' cmp_pe (hm := by with_unfolding_all rfl) ?zqcbF ?zqcbv ?zqcbw ?_ ?zqcba; (case zqcbF => k_asm); (case zqcba => rfl); (case zqcbv => exact Eq.refl (some (_, _))); (case zqcbw => exact Eq.refl (some (_, _))); k_whole)))
  k_with "eval Name" => ((k_here; k_dflt (refine' nameX_L ?zqcbF ?zqcbv ?_ ?zqcba ?zqcbb; (case zqcbF => k_asm); (case zqcba => rfl); (case zqcbb => rfl); (case zqcbv => exact Eq.refl (some _)); k_whole)))
  k_with "storeName" => ((k_here; k_dflt (refine' storeL ?zqcbF ?zqcbN ?_ ?zqcba ?zqcbb; (case zqcbF => k_asm); (case zqcbN => k_asm); (case zqcba => rfl); (case zqcbb => rfl); k_whole); intro _ _ _ _; (try k_sweep)))
  k_with "kwd_inv" => (
      first
      | (refine' hit2 ?zqq1 ?zqq2; (case zqq1 => assumption); (case zqq2 => assumption))
      | (refine' hit1 ?zqq1; (case zqq1 => assumption))
      | (refine' inS1 ?zqq1 ?zqq2 ?zqq3 ?zqq4 ?zqq5; (case zqq1 => assumption); (case zqq2 => assumption); (case zqq3 => assumption); (case zqq4 => refine' hitE ?zqq; (case zqq => assumption)); (case zqq5 => assumption))
      | (refine' inS2 ?zqq1 ?zqq2 ?zqq3 ?zqq4 ?zqq5; (case zqq1 => assumption); (case zqq2 => assumption); (case zqq3 => assumption); (case zqq4 => refine' hitE ?zqq; (case zqq => assumption)); (case zqq5 => assumption)))
  k_with "kwd_less" => ((refine' outS ?zqq1 ?zqq2 ?zqq3 ?zqq4; (case zqq1 => assumption); (case zqq2 => assumption); (case zqq3 => assumption); (case zqq4 => assumption)))
  k_with "exec While Compare cons nil" => (k_dflt ((rename Fr _ _ _ _ => lF'); (rename News _ _ _ _ => lN'); (with_unfolding_all refine' ksw_joinC (hE := by passes_own) (σ := Int × Tok × Int × Tok) (fun c => [(PySem.Str.ofString "found", .int c.1 c.2.1), (PySem.Str.ofString "at", .int c.2.2.1 c.2.2.2)]) [PySem.Str.ofString "opening", PySem.Str.ofString "end"] (fun c => InS l c.1 c.2.2.1) (fun c => (l).length - c.2.2.1.toNat) (fun c => OutS l c.1) ⟨_, _, _, _⟩ lF' lN' ?zqkk ?zqkp ?_ ?_); (case zqkk => kst_all); (case zqkp => exact inS0); (all_goals (clear lF' lN')); (all_goals (intro wC cU cH cTk cP cF cN; (first | obtain ⟨cA, cB, cD⟩ := cP | skip); (try dsimp only [kstB] at cF); (try dsimp only at cN)))))
  k_with "exec For Name Name cons nil" => ((k_here; (rename Fr _ _ _ _ => lF'); (with_unfolding_all refine' For_invVF lF' ?zqk1 ?zqk2 ?_; (case zqk1 => exact rfl); (case zqk2 => exact rfl); k_whole)))
  k_with "pyIter ref" => (k_dflt ((rename Fr _ _ _ _ => lF'); (rename News _ _ _ _ => lN'); refine' bs_forT (σ := Int × Tok) (fun c => [(PySem.Str.ofString "found", .int c.1 c.2)]) [] (fun pre c => HitP l (wC).2.2.1 (wC).1 pre c.1) ⟨_, _⟩ ?zqhh lF' lN' ?zqhl ?zqhl0 ?zqhb ?zqhk ?zqhp ?_ ?_; (case zqhk => kst_all); (case zqhh => exact rfl); (case zqhl => refine' kun_topT ?zqx1 ?zqx2 ?zqx3; (case zqx1 => k_asm); (case zqx2 => k_asm); (case zqx3 => k_is)); (case zqhl0 => refine' topT0 ?zqx2 ?zqx3; (case zqx2 => k_asm); (case zqx3 => k_is)); (case zqhb => exact bsOsig); (case zqhp => exact hit0); (all_goals (clear lF' lN')); (all_goals (first | (intro cC cPre cPost cY cT cU cH cTk cOwn cE cO cP cF cN; (try dsimp only [kstB] at cF); (try dsimp only at cN); (try simp only [List.cons_append, List.nil_append] at cN)) | (intro cC cU cH cTk cP cF cN; (try dsimp only [kstB] at cF); (try dsimp only at cN))))))
  k_with "state" => kwd_inv
  k_with "measure" => first | (refine' meS1 ?x ?y; (case x => assumption); (case y => assumption)) | (refine' meS2 ?x ?y ?z; (case x => assumption); (case y => assumption); (case z => assumption))
  w_strict (
    refine wpAny_call ?_
    k_dflt cell_enter
    k_steps
    all_goals first | (refine' hret _ _ _ _ (pInt ?e0) ?e1 ?e2; (case e1 => assumption); (case e2 => tb_rel); (case e0 => refine' OutS.out ?x; (case x => assumption))) | trace_state)
noncomputable def wordsM : List (List UInt8) := [[111, 110, 101], [116, 119, 111, 32, 32], [], [], [32, 9], [35, 32, 120], [35], [32, 35, 32, 121], [12], [97, 13], [98, 11], [35, 32]]
theorem bsWords {a b c d e f g h i j k l : Tok} : BsAre [.bytes #[111, 110, 101] a, .bytes #[116, 119, 111, 32, 32] b, .bytes #[] c, .bytes #[] d, .bytes #[32, 9] e, .bytes #[35, 32, 120] f, .bytes #[35] g, .bytes #[32, 35, 32, 121] h, .bytes #[12] i, .bytes #[97, 13] j, .bytes #[98, 11] k, .bytes #[35, 32] l] wordsM := by
  unfold wordsM
  repeat (first | exact .nil | refine .cons _ _ ?_)
theorem Deck.mono {w : World} {d D : Addr} {B C : Nat} {o : Obj} {ws : List Value} (h : Deck w d D B o ws) (hc : B ≤ C) : Deck w d D C o ws := by
  obtain ⟨ns, M, T, h1, h2, h3, h4, h5, h6, h7, h8, h9⟩ := h
  exact ⟨ns, M, T, h1, h2, h3, h4, h5, h6, by omega, h8, h9⟩
noncomputable def PMsg (w : World) (rest : List (Addr × Obj)) (d D : Addr) (B : Nat) : Value → List (Addr × Obj) → Prop := fun r led' =>
  ∃ (x : List UInt8) (t : Tok) (o' : Obj) (ws' : List Value) (n' : Nat), r = .bytes x.toArray t ∧ x.length ≤ 400 ∧ (0 : UInt8) ∉ x ∧ Deck w d D (B + 10) o' ws' ∧ led' = (d, o') :: (D, listOf ws'.toArray n') :: rest
noncomputable def OkB (x : List UInt8) : Prop := x.length ≤ 60 ∧ (0 : UInt8) ∉ x
noncomputable def MP (w : World) (d D : Addr) (B : Nat) (pre : List (List UInt8)) (vs : List Value) (o : Obj) (ws : List Value) : Prop := ∃ ls, BsAre vs ls ∧ ls.length = pre.length ∧ (∀ x ∈ ls, OkB x) ∧ Deck w d D (B + 1 + pre.length) o ws
theorem mp0 {w : World} {d D : Addr} {B : Nat} {o : Obj} {ws : List Value} (h : Deck w d D (B + 1) o ws) : MP w d D B [] [] o ws := ⟨[], .nil, rfl, by simp, h⟩
theorem mp1 {w : World} {d D : Addr} {B : Nat} {o : Obj} {ws vs : List Value} {ls pre : List (List UInt8)} {x : List UInt8} {t : Tok} (hb : BsAre vs ls) (hl : ls.length = pre.length) (hm : ∀ x ∈ ls, OkB x) (hx : OkB x) (h : Deck w d D (B + 1 + pre.length + 1) o ws) : MP w d D B (pre ++ [[]]) (vs ++ [.bytes x.toArray t]) o ws :=
  ⟨ls ++ [x], hb.snoc x t, by simp [hl], fun y hy => by
    rcases List.mem_append.mp hy with h | h
    · exact hm y h
    · rw [List.mem_singleton.mp h]; exact hx, h.mono (by simp; omega)⟩
theorem wordsLen {lm : List (List UInt8)} (hml : ∀ x ∈ lm, OkB x) : ∀ x ∈ wordsM ++ lm, OkB x := fun x hx => by
  rcases List.mem_append.mp hx with h | h
  · have key : ∀ x ∈ wordsM, x.length ≤ 60 ∧ (0 : UInt8) ∉ x := by decide
    exact key x h
  · exact hml x h
theorem joinMsg {ls : List (List UInt8)} (h : ∀ x ∈ ls, OkB x) (hn : ls.length ≤ 6) : (joinB [10] ls).length ≤ 366 := join_bound (sep := [10]) (a := 60) (b := 6) (fun x hx => (h x hx).1) hn
theorem join_no {c : UInt8} {sep : List UInt8} (hs : c ∉ sep) {ls : List (List UInt8)} (h : ∀ x ∈ ls, c ∉ x) : c ∉ joinB sep ls := by
  cases ls with
  | nil => intro q; exact nomatch q
  | cons x r =>
    intro q
    have q : c ∈ x ++ r.flatMap (fun y => sep ++ y) := q
    rcases List.mem_append.mp q with q | q
    · exact h x (.head _) q
    · obtain ⟨y, hy, hq⟩ := List.mem_flatMap.mp q
      rcases List.mem_append.mp hq with hq | hq
      · exact hs hq
      · exact h y (.tail _ hy) hq
theorem joinNo {ls : List (List UInt8)} (h : ∀ x ∈ ls, OkB x) : (0 : UInt8) ∉ joinB [10] ls := join_no (by decide) fun x hx => (h x hx).2
theorem msgNo {x : List UInt8} {k : Int} (hx : (0 : UInt8) ∉ x) : (0 : UInt8) ∉ x ++ (List.replicate k.toNat ([10] : List UInt8)).flatten := fun q => by
  rcases List.mem_append.mp q with q | q
  · exact hx q
  · obtain ⟨y, hy, hq⟩ := List.mem_flatten.mp q
    rw [(List.mem_replicate.mp hy).2] at hq
    exact absurd hq (by decide)
theorem use_pickB {w : World} {rest : List (Addr × Obj)} {d D S : Addr} {Bd : Nat} {o : Obj} {ws vs : List Value} {ls : List (List UInt8)} {n nn : Nat}
    (hD : Deck w d D Bd o ws) (hB : Bd ≤ 1000) (hb : BsAre vs ls) (hv0 : 0 < ls.length) (hv1 : ls.length ≤ 1000) (hS : (S, listOf vs.toArray nn) ∈ rest) (hs1 : ∀ p ∈ rest, p.1 ≠ d) (hs2 : ∀ p ∈ rest, p.1 ≠ D)
    {dp un : Nat} {gd : Option (List Code)} {cn : Str} {cs : Scope} {a : Addr} {ccd : Value} {cl : List (Str × Addr)} {outer : List Env} {A₀ : Around} {base h₀ : Heap} {L : Addr} {m : Str → Option Value} {s : Shared} {Q E : Value → Shared → Prop}
    {p : Program} {loose : List Str} {mean : ExcName → Option Value} {mg mb : Str → Option Value}
    (B : Below A₀ base outer h₀) (F : Fr h₀ L s.heap m) (X : (Mine.frag.heap_1 w.params).In h₀) (N : News h₀ L s.heap ((d, o) :: (D, listOf ws.toArray n) :: rest)) (T : Top p loose mean mg mb h₀) (hk : cs.kind = .function)
    (hd : dp + 2 < recursionLimit) (hu : un + 108 < cLine)
    (ret : ∀ (x : List UInt8) (t : Tok) (o' : Obj) (ws' : List Value) (n' : Nat) (h' : Heap) (tk' : Nat), x ∈ ls → Deck w d D (Bd + 1) o' ws' → Fr h₀ L h' m → News h₀ L h' ((d, o') :: (D, listOf ws'.toArray n') :: rest) → Q (.bytes x.toArray t) { s with heap := h', toks := tk' }) :
    wpAny (model PySem.Challenge.rw_nt0282_01.row.prog w) (ktrTop dp un gd cn cs L a ccd cl outer) (call (.ref 368) [.ref d, .ref S]) Q E s := by
  have hlen := hb.length
  refine use_pick hD hB (by omega) (by omega) hS hs1 hs2 B F X N T hk hd hu ?_
  intro r o' ws' n' h' tk' hr hD' F' N'
  obtain ⟨i, hi⟩ := List.mem_iff_getElem?.mp hr
  obtain ⟨x, t, rfl, hx⟩ := hb.get hi
  exact ret x t o' ws' n' h' tk' (List.mem_of_getElem? hx) hD' F' N'
theorem News.no3 {h₀ h : Heap} {L : Addr} {a b x : Addr × Obj} {r : List (Addr × Obj)} (N : News h₀ L h (a :: b :: x :: r)) : News h₀ L h (a :: b :: r) := fun p hp => N p (by simp only [List.mem_cons] at hp ⊢; grind)
theorem msgLen {x : List UInt8} {k : Int} (hx : x.length ≤ 366) (h0 : 0 ≤ k) (h1 : k < 3) : (x ++ (List.replicate k.toNat ([10] : List UInt8)).flatten).length ≤ 400 := by
  simp
  omega
theorem lastAdd {k : Int} {x : List UInt8} (hx : x.length ≤ 366) (h0 : 0 ≤ k) (h1 : k < 3) : x.length + ((List.replicate k.toNat ([10] : List UInt8)).flatten).length ≤ 16777216 := by
  simp
  omega
set_option maxHeartbeats 8000000 in
theorem con_law_message (w : World) (rest : List (Addr × Obj)) (d D S : Addr) (o : Obj) (ws vm : List Value) (lm : List (List UInt8)) (n nn Bd : Nat)
    (hD : Deck w d D Bd o ws) (hB : Bd ≤ 900) (hm : BsAre vm lm) (hml : ∀ x ∈ lm, OkB x) (hmn : lm.length ≤ 50) (hS : (S, listOf vm.toArray nn) ∈ rest) (hs1 : ∀ p ∈ rest, p.1 ≠ d) (hs2 : ∀ p ∈ rest, p.1 ≠ D) :
    Con w 411 4 408 ((d, o) :: (D, listOf ws.toArray n) :: rest) [.ref d, .ref S] (PMsg w rest d D Bd) := by
  refine conOf ?_
  k_fill
  intro dp un gd cn cs a ccd cl outer A₀ base h₀ L m hp gn dr tk os Q E p loose mean mg mb B F X N T hk hd hu hret
  have hvm := hm.length
  k_with_none
  k_with "tb_start" => (
      first
      | (refine' Nat.le_trans ?zqq1 (Nat.le_of_ble_eq_true ?zqq2); (case zqq1 => with_reducible assumption); (case zqq2 => exact rfl))
      | omega
      | (simp only [List.length_append, List.length_cons, List.length_nil, List.length_map, List.length_take, List.length_drop]; omega)
      | ((try simp only [List.length_append, List.length_cons, List.length_nil]); (first | refine Nat.le_trans (sl_length _ _) ?_ | skip); omega)
      | fail "size")
  k_with "binaryOp Add bytes bytes" => ((k_here; (with_reducible show wpAny _ _ (binaryOp Operator.Add (Value.bytes (List.toArray _) _) (Value.bytes (List.toArray _) _)) _ _ _); (refine addB (by tb_start) ?_); intro _ _))
  k_with "getMethod bytes" => ((k_here; (with_reducible show wpAny _ _ (getMethod (Value.bytes (List.toArray _) _) (PySem.Str.ofString "join") _) _ _ _); (refine methB slotJoin tyJoin ?_)))
  k_with "ktr_rel" => (
      (intro cbp cbh; first
      | exact cbh
      | exact List.mem_cons_of_mem _ cbh
      | exact List.mem_cons_of_mem _ (List.mem_cons_of_mem _ cbh)
      | (simp only [List.mem_cons, List.mem_append] at cbh ⊢; first | exact cbh | (simp [cbh]; done) | grind)
      | grind))
  k_with "lcg_sub" => (
      first
      | (refine' (fmc ?zqha ?zqhb); (case zqha => ktr_unf); (case zqhb => lcg_sub))
      | ktr_rel)
  k_with "k_all" => (lcg_off)
  k_with "units_room" => (first | exact roomA hu rfl | exact roomB hu rfl | exact roomC hu rfl | (have hcL9 := cLine_is; (try simp only [units_in1, units_deeper, Around.mark_units, units_caller] at *); (try dsimp only [ktrTop] at *); omega))
  k_with "ktr_unf" => (
      first
      | assumption
      | exact List.Mem.head _
      | (refine' List.mem_append_left _ ?_; ktr_unf)
      | (refine' List.Mem.tail _ ?_; ktr_unf))
  k_with "call builtin:bytes.join" => ((k_here; (with_reducible show wpAny _ _ (call (Value.builtin "bytes.join") _) _ _ _); (try dsimp only [List.append, List.cons_append, List.nil_append]); (refine' callJoin (News.get ?zqn1 ?zqn2) ?zqn3 ?zqn4 ?zqn5 ?_; (case zqn1 => assumption); (case zqn2 => ktr_unf); (case zqn3 => assumption); (case zqn4 => tb_start); (case zqn5 => tb_start); intro _ _)))
  k_with "lcg_off" => (
      first
      | assumption
      | (refine' off_lt ?zqal; (case zqal => assumption))
      | (refine' off_lt1 ?zqal; (case zqal => assumption))
      | (refine' OwnOff.ne ?zqal ?zqam; (case zqal => assumption); (case zqam => first | exact List.Mem.head _ | (simp; done)))
      | (refine' off_app ?zqal ?zqam; (case zqal => lcg_off); (case zqam => lcg_off))
      | (apply off_cons; assumption)
      | (refine' (fmc ?zqla ?zqlb); (case zqla => k_ne); (case zqlb => lcg_off))
      | (apply off_tail1; assumption)
      | (apply off_cons; apply off_cons; assumption)
      | (refine' ltNe ?zqal; (case zqal => first | assumption | (apply And.right; assumption) | (apply And.right; apply And.right; assumption) | (apply And.right; apply And.right; apply And.right; assumption) | (apply And.right; apply And.right; apply And.right; apply And.right; assumption) | (apply And.right; apply And.right; apply And.right; apply And.right; apply And.right; assumption))))
  k_with "exec For Name Call cons nil" => ((k_here; (rename Fr _ _ _ _ => lF'); (with_unfolding_all refine' For_invVF lF' ?zqk1 ?zqk2 ?_; (case zqk1 => exact rfl); (case zqk2 => exact rfl); k_whole)))
  k_with "InvEndN" => ((k_here; (rename News _ _ _ _ => nE'); (try simp only [List.push_toArray] at nE'); (first | refine' bs_end5 ?zqz0 nE' ?zqz1 ?zqz2 ?zqz3 ?zqz4 ?zqz5 ?zqz6 | refine' bs_end4 ?zqz0 nE' ?zqz1 ?zqz2 ?zqz3 ?zqz4 ?zqz5 ?zqz6 | refine' bs_end3 ?zqz0 nE' ?zqz1 ?zqz2 ?zqz3 ?zqz4 ?zqz5 ?zqz6 | refine' bs_end2 ?zqz0 nE' ?zqz1 ?zqz2 ?zqz3 ?zqz4 ?zqz5 ?zqz6); (case zqz0 => assumption); (case zqz4 => kst_all); (case zqz1 => lcg_sub); (case zqz2 => ktr_rel); (case zqz3 => rfl); (case zqz5 => kst_same); (case zqz6 => kst_p)))
  k_with "cell_enter" => ((refine' code_def ?zqk1 ?zqk2 ?zqk3 ?zqk4 ?zqk5 ?zqkA ?zqkF ?zqkK ?zqk6 ?zqk7 ?zqk8 ?zqk9 ?zqkB ?_ ?zqc2 ?zqc3 ?zqc4 ?zqc5; (case zqkA => exact rfl); (case zqkF => exact rfl); (case zqkK => assumption); (case zqk1 => k_asm); (case zqk2 => k_asm); (case zqk3 => k_asm); (case zqk4 => k_asm); (case zqk5 => k_asm); (case zqk6 => k_is); (case zqk7 => k_is); (case zqk8 => ktr_room); (case zqk9 => first | exact BindsTo.of_eq rfl | exact binds_K (by k_in) rfl (by k_is) rfl rfl rfl); (case zqc5 => decide); (case zqkB => exact locs rfl); (case zqc2 => exact rfl); (case zqc3 => exact rfl); (case zqc4 => exact rfl); k_whole; intro g' L' h' FG' F' N' B' X' T'; (try dsimp only); (try k_lift B'); (try k_fold)))
  k_with "call type:range" => ((k_here; (with_reducible show wpAny _ _ (call (Value.type "range") [Value.int _ _]) _ _ _); k_dflt (refine' callRange1 ?zqn1 ?zqn2 ?_; (case zqn1 => k_asm); (case zqn2 => assumption); intro _ _ _ _ _ _ _ _ _ _; (try dsimp only))))
  k_with "ktr_room" => (first | exact roomA hd rfl | exact roomB hd rfl | exact roomC hd rfl)
  k_with "k_ne" => ((refine neN ?_; (try dsimp only); first | (refine' neLt ?zqcbh ?zqcbk; (case zqcbh => with_reducible assumption); (case zqcbk => (intro cbz; repeat (first | exact cbz.1 | replace cbz := cbz.2)))) | (refine' neGt ?zqcbh ?zqcbk; (case zqcbh => with_reducible assumption); (case zqcbk => (intro cbz; repeat (first | exact cbz.1 | replace cbz := cbz.2)))) | omega))
  k_with "spliced" => ((k_here; k_dflt (refine' pes_eval ?zqcbF ?zqcbv ?_ ?zqcba; (case zqcbF => k_asm); (case zqcba => rfl); (case zqcbv => exact Eq.refl (some (_, _))); k_whole); (try dsimp only [List.cons_append, List.nil_append])))
  k_with "eval Name" => ((k_here; k_dflt (refine' nameX_L ?zqcbF ?zqcbv ?_ ?zqcba ?zqcbb; (case zqcbF => k_asm); (case zqcba => rfl); (case zqcbb => rfl); (case zqcbv => exact Eq.refl (some _)); k_whole)))
  k_with "storeName" => ((k_here; k_dflt (refine' storeL ?zqcbF ?zqcbN ?_ ?zqcba ?zqcbb; (case zqcbF => k_asm); (case zqcbN => k_asm); (case zqcba => rfl); (case zqcbb => rfl); k_whole); intro _ _ _ _; (try k_sweep)))
  k_with "eval Call" => ((k_here; k_dflt (refine' callK_pe (hd := by decide) ?zqcbF ?zqcbX ?zqcbT ?zqcbe ?zqcbf ?zqcbv ?_ ?zqcba ?zqcbb; (case zqcbF => k_asm); (case zqcbX => k_asm); (case zqcbT => k_asm); (case zqcba => rfl); (case zqcbb => rfl); (case zqcbe => k_is); (case zqcbf => k_is); (case zqcbv => exact Eq.refl (some (_, _))); k_whole); (try dsimp only [List.cons_append, List.nil_append])))
  k_with "call ref" => ((k_here; (with_reducible show wpAny _ _ (call (Value.ref 361) _) _ _ _); k_dflt (refine' use_draw ?zqc1 ?zqc2 ?zqc3 ?zqc4 ?zqc5 ?zqc6 ?zqn1 ?zqn2 ?zqn3 ?zqn4 ?zqn5 ?zqn6 ?zqn7 ?zqn8 ?_; (case zqn4 => first | assumption | (refine' News.rot2 ?zqr; (case zqr => assumption)) | (refine' News.rot3 ?zqr; (case zqr => assumption))); (case zqn1 => k_asm); (case zqn2 => k_asm); (case zqn3 => k_asm); (case zqn5 => k_asm); (case zqn6 => exact rfl); (case zqn7 => ktr_room); (case zqn8 => units_room); (case zqc1 => assumption); (case zqc2 => omega); (case zqc3 => omega); (case zqc4 => omega); (case zqc5 => lcg_off); (case zqc6 => lcg_off)); intro _ _ _ _ _ _ _ _ _ _ _ _; (try dsimp only)))
  k_with "size_fits" => (first | (refine' bsRoom ?zqpa ?zqpb; (case zqpa => assumption); (case zqpb => omega)) | (refine' bsRoom1 ?zqpa ?zqpb; (case zqpa => assumption); (case zqpb => omega)))
  k_with "tb_start" => ((refine' lastAdd ?zqx ?zqy ?zqz; (case zqx => assumption); (case zqy => assumption); (case zqz => assumption)))
  k_with "kwd_inv" => ((refine' mp1 ?zqq1 ?zqq2 ?zqq3 ?zqq4 ?zqq5; (case zqq1 => assumption); (case zqq2 => assumption); (case zqq3 => assumption); (case zqq4 => assumption); (case zqq5 => assumption)))
  k_with "call ref" => ((k_here; (with_reducible show wpAny _ _ (call (Value.ref 368) _) _ _ _); k_dflt (refine' use_pickB ?zqc1 ?zqc2 (BsAre.append bsWords ?zqc7) ?zqc3 ?zqc4 ?zqc8 ?zqc5 ?zqc6 ?zqn1 ?zqn2 ?zqn3 ?zqn4 ?zqn5 ?zqn6 ?zqn7 ?zqn8 ?_; (case zqn4 => first | assumption | (refine' News.rot2 ?zqr; (case zqr => assumption)) | (refine' News.rot3 ?zqr; (case zqr => assumption))); (case zqc8 => ktr_unf); (case zqc7 => assumption); (case zqn1 => k_asm); (case zqn2 => k_asm); (case zqn3 => k_asm); (case zqn5 => k_asm); (case zqn6 => exact rfl); (case zqn7 => ktr_room); (case zqn8 => units_room); (case zqc1 => assumption); (case zqc2 => omega); (case zqc3 => (simp [wordsM])); (case zqc4 => (simp [wordsM]; omega)); (case zqc5 => lcg_off); (case zqc6 => lcg_off)); intro _ _ _ _ _ _ _ cM _ _ _; (have cM := wordsLen (by assumption) _ cM); (try dsimp only)))
  k_with "binaryOp Add ref ref" => ((k_here; (with_reducible show wpAny _ _ (binaryOp _ (Value.ref _) (Value.ref _)) _ _ _); k_dflt (refine' kmk_add_lit ?zqF ?zqN (News.isList ?zqn1 ?zqn2) (News.isList ?zqn4 ?zqn3) rfl ?_ ?zqz; (case zqF => k_asm); (case zqN => assumption); (case zqn1 => assumption); (case zqn2 => ktr_unf); (case zqn4 => assumption); (case zqn3 => ktr_unf); (case zqz => (rw [PySem.sizeLine_eq]; simp; omega))); intro D' h' F' N' l1; (try k_lt l1)))
  k_with "pyIter ref" => (k_dflt ((rename Fr _ _ _ _ => lF'); (rename News _ _ _ _ => lN'); refine' rg_forK (σ := Obj × List Value × Nat × List Value × Nat) (PySem.Str.ofString "rows") (fun kK c => (d, c.1) :: (D, listOf c.2.1.toArray c.2.2.1) :: (kK, listOf c.2.2.2.1.toArray c.2.2.2.2) :: rest) (fun kK c => [(PySem.Str.ofString "rows", .ref kK)]) [] (fun pre c => MP w d D Bd pre c.2.2.2.1 c.1 c.2.1) ⟨_, _, _, _, _⟩ ?zqhK ?zqhh ?zqhr ?zqhsmall ?zqhn lF' ?zqhN ?zqhk ?zqhp ?_ ?_; (case zqhK => exact rfl); (case zqhh => exact rfl); (case zqhr => assumption); (case zqhsmall => refine' small_one ?zqy1 ?zqy2 ?zqy3 ?zqy4; (case zqy1 => omega); (case zqy2 => omega); (case zqy3 => omega); (case zqy4 => omega)); (case zqhn => exact rangeSize_nat _ _); (case zqhN => assumption); (case zqhk => kst_all); (case zqhp => refine' mp0 ?zqy; (case zqy => assumption)); (all_goals (clear lF' lN')); (all_goals (first | (intro cC cPre cK cT cU cH cTk cOwn cLt cO cP cF cN; obtain ⟨cL, cB, cE, cM, cD⟩ := cP; (try dsimp only [kstB] at cF); (try dsimp only at cN); (try simp only [List.cons_append, List.nil_append] at cN)) | (intro cC cPre cU cH cTk cLt cP cF cN; obtain ⟨cL, cB, cE, cM, cD⟩ := cP; (have cJ := joinMsg cM (by omega)); (have cK := joinNo cM); (try dsimp only [kstB] at cF); (try dsimp only at cN))))))
  k_with "state" => kwd_inv
  w_strict (
    refine wpAny_call ?_
    k_dflt cell_enter
    k_steps
    all_goals first | (refine' hret _ _ _ _ ⟨_, _, _, _, _, rfl, ?e0, ?e9, ?e1, rfl⟩ ?e2 ?e3; (case e9 => refine' msgNo ?x; (case x => assumption)); (case e2 => assumption); (case e3 => refine' News.no3 ?y; (case y => assumption)); (case e0 => refine' msgLen ?x ?y ?z; (case x => assumption); (case y => assumption); (case z => assumption)); (case e1 => refine' Deck.mono ?x ?y; (case x => assumption); (case y => omega))) | trace_state)
section
set_option maxRecDepth 100000
set_option Elab.async false

theorem joinB_snoc (sep : List UInt8) : ∀ (ls : List (List UInt8)) (x : List UInt8), ls ≠ [] → joinB sep (ls ++ [x]) = joinB sep ls ++ sep ++ x := by
  intro ls
  induction ls with
  | nil => intro x h; exact absurd rfl h
  | cons a r ih =>
    intro x _
    cases r with
    | nil => simp [joinB]
    | cons b q =>
      have := ih x (by simp)
      simp only [List.cons_append] at this ⊢
      simp only [joinB] at this ⊢
      simp [this]
noncomputable def outOf (ks : List (List UInt8)) : List UInt8 := if ks = [] then [] else joinB [10] ks ++ [10]
theorem skipSame (cm : Option (List UInt8)) (b : List UInt8) : projSkip cm b = lawSkip cm b := by
  cases cm with
  | none => rfl
  | some c =>
    unfold projSkip lawSkip sw
    simp only [Nat.zero_add, List.drop_zero]
    by_cases h : c.length ≤ b.length
    · simp [h]
    · have : b.take c.length ≠ c := fun e => by
        have := congrArg List.length e
        rw [List.length_take] at this
        omega
      simp [h, this]
theorem fold_same (cm : Option (List UInt8)) : ∀ (rows : List (List UInt8)) (ks : List (List UInt8)) (gap : Bool) (f : List UInt8) (o : Bool), f = outOf ks → o = (gap && decide (0 < ks.length)) →
    (rows.foldl (lawStep cm) (f, o)).1 = outOf ((rows.map (cutEnd blank)).foldl (projStep cm) (ks, gap)).1 := by
  intro rows
  induction rows with
  | nil => intro ks gap f o hf _; exact hf
  | cons row r ih =>
    intro ks gap f o hf ho
    rw [List.map_cons, List.foldl_cons, List.foldl_cons]
    by_cases h1 : lawSkip cm (cutEnd blank row) = true
    · have e1 : lawStep cm (f, o) row = (f, o) := by simp [lawStep, h1]
      have e2 : projStep cm (ks, gap) (cutEnd blank row) = (ks, gap) := by simp [projStep, skipSame, h1]
      rw [e1, e2]
      exact ih ks gap f o hf ho
    · have h1' : lawSkip cm (cutEnd blank row) = false := by simpa using h1
      by_cases h2 : (cutEnd blank row == []) = true
      · have e1 : lawStep cm (f, o) row = (f, f != []) := by simp [lawStep, h1', h2]
        have e2 : projStep cm (ks, gap) (cutEnd blank row) = (ks, true) := by simp [projStep, skipSame, h1', h2]
        rw [e1, e2]
        refine ih ks true f _ hf ?_
        rw [hf]
        unfold outOf
        cases ks with
        | nil => rfl
        | cons a q =>
          have : ¬ (joinB [10] (a :: q) ++ [10] = []) := by simp
          simp
      · have h2' : (cutEnd blank row == []) = false := by simpa using h2
        have e1 : lawStep cm (f, o) row = (f ++ (if o then [10] else []) ++ cutEnd blank row ++ [10], false) := by simp only [lawStep, h1', h2', Bool.false_eq_true, if_false]
        have e2 : projStep cm (ks, gap) (cutEnd blank row) = (ks ++ (if gap && decide (0 < ks.length) then [[]] else []) ++ [cutEnd blank row], false) := by simp only [projStep, skipSame, h1', h2', Bool.false_eq_true, if_false]
        rw [e1, e2]
        refine ih _ false _ _ ?_ rfl
        rw [ho, hf]
        cases ks with
        | nil => simp [outOf, joinB]
        | cons a q =>
          have hne : ¬ (a :: q = []) := by simp
          cases gap with
          | true =>
            have : (true && decide (0 < (a :: q).length)) = true := by simp
            simp only [this, if_true]
            unfold outOf
            rw [if_neg hne, if_neg (by simp), joinB_snoc _ _ _ (by simp), joinB_snoc _ _ _ hne]
            simp
          | false =>
            simp only [Bool.false_and, Bool.false_eq_true, if_false, List.append_nil]
            unfold outOf
            rw [if_neg hne, if_neg (by simp), joinB_snoc _ _ _ hne]
/-- the project tells just what the law cleans -/
theorem message_same (cm : Option (List UInt8)) (l : List UInt8) : projMessage cm l = lawCleaned cm l := by
  unfold lawCleaned
  rw [fold_same cm (splitNL l) [] false [] false rfl (by simp)]
  rfl
end
section
set_option maxRecDepth 100000
set_option Elab.async false

theorem split_no (l : List UInt8) : ∀ x ∈ splitNL l, (10 : UInt8) ∉ x := by
  induction l with
  | nil => intro x h; simp [splitNL] at h; simp [h]
  | cons c r ih =>
    intro x h
    rw [splitNL] at h
    split at h
    · rcases List.mem_cons.mp h with rfl | h
      · simp
      · exact ih x h
    · next hc =>
      have hc' : ¬ c = 10 := by simpa using hc
      cases hs : splitNL r with
      | nil => exact absurd hs (splitNL_ne r)
      | cons y ys =>
        rw [hs] at h ih
        rcases List.mem_cons.mp h with rfl | h
        · intro hm
          rcases List.mem_cons.mp hm with e | hm
          · exact hc' e.symm
          · exact ih y (.head _) hm
        · exact ih x (.tail _ h)
theorem split_cat : ∀ (x rest : List UInt8), (10 : UInt8) ∉ x → splitNL (x ++ 10 :: rest) = x :: splitNL rest := by
  intro x
  induction x with
  | nil => intro rest _; simp [splitNL]
  | cons c r ih =>
    intro rest h
    have hc : (c == 10) = false := by
      simp only [List.mem_cons, not_or] at h
      simpa using fun e => h.1 e.symm
    rw [List.cons_append, splitNL, hc, ih rest (fun hm => h (.tail _ hm))]
    simp
theorem split_join : ∀ (ks : List (List UInt8)), ks ≠ [] → (∀ x ∈ ks, (10 : UInt8) ∉ x) → splitNL (joinB [10] ks ++ [10]) = ks ++ [[]] := by
  intro ks
  induction ks with
  | nil => intro h; exact absurd rfl h
  | cons a r ih =>
    intro _ h
    cases r with
    | nil =>
      have := split_cat a [] (h a (.head _))
      simpa [joinB, splitNL] using this
    | cons b q =>
      have h2 := ih (by simp) fun x hx => h x (.tail _ hx)
      have e : joinB [10] (a :: b :: q) ++ [10] = a ++ 10 :: (joinB [10] (b :: q) ++ [10]) := by simp [joinB]
      rw [e, split_cat a _ (h a (.head _)), h2]
      rfl
theorem cut_cut (p : UInt8 → Bool) (l : List UInt8) : cutEnd p (cutEnd p l) = cutEnd p l := by
  unfold cutEnd
  rw [List.reverse_reverse]
  congr 1
  cases h : l.reverse.dropWhile p with
  | nil => rfl
  | cons a r =>
    have : p a = false := by
      have := List.head?_dropWhile_not p l.reverse
      rw [h] at this
      simpa using this
    rw [List.dropWhile_cons, this]
    simp
theorem cut_sub {p : UInt8 → Bool} {l : List UInt8} {c : UInt8} (h : c ∈ cutEnd p l) : c ∈ l := by
  unfold cutEnd at h
  have := (List.dropWhile_sublist p (l := l.reverse)).mem (List.mem_reverse.mp h)
  exact List.mem_reverse.mp this
/-- rows as the project keeps them -/
inductive Good (cm : Option (List UInt8)) : List (List UInt8) → Prop
  | nil : Good cm []
  | one {ks : List (List UInt8)} {r : List UInt8} : Good cm ks → r ≠ [] → projSkip cm r = false → Good cm (ks ++ [r])
  | gap {ks : List (List UInt8)} {r : List UInt8} : Good cm ks → ks ≠ [] → r ≠ [] → projSkip cm r = false → Good cm (ks ++ [[]] ++ [r])
theorem skip_nil {cm : Option (List UInt8)} {r : List UInt8} (h : projSkip cm r = false) : projSkip cm [] = false := by
  cases cm with
  | none => rfl
  | some c =>
    cases c with
    | nil => simp [projSkip, sw] at h
    | cons a q => simp [projSkip, sw]
theorem good_fold {cm : Option (List UInt8)} {ks : List (List UInt8)} (h : Good cm ks) : ks.foldl (projStep cm) ([], false) = (ks, false) := by
  induction h with
  | nil => rfl
  | @one ks r _ hr hs ih =>
    have hr' : (r == []) = false := by simpa using hr
    rw [List.foldl_append, ih]
    simp [projStep, hs, hr]
  | @gap ks r _ hne hr hs ih =>
    have hn := skip_nil hs
    have hl : 0 < ks.length := List.length_pos_iff.mpr hne
    rw [List.foldl_append, List.foldl_append, ih]
    simp [projStep, hs, hr, hn, hl]
theorem fold_good {cm : Option (List UInt8)} : ∀ (rows ks : List (List UInt8)) (g : Bool), Good cm ks → Good cm (rows.foldl (projStep cm) (ks, g)).1 := by
  intro rows
  induction rows with
  | nil => intro ks g h; exact h
  | cons r q ih =>
    intro ks g h
    rw [List.foldl_cons]
    cases hs : projSkip cm r with
    | true =>
      have : projStep cm (ks, g) r = (ks, g) := by simp [projStep, hs]
      rw [this]; exact ih _ _ h
    | false =>
      by_cases hr : r = []
      · have : projStep cm (ks, g) r = (ks, true) := by subst hr; simp [projStep, hs]
        rw [this]; exact ih _ _ h
      · have hr' : (r == []) = false := by simpa using hr
        by_cases hg : (g && decide (0 < ks.length)) = true
        · have : projStep cm (ks, g) r = (ks ++ [[]] ++ [r], false) := by simp only [projStep, hs, hr', hg, Bool.false_eq_true, if_false, if_true]
          rw [this]
          refine ih _ _ (.gap h ?_ hr hs)
          simp at hg
          exact List.length_pos_iff.mp hg.2
        · have hg' : (g && decide (0 < ks.length)) = false := by simpa using hg
          have : projStep cm (ks, g) r = (ks ++ [r], false) := by simp only [projStep, hs, hr', hg', Bool.false_eq_true, if_false, List.append_nil]
          rw [this]
          exact ih _ _ (.one h hr hs)
theorem fold_from {cm : Option (List UInt8)} (S : List UInt8 → Prop) (h0 : S []) : ∀ (rows ks : List (List UInt8)) (g : Bool), (∀ x ∈ rows, S x) → (∀ x ∈ ks, S x) → ∀ x ∈ (rows.foldl (projStep cm) (ks, g)).1, S x := by
  intro rows
  induction rows with
  | nil => intro ks g _ h; exact h
  | cons r q ih =>
    intro ks g hr hk
    rw [List.foldl_cons]
    have h2 : ∀ x ∈ (projStep cm (ks, g) r).1, S x := by
      unfold projStep
      split
      · exact hk
      · split
        · exact hk
        · intro x hx
          simp only [List.mem_append, List.mem_singleton] at hx
          rcases hx with (hx | hx) | hx
          · exact hk x hx
          · split at hx
            · simp at hx; rw [hx]; exact h0
            · simp at hx
          · rw [hx]; exact hr r (.head _)
    have := ih (projStep cm (ks, g) r).1 (projStep cm (ks, g) r).2 (fun x hx => hr x (.tail _ hx)) h2
    exact this
/-- cleaned again it is the same -/
theorem message_twice (cm : Option (List UInt8)) (l : List UInt8) : projMessage cm (projMessage cm l) = projMessage cm l := by
  have hg : Good cm ((rowsOf l).foldl (projStep cm) ([], false)).1 := fold_good _ _ _ .nil
  have hS : ∀ x ∈ ((rowsOf l).foldl (projStep cm) ([], false)).1, (10 : UInt8) ∉ x ∧ cutEnd blank x = x := by
    refine fold_from (fun x => (10 : UInt8) ∉ x ∧ cutEnd blank x = x) ⟨by simp, rfl⟩ _ _ _ (fun x hx => ?_) (by simp)
    unfold rowsOf at hx
    obtain ⟨y, hy, rfl⟩ := List.mem_map.mp hx
    exact ⟨fun hm => split_no l y hy (cut_sub hm), cut_cut _ _⟩
  generalize hk : ((rowsOf l).foldl (projStep cm) ([], false)).1 = ks at hg hS
  have e1 : projMessage cm l = outOf ks := by unfold projMessage outOf; rw [hk]
  rw [e1]
  by_cases hne : ks = []
  · subst hne
    unfold outOf
    rw [if_pos rfl]
    unfold projMessage rowsOf
    have : (([[]] : List (List UInt8)).foldl (projStep cm) ([], false)).1 = [] := by
      cases hs : projSkip cm [] with
      | true => simp [projStep, hs]
      | false => simp [projStep, hs]
    simp only [splitNL, List.map_cons, List.map_nil]
    have e : cutEnd blank [] = [] := rfl
    rw [e, this]
    rfl
  · have e2 : outOf ks = joinB [10] ks ++ [10] := by unfold outOf; rw [if_neg hne]
    have e3 : rowsOf (outOf ks) = ks ++ [[]] := by
      unfold rowsOf
      rw [e2, split_join ks hne fun x hx => (hS x hx).1, List.map_append]
      have : ks.map (cutEnd blank) = ks := by
        rw [List.map_congr_left (g := fun x => x) fun x hx => (hS x hx).2]
        simp
      rw [this]
      rfl
    have e4 : ((rowsOf (outOf ks)).foldl (projStep cm) ([], false)).1 = ks := by
      rw [e3, List.foldl_append, good_fold hg]
      cases hs : projSkip cm [] with
      | true => simp [projStep, hs]
      | false => simp [projStep, hs]
    unfold projMessage
    rw [e4, if_neg hne, e2]
end
section
set_option maxRecDepth 100000
open PySem PySem.W PySem.Calls PyProof.Rows
set_option Elab.async false

open Builtin
noncomputable def sumLen (ls : List (List UInt8)) : Nat := (ls.map (·.length + 1)).sum
theorem sum_split : ∀ l : List UInt8, sumLen (splitNL l) = l.length + 1 := by
  intro l
  induction l with
  | nil => rfl
  | cons c r ih =>
    rw [splitNL]
    split
    · show 0 + 1 + sumLen (splitNL r) = _
      rw [ih]; simp; omega
    · cases e : splitNL r with
      | nil => rw [e] at ih; simp [sumLen] at ih
      | cons a t =>
        rw [e] at ih
        simp only [sumLen, List.map_cons, List.sum_cons, List.length_cons] at ih ⊢
        omega
theorem cleaned_fold (cm : Option (List UInt8)) : ∀ (rows : List (List UInt8)) (f : List UInt8) (o : Bool), (rows.foldl (lawStep cm) (f, o)).1.length ≤ f.length + (if o then 1 else 0) + sumLen rows := by
  intro rows
  induction rows with
  | nil => intro f o; simp [sumLen]
  | cons x r ih =>
    intro f o
    rw [List.foldl_cons]
    have h := ih (lawStep cm (f, o) x).1 (lawStep cm (f, o) x).2
    have h3 := cut_le blank x
    have h2 : (lawStep cm (f, o) x).1.length + (if (lawStep cm (f, o) x).2 then 1 else 0) ≤ f.length + (if o then 1 else 0) + (x.length + 1) := by
      unfold lawStep
      split
      · simp
      · split
        · simp only
          split <;> split <;> omega
        · simp only [List.length_append, List.length_cons, List.length_nil]
          cases o <;> simp <;> omega
    have e : sumLen (x :: r) = x.length + 1 + sumLen r := by simp [sumLen]
    have e2 : ((lawStep cm (f, o) x).1, (lawStep cm (f, o) x).2) = lawStep cm (f, o) x := rfl
    rw [e2] at h
    rw [e]
    omega
theorem cleaned_len (cm : Option (List UInt8)) (l : List UInt8) : (lawCleaned cm l).length ≤ l.length + 1 := by
  have := cleaned_fold cm (splitNL l) [] false
  rw [sum_split] at this
  simpa [lawCleaned] using this
theorem cleaned_twice (cm : Option (List UInt8)) (l : List UInt8) : projMessage cm (lawCleaned cm l) = lawCleaned cm l := by
  rw [← message_same, message_twice]
end
section
set_option maxRecDepth 100000
open PySem PySem.W PySem.Calls PyProof.Rows
set_option Elab.async false

/-! both sides find the same place -/
theorem osig_no {o : List UInt8} (h : o ∈ osig) : (10 : UInt8) ∉ o := by
  have key : ∀ o ∈ osig, (10 : UInt8) ∉ o := by decide
  exact key o h
theorem opn_is : opn = [osig[0]!, osig[1]!, osig[3]!, osig[2]!] := by decide +kernel
theorem osig_is : osig = [osig[0]!, osig[1]!, osig[2]!, osig[3]!] := by decide +kernel
theorem any_same (q : List UInt8 → Bool) : (opn.filter q != []) = osig.any q := by
  have h : ∀ ls : List (List UInt8), (ls.filter q != []) = ls.any q := by
    intro ls
    induction ls with
    | nil => rfl
    | cons a r ih =>
      rw [List.filter_cons, List.any_cons, ← ih]
      cases q a <;> simp
  have two : ∀ a b c d : List UInt8, List.any [a, b, d, c] q = List.any [a, b, c, d] q := by
    intro a b c d
    simp only [List.any_cons, List.any_nil, Bool.or_false]
    rw [Bool.or_comm (q d)]
  rw [h, opn_is, two, ← osig_is]
theorem anyCongr {ls : List (List UInt8)} {p q : List UInt8 → Bool} (h : ∀ o ∈ ls, p o = q o) : ls.any p = ls.any q := by
  induction ls with
  | nil => rfl
  | cons a r ih => rw [List.any_cons, List.any_cons, h a (.head _), ih fun o ho => h o (.tail _ ho)]
theorem opens_sw {pre row tail o : List UInt8} (hn : (10 : UInt8) ∉ o) (ht : tail = [] ∨ ∃ r, tail = 10 :: r) : opens row o = sw (pre ++ (row ++ tail)) o pre.length := by
  unfold opens sw
  have hd : (pre ++ (row ++ tail)).drop pre.length = row ++ tail := by simp
  rw [hd, Bool.eq_iff_iff]
  simp only [beq_iff_eq, Bool.and_eq_true, decide_eq_true_eq, List.length_append]
  constructor
  · intro h
    have hl : o.length ≤ row.length := by
      have := congrArg List.length h
      rw [List.length_take] at this
      exact this ▸ Nat.min_le_right o.length row.length
    refine ⟨Nat.add_le_add_left (Nat.le_trans hl (Nat.le_add_right _ _)) _, ?_⟩
    rw [List.take_append_of_le_length hl, h]
  · rintro ⟨h1, h2⟩
    by_cases hl : o.length ≤ row.length
    · rw [List.take_append_of_le_length hl] at h2
      exact h2
    · exfalso
      rcases ht with rfl | ⟨r, rfl⟩
      · simp at h1; omega
      · apply hn
        rw [← h2, List.take_append]
        refine List.mem_append.mpr (.inr ?_)
        rw [← Nat.sub_add_cancel (Nat.sub_pos_of_lt (Nat.lt_of_not_le hl)), List.take_succ_cons]
        exact .head _
theorem split_first (l : List UInt8) : splitNL l = [l] ∧ (10 : UInt8) ∉ l ∨ ∃ row rest, l = row ++ 10 :: rest ∧ splitNL l = row :: splitNL rest := by
  induction l with
  | nil => exact .inl ⟨rfl, by simp⟩
  | cons c r ih =>
    rw [splitNL]
    by_cases hc : c = 10
    · subst hc
      exact .inr ⟨[], r, rfl, by simp⟩
    · have hb : (c == 10) = false := by simp [hc]
      simp only [hb, Bool.false_eq_true, if_false]
      rcases ih with ⟨h1, h2⟩ | ⟨row, rest, h1, h2⟩
      · left
        rw [h1]
        exact ⟨rfl, by simp [h2, Ne.symm hc]⟩
      · right
        rw [h2]
        exact ⟨c :: row, rest, by rw [h1]; rfl, rfl⟩
theorem signed_from : ∀ (n : Nat) (rest pre : List UInt8) (f : Int), rest.length ≤ n → ((splitNL rest).foldl (psStep (pre ++ rest)) (f, (pre.length : Int))).1 = ((splitNL rest).foldl sgStep (f, (pre.length : Int))).1 := by
  intro n
  induction n with
  | zero =>
    intro rest pre f h
    obtain rfl : rest = [] := List.length_eq_zero_iff.mp (by omega)
    have := fun o (ho : o ∈ osig) => opens_sw (pre := pre) (row := []) (tail := []) (osig_no ho) (.inl rfl)
    simp only [splitNL, List.foldl_cons, List.foldl_nil, psStep, sgStep, any_same, Int.toNat_natCast]
    congr 2
    rw [anyCongr (ls := osig) (p := fun o => sw (pre ++ []) o pre.length) (q := opens [])]
    intro o ho
    simpa using (this o ho).symm
  | succ n ih =>
    intro rest pre f h
    rcases split_first rest with ⟨h1, _⟩ | ⟨row, r, h1, h2⟩
    · have := fun o (ho : o ∈ osig) => opens_sw (pre := pre) (row := rest) (tail := []) (osig_no ho) (.inl rfl)
      rw [h1]
      simp only [List.foldl_cons, List.foldl_nil, psStep, sgStep, any_same, Int.toNat_natCast]
      congr 2
      rw [anyCongr (ls := osig) (p := fun o => sw (pre ++ rest) o pre.length) (q := opens rest)]
      intro o ho
      simpa using (this o ho).symm
    · have hs := fun o (ho : o ∈ osig) => opens_sw (pre := pre) (row := row) (tail := 10 :: r) (osig_no ho) (.inr ⟨r, rfl⟩)
      have ha : osig.any (fun o => sw (pre ++ rest) o pre.length) = osig.any (opens row) := by
        refine anyCongr fun o ho => ?_
        rw [hs o ho, h1]
      rw [h2, List.foldl_cons, List.foldl_cons]
      have e1 : psStep (pre ++ rest) (f, (pre.length : Int)) row = sgStep (f, (pre.length : Int)) row := by
        simp only [psStep, sgStep, any_same, Int.toNat_natCast, ha]
      rw [e1]
      have e2 : sgStep (f, (pre.length : Int)) row = ((sgStep (f, (pre.length : Int)) row).1, ((pre ++ row ++ [10]).length : Int)) := by
        refine Prod.ext rfl ?_
        simp only [sgStep, List.length_append, List.length_cons, List.length_nil]
        omega
      rw [e2]
      have hr := ih r (pre ++ row ++ [10]) (sgStep (f, (pre.length : Int)) row).1 (by rw [h1] at h; simp at h; omega)
      have e3 : pre ++ rest = pre ++ row ++ [10] ++ r := by rw [h1]; simp
      rw [e3]
      exact hr
theorem signed_same (l : List UInt8) : projSigned l = lawSigned l := by
  have := signed_from l.length l [] (l.length : Int) (Nat.le_refl _)
  simp only [List.nil_append, List.length_nil] at this
  exact this
theorem signed_range (l : List UInt8) : 0 ≤ lawSigned l ∧ lawSigned l ≤ (l.length : Int) := by
  have key : ∀ (rows : List (List UInt8)) (f a : Int), 0 ≤ f → f ≤ (l.length : Int) → 0 ≤ a → a + ((rows.map fun r => (r.length : Int) + 1).sum) ≤ (l.length : Int) + 1 → 0 ≤ (rows.foldl sgStep (f, a)).1 ∧ (rows.foldl sgStep (f, a)).1 ≤ (l.length : Int) := by
    intro rows
    induction rows with
    | nil => intro f a h1 h2 h3 h4; exact ⟨h1, h2⟩
    | cons r rs ih =>
      intro f a h1 h2 h3 h4
      rw [List.map_cons, List.sum_cons] at h4
      have hs : 0 ≤ (rs.map fun r => (r.length : Int) + 1).sum := by
        clear ih h4
        induction rs with
        | nil => simp
        | cons x xs ih => rw [List.map_cons, List.sum_cons]; omega
      rw [List.foldl_cons]
      have e : sgStep (f, a) r = (if opn.filter (opens r) != [] then a else f, a + r.length + 1) := rfl
      rw [e]
      split
      · exact ih _ _ (by omega) (by omega) (by omega) (by omega)
      · exact ih _ _ (by omega) (by omega) (by omega) (by omega)
  refine key (splitNL l) (l.length : Int) 0 (by omega) (by omega) (by omega) ?_
  have h := sum_split l
  have h2 : ∀ ls : List (List UInt8), ((ls.map fun r => (r.length : Int) + 1).sum) = ((sumLen ls : Nat) : Int) := by
    intro ls
    induction ls with
    | nil => rfl
    | cons x xs ih =>
      rw [List.map_cons, List.sum_cons, ih]
      unfold sumLen
      rw [List.map_cons, List.sum_cons]
      push_cast
      rfl
  rw [h2, h]
  omega
end
theorem map_drop {p : List UInt8 → Bool} : ∀ (ls : List (List UInt8)), (ls.map (cutEnd blank)).dropWhile p = (ls.dropWhile (fun x => p (cutEnd blank x))).map (cutEnd blank) := by
  intro ls
  induction ls with
  | nil => rfl
  | cons a r ih =>
    rw [List.map_cons, List.dropWhile_cons, List.dropWhile_cons]
    split
    · exact ih
    · rfl
theorem rowsMap (l : List UInt8) : rowsOf l = (splitNL l).map (cutEnd blank) := rfl
theorem drop_suffix {α : Type} {a b : List α} (h : b <:+ a) : a.drop (a.length - b.length) = b := by
  obtain ⟨p, rfl⟩ := h
  have e : (p ++ b).length - b.length = p.length := by simp
  rw [e, List.drop_left]
theorem body_drop (l : List UInt8) : lsl (splitNL l) (some (skipAt (rowsOf l) : Int)) none = ((splitNL l).dropWhile (pk .a)).dropWhile (pk .b) := by
  have e : skipAt (rowsOf l) = (splitNL l).length - (((splitNL l).dropWhile (pk .a)).dropWhile (pk .b)).length := by
    unfold skipAt
    rw [rowsMap, map_drop, map_drop, List.length_map, List.length_map]
    rfl
  have h : ((splitNL l).dropWhile (pk .a)).dropWhile (pk .b) <:+ splitNL l := (List.dropWhile_suffix _).trans (List.dropWhile_suffix _)
  rw [lsl_from (by omega), e]
  exact drop_suffix h
theorem ph0b {l : List UInt8} {vs : List Value} (hl : l.length ≤ 1000) (h : BsAre vs (lsl (splitNL l) (some (skipAt (rowsOf l) : Int)) none)) : Ph l .a (((splitNL l).dropWhile (pk .a)).dropWhile (pk .b)) vs := by
  refine ⟨_, h, ⟨by rw [body_drop]⟩, ?_⟩
  have h0 := Rows.of hl
  exact ⟨by have := lsl_len (ls := splitNL l) (lo := some (skipAt (rowsOf l) : Int)) (hi := none); have := h0.1; omega, fun x hx => h0.2 x (lsl_mem hx)⟩
theorem ph0w {l : List UInt8} {ls : List (List UInt8)} {X : List (List UInt8)} {vs : List Value} (hd : DW .a X ls) (hr : Rows l ls) (h : BsAre vs (lsl ls (some 1) none)) (hne : (0 : Int) < (ls.length : Int)) (hp : (cutEnd blank (ls.getD (0 : Int).toNat []) == []) = true) : Ph l .a X vs :=
  ph1a hd hr h (by cases ls with | nil => simp at hne | cons a r => rfl) hp
theorem phL {k : Kd} {X ls : List (List UInt8)} (hd : DW k X ls) (hne : ¬ (0 : Int) < (ls.length : Int)) : DWE k X ls := phE0 hd (by cases ls with | nil => rfl | cons a r => exact absurd (by simp) hne)
theorem phLess2 {vs ws : List Value} {ls : List (List UInt8)} (h : BsAre vs ls) (hw : BsAre ws (lsl ls (some 1) none)) (hne : (0 : Int) < (ls.length : Int)) : ws.length < vs.length :=
  phLess h hw (by cases ls with | nil => simp at hne | cons a r => rfl)
theorem con_cut_blank (w : World) (led : List (Addr × Obj)) (l : List UInt8) (t u : Tok) (hl : l.length ≤ 100000) : Con w 132 1 8 led [.bytes l.toArray t, .bytes #[32, 9, 13, 11, 12] u] (PBytes led (cutEnd blank l)) := by
  have h := con_cut_end w led l [32, 9, 13, 11, 12] t u hl
  rw [blanksEq] at h
  exact h
theorem splitRoom {l : List UInt8} (hl : l.length ≤ 1000) : (splitNL l).length ≤ 15000 := by have := split_len l; omega
theorem Con.useP {w : World} {f : Addr} {d u : Nat} {led : List (Addr × Obj)} {vs : List Value} {k : Int} (C : Con w f d u led vs (PPair led k))
    {dp un : Nat} {gd : Option (List Code)} {cn : Str} {cs : Scope} {a : Addr} {ccd : Value} {cl : List (Str × Addr)} {outer : List Env} {A₀ : Around} {base h₀ : Heap} {L : Addr} {m : Str → Option Value} {s : Shared} {Q E : Value → Shared → Prop}
    {p : Program} {loose : List Str} {mean : ExcName → Option Value} {mg mb : Str → Option Value}
    (B : Below A₀ base outer h₀) (F : Fr h₀ L s.heap m) (X : (Mine.frag.heap_1 w.params).In h₀) (N : News h₀ L s.heap led) (T : Top p loose mean mg mb h₀) (hk : cs.kind = .function)
    (hd : dp + d < recursionLimit) (hu : un + u < cLine)
    (ret : ∀ (R : Addr) (x : Value) (t : Tok) (h' : Heap) (tk' : Nat), (∀ p ∈ led, p.1 ≠ R) → Fr h₀ L h' m → News h₀ L h' ((R, { cls := .type "tuple", data := .seq #[x, .int k t] }) :: led) → Q (.ref R) { s with heap := h', toks := tk' }) :
    wpAny (model PySem.Challenge.rw_nt0282_01.row.prog w) (ktrTop dp un gd cn cs L a ccd cl outer) (call (.ref f) vs) Q E s := by
  refine Con.use C B F X N T hk hd hu ?_
  rintro r led' h' tk' ⟨R, o, x, t, rfl, rfl, rfl, hR⟩ F' N'
  exact ret R x t h' tk' hR F' N'
set_option maxHeartbeats 8000000 in
theorem con_commit_body (w : World) (led : List (Addr × Obj)) (l : List UInt8) (c dx : Addr) (t1 t2 t3 t4 t5 t6 t7 : Tok) (v1 v2 v3 v4 v5 : Value) (nd : Nat) (hl : l.length ≤ 1000)
    (hc : (c, instObj 280 dx) ∈ led)
    (hx : (dx, dictOf [⟨PyData.keyHash w.params (PySem.Str.ofString "tree"), .str (PySem.Str.ofString "tree") t1, v1⟩, ⟨PyData.keyHash w.params (PySem.Str.ofString "parents"), .str (PySem.Str.ofString "parents") t2, v2⟩, ⟨PyData.keyHash w.params (PySem.Str.ofString "author"), .str (PySem.Str.ofString "author") t3, v3⟩, ⟨PyData.keyHash w.params (PySem.Str.ofString "committer"), .str (PySem.Str.ofString "committer") t4, v4⟩, ⟨PyData.keyHash w.params (PySem.Str.ofString "extra"), .str (PySem.Str.ofString "extra") t5, v5⟩, ⟨PyData.keyHash w.params (PySem.Str.ofString "message"), .str (PySem.Str.ofString "message") t6, .bytes l.toArray t7⟩] nd) ∈ led) :
    Con w 291 4 308 led [.ref c] (PBytes led (lawBody l)) := by
  refine conOf ?_
  k_fill
  intro dp un gd cn cs a ccd cls outer A₀ base h₀ L m hp gn dr tk os Q E p loose mean mg mb B F X N T hk hd hu hret
  k_with_none
  k_with "tb_start" => (
      first
      | (refine' Nat.le_trans ?zqq1 (Nat.le_of_ble_eq_true ?zqq2); (case zqq1 => with_reducible assumption); (case zqq2 => exact rfl))
      | omega
      | (simp only [List.length_append, List.length_cons, List.length_nil, List.length_map, List.length_take, List.length_drop]; omega)
      | ((try simp only [List.length_append, List.length_cons, List.length_nil]); (first | refine Nat.le_trans (sl_length _ _) ?_ | skip); omega)
      | fail "size")
  k_with "getMethod bytes" => ((k_here; (with_reducible show wpAny _ _ (getMethod (Value.bytes (List.toArray _) _) (PySem.Str.ofString "split") _) _ _ _); (refine methB slotSplit tySplit ?_)))
  k_with "getMethod bytes" => ((k_here; (with_reducible show wpAny _ _ (getMethod (Value.bytes (List.toArray _) _) (PySem.Str.ofString "join") _) _ _ _); (refine methB slotJoin tyJoin ?_)))
  k_with "ktr_rel" => (
      (intro cbp cbh; first
      | exact cbh
      | exact List.mem_cons_of_mem _ cbh
      | exact List.mem_cons_of_mem _ (List.mem_cons_of_mem _ cbh)
      | (simp only [List.mem_cons, List.mem_append] at cbh ⊢; first | exact cbh | (simp [cbh]; done) | grind)
      | grind))
  k_with "tb_rel" => (
      first
      | assumption
      | (refine' News.dr1 ?zqcbN; (case zqcbN => assumption))
      | (refine' News.dr2 ?zqcbN; (case zqcbN => assumption))
      | (refine' News.dr3 ?zqcbN; (case zqcbN => assumption))
      | (refine' News.dr4 ?zqcbN; (case zqcbN => assumption))
      | (refine' News.dr5 ?zqcbN; (case zqcbN => assumption))
      | (refine' News.dr6 ?zqcbN; (case zqcbN => assumption))
      | (refine' cb_drop ?zqcbN ?zqcbS; (case zqcbN => assumption); (case zqcbS => ktr_rel)))
  k_with "KswEnd" => (((rename News _ _ _ _ => nE'); (try simp only [List.push_toArray] at nE'); (first | refine' ksw_end5 ?zqz0 nE' ?zqz1 ?zqz2 ?zqz3 ?zqz4 ?zqz5 ?zqz6 | refine' ksw_end4 ?zqz0 nE' ?zqz1 ?zqz2 ?zqz3 ?zqz4 ?zqz5 ?zqz6 | refine' ksw_end3 ?zqz0 nE' ?zqz1 ?zqz2 ?zqz3 ?zqz4 ?zqz5 ?zqz6 | refine' ksw_end2 ?zqz0 nE' ?zqz1 ?zqz2 ?zqz3 ?zqz4 ?zqz5 ?zqz6); (case zqz0 => assumption); (case zqz3 => kst_all); (case zqz1 => first | kst_in | lcg_sub); (case zqz2 => kst_facts); (case zqz4 => ksw_same); (case zqz5 => kst_p); (case zqz6 => ksw_less)))
  k_with "ktd_rel" => ((refine' hret _ _ _ _ (pBe ?zqe0) ?zqe1 ?zqe2; (case zqe1 => assumption); (case zqe2 => tb_rel); (case zqe0 => kwd_rel)))
  k_with "units_room" => (first | exact roomA hu rfl | exact roomB hu rfl | exact roomC hu rfl | (have hcL9 := cLine_is; (try simp only [units_in1, units_deeper, Around.mark_units, units_caller] at *); (try dsimp only [ktrTop] at *); omega))
  k_with "ktr_unf" => (
      first
      | assumption
      | exact List.Mem.head _
      | (refine' List.mem_append_left _ ?_; ktr_unf)
      | (refine' List.Mem.tail _ ?_; ktr_unf))
  k_with "call builtin:bytes.split" => ((k_here; (with_reducible show wpAny _ _ (call (Value.builtin "bytes.split") _) _ _ _); (try dsimp only [List.append, List.cons_append, List.nil_append]); (refine' callSplit ?zqn1 ?zqn2 ?zqn3 ?_; (case zqn1 => k_asm); (case zqn2 => assumption); (case zqn3 => tb_start); intro _ _ _ _ _ _ _ _); (try dsimp only)))
  k_with "call builtin:len" => ((k_here; (with_reducible show wpAny _ _ (call (Value.builtin "len") [Value.ref _]) _ _ _); (refine' lenBs ?zqn3 (News.isList ?zqn1 ?zqn2) ?zqn4 ?_; (case zqn1 => assumption); (case zqn2 => ktr_unf); (case zqn3 => assumption); (case zqn4 => tb_start); intro _ _)))
  k_with "subscriptTail" => ((k_here; (with_reducible show wpAny _ _ (subscriptTail _ _ (Value.ref _) (Value.int _ _)) _ _ _); (refine' itemBs (hs := by with_unfolding_all rfl) ?zqn6 (News.isList ?zqn1 ?zqn2) ?zqn3 ?zqn4 ?zqn5 ?_; (case zqn1 => assumption); (case zqn2 => ktr_unf); (case zqn6 => assumption); (case zqn3 => omega); (case zqn4 => first | omega | (refine' neLen ?zqh; (case zqh => assumption))); (case zqn5 => tb_start); intro _)))
  k_with "subscriptTail Name Slice ref ref" => ((k_here; (with_reducible show wpAny _ _ (subscriptTail _ (PySem.Expr.Slice _ _ none _) (Value.ref _) (Value.ref _)) _ _ _); (refine' sliceBs (hs := by with_unfolding_all rfl) (ht := by intro _; with_unfolding_all rfl) (s := ⟨_, _, _, _, _⟩) ?zqn1 ?zqn2 ?zqn3 ?zqn4 ?zqn5 ?zqn6 ?zqn7 ?_; (case zqn1 => assumption); (case zqn2 => assumption); (case zqn3 => ktr_unf); (case zqn4 => assumption); (case zqn5 => constructor); (case zqn6 => constructor); (case zqn7 => tb_start)); intro _ _ _ _ _ _ _; (try dsimp only)))
  k_with "call builtin:bytes.join" => ((k_here; (with_reducible show wpAny _ _ (call (Value.builtin "bytes.join") _) _ _ _); (try dsimp only [List.append, List.cons_append, List.nil_append]); (refine' callJoin (News.get ?zqn1 ?zqn2) ?zqn3 ?zqn4 ?zqn5 ?_; (case zqn1 => assumption); (case zqn2 => ktr_unf); (case zqn3 => assumption); (case zqn4 => tb_start); (case zqn5 => tb_start); intro _ _)))
  k_with "cell_enter" => ((refine' code_def ?zqk1 ?zqk2 ?zqk3 ?zqk4 ?zqk5 ?zqkA ?zqkF ?zqkK ?zqk6 ?zqk7 ?zqk8 ?zqk9 ?zqkB ?_ ?zqc2 ?zqc3 ?zqc4 ?zqc5; (case zqkA => exact rfl); (case zqkF => exact rfl); (case zqkK => assumption); (case zqk1 => k_asm); (case zqk2 => k_asm); (case zqk3 => k_asm); (case zqk4 => k_asm); (case zqk5 => k_asm); (case zqk6 => k_is); (case zqk7 => k_is); (case zqk8 => ktr_room); (case zqk9 => first | exact BindsTo.of_eq rfl | exact binds_K (by k_in) rfl (by k_is) rfl rfl rfl); (case zqc5 => decide); (case zqkB => exact locs rfl); (case zqc2 => exact rfl); (case zqc3 => exact rfl); (case zqc4 => exact rfl); k_whole; intro g' L' h' FG' F' N' B' X' T'; (try dsimp only); (try k_lift B'); (try k_fold)))
  k_with "KExit" => ((k_dflt (refine' kexit ?zqn1 ?zqn2 ?zqn3; (case zqn1 => assumption); (case zqn2 => tb_rel); (case zqn3 => kwd_less); (all_goals (intro _; exact none)))))
  k_with "ktr_room" => (first | exact roomA hd rfl | exact roomB hd rfl | exact roomC hd rfl)
  k_with "k_ne" => ((refine neN ?_; (try dsimp only); first | (refine' neLt ?zqcbh ?zqcbk; (case zqcbh => with_reducible assumption); (case zqcbk => (intro cbz; repeat (first | exact cbz.1 | replace cbz := cbz.2)))) | (refine' neGt ?zqcbh ?zqcbk; (case zqcbh => with_reducible assumption); (case zqcbk => (intro cbz; repeat (first | exact cbz.1 | replace cbz := cbz.2)))) | omega))
  k_with "spliced" => ((k_here; k_dflt (refine' pes_eval ?zqcbF ?zqcbv ?_ ?zqcba; (case zqcbF => k_asm); (case zqcba => rfl); (case zqcbv => exact Eq.refl (some (_, _))); k_whole); (try dsimp only [List.cons_append, List.nil_append])))
  k_with "eval Subscript" => ((k_here; k_dflt (refine' sub_pe ?zqcbF ?zqcbv ?zqcbw ?_ ?zqcba; (case zqcbF => k_asm); (case zqcba => rfl); (case zqcbv => exact Eq.refl (some (_, _))); (case zqcbw => exact Eq.refl (some (_, _))); k_whole)))
  k_with "eval Slice" => ((k_here; k_dflt (refine' slice_pe ?zqcbF ?zqcbu ?zqcbv ?zqcbw ?_ ?zqcba; (case zqcbF => k_asm); (case zqcba => rfl); (case zqcbu => exact Eq.refl (some (_, _))); (case zqcbv => exact Eq.refl (some (_, _))); (case zqcbw => exact Eq.refl (some (_, _))); k_whole)))
  k_with "eval Name" => ((k_here; k_dflt (refine' nameX_L ?zqcbF ?zqcbv ?_ ?zqcba ?zqcbb; (case zqcbF => k_asm); (case zqcba => rfl); (case zqcbb => rfl); (case zqcbv => exact Eq.refl (some _)); k_whole)))
  k_with "storeName" => ((k_here; k_dflt (refine' storeL ?zqcbF ?zqcbN ?_ ?zqcba ?zqcbb; (case zqcbF => k_asm); (case zqcbN => k_asm); (case zqcba => rfl); (case zqcbb => rfl); k_whole); intro _ _ _ _; (try k_sweep)))
  k_with "k_mem" => (ktr_unf)
  k_with "tb_start" => (
      first
      | (refine' Rows.head ?zqe1; (case zqe1 => assumption))
      | (refine' bodyJoin ?zqe1; (case zqe1 => assumption))
      | (refine' rowsLen ?zqe1; (case zqe1 => assumption))
      | (refine' rowsLen2 ?zqe1; (case zqe1 => assumption))
      | (refine' splitRoom ?zqe1; (case zqe1 => assumption)))
  k_with "kwd_less" => (
      (refine' phX ?zqp ?zqq ?zqr; (case zqp => assumption); (case zqq => assumption); (case zqr => first
      | (refine' phL ?zqx ?zqy; (case zqx => assumption); (case zqy => assumption))
      | (refine' phE1a ?zqx ?zqy; (case zqx => assumption); (case zqy => assumption)))))
  k_with "kwd_inv" => ((refine' ph0w ?zqx ?zqy ?zqz ?zqu ?zqv; (case zqx => assumption); (case zqy => assumption); (case zqz => assumption); (case zqu => assumption); (case zqv => assumption)))
  k_with "kwd_rel" => ((refine' bodyEnd ?zqx; (case zqx => assumption)))
  k_with "call ref" => ((k_here; (with_reducible show wpAny _ _ (call (Value.ref 132) _) _ _ _); k_dflt (refine' Con.useB (con_cut_blank _ _ _ _ _ ?zqc1) ?zqn1 ?zqn2 ?zqn3 ?zqn4 ?zqn5 ?zqn6 ?zqn7 ?zqn8 ?_; (case zqn4 => assumption); (case zqn1 => k_asm); (case zqn2 => k_asm); (case zqn3 => k_asm); (case zqn5 => k_asm); (case zqn6 => exact rfl); (case zqn7 => ktr_room); (case zqn8 => units_room); (case zqc1 => tb_start)); intro _ _ _ _ _; (try dsimp only)))
  k_with "call ref" => ((k_here; (with_reducible show wpAny _ _ (call (Value.ref 249) _) _ _ _); k_dflt (refine' Con.useP (con_subject _ _ _ _ ?zqc1) ?zqn1 ?zqn2 ?zqn3 ?zqn4 ?zqn5 ?zqn6 ?zqn7 ?zqn8 ?_; (case zqn4 => assumption); (case zqn1 => k_asm); (case zqn2 => k_asm); (case zqn3 => k_asm); (case zqn5 => k_asm); (case zqn6 => exact rfl); (case zqn7 => ktr_room); (case zqn8 => units_room); (case zqc1 => tb_start)); intro _ _ _ _ _ _ _ _; (try dsimp only)))
  k_with "exec While BoolOp cons nil" => (k_dflt ((rename Fr _ _ _ _ => lF'); (rename News _ _ _ _ => lN'); (with_unfolding_all refine' ksw_join (hE := by passes_own) (σ := List Value × Addr × Nat) (fun c => (c.2.1, listOf c.1.toArray c.2.2) :: led) (fun c => [(PySem.Str.ofString "rows", .ref c.2.1)]) [] (fun c => Ph l Kd.a (((splitNL l).dropWhile (pk Kd.a)).dropWhile (pk Kd.b)) c.1) (fun c => c.1.length) (fun c => PhX l Kd.a (((splitNL l).dropWhile (pk Kd.a)).dropWhile (pk Kd.b)) c.1) ⟨_, _, _⟩ lF' ?zqkn ?zqkk ?zqkp ?_ ?_); (case zqkk => kst_all); (case zqkn => refine' cb_drop lN' ((fmc ?zqh1 ?zqh2)); (case zqh1 => ktr_unf); (case zqh2 => ktr_rel)); (case zqkp => refine' ph0b ?zqa ?zqb; (case zqa => assumption); (case zqb => assumption)); (all_goals (clear lF' lN'; intro cC cU cH cTk cP cF cN; obtain ⟨cL, cB, cD, cR⟩ := cP; (try dsimp only [kstB] at cF); (try dsimp only at cN); (try simp only [List.cons_append, List.nil_append] at cN)))))
  k_with "state" => kwd_inv
  k_with "measure" => (refine' phLess2 ?x ?y ?z; (case x => assumption); (case y => assumption); (case z => assumption))
  w_strict (
    refine wpAny_call ?_
    k_dflt cell_enter
    k_steps
    all_goals first | ktd_rel | trace_state)
theorem use_message {w : World} {rest : List (Addr × Obj)} {d D S : Addr} {Bd : Nat} {o : Obj} {ws vm : List Value} {lm : List (List UInt8)} {n nn : Nat}
    (hD : Deck w d D Bd o ws) (hB : Bd ≤ 900) (hm : BsAre vm lm) (hml : ∀ x ∈ lm, OkB x) (hmn : lm.length ≤ 50) (hS : (S, listOf vm.toArray nn) ∈ rest) (hs1 : ∀ p ∈ rest, p.1 ≠ d) (hs2 : ∀ p ∈ rest, p.1 ≠ D)
    {dp un : Nat} {gd : Option (List Code)} {cn : Str} {cs : Scope} {a : Addr} {ccd : Value} {cl : List (Str × Addr)} {outer : List Env} {A₀ : Around} {base h₀ : Heap} {L : Addr} {m : Str → Option Value} {s : Shared} {Q E : Value → Shared → Prop}
    {p : Program} {loose : List Str} {mean : ExcName → Option Value} {mg mb : Str → Option Value}
    (B : Below A₀ base outer h₀) (F : Fr h₀ L s.heap m) (X : (Mine.frag.heap_1 w.params).In h₀) (N : News h₀ L s.heap ((d, o) :: (D, listOf ws.toArray n) :: rest)) (T : Top p loose mean mg mb h₀) (hk : cs.kind = .function)
    (hd : dp + 4 < recursionLimit) (hu : un + 408 < cLine)
    (ret : ∀ (x : List UInt8) (t : Tok) (o' : Obj) (ws' : List Value) (n' : Nat) (h' : Heap) (tk' : Nat), x.length ≤ 400 → (0 : UInt8) ∉ x → Deck w d D (Bd + 10) o' ws' → Fr h₀ L h' m → News h₀ L h' ((d, o') :: (D, listOf ws'.toArray n') :: rest) → Q (.bytes x.toArray t) { s with heap := h', toks := tk' }) :
    wpAny (model PySem.Challenge.rw_nt0282_01.row.prog w) (ktrTop dp un gd cn cs L a ccd cl outer) (call (.ref 411) [.ref d, .ref S]) Q E s := by
  refine Con.use (con_law_message w rest d D S o ws vm lm n nn Bd hD hB hm hml hmn hS hs1 hs2) B F X N T hk hd hu ?_
  rintro r led' h' tk' ⟨x, t, o', ws', n', rfl, hx, hx0, hD', rfl⟩ F' N'
  exact ret x t o' ws' n' h' tk' hx hx0 hD' F' N'
theorem noneLen : ∀ x ∈ ([] : List (List UInt8)), OkB x := fun _ h => nomatch h
theorem News.rot1d {h₀ h : Heap} {L : Addr} {x a b : Addr × Obj} {r : List (Addr × Obj)} (N : News h₀ L h (x :: a :: b :: r)) : News h₀ L h (a :: b :: x :: r) := fun p hp => N p (by simp only [List.mem_cons] at hp ⊢; grind)
theorem use_pickC {w : World} {rest : List (Addr × Obj)} {d D S : Addr} {Bd : Nat} {o : Obj} {ws : List Value} {n nn : Nat} {t1 t2 : Tok}
    (hD : Deck w d D Bd o ws) (hB : Bd ≤ 1000) (hS : (S, listOf #[.none, .bytes #[35] t1, .bytes #[35, 32] t2] nn) ∈ rest) (hs1 : ∀ p ∈ rest, p.1 ≠ d) (hs2 : ∀ p ∈ rest, p.1 ≠ D)
    {dp un : Nat} {gd : Option (List Code)} {cn : Str} {cs : Scope} {a : Addr} {ccd : Value} {cl : List (Str × Addr)} {outer : List Env} {A₀ : Around} {base h₀ : Heap} {L : Addr} {m : Str → Option Value} {s : Shared} {Q E : Value → Shared → Prop}
    {p : Program} {loose : List Str} {mean : ExcName → Option Value} {mg mb : Str → Option Value}
    (B : Below A₀ base outer h₀) (F : Fr h₀ L s.heap m) (X : (Mine.frag.heap_1 w.params).In h₀) (N : News h₀ L s.heap ((d, o) :: (D, listOf ws.toArray n) :: rest)) (T : Top p loose mean mg mb h₀) (hk : cs.kind = .function)
    (hd : dp + 2 < recursionLimit) (hu : un + 108 < cLine)
    (ret0 : ∀ (o' : Obj) (ws' : List Value) (n' : Nat) (h' : Heap) (tk' : Nat), Deck w d D (Bd + 1) o' ws' → Fr h₀ L h' m → News h₀ L h' ((d, o') :: (D, listOf ws'.toArray n') :: rest) → Q .none { s with heap := h', toks := tk' })
    (ret1 : ∀ (x : List UInt8) (t : Tok) (o' : Obj) (ws' : List Value) (n' : Nat) (h' : Heap) (tk' : Nat), x.length ≤ 100 → Deck w d D (Bd + 1) o' ws' → Fr h₀ L h' m → News h₀ L h' ((d, o') :: (D, listOf ws'.toArray n') :: rest) → Q (.bytes x.toArray t) { s with heap := h', toks := tk' }) :
    wpAny (model PySem.Challenge.rw_nt0282_01.row.prog w) (ktrTop dp un gd cn cs L a ccd cl outer) (call (.ref 368) [.ref d, .ref S]) Q E s := by
  refine use_pick (vs := [.none, .bytes #[35] t1, .bytes #[35, 32] t2]) hD hB (by simp) (by simp) hS hs1 hs2 B F X N T hk hd hu ?_
  intro r o' ws' n' h' tk' hr hD' F' N'
  rcases List.mem_cons.mp hr with rfl | hr
  · exact ret0 o' ws' n' h' tk' hD' F' N'
  · rcases List.mem_cons.mp hr with rfl | hr
    · exact ret1 [35] t1 o' ws' n' h' tk' (by simp) hD' F' N'
    · rw [List.mem_singleton.mp hr]
      exact ret1 [35, 32] t2 o' ws' n' h' tk' (by simp) hD' F' N'

-- a class is called
theorem con_messageL0 (w : World) (led : List (Addr × Obj)) (l : List UInt8) (t : Tok) (hl : l.length ≤ 1000) : Con w 349 3 208 led [.bytes l.toArray t, .none] (PBytes led (lawCleaned none l)) := message_same none l ▸ con_message0 w led l t hl
theorem con_messageL1 (w : World) (led : List (Addr × Obj)) (l : List UInt8) (t : Tok) (hl : l.length ≤ 1000) (cm : List UInt8) (u : Tok) (hc : cm.length ≤ 100) : Con w 349 3 208 led [.bytes l.toArray t, .bytes cm.toArray u] (PBytes led (lawCleaned (some cm) l)) := message_same (some cm) l ▸ con_message1 w led l t hl cm u hc
theorem con_messageT0 (w : World) (led : List (Addr × Obj)) (l : List UInt8) (t : Tok) (hl : l.length ≤ 900) : Con w 349 3 208 led [.bytes (lawCleaned none l).toArray t, .none] (PBytes led (lawCleaned none l)) := by
  have h := con_message0 w led (lawCleaned none l) t (by have := cleaned_len none l; omega)
  rw [cleaned_twice] at h
  exact h
theorem con_messageT1 (w : World) (led : List (Addr × Obj)) (l : List UInt8) (t : Tok) (hl : l.length ≤ 900) (cm : List UInt8) (u : Tok) (hc : cm.length ≤ 100) : Con w 349 3 208 led [.bytes (lawCleaned (some cm) l).toArray t, .bytes cm.toArray u] (PBytes led (lawCleaned (some cm) l)) := by
  have h := con_message1 w led (lawCleaned (some cm) l) t (by have := cleaned_len (some cm) l; omega) cm u hc
  rw [cleaned_twice] at h
  exact h
section
variable {prog : Program} {w : World} {A : Around} {E : Value → Shared → Prop} {s : Shared} {t u : Tok} {l : List UInt8} {Q : Value → Shared → Prop}
theorem neSame (h : Q (.bool false) s) : wpAny (model prog w) A (compareOp .NotEq (.bytes l.toArray t) (.bytes l.toArray u)) Q E s := by
  refine neB ?_
  have e : (l != l) = false := by simp
  rw [e]; exact h
theorem eqSame (h : Q (.bool true) s) : wpAny (model prog w) A (compareOp .Eq (.bytes l.toArray t) (.bytes l.toArray u)) Q E s := by
  refine eqB ?_
  have e : (l == l) = true := by simp
  rw [e]; exact h
end
noncomputable def PTrue (w : World) (rest : List (Addr × Obj)) (d D : Addr) (B k : Nat) : Value → List (Addr × Obj) → Prop := fun r led' =>
  ∃ (o' : Obj) (ws' : List Value) (n' : Nat), r = .bool true ∧ Deck w d D (B + k) o' ws' ∧ led' = (d, o') :: (D, listOf ws'.toArray n') :: rest
set_option maxHeartbeats 8000000 in
theorem con_mr (w : World) (rest : List (Addr × Obj)) (d D : Addr) (o : Obj) (ws : List Value) (n Bd : Nat)
    (hD : Deck w d D Bd o ws) (hB : Bd ≤ 900) (hs1 : ∀ p ∈ rest, p.1 ≠ d) (hs2 : ∀ p ∈ rest, p.1 ≠ D) :
    Con w 418 6 508 ((d, o) :: (D, listOf ws.toArray n) :: rest) [.ref d] (PTrue w rest d D Bd 11) := by
  refine conOf ?_
  k_fill
  intro dp un gd cn cs a ccd cl outer A₀ base h₀ L m hp gn dr tk os Q E p loose mean mg mb B F X N T hk hd hu hret
  k_with_none
  k_with "tb_start" => (
      first
      | (refine' Nat.le_trans ?zqq1 (Nat.le_of_ble_eq_true ?zqq2); (case zqq1 => with_reducible assumption); (case zqq2 => exact rfl))
      | omega
      | (simp only [List.length_append, List.length_cons, List.length_nil, List.length_map, List.length_take, List.length_drop]; omega)
      | ((try simp only [List.length_append, List.length_cons, List.length_nil]); (first | refine Nat.le_trans (sl_length _ _) ?_ | skip); omega)
      | fail "size")
  k_with "ktr_rel" => (
      (intro cbp cbh; first
      | exact cbh
      | exact List.mem_cons_of_mem _ cbh
      | exact List.mem_cons_of_mem _ (List.mem_cons_of_mem _ cbh)
      | (simp only [List.mem_cons, List.mem_append] at cbh ⊢; first | exact cbh | (simp [cbh]; done) | grind)
      | grind))
  k_with "k_all" => (lcg_off)
  k_with "units_room" => (first | exact roomA hu rfl | exact roomB hu rfl | exact roomC hu rfl | (have hcL9 := cLine_is; (try simp only [units_in1, units_deeper, Around.mark_units, units_caller] at *); (try dsimp only [ktrTop] at *); omega))
  k_with "ktr_unf" => (
      first
      | assumption
      | exact List.Mem.head _
      | (refine' List.mem_append_left _ ?_; ktr_unf)
      | (refine' List.Mem.tail _ ?_; ktr_unf))
  k_with "lcg_off" => (
      first
      | assumption
      | (refine' off_lt ?zqal; (case zqal => assumption))
      | (refine' off_lt1 ?zqal; (case zqal => assumption))
      | (refine' OwnOff.ne ?zqal ?zqam; (case zqal => assumption); (case zqam => first | exact List.Mem.head _ | (simp; done)))
      | (refine' off_app ?zqal ?zqam; (case zqal => lcg_off); (case zqam => lcg_off))
      | (apply off_cons; assumption)
      | (refine' (fmc ?zqla ?zqlb); (case zqla => k_ne); (case zqlb => lcg_off))
      | (apply off_tail1; assumption)
      | (apply off_cons; apply off_cons; assumption)
      | (refine' ltNe ?zqal; (case zqal => first | assumption | (apply And.right; assumption) | (apply And.right; apply And.right; assumption) | (apply And.right; apply And.right; apply And.right; assumption) | (apply And.right; apply And.right; apply And.right; apply And.right; assumption) | (apply And.right; apply And.right; apply And.right; apply And.right; apply And.right; assumption))))
  k_with "cell_enter" => ((refine' code_def ?zqk1 ?zqk2 ?zqk3 ?zqk4 ?zqk5 ?zqkA ?zqkF ?zqkK ?zqk6 ?zqk7 ?zqk8 ?zqk9 ?zqkB ?_ ?zqc2 ?zqc3 ?zqc4 ?zqc5; (case zqkA => exact rfl); (case zqkF => exact rfl); (case zqkK => assumption); (case zqk1 => k_asm); (case zqk2 => k_asm); (case zqk3 => k_asm); (case zqk4 => k_asm); (case zqk5 => k_asm); (case zqk6 => k_is); (case zqk7 => k_is); (case zqk8 => ktr_room); (case zqk9 => first | exact BindsTo.of_eq rfl | exact binds_K (by k_in) rfl (by k_is) rfl rfl rfl); (case zqc5 => decide); (case zqkB => exact locs rfl); (case zqc2 => exact rfl); (case zqc3 => exact rfl); (case zqc4 => exact rfl); k_whole; intro g' L' h' FG' F' N' B' X' T'; (try dsimp only); (try k_lift B'); (try k_fold)))
  k_with "ktr_room" => (first | exact roomA hd rfl | exact roomB hd rfl | exact roomC hd rfl)
  k_with "k_ne" => ((refine neN ?_; (try dsimp only); first | (refine' neLt ?zqcbh ?zqcbk; (case zqcbh => with_reducible assumption); (case zqcbk => (intro cbz; repeat (first | exact cbz.1 | replace cbz := cbz.2)))) | (refine' neGt ?zqcbh ?zqcbk; (case zqcbh => with_reducible assumption); (case zqcbk => (intro cbz; repeat (first | exact cbz.1 | replace cbz := cbz.2)))) | omega))
  k_with "spliced" => ((k_here; k_dflt (refine' pes_eval ?zqcbF ?zqcbv ?_ ?zqcba; (case zqcbF => k_asm); (case zqcba => rfl); (case zqcbv => exact Eq.refl (some (_, _))); k_whole); (try dsimp only [List.cons_append, List.nil_append])))
  k_with "eval Name" => ((k_here; k_dflt (refine' nameX_L ?zqcbF ?zqcbv ?_ ?zqcba ?zqcbb; (case zqcbF => k_asm); (case zqcba => rfl); (case zqcbb => rfl); (case zqcbv => exact Eq.refl (some _)); k_whole)))
  k_with "storeName" => ((k_here; k_dflt (refine' storeL ?zqcbF ?zqcbN ?_ ?zqcba ?zqcbb; (case zqcbF => k_asm); (case zqcbN => k_asm); (case zqcba => rfl); (case zqcbb => rfl); k_whole); intro _ _ _ _; (try k_sweep)))
  k_with "eval Call" => ((k_here; k_dflt (refine' callK_pe (hd := by decide) ?zqcbF ?zqcbX ?zqcbT ?zqcbe ?zqcbf ?zqcbv ?_ ?zqcba ?zqcbb; (case zqcbF => k_asm); (case zqcbX => k_asm); (case zqcbT => k_asm); (case zqcba => rfl); (case zqcbb => rfl); (case zqcbe => k_is); (case zqcbf => k_is); (case zqcbv => exact Eq.refl (some (_, _))); k_whole); (try dsimp only [List.cons_append, List.nil_append])))
  k_with "ks_enter" => ((refine' code_def ?zqk1 ?zqk2 ?zqk3 ?zqk4 ?zqk5 ?zqkA ?zqkF ?zqkK ?zqk6 ?zqk7 ?zqk8 ?zqk9 ?zqkB ?_ ?zqc2 ?zqc3 ?zqc4 ?zqc5; (case zqkA => exact rfl); (case zqkF => exact rfl); (case zqkK => exact rfl); (case zqk1 => k_asm); (case zqk2 => k_asm); (case zqk3 => k_asm); (case zqk4 => k_asm); (case zqk5 => k_asm); (case zqk6 => k_is); (case zqk7 => k_is); (case zqk8 => ktr_room); (case zqk9 => first | exact BindsTo.of_eq rfl | exact binds_K (by k_in) rfl (by k_is) rfl rfl rfl); (case zqc5 => decide); (case zqkB => exact locs rfl); (case zqc2 => exact rfl); (case zqc3 => exact rfl); (case zqc4 => exact rfl); k_whole; intro g' L' h' FG' F' N' B' X' T'; (try dsimp only); (try k_lift B'); (try k_fold)))
  k_with "call ref" => ((k_here; k_dflt (refine' call_cls ?zqk1 ?zqk2 ?zqk3 ?zqk4 ?zqk5 ?zqk6 ?_; (case zqk1 => k_asm); (case zqk2 => k_asm); (case zqk3 => k_asm); (case zqk4 => k_is); (case zqk5 => k_is); (case zqk6 => k_is); k_whole; intro x' d' h' F' N' l1 l2; (try k_lt l1); (try k_lt2 l2); (try k_sweep); ks_enter)))
  k_with "compareOp NotEq bytes bytes" => ((k_here; (with_reducible refine neSame ?_)))
  k_with "compareOp Eq bytes bytes" => ((k_here; (with_reducible refine eqSame ?_)))
  k_with "call ref" => ((k_here; (with_reducible show wpAny _ _ (call (Value.ref 411) _) _ _ _); k_dflt (refine' use_message ?zqc1 ?zqc2 ?zqc3 ?zqc4 ?zqc5 ?zqc6 ?zqc7 ?zqc8 ?zqn1 ?zqn2 ?zqn3 ?zqn4 ?zqn5 ?zqn6 ?zqn7 ?zqn8 ?_; (case zqc3 => first | exact BsAre.nil); (case zqc4 => exact noneLen); (case zqc5 => exact Nat.zero_le _); (case zqn4 => first | assumption | (refine' News.rot1d ?zqr; (case zqr => assumption)) | (refine' News.rot2 ?zqr; (case zqr => assumption)) | (refine' News.rot3 ?zqr; (case zqr => assumption))); (case zqn1 => k_asm); (case zqn2 => k_asm); (case zqn3 => k_asm); (case zqn5 => k_asm); (case zqn6 => exact rfl); (case zqn7 => ktr_room); (case zqn8 => units_room); (case zqc1 => assumption); (case zqc2 => omega); (case zqc6 => ktr_unf); (case zqc7 => lcg_off); (case zqc8 => lcg_off)); intro _ _ _ _ _ _ _ _ _ _ _ _; (try dsimp only)))
  k_with "call ref" => ((k_here; (with_reducible show wpAny _ _ (call (Value.ref 368) _) _ _ _); k_dflt (refine' use_pickC ?zqc1 ?zqc2 ?zqc3 ?zqc5 ?zqc6 ?zqn1 ?zqn2 ?zqn3 ?zqn4 ?zqn5 ?zqn6 ?zqn7 ?zqn8 ?_ ?_; (case zqn4 => first | assumption | (refine' News.rot1d ?zqr; (case zqr => assumption)) | (refine' News.rot2 ?zqr; (case zqr => assumption)) | (refine' News.rot3 ?zqr; (case zqr => assumption))); (case zqn1 => k_asm); (case zqn2 => k_asm); (case zqn3 => k_asm); (case zqn5 => k_asm); (case zqn6 => exact rfl); (case zqn7 => ktr_room); (case zqn8 => units_room); (case zqc1 => assumption); (case zqc2 => omega); (case zqc3 => ktr_unf); (case zqc5 => lcg_off); (case zqc6 => lcg_off)); (all_goals (first | intro _ _ _ _ _ _ _ _ _ _ _ | intro _ _ _ _ _ _ _ _)); (try dsimp only)))
  k_with "call ref" => ((k_here; (with_reducible show wpAny _ _ (call (Value.ref 349) [_, Value.none]) _ _ _); k_dflt (refine' Con.useB (con_messageL0 _ _ _ _ ?zqc1) ?zqn1 ?zqn2 ?zqn3 ?zqn4 ?zqn5 ?zqn6 ?zqn7 ?zqn8 ?_; (case zqn4 => assumption); (case zqn1 => k_asm); (case zqn2 => k_asm); (case zqn3 => k_asm); (case zqn5 => k_asm); (case zqn6 => exact rfl); (case zqn7 => ktr_room); (case zqn8 => units_room); (case zqc1 => tb_start)); intro _ _ _ _ _; (try dsimp only)))
  k_with "call ref" => ((k_here; (with_reducible show wpAny _ _ (call (Value.ref 349) [_, Value.bytes _ _]) _ _ _); k_dflt (refine' Con.useB (con_messageL1 _ _ _ _ ?zqc1 _ _ ?zqc2) ?zqn1 ?zqn2 ?zqn3 ?zqn4 ?zqn5 ?zqn6 ?zqn7 ?zqn8 ?_; (case zqn4 => assumption); (case zqn1 => k_asm); (case zqn2 => k_asm); (case zqn3 => k_asm); (case zqn5 => k_asm); (case zqn6 => exact rfl); (case zqn7 => ktr_room); (case zqn8 => units_room); (case zqc1 => tb_start); (case zqc2 => tb_start)); intro _ _ _ _ _; (try dsimp only)))
  k_with "call ref" => ((k_here; (with_reducible show wpAny _ _ (call (Value.ref 382) [_, Value.none]) _ _ _); k_dflt (refine' Con.useB (con_cleaned0 _ _ _ _ ?zqc1) ?zqn1 ?zqn2 ?zqn3 ?zqn4 ?zqn5 ?zqn6 ?zqn7 ?zqn8 ?_; (case zqn4 => assumption); (case zqn1 => k_asm); (case zqn2 => k_asm); (case zqn3 => k_asm); (case zqn5 => k_asm); (case zqn6 => exact rfl); (case zqn7 => ktr_room); (case zqn8 => units_room); (case zqc1 => tb_start)); intro _ _ _ _ _; (try dsimp only)))
  k_with "call ref" => ((k_here; (with_reducible show wpAny _ _ (call (Value.ref 382) [_, Value.bytes _ _]) _ _ _); k_dflt (refine' Con.useB (con_cleaned1 _ _ _ _ ?zqc1 _ _ ?zqc2) ?zqn1 ?zqn2 ?zqn3 ?zqn4 ?zqn5 ?zqn6 ?zqn7 ?zqn8 ?_; (case zqn4 => assumption); (case zqn1 => k_asm); (case zqn2 => k_asm); (case zqn3 => k_asm); (case zqn5 => k_asm); (case zqn6 => exact rfl); (case zqn7 => ktr_room); (case zqn8 => units_room); (case zqc1 => tb_start); (case zqc2 => tb_start)); intro _ _ _ _ _; (try dsimp only)))
  k_with "call ref" => ((k_here; (with_reducible show wpAny _ _ (call (Value.ref 349) [Value.bytes (List.toArray (lawCleaned _ _)) _, Value.none]) _ _ _); k_dflt (refine' Con.useB (con_messageT0 _ _ _ _ ?zqc1) ?zqn1 ?zqn2 ?zqn3 ?zqn4 ?zqn5 ?zqn6 ?zqn7 ?zqn8 ?_; (case zqn4 => assumption); (case zqn1 => k_asm); (case zqn2 => k_asm); (case zqn3 => k_asm); (case zqn5 => k_asm); (case zqn6 => exact rfl); (case zqn7 => ktr_room); (case zqn8 => units_room); (case zqc1 => tb_start)); intro _ _ _ _ _; (try dsimp only)))
  k_with "call ref" => ((k_here; (with_reducible show wpAny _ _ (call (Value.ref 349) [Value.bytes (List.toArray (lawCleaned _ _)) _, Value.bytes _ _]) _ _ _); k_dflt (refine' Con.useB (con_messageT1 _ _ _ _ ?zqc1 _ _ ?zqc2) ?zqn1 ?zqn2 ?zqn3 ?zqn4 ?zqn5 ?zqn6 ?zqn7 ?zqn8 ?_; (case zqn4 => assumption); (case zqn1 => k_asm); (case zqn2 => k_asm); (case zqn3 => k_asm); (case zqn5 => k_asm); (case zqn6 => exact rfl); (case zqn7 => ktr_room); (case zqn8 => units_room); (case zqc1 => tb_start); (case zqc2 => tb_start)); intro _ _ _ _ _; (try dsimp only)))
  k_with "call ref" => ((k_here; (with_reducible show wpAny _ _ (call (Value.ref 291) _) _ _ _); k_dflt (refine' Con.useB (con_commit_body _ _ _ _ _ _ _ _ _ _ _ _ _ _ _ _ _ _ ?zqc1 ?zqc2 ?zqc3) ?zqn1 ?zqn2 ?zqn3 ?zqn4 ?zqn5 ?zqn6 ?zqn7 ?zqn8 ?_; (case zqn4 => assumption); (case zqc2 => ktr_unf); (case zqc3 => ktr_unf); (case zqn1 => k_asm); (case zqn2 => k_asm); (case zqn3 => k_asm); (case zqn5 => k_asm); (case zqn6 => exact rfl); (case zqn7 => ktr_room); (case zqn8 => units_room); (case zqc1 => tb_start)); intro _ _ _ _ _; (try dsimp only)))
  k_with "call ref" => ((k_here; (with_reducible show wpAny _ _ (call (Value.ref 389) _) _ _ _); k_dflt (refine' Con.useB (con_law_body _ _ _ _ ?zqc1) ?zqn1 ?zqn2 ?zqn3 ?zqn4 ?zqn5 ?zqn6 ?zqn7 ?zqn8 ?_; (case zqn4 => assumption); (case zqn1 => k_asm); (case zqn2 => k_asm); (case zqn3 => k_asm); (case zqn5 => k_asm); (case zqn6 => exact rfl); (case zqn7 => ktr_room); (case zqn8 => units_room); (case zqc1 => tb_start)); intro _ _ _ _ _; (try dsimp only)))
  k_with "state" => kwd_inv
  w_strict (
    refine wpAny_call ?_
    k_dflt cell_enter
    k_steps
    all_goals first | (refine' hret _ _ _ _ ⟨_, _, _, rfl, ?e0, rfl⟩ ?e1 ?e2; (case e1 => assumption); (case e2 => first | assumption | (refine' cb_drop ?x ((fmc ?y (fmc ?z ?u))); (case x => assumption); (case y => ktr_unf); (case z => ktr_unf); (case u => ktr_rel))); (case e0 => assumption)) | trace_state)
noncomputable def crud (c : UInt8) : Bool := c.toNat < 33 || [46, 44, 58, 59, 60, 62, 34, 92, 39].contains c
theorem crud_any (c : UInt8) : ((List.map (fun a => a) (rangeInts 0 1 (33 - (0 : Int)).toNat) ++ [46, 44, 58, 59, 60, 62, 34, 92, 39]).any fun x : Int => x == ((c.toNat : Nat) : Int)) = crud c := by
  have key : ∀ n : Nat, n < 256 → ((List.map (fun a => a) (rangeInts 0 1 (33 - (0 : Int)).toNat) ++ [46, 44, 58, 59, 60, 62, 34, 92, 39]).any fun x : Int => x == ((n : Nat) : Int)) = crud (UInt8.ofNat n) := by decide +kernel
  have h := key c.toNat c.toNat_lt
  rw [UInt8.ofNat_toNat] at h
  exact h
noncomputable def lawDrop (c : UInt8) : Bool := c == 60 || c == 62 || c == 10 || c == 0
/-- what the law says of a name or an address -/
noncomputable def lawPlain (l : List UInt8) : List UInt8 := (trimB crud l).filter fun c => !lawDrop c
structure InP (l c : List UInt8) : Prop where
  out : c.dropWhile crud = l.dropWhile crud
  len : c.length ≤ 1000
structure InR (l c : List UInt8) : Prop where
  out : cutEnd crud c = trimB crud l
  len : c.length ≤ 1000
structure OutP (l c : List UInt8) : Prop where
  out : c = l.dropWhile crud
  len : c.length ≤ 1000
structure OutR (l c : List UInt8) : Prop where
  out : c = trimB crud l
  len : c.length ≤ 1000
theorem neLenB {c : List UInt8} (h : (c.toArray.toList != (#[] : Array UInt8).toList) = true) : (0 : Int) < c.length := by
  cases c with
  | nil => simp at h
  | cons a r => simp
theorem sl_tl {c : List UInt8} : sl c (some 1) none = c.tail := by
  unfold sl
  simp only [Option.elim]
  cases c with
  | nil => rfl
  | cons a r =>
    have : clipAt (r.length + 1) 1 = 1 := clip_in (by omega) (by omega)
    simp only [List.length_cons, this, List.drop_succ_cons, List.drop_zero, List.tail_cons]
    rw [List.take_of_length_le (by simp)]
theorem sl_init {c : List UInt8} (h : (0 : Int) < c.length) : sl c none (some (-1)) = c.take (c.length - 1) := by
  unfold sl
  simp only [Option.elim]
  have : clipAt c.length (-1) = c.length - 1 := by
    unfold clipAt
    obtain ⟨n, e⟩ := Nat.exists_eq_add_of_lt (Int.ofNat_lt.mp h)
    rw [e]
    simp
    rw [Int.add_comm (-1), Int.add_neg_cancel_right, Int.min_eq_left (Int.le_of_lt (Int.lt_succ _)), Int.max_eq_right (Int.natCast_nonneg n)]; rfl
  rw [this]; simp
theorem takeLast {c : List UInt8} (h : (0 : Int) < c.length) : c = c.take (c.length - 1) ++ [c.getD (-1 + (c.length : Int)).toNat 0] := by
  obtain ⟨n, e⟩ := Nat.exists_eq_add_of_lt (Int.ofNat_lt.mp h)
  rw [Nat.zero_add] at e
  have e1 : (-1 + (c.length : Int)).toNat = n := by
    rw [e]; show (-1 + ((n : Int) + 1)).toNat = n; rw [Int.add_comm, Int.add_neg_cancel_right]; rfl
  have hk : n < c.length := e ▸ Nat.lt_succ_self n
  have e3 : c.length - 1 = n := by rw [e]; rfl
  rw [e1, e3, List.getD_eq_getElem?_getD, List.getElem?_eq_getElem hk]
  have h2 := List.take_append_drop n c
  rw [List.drop_eq_getElem_cons hk, ← e, List.drop_length] at h2
  exact h2.symm
section
variable {l c : List UInt8}
theorem inP0 (h : l.length ≤ 1000) : InP l l := ⟨rfl, h⟩
theorem inP1 (hP : InP l c) (h : (0 : Int) < c.length) (hc : ((List.map (fun a => a) (rangeInts 0 1 (33 - (0 : Int)).toNat) ++ [46, 44, 58, 59, 60, 62, 34, 92, 39]).any fun x : Int => x == (((c.getD (0 : Int).toNat 0).toNat : Nat) : Int)) = true) : InP l (sl c (some 1) none) := by
  rw [crud_any] at hc
  rw [sl_tl]
  cases c with
  | nil => simp at h
  | cons a r =>
    have hc : crud a = true := hc
    refine ⟨?_, by have := hP.len; simp at this ⊢; omega⟩
    rw [← hP.out, List.dropWhile_cons, if_pos hc]; rfl
theorem outP0 (hP : InP l c) (h : (c.toArray.toList != (#[] : Array UInt8).toList) = false) : OutP l c := by
  cases c with
  | nil => exact ⟨by rw [← hP.out]; rfl, hP.len⟩
  | cons a r => simp at h
theorem outP1 (hP : InP l c) (h : (0 : Int) < c.length) (hc : ((List.map (fun a => a) (rangeInts 0 1 (33 - (0 : Int)).toNat) ++ [46, 44, 58, 59, 60, 62, 34, 92, 39]).any fun x : Int => x == (((c.getD (0 : Int).toNat 0).toNat : Nat) : Int)) = false) : OutP l c := by
  rw [crud_any] at hc
  refine ⟨?_, hP.len⟩
  cases c with
  | nil => rw [← hP.out]; rfl
  | cons a r =>
    have hc : crud a = false := hc
    rw [← hP.out, List.dropWhile_cons, hc]; simp
theorem inR0 (h : OutP l c) : InR l c := ⟨by rw [h.out]; rfl, h.len⟩
theorem inR1 (hP : InR l c) (h : (0 : Int) < c.length) (hc : ((List.map (fun a => a) (rangeInts 0 1 (33 - (0 : Int)).toNat) ++ [46, 44, 58, 59, 60, 62, 34, 92, 39]).any fun x : Int => x == (((c.getD (-1 + (c.length : Int)).toNat 0).toNat : Nat) : Int)) = true) : InR l (sl c none (some (-1))) := by
  rw [crud_any] at hc
  rw [sl_init h]
  refine ⟨?_, by have := hP.len; simp; omega⟩
  have e := takeLast h
  rw [← hP.out, e, cut_snoc, hc]
  simp
theorem outR0 (hP : InR l c) (h : (c.toArray.toList != (#[] : Array UInt8).toList) = false) : OutR l c := by
  cases c with
  | nil => exact ⟨by rw [← hP.out]; rfl, hP.len⟩
  | cons a r => simp at h
theorem outR1 (hP : InR l c) (h : (0 : Int) < c.length) (hc : ((List.map (fun a => a) (rangeInts 0 1 (33 - (0 : Int)).toNat) ++ [46, 44, 58, 59, 60, 62, 34, 92, 39]).any fun x : Int => x == (((c.getD (-1 + (c.length : Int)).toNat 0).toNat : Nat) : Int)) = false) : OutR l c := by
  rw [crud_any] at hc
  refine ⟨?_, hP.len⟩
  have e := takeLast h
  rw [← hP.out, e, cut_snoc, hc]
  simp
theorem lessP (h : (0 : Int) < c.length) : (sl c (some 1) none).length < c.length := by rw [sl_tl]; simp; omega
theorem lessR (h : (0 : Int) < c.length) : (sl c none (some (-1))).length < c.length := by rw [sl_init h]; simp; omega
theorem plainE {d : List UInt8} (h : OutR l c) (e : d = c.filter fun x => !lawDrop x) : d = lawPlain l := by rw [e, h.out]; rfl
end
theorem drop_any (c : UInt8) {b : Bool} (h : ([60, 62, 10, 0].any fun x : Int => x == ((c.toNat : Nat) : Int)) = b) : lawDrop c = b := by
  have key : ∀ n : Nat, n < 256 → ([60, 62, 10, 0].any fun x : Int => x == ((n : Nat) : Int)) = lawDrop (UInt8.ofNat n) := by decide +kernel
  have h2 := key c.toNat c.toNat_lt
  rw [UInt8.ofNat_toNat] at h2
  rw [← h2]; exact h
theorem dropT {c : UInt8} (h : ([60, 62, 10, 0].any fun x : Int => x == ((c.toNat : Nat) : Int)) = false) : (!lawDrop c) = true := by rw [drop_any c h]; rfl
theorem dropF {c : UInt8} (h : ([60, 62, 10, 0].any fun x : Int => x == ((c.toNat : Nat) : Int)) = true) : (!lawDrop c) = false := by rw [drop_any c h]; rfl
theorem filtLenB {c : List UInt8} {p : UInt8 → Bool} (h : c.length ≤ 1000) : (c.filter p).length ≤ 16777216 := by have := List.length_filter_le p c; omega
set_option maxHeartbeats 3000000 in
theorem con_plain (w : World) (led : List (Addr × Obj)) (l : List UInt8) (t : Tok) (hl : l.length ≤ 1000) : Con w 404 2 100 led [.bytes l.toArray t] (PBytes led (lawPlain l)) := by
  refine conOf ?_
  k_fill
  intro dp un gd cn cs a ccd cl outer A₀ base h₀ L m hp gn dr tk os Q E p loose mean mg mb B F X N T hk hd hu hret
  k_with_none
  k_with "subscriptTail" => ((k_here; (with_reducible show wpAny _ _ (subscriptTail _ (Expr.Slice _ _ none _) (Value.bytes (List.toArray _) _) (Value.ref _)) _ _ _); (with_reducible rename Fr _ _ _ _ => F'); (with_reducible rename News _ _ _ _ => N'); (refine sliceB (hs := by with_unfolding_all rfl) (ht := by intro _; with_unfolding_all rfl) (s := ⟨_, _, _, _, _⟩) F' N' (by constructor) (by constructor) (by tb_start) ?_); intro _ _ _ _ _))
  k_with "ktr_rel" => (
      (intro cbp cbh; first
      | exact cbh
      | exact List.mem_cons_of_mem _ cbh
      | exact List.mem_cons_of_mem _ (List.mem_cons_of_mem _ cbh)
      | (simp only [List.mem_cons, List.mem_append] at cbh ⊢; first | exact cbh | (simp [cbh]; done) | grind)
      | grind))
  k_with "tb_rel" => (
      first
      | assumption
      | (refine' News.dr1 ?zqcbN; (case zqcbN => assumption))
      | (refine' News.dr2 ?zqcbN; (case zqcbN => assumption))
      | (refine' News.dr3 ?zqcbN; (case zqcbN => assumption))
      | (refine' News.dr4 ?zqcbN; (case zqcbN => assumption))
      | (refine' News.dr5 ?zqcbN; (case zqcbN => assumption))
      | (refine' News.dr6 ?zqcbN; (case zqcbN => assumption))
      | (refine' cb_drop ?zqcbN ?zqcbS; (case zqcbN => assumption); (case zqcbS => ktr_rel)))
  k_with "KswEnd" => (((rename News _ _ _ _ => nE'); (try simp only [List.push_toArray] at nE'); (first | refine' ksw_end5 ?zqz0 nE' ?zqz1 ?zqz2 ?zqz3 ?zqz4 ?zqz5 ?zqz6 | refine' ksw_end4 ?zqz0 nE' ?zqz1 ?zqz2 ?zqz3 ?zqz4 ?zqz5 ?zqz6 | refine' ksw_end3 ?zqz0 nE' ?zqz1 ?zqz2 ?zqz3 ?zqz4 ?zqz5 ?zqz6 | refine' ksw_end2 ?zqz0 nE' ?zqz1 ?zqz2 ?zqz3 ?zqz4 ?zqz5 ?zqz6); (case zqz0 => assumption); (case zqz3 => kst_all); (case zqz1 => first | kst_in | lcg_sub); (case zqz2 => kst_facts); (case zqz4 => ksw_same); (case zqz5 => kst_p); (case zqz6 => ksw_less)))
  k_with "ktd_rel" => ((refine' hret _ _ _ _ (pBe ?zqe0) ?zqe1 ?zqe2; (case zqe1 => assumption); (case zqe2 => tb_rel); (case zqe0 => kwd_rel)))
  k_with "ktr_unf" => (
      first
      | assumption
      | exact List.Mem.head _
      | (refine' List.mem_append_left _ ?_; ktr_unf)
      | (refine' List.Mem.tail _ ?_; ktr_unf))
  k_with "eval ListComp" => (k_extra "own ListComp")
  k_with "FinE" => ((k_here; (unfold LCg.FinE); intro _ _ _ _ _ _; (try dsimp only)))
  k_with "cell_enter" => ((refine' code_def ?zqk1 ?zqk2 ?zqk3 ?zqk4 ?zqk5 ?zqkA ?zqkF ?zqkK ?zqk6 ?zqk7 ?zqk8 ?zqk9 ?zqkB ?_ ?zqc2 ?zqc3 ?zqc4 ?zqc5; (case zqkA => exact rfl); (case zqkF => exact rfl); (case zqkK => assumption); (case zqk1 => k_asm); (case zqk2 => k_asm); (case zqk3 => k_asm); (case zqk4 => k_asm); (case zqk5 => k_asm); (case zqk6 => k_is); (case zqk7 => k_is); (case zqk8 => ktr_room); (case zqk9 => first | exact BindsTo.of_eq rfl | exact binds_K (by k_in) rfl (by k_is) rfl rfl rfl); (case zqc5 => decide); (case zqkB => exact locs rfl); (case zqc2 => exact rfl); (case zqc3 => exact rfl); (case zqc4 => exact rfl); k_whole; intro g' L' h' FG' F' N' B' X' T'; (try dsimp only); (try k_lift B'); (try k_fold)))
  k_with "KExit" => ((k_dflt (refine' kexit ?zqn1 ?zqn2 ?zqn3; (case zqn1 => assumption); (case zqn2 => tb_rel); (case zqn3 => kwd_less); (all_goals (intro _; exact none)))))
  k_with "call type:range" => ((k_here; (with_reducible show wpAny _ _ (call (Value.type "range") [Value.int _ _]) _ _ _); k_dflt (refine' callRange1 ?zqn1 ?zqn2 ?_; (case zqn1 => k_asm); (case zqn2 => assumption); intro _ _ _ _ _ _ _ _ _ _; (try dsimp only))))
  k_with "k_ne" => ((refine neN ?_; (try dsimp only); first | (refine' neLt ?zqcbh ?zqcbk; (case zqcbh => with_reducible assumption); (case zqcbk => (intro cbz; repeat (first | exact cbz.1 | replace cbz := cbz.2)))) | (refine' neGt ?zqcbh ?zqcbk; (case zqcbh => with_reducible assumption); (case zqcbk => (intro cbz; repeat (first | exact cbz.1 | replace cbz := cbz.2)))) | omega))
  k_with "spliced" => ((k_here; k_dflt (refine' pes_eval ?zqcbF ?zqcbv ?_ ?zqcba; (case zqcbF => k_asm); (case zqcba => rfl); (case zqcbv => exact Eq.refl (some (_, _))); k_whole); (try dsimp only [List.cons_append, List.nil_append])))
  k_with "isTrue Compare" => ((k_here; k_dflt (refine' cmp_pe (hm := by with_unfolding_all rfl) ?zqcbF ?zqcbv ?zqcbw ?_ ?zqcba; (case zqcbF => k_asm); (case zqcba => rfl); (case zqcbv => exact Eq.refl (some (_, _))); (case zqcbw => exact Eq.refl (some (_, _))); k_whole)))
  k_with "eval Subscript" => ((k_here; k_dflt (refine' sub_pe ?zqcbF ?zqcbv ?zqcbw ?_ ?zqcba; (case zqcbF => k_asm); (case zqcba => rfl); (case zqcbv => exact Eq.refl (some (_, _))); (case zqcbw => exact Eq.refl (some (_, _))); k_whole)))
  k_with "eval Slice" => ((k_here; k_dflt (refine' slice_pe ?zqcbF ?zqcbu ?zqcbv ?zqcbw ?_ ?zqcba; (case zqcbF => k_asm); (case zqcba => rfl); (case zqcbu => exact Eq.refl (some (_, _))); (case zqcbv => exact Eq.refl (some (_, _))); (case zqcbw => exact Eq.refl (some (_, _))); k_whole)))
  k_with "eval Name" => ((k_here; k_dflt (refine' nameX_L ?zqcbF ?zqcbv ?_ ?zqcba ?zqcbb; (case zqcbF => k_asm); (case zqcba => rfl); (case zqcbb => rfl); (case zqcbv => exact Eq.refl (some _)); k_whole)))
  k_with "storeName" => ((k_here; k_dflt (refine' storeL ?zqcbF ?zqcbN ?_ ?zqcba ?zqcbb; (case zqcbF => k_asm); (case zqcbN => k_asm); (case zqcba => rfl); (case zqcbb => rfl); k_whole); intro _ _ _ _; (try k_sweep)))
  k_with "CompEnd" => ((k_here; (refine' LCg.CompEnd.intro ?zqn1 ?zqn2 _ ?zqn3 ?zqn4 ?zqn5 ⟨?zqn6, rfl, ⟨_, rfl⟩⟩; (case zqn1 => assumption); (case zqn2 => assumption); (case zqn3 => ktr_rel); (case zqn4 => assumption); (case zqn5 => exact trivial); (case zqn6 => refine' dropT ?zqx; (case zqx => assumption)))))
  k_with "CompEnd" => ((k_here; (refine' LCg.CompEnd.intro ?zqn1 ?zqn2 _ ?zqn3 ?zqn4 ?zqn5 ⟨?zqn6, rfl⟩; (case zqn1 => assumption); (case zqn2 => assumption); (case zqn3 => ktr_rel); (case zqn4 => assumption); (case zqn5 => exact trivial); (case zqn6 => refine' dropF ?zqx; (case zqx => assumption)))))
  k_with "call type:bytes" => ((k_here; (with_reducible show wpAny _ _ (call (Value.type "bytes") [Value.ref _]) _ _ _); k_dflt (refine' callBytes ?zqn1 ?zqn2 ?zqn3 (News.isList ?zqn4 ?zqn5) ?zqn6 ?zqn7 ?_; (case zqn1 => k_asm); (case zqn2 => assumption); (case zqn3 => exact rfl); (case zqn4 => assumption); (case zqn5 => ktr_unf); (case zqn6 => assumption); (case zqn7 => refine' filtLenB ?zqx; (case zqx => tb_start)); intro _ _ _ _ _)))
  k_with "kwd_rel" => ((refine' plainE ?zqx rfl; (case zqx => assumption)))
  k_with "subscriptTail" => ((k_here; (with_reducible show wpAny _ _ (subscriptTail _ _ (Value.bytes (List.toArray _) _) (Value.int _ _)) _ _ _); (have cNe := neLenB (by assumption)); (first | refine itemB (hs := by with_unfolding_all rfl) (ht := by intro _; with_unfolding_all rfl) (by tb_start) (by omega) (by omega) ?_ | refine itemNegB (hs := by with_unfolding_all rfl) (ht := by intro _; with_unfolding_all rfl) (by tb_start) (by omega) (by omega) ?_); intro _ _))
  k_with "tb_start" => ((have := InP.len (by assumption); omega))
  k_with "tb_start" => ((have := InR.len (by assumption); omega))
  k_with "tb_start" => ((have := OutR.len (by assumption); omega))
  k_with "kwd_less" => (
      first
      | (refine' outP0 ?zqx ?zqy; (case zqx => assumption); (case zqy => assumption))
      | (refine' outP1 ?zqx ?zqy ?zqz; (case zqx => assumption); (case zqy => assumption); (case zqz => assumption))
      | (refine' outR0 ?zqx ?zqy; (case zqx => assumption); (case zqy => assumption))
      | (refine' outR1 ?zqx ?zqy ?zqz; (case zqx => assumption); (case zqy => assumption); (case zqz => assumption)))
  k_with "kwd_inv" => (
      first
      | (refine' inP1 ?zqx ?zqy ?zqz; (case zqx => assumption); (case zqy => assumption); (case zqz => assumption))
      | (refine' inR1 ?zqx ?zqy ?zqz; (case zqx => assumption); (case zqy => assumption); (case zqz => assumption)))
  k_with "exec While BoolOp cons nil" => (k_dflt ((rename Fr _ _ _ _ => lF'); (rename News _ _ _ _ => lN'); (with_unfolding_all refine' ksw_joinC (hE := by passes_own) (σ := List UInt8 × Tok) (fun c => [(PySem.Str.ofString "octets", .bytes c.1.toArray c.2)]) [] (fun c => InP l c.1) (fun c => c.1.length) (fun c => OutP l c.1) ⟨_, _⟩ lF' lN' ?zqkk ?zqkp ?_ ?_); (case zqkk => kst_all); (case zqkp => refine' inP0 ?zqx; (case zqx => assumption)); (all_goals (clear lF' lN'; intro cC cU cH cTk cP cF cN; (try dsimp only [kstB] at cF); (try dsimp only at cN)))))
  k_with "exec While BoolOp cons nil" => (k_dflt ((rename Fr _ _ _ _ => lF'); (rename News _ _ _ _ => lN'); (with_unfolding_all refine' ksw_joinC (hE := by passes_own) (σ := List UInt8 × Tok) (fun c => [(PySem.Str.ofString "octets", .bytes c.1.toArray c.2)]) [] (fun c => InR l c.1) (fun c => c.1.length) (fun c => OutR l c.1) ⟨_, _⟩ lF' lN' ?zqkk ?zqkp ?_ ?_); (case zqkk => kst_all); (case zqkp => refine' inR0 ?zqx; (case zqx => assumption)); (all_goals (clear lF' lN'; intro cC cU cH cTk cP cF cN; (try dsimp only [kstB] at cF); (try dsimp only at cN)))))
  k_with "state" => kwd_inv
  k_with "measure" => first | (refine' lessP ?zx; (case zx => assumption)) | (refine' lessR ?zx; (case zx => assumption))
  k_with "own ListComp" => (k_here; k_dflt (refine ListComp_BT (hs := by intro _; rfl) (by k_asm) (by with_unfolding_all rfl) (by decide) (by rfl) (by decide) (by rfl) ?_))
  k_with "CompSrcBT" => k_dflt (
    refine' CompSrcBT.intro ?zn1 ?zn2 ?zn3 ?zn4 ?_
    case zn1 => exact rfl
    case zn2 => k_asm
    case zn3 => assumption
    case zn4 => tb_start
    intro _
    refine by_restT RInt (fun c => !lawDrop c) (fun cB _ _ _ _ _ _ _ _ _ _ _ _ _ _ _ _ _ _ => ?_) (fun _ _ => ?_))
  w_strict (
    refine wpAny_call ?_
    k_dflt cell_enter
    k_steps
    all_goals first | ktd_rel | trace_state)
theorem allStop {l pre post sg : List UInt8} {y : UInt8} (e : l = pre ++ y :: post) (h : sg.contains y = false) : false = l.all sg.contains := by
  subst e
  rw [List.all_append, List.all_cons, h]
  simp
theorem allStep {pre sg : List UInt8} {y : UInt8} (hp : pre.all sg.contains = true) (h : sg.contains y = true) : (pre ++ [y]).all sg.contains = true := by
  rw [List.all_append, hp, List.all_cons, h]; rfl
theorem pBool {led : List (Addr × Obj)} {b c : Bool} (e : b = c) : PBool led c (.bool b) led := ⟨rfl, by rw [e]⟩
set_option maxHeartbeats 2000000 in
theorem con_are_all (w : World) (led : List (Addr × Obj)) (l sg : List UInt8) (t u : Tok) : Con w 118 1 8 led [.bytes l.toArray t, .bytes sg.toArray u] (PBool led (l.all sg.contains)) := by
  refine conOf ?_
  k_fill
  intro dp un gd cn cs a ccd cl outer A₀ base h₀ L m hp gn dr tk os Q E p loose mean mg mb B F X N T hk hd hu hret
  k_with_none
  k_with "compareOp NotIn" => ((k_here; (with_reducible show wpAny _ _ (compareOp CmpOp.NotIn (Value.int (Nat.cast (UInt8.toNat _)) _) (Value.bytes (List.toArray _) _)) _ _ _); (refine notInB ?_)))
  k_with "ktr_rel" => (
      (intro cbp cbh; first
      | exact cbh
      | exact List.mem_cons_of_mem _ cbh
      | exact List.mem_cons_of_mem _ (List.mem_cons_of_mem _ cbh)
      | (simp only [List.mem_cons, List.mem_append] at cbh ⊢; first | exact cbh | (simp [cbh]; done) | grind)
      | grind))
  k_with "tb_rel" => (
      first
      | assumption
      | (refine' News.dr1 ?zqcbN; (case zqcbN => assumption))
      | (refine' News.dr2 ?zqcbN; (case zqcbN => assumption))
      | (refine' News.dr3 ?zqcbN; (case zqcbN => assumption))
      | (refine' News.dr4 ?zqcbN; (case zqcbN => assumption))
      | (refine' News.dr5 ?zqcbN; (case zqcbN => assumption))
      | (refine' News.dr6 ?zqcbN; (case zqcbN => assumption))
      | (refine' cb_drop ?zqcbN ?zqcbS; (case zqcbN => assumption); (case zqcbS => ktr_rel)))
  k_with "cell_enter" => ((refine' code_def ?zqk1 ?zqk2 ?zqk3 ?zqk4 ?zqk5 ?zqkA ?zqkF ?zqkK ?zqk6 ?zqk7 ?zqk8 ?zqk9 ?zqkB ?_ ?zqc2 ?zqc3 ?zqc4 ?zqc5; (case zqkA => exact rfl); (case zqkF => exact rfl); (case zqkK => assumption); (case zqk1 => k_asm); (case zqk2 => k_asm); (case zqk3 => k_asm); (case zqk4 => k_asm); (case zqk5 => k_asm); (case zqk6 => k_is); (case zqk7 => k_is); (case zqk8 => ktr_room); (case zqk9 => first | exact BindsTo.of_eq rfl | exact binds_K (by k_in) rfl (by k_is) rfl rfl rfl); (case zqc5 => decide); (case zqkB => exact locs rfl); (case zqc2 => exact rfl); (case zqc3 => exact rfl); (case zqc4 => exact rfl); k_whole; intro g' L' h' FG' F' N' B' X' T'; (try dsimp only); (try k_lift B'); (try k_fold)))
  k_with "k_ne" => ((refine neN ?_; (try dsimp only); first | (refine' neLt ?zqcbh ?zqcbk; (case zqcbh => with_reducible assumption); (case zqcbk => (intro cbz; repeat (first | exact cbz.1 | replace cbz := cbz.2)))) | (refine' neGt ?zqcbh ?zqcbk; (case zqcbh => with_reducible assumption); (case zqcbk => (intro cbz; repeat (first | exact cbz.1 | replace cbz := cbz.2)))) | omega))
  k_with "isTrue Compare" => ((k_here; k_dflt (refine' cmp_pe (hm := by with_unfolding_all rfl) ?zqcbF ?zqcbv ?zqcbw ?_ ?zqcba; (case zqcbF => k_asm); (case zqcba => rfl); (case zqcbv => exact Eq.refl (some (_, _))); (case zqcbw => exact Eq.refl (some (_, _))); k_whole)))
  k_with "eval Name" => ((k_here; k_dflt (refine' nameX_L ?zqcbF ?zqcbv ?_ ?zqcba ?zqcbb; (case zqcbF => k_asm); (case zqcba => rfl); (case zqcbb => rfl); (case zqcbv => exact Eq.refl (some _)); k_whole)))
  k_with "exec For Name Name cons nil" => ((k_here; (rename Fr _ _ _ _ => lF'); (with_unfolding_all refine' For_invVF lF' ?zqk1 ?zqk2 ?_; (case zqk1 => exact rfl); (case zqk2 => exact rfl); k_whole)))
  k_with "pyIter bytes" => (k_dflt ((rename Fr _ _ _ _ => lF'); (rename News _ _ _ _ => lN'); refine' by_for (σ := Unit) (fun _ => []) [] (fun pre _ => pre.all (List.contains sg) = true) () ?zqhh lF' lN' ?zqhk ?zqhp ?_ ?_; (case zqhk => exact (fun _ h => nomatch h)); (case zqhh => exact rfl); (case zqhp => exact rfl); (all_goals (clear lF' lN')); (all_goals (first | (intro cC cPre cY cPost cT cU cH cTk cOwn cE cO cP cF cN; (try dsimp only [kstB] at cF); (try dsimp only at cN); (try simp only [List.cons_append, List.nil_append] at cN)) | (intro cC cU cH cTk cP cF cN; (try dsimp only [kstB] at cF); (try dsimp only at cN))))))
  k_with "InvEndN" => ((k_here; k_dflt ((rename News _ _ _ _ => nE'); (rename Fr _ _ _ _ => fE'); refine' by_end () fE' nE' ?zqz1 ?zqz2 rfl ?zqz4 ?zqz5 ?zqz6; (case zqz1 => ktr_rel); (case zqz2 => ktr_rel); (case zqz4 => exact (fun _ h => nomatch h)); (case zqz5 => kst_same); (case zqz6 => refine' allStep ?zqx ?zqy; (case zqx => assumption); (case zqy => assumption)))))
  w_strict (
    refine wpAny_call ?_
    k_dflt cell_enter
    k_steps
    all_goals first | (refine' hret _ _ _ _ (pBool ?ze0) ?ze1 ?ze2; (case ze1 => assumption); (case ze2 => tb_rel); (case ze0 => first | (refine' Eq.symm ?zh; (case zh => assumption)) | (refine' allStop ?zx ?zy; (case zx => assumption); (case zy => assumption)))) | trace_state)
-- a class is called
theorem crudSame : List.contains [0, 1, 2, 3, 4, 5, 6, 7, 8, 9, 10, 11, 12, 13, 14, 15, 16, 17, 18, 19, 20, 21, 22, 23, 24, 25, 26, 27, 28, 29, 30, 31, 32, 46, 44, 58, 59, 60, 62, 34, 92, 39] = crud := by
  funext c
  have key : ∀ n : Nat, n < 256 → List.contains [0, 1, 2, 3, 4, 5, 6, 7, 8, 9, 10, 11, 12, 13, 14, 15, 16, 17, 18, 19, 20, 21, 22, 23, 24, 25, 26, 27, 28, 29, 30, 31, 32, 46, 44, 58, 59, 60, 62, 34, 92, 39] (UInt8.ofNat n) = crud (UInt8.ofNat n) := by decide +kernel
  have h := key c.toNat c.toNat_lt
  rw [UInt8.ofNat_toNat] at h
  exact h
theorem con_trimCrud (w : World) (led : List (Addr × Obj)) (l : List UInt8) (t u : Tok) (hl : l.length ≤ 100000) : Con w 125 1 8 led [.bytes l.toArray t, .bytes #[0, 1, 2, 3, 4, 5, 6, 7, 8, 9, 10, 11, 12, 13, 14, 15, 16, 17, 18, 19, 20, 21, 22, 23, 24, 25, 26, 27, 28, 29, 30, 31, 32, 46, 44, 58, 59, 60, 62, 34, 92, 39] u] (PBytes led (trimB crud l)) := by
  have h := con_trimmed w led l [0, 1, 2, 3, 4, 5, 6, 7, 8, 9, 10, 11, 12, 13, 14, 15, 16, 17, 18, 19, 20, 21, 22, 23, 24, 25, 26, 27, 28, 29, 30, 31, 32, 46, 44, 58, 59, 60, 62, 34, 92, 39] t u hl
  rw [crudSame] at h
  exact h
noncomputable def dropQ (c : UInt8) : Bool := !(List.contains [60, 62, 10, 0] c)
theorem dropQ_is (c : UInt8) : dropQ c = !lawDrop c := by
  have key : ∀ n : Nat, n < 256 → dropQ (UInt8.ofNat n) = !lawDrop (UInt8.ofNat n) := by decide +kernel
  have h := key c.toNat c.toNat_lt
  rw [UInt8.ofNat_toNat] at h
  exact h
theorem kept_is (l : List UInt8) : (trimB crud l).filter dropQ = lawPlain l := by
  unfold lawPlain
  congr 1
  funext c
  exact dropQ_is c
theorem cut_trim (p : UInt8 → Bool) (l : List UInt8) : (trimB p l).length ≤ l.length := by
  unfold trimB
  have h1 := cut_le p (l.dropWhile p)
  have h2 := (List.dropWhile_sublist p (l := l)).length_le
  omega
theorem keptLen {y : List UInt8} (h : y.length ≤ 1000) : ((trimB crud y).filter dropQ).length ≤ 1000000 := by
  have h1 := List.length_filter_le dropQ (trimB crud y)
  have h2 := cut_trim crud y
  omega
theorem ba_bytesL {prog : Program} {w : World} {A : Around} {E : Value → Shared → Prop} {s : Shared} {h₀ : Heap} {L K : Addr} {news : List (Addr × Obj)} {b : List UInt8} {Q : Value → Shared → Prop} (N : News h₀ L s.heap news) (hm : (K, baObj b.toArray) ∈ news) (hz : b.length ≤ 1000000)
    (h : ∀ t k, Q (.bytes b.toArray t) { s with toks := k }) : wpAny (model prog w) A (call (.type "bytes") [.ref K]) Q E s := ba_bytes (N _ hm).1 (by rw [sizeLine_eq]; simp; omega) h
theorem dropN {c : UInt8} (h : List.contains [60, 62, 10, 0] c = true) : ¬ dropQ c = true := by unfold dropQ; rw [h]; simp
theorem dropY {c : UInt8} (h : List.contains [60, 62, 10, 0] c = false) : dropQ c = true := by unfold dropQ; rw [h]; rfl
theorem led_grow {D P : Addr} {o1 : Obj} {k : Nat} {t : Tok} {led : List (Addr × Obj)} {y : List UInt8} {ws : List Value} : ∃ t' k', (D, o1) :: (P, listOf (ws.toArray.push (Value.bytes ((trimB crud y).filter dropQ).toArray t)) k) :: led = (D, o1) :: (P, listOf (ws ++ [Value.bytes (lawPlain y).toArray t']).toArray k') :: led :=
  ⟨t, k, by rw [← kept_is]; simp⟩
theorem bs_two {ws : List Value} {a b : List UInt8} (h : BsAre ws [a, b]) : ∃ t u, ws = [.bytes a.toArray t, .bytes b.toArray u] := by
  cases h with
  | cons _ _ h =>
    cases h with
    | cons _ _ h =>
      cases h
      exact ⟨_, _, rfl⟩
theorem two_len {n e y : List UInt8} (hn : n.length ≤ 1000) (he : e.length ≤ 1000) (hy : y ∈ [n, e]) : y.length ≤ 1000 := by
  rcases List.mem_cons.mp hy with rfl | hy
  · exact hn
  · rw [List.mem_singleton.mp hy]; exact he
inductive PPers (w : World) (led : List (Addr × Obj)) (a b : List UInt8) (k : Int) (z : List UInt8) (r : Value) (led' : List (Addr × Obj)) : Prop
  | mk (x dx : Addr) (t1 t2 t3 t4 u1 u2 u3 u4 : Tok) (n : Nat) (e1 : r = .ref x) (e2 : led' = (x, instObj 156 dx) :: (dx, dictOf [⟨PyData.keyHash w.params (PySem.Str.ofString "name"), .str (PySem.Str.ofString "name") t1, .bytes a.toArray u1⟩, ⟨PyData.keyHash w.params (PySem.Str.ofString "email"), .str (PySem.Str.ofString "email") t2, .bytes b.toArray u2⟩, ⟨PyData.keyHash w.params (PySem.Str.ofString "when"), .str (PySem.Str.ofString "when") t3, .int k u3⟩, ⟨PyData.keyHash w.params (PySem.Str.ofString "zone"), .str (PySem.Str.ofString "zone") t4, .bytes z.toArray u4⟩] n) :: led) : PPers w led a b k z r led'
theorem News.no34 {h₀ h : Heap} {L : Addr} {a b x y : Addr × Obj} {r : List (Addr × Obj)} (N : News h₀ L h (a :: b :: x :: y :: r)) : News h₀ L h (a :: b :: r) := fun p hp => N p (by
  rcases List.mem_cons.mp hp with rfl | hp
  · exact .head _
  · rcases List.mem_cons.mp hp with rfl | hp
    · exact .tail _ (.head _)
    · exact .tail _ (.tail _ (.tail _ (.tail _ hp))))
set_option maxHeartbeats 3000000 in
theorem conS_cleaned (w : World) (led : List (Addr × Obj)) (n e : List UInt8) (t1 t2 t3 t4 : Tok) (wh : Int) (zn : List UInt8) (hn : n.length ≤ 1000) (he : e.length ≤ 1000) :
    ConS w 174 6 300 led [.bytes n.toArray t1, .bytes e.toArray t2, .int wh t3, .bytes zn.toArray t4] (PPers w led (lawPlain n) (lawPlain e) wh zn) := by
  unfold ConS
  k_fill
  intro dp un gd cn cs a ccd cl outer A₀ base h₀ L m s Q p loose mean mg mb B F X N T hk hd hu hret
  k_with_none
  k_with "tb_start" => (
      first
      | (refine' Nat.le_trans ?zqq1 (Nat.le_of_ble_eq_true ?zqq2); (case zqq1 => with_reducible assumption); (case zqq2 => exact rfl))
      | omega
      | (simp only [List.length_append, List.length_cons, List.length_nil, List.length_map, List.length_take, List.length_drop]; omega)
      | ((try simp only [List.length_append, List.length_cons, List.length_nil]); (first | refine Nat.le_trans (sl_length _ _) ?_ | skip); omega)
      | fail "size")
  k_with "compareOp NotIn" => ((k_here; (with_reducible show wpAny _ _ (compareOp CmpOp.NotIn (Value.int (Nat.cast (UInt8.toNat _)) _) (Value.bytes (List.toArray _) _)) _ _ _); (refine notInB ?_)))
  k_with "k_all" => (lcg_off)
  k_with "units_room" => (first | exact roomA hu rfl | exact roomB hu rfl | exact roomC hu rfl | (have hcL9 := cLine_is; (try simp only [units_in1, units_deeper, Around.mark_units, units_caller] at *); (try dsimp only [ktrTop] at *); omega))
  k_with "ktr_unf" => (
      first
      | assumption
      | exact List.Mem.head _
      | (refine' List.mem_append_left _ ?_; ktr_unf)
      | (refine' List.Mem.tail _ ?_; ktr_unf))
  k_with "lcg_off" => (
      first
      | assumption
      | (refine' off_lt ?zqal; (case zqal => assumption))
      | (refine' off_lt1 ?zqal; (case zqal => assumption))
      | (refine' OwnOff.ne ?zqal ?zqam; (case zqal => assumption); (case zqam => first | exact List.Mem.head _ | (simp; done)))
      | (refine' off_app ?zqal ?zqam; (case zqal => lcg_off); (case zqam => lcg_off))
      | (apply off_cons; assumption)
      | (refine' (fmc ?zqla ?zqlb); (case zqla => k_ne); (case zqlb => lcg_off))
      | (apply off_tail1; assumption)
      | (apply off_cons; apply off_cons; assumption)
      | (refine' ltNe ?zqal; (case zqal => first | assumption | (apply And.right; assumption) | (apply And.right; apply And.right; assumption) | (apply And.right; apply And.right; apply And.right; assumption) | (apply And.right; apply And.right; apply And.right; apply And.right; assumption) | (apply And.right; apply And.right; apply And.right; apply And.right; apply And.right; assumption))))
  k_with "ktr_room" => (first | exact roomA hd rfl | exact roomB hd rfl | exact roomC hd rfl)
  k_with "k_ne" => ((refine neN ?_; (try dsimp only); first | (refine' neLt ?zqcbh ?zqcbk; (case zqcbh => with_reducible assumption); (case zqcbk => (intro cbz; repeat (first | exact cbz.1 | replace cbz := cbz.2)))) | (refine' neGt ?zqcbh ?zqcbk; (case zqcbh => with_reducible assumption); (case zqcbk => (intro cbz; repeat (first | exact cbz.1 | replace cbz := cbz.2)))) | omega))
  k_with "spliced" => ((k_here; k_dflt (refine' pes_eval ?zqcbF ?zqcbv ?_ ?zqcba; (case zqcbF => k_asm); (case zqcba => rfl); (case zqcbv => exact Eq.refl (some (_, _))); k_whole); (try dsimp only [List.cons_append, List.nil_append])))
  k_with "isTrue Compare" => ((k_here; k_dflt (refine' cmp_pe (hm := by with_unfolding_all rfl) ?zqcbF ?zqcbv ?zqcbw ?_ ?zqcba; (case zqcbF => k_asm); (case zqcba => rfl); (case zqcbv => exact Eq.refl (some (_, _))); (case zqcbw => exact Eq.refl (some (_, _))); k_whole)))
  k_with "eval Subscript" => ((k_here; k_dflt (refine' sub_pe ?zqcbF ?zqcbv ?zqcbw ?_ ?zqcba; (case zqcbF => k_asm); (case zqcba => rfl); (case zqcbv => exact Eq.refl (some (_, _))); (case zqcbw => exact Eq.refl (some (_, _))); k_whole)))
  k_with "eval Name" => ((k_here; k_dflt (refine' nameX_L ?zqcbF ?zqcbv ?_ ?zqcba ?zqcbb; (case zqcbF => k_asm); (case zqcba => rfl); (case zqcbb => rfl); (case zqcbv => exact Eq.refl (some _)); k_whole)))
  k_with "storeName" => ((k_here; k_dflt (refine' storeL ?zqcbF ?zqcbN ?_ ?zqcba ?zqcbb; (case zqcbF => k_asm); (case zqcbN => k_asm); (case zqcba => rfl); (case zqcbb => rfl); k_whole); intro _ _ _ _; (try k_sweep)))
  k_with "ks_enter" => ((refine' code_def ?zqk1 ?zqk2 ?zqk3 ?zqk4 ?zqk5 ?zqkA ?zqkF ?zqkK ?zqk6 ?zqk7 ?zqk8 ?zqk9 ?zqkB ?_ ?zqc2 ?zqc3 ?zqc4 ?zqc5; (case zqkA => exact rfl); (case zqkF => exact rfl); (case zqkK => exact rfl); (case zqk1 => k_asm); (case zqk2 => k_asm); (case zqk3 => k_asm); (case zqk4 => k_asm); (case zqk5 => k_asm); (case zqk6 => k_is); (case zqk7 => k_is); (case zqk8 => ktr_room); (case zqk9 => first | exact BindsTo.of_eq rfl | exact binds_K (by k_in) rfl (by k_is) rfl rfl rfl); (case zqc5 => decide); (case zqkB => exact locs rfl); (case zqc2 => exact rfl); (case zqc3 => exact rfl); (case zqc4 => exact rfl); k_whole; intro g' L' h' FG' F' N' B' X' T'; (try dsimp only); (try k_lift B'); (try k_fold)))
  k_with "call ref" => ((k_here; k_dflt (refine' call_cls ?zqk1 ?zqk2 ?zqk3 ?zqk4 ?zqk5 ?zqk6 ?_; (case zqk1 => k_asm); (case zqk2 => k_asm); (case zqk3 => k_asm); (case zqk4 => k_is); (case zqk5 => k_is); (case zqk6 => k_is); k_whole; intro x' d' h' F' N' l1 l2; (try k_lt l1); (try k_lt2 l2); (try k_sweep); ks_enter)))
  k_with "call ref" => ((k_here; (with_reducible show wpAny _ _ (call (Value.ref 125) _) _ _ _); k_dflt (refine' Con.useB (con_trimCrud _ _ _ _ _ ?zqc1) ?zqn1 ?zqn2 ?zqn3 ?zqn4 ?zqn5 ?zqn6 ?zqn7 ?zqn8 ?_; (case zqn4 => assumption); (case zqn1 => k_asm); (case zqn2 => k_asm); (case zqn3 => k_asm); (case zqn5 => k_asm); (case zqn6 => exact rfl); (case zqn7 => ktr_room); (case zqn8 => units_room); (case zqc1 => tb_start)); intro _ _ _ _ _; (try dsimp only)))
  k_with "call type:bytes" => ((k_here; (with_reducible show wpAny _ _ (call (Value.type "bytes") [Value.ref _]) _ _ _); k_dflt (refine' ba_bytesL ?zqn1 ?zqn2 ?zqn3 ?_; (case zqn1 => assumption); (case zqn2 => ktr_unf); (case zqn3 => refine' keptLen ?zqx; (case zqx => assumption)); intro _ _; (try dsimp only))))
  k_with "S enter" => ((refine' codeS_def ?zqk1 ?zqk2 ?zqk3 ?zqk4 ?zqk5 ?zqkA ?zqkF ?zqkK ?zqk6 ?zqk7 ?zqk8 ?zqk9 ?zqkB ?_ ?zqc2 ?zqc3 ?zqc4 ?zqc5; (case zqkA => exact rfl); (case zqkF => exact rfl); (case zqkK => assumption); (case zqk1 => k_asm); (case zqk2 => k_asm); (case zqk3 => k_asm); (case zqk4 => k_asm); (case zqk5 => k_asm); (case zqk6 => k_is); (case zqk7 => k_is); (case zqk8 => ktr_room); (case zqk9 => first | exact BindsTo.of_eq rfl | exact binds_K (by k_in) rfl (by k_is) rfl rfl rfl); (case zqc5 => decide); (case zqkB => exact locs rfl); (case zqc2 => exact rfl); (case zqc3 => exact rfl); (case zqc4 => exact rfl); k_whole; intro g' L' h' FG' F' N' B' X' T'; (try dsimp only); (try k_lift B'); (try k_fold)))
  w_strict (
    refine wpS.call ?_
    k_dflt (k_extra "S enter")
    refine wpS.execs_consA ?_
    k_steps
    refine wpS.execs_cons (wpS.For (hs := by intro _; rfl) ?_)
    k_steps
    (rename Fr _ _ _ _ => lF'); (rename News _ _ _ _ => lN')
    k_dflt (refine S_forTP lawPlain (fun P => [(PySem.Str.ofString "parts", .ref P), (PySem.Str.ofString "when", .int wh t3), (PySem.Str.ofString "zone", .bytes zn.toArray t4)]) rfl rfl rfl lF' lN' (.cons _ _ (.cons _ _ .nil)) ?_ ?_ ?_ ?_ ?_)
    · kst_all
    · k_ne
    · lcg_off
    · intro D P hDP hPr y u ws k m₁ I oI h tk hy hws hDI hPI hrI F₁ N₁
      have hyl : y.length ≤ 1000 := two_len hn he hy
      dsimp only [kstB] at F₁
      refine wpS.execs_cons (S_assignBA F₁ N₁ ?_ rfl rfl ?_)
      · k_steps
      · intro K h2 tk2 hK F₂ N₂
        have hK0 := off_lt hK
        k_lt hK
        dsimp only
        refine wpS.execs_cons (wpS.For (hs := by intro _; rfl) ?_)
        k_steps
        (rename Fr _ _ _ _ => lF2); (rename News _ _ _ _ => lN2)
        k_dflt (refine S_forB dropQ [(PySem.Str.ofString "kept", .ref K), (PySem.Str.ofString "octets", .bytes y.toArray u), (PySem.Str.ofString "parts", .ref P), (PySem.Str.ofString "when", .int wh t3), (PySem.Str.ofString "zone", .bytes zn.toArray t4)] rfl rfl rfl lF2 lN2 ?_ ?_ ?_)
        · kst_all
        · intro c v acc m₂ J oJ h3 tk3 hacc hKJ hrJ F₃ N₃
          dsimp only [kstB] at F₃
          refine wpS.execs_cons (wpS.If (.any ?_))
          k_steps
          · refine wpS.execs_nil (wpS.execs_nil (SEnd.intro F₃ ?_ N₃ ?_))
            · kst_all
            · rw [if_neg (dropN (by assumption))]
          · refine wpS.execs_cons (S_appendStmt (he := by rfl) (hi := by rfl) (hs := by rfl) F₃ N₃ hKJ hK0 rfl rfl rfl rfl rfl (by have := cut_trim crud y; omega) (by decide) (by decide) (fun h' F₄ N₄ => ?_))
            refine wpS.execs_nil (wpS.execs_nil (SEnd.intro F₄ ?_ N₄ ?_))
            · kst_all
            · rw [if_pos (dropY (by assumption))]
        · intro h3 tk3 m₂ F₃ N₃
          dsimp only [kstB] at F₃
          refine wpS.execs_consA ?_
          k_steps
          (rename News _ _ _ _ => nE); (rename Fr _ _ _ _ => fE)
          refine wpS.execs_nil (SEnd.intro fE ?_ (fun p hp => nE p (.tail _ hp)) led_grow)
          kst_all
    · intro D P h tk m' ws k hws F₁ N₁
      dsimp only [kstB] at F₁
      obtain ⟨ta, tb, rfl⟩ := bs_two (a := lawPlain n) (b := lawPlain e) hws
      refine wpS.execs_consA ?_
      k_steps
      refine' hret _ _ _ _ ⟨_, _, _, _, _, _, _, _, _, _, _, rfl, rfl⟩ ?zf (News.no34 ?zn)
      case zf => assumption
      case zn => assumption)
-- a class is called
theorem News.rot33 {h₀ h : Heap} {L : Addr} {x y z a b : Addr × Obj} {r : List (Addr × Obj)} (N : News h₀ L h (x :: y :: z :: a :: b :: r)) : News h₀ L h (a :: b :: x :: y :: z :: r) := fun p hp => N p (by simp only [List.mem_cons] at hp ⊢; grind)
noncomputable def endsL : List (List UInt8) := [[], [32], [46], [44, 32], [34, 39], [60], [0, 9], [62, 59, 58], [92]]
noncomputable def someL : List (List UInt8) := [[65], [97, 46, 98], [120, 32, 60, 121, 62, 32, 122], [10], [99, 0, 100], [195, 169], []]
theorem bsEnds {a b c d e f g h i : Tok} : BsAre [.bytes #[] a, .bytes #[32] b, .bytes #[46] c, .bytes #[44, 32] d, .bytes #[34, 39] e, .bytes #[60] f, .bytes #[0, 9] g, .bytes #[62, 59, 58] h, .bytes #[92] i] endsL := by
  unfold endsL
  repeat (first | exact .nil | refine .cons _ _ ?_)
theorem bsSome {a b c d e f g : Tok} : BsAre [.bytes #[65] a, .bytes #[97, 46, 98] b, .bytes #[120, 32, 60, 121, 62, 32, 122] c, .bytes #[10] d, .bytes #[99, 0, 100] e, .bytes #[195, 169] f, .bytes #[] g] someL := by
  unfold someL
  repeat (first | exact .nil | refine .cons _ _ ?_)
theorem endsLen {x : List UInt8} (h : x ∈ endsL) : x.length ≤ 10 := by
  have key : ∀ x ∈ endsL, x.length ≤ 10 := by decide
  exact key x h
theorem someLen {x : List UInt8} (h : x ∈ someL) : x.length ≤ 10 := by
  have key : ∀ x ∈ someL, x.length ≤ 10 := by decide
  exact key x h
theorem ConS.use {w : World} {f : Addr} {d u : Nat} {led : List (Addr × Obj)} {vs : List Value} {Post : Value → List (Addr × Obj) → Prop} (C : ConS w f d u led vs Post)
    {dp un : Nat} {gd : Option (List Code)} {cn : Str} {cs : Scope} {a : Addr} {ccd : Value} {cl : List (Str × Addr)} {outer : List Env} {A₀ : Around} {base h₀ : Heap} {L : Addr} {m : Str → Option Value} {s : Shared} {Q : Value → Shared → Prop}
    {p : Program} {loose : List Str} {mean : ExcName → Option Value} {mg mb : Str → Option Value}
    (B : Below A₀ base outer h₀) (F : Fr h₀ L s.heap m) (X : (Mine.frag.heap_1 w.params).In h₀) (N : News h₀ L s.heap led) (T : Top p loose mean mg mb h₀) (hk : cs.kind = .function)
    (hd : dp + d < recursionLimit) (hu : un + u < cLine)
    (ret : ∀ (r : Value) (led' : List (Addr × Obj)) (h' : Heap) (tk' : Nat), Post r led' → Fr h₀ L h' m → News h₀ L h' led' → Q r { s with heap := h', toks := tk' }) :
    wpS (model PySem.Challenge.rw_nt0282_01.row.prog w) (ktrTop dp un gd cn cs L a ccd cl outer) (call (.ref f) vs) Q s := C _ _ _ _ _ _ _ _ _ _ _ _ _ _ _ _ _ _ _ _ _ B F X N T hk hd hu ret
set_option maxHeartbeats 6000000 in
theorem conS_people (w : World) (rest : List (Addr × Obj)) (d D : Addr) (o : Obj) (ws : List Value) (n Bd : Nat)
    (hD : Deck w d D Bd o ws) (hB : Bd ≤ 900) (hs1 : ∀ p ∈ rest, p.1 ≠ d) (hs2 : ∀ p ∈ rest, p.1 ≠ D) :
    ConS w 425 8 508 ((d, o) :: (D, listOf ws.toArray n) :: rest) [.ref d] (PTrue w rest d D Bd 6) := by
  unfold ConS
  k_fill
  intro dp un gd cn cs a ccd cl outer A₀ base h₀ L m s Q p loose mean mg mb B F X N T hk hd hu hret
  k_with_none
  k_with "tb_start" => (
      first
      | (refine' Nat.le_trans ?zqq1 (Nat.le_of_ble_eq_true ?zqq2); (case zqq1 => with_reducible assumption); (case zqq2 => exact rfl))
      | omega
      | (simp only [List.length_append, List.length_cons, List.length_nil, List.length_map, List.length_take, List.length_drop]; omega)
      | ((try simp only [List.length_append, List.length_cons, List.length_nil]); (first | refine Nat.le_trans (sl_length _ _) ?_ | skip); omega)
      | fail "size")
  k_with "binaryOp Add bytes bytes" => ((k_here; (with_reducible show wpAny _ _ (binaryOp Operator.Add (Value.bytes (List.toArray _) _) (Value.bytes (List.toArray _) _)) _ _ _); (refine addB (by tb_start) ?_); intro _ _))
  k_with "ktr_rel" => (
      (intro cbp cbh; first
      | exact cbh
      | exact List.mem_cons_of_mem _ cbh
      | exact List.mem_cons_of_mem _ (List.mem_cons_of_mem _ cbh)
      | (simp only [List.mem_cons, List.mem_append] at cbh ⊢; first | exact cbh | (simp [cbh]; done) | grind)
      | grind))
  k_with "units_room" => (first | exact roomA hu rfl | exact roomB hu rfl | exact roomC hu rfl | (have hcL9 := cLine_is; (try simp only [units_in1, units_deeper, Around.mark_units, units_caller] at *); (try dsimp only [ktrTop] at *); omega))
  k_with "ktr_unf" => (
      first
      | assumption
      | exact List.Mem.head _
      | (refine' List.mem_append_left _ ?_; ktr_unf)
      | (refine' List.Mem.tail _ ?_; ktr_unf))
  k_with "lcg_off" => (
      first
      | assumption
      | (refine' off_lt ?zqal; (case zqal => assumption))
      | (refine' off_lt1 ?zqal; (case zqal => assumption))
      | (refine' OwnOff.ne ?zqal ?zqam; (case zqal => assumption); (case zqam => first | exact List.Mem.head _ | (simp; done)))
      | (refine' off_app ?zqal ?zqam; (case zqal => lcg_off); (case zqam => lcg_off))
      | (apply off_cons; assumption)
      | (refine' (fmc ?zqla ?zqlb); (case zqla => k_ne); (case zqlb => lcg_off))
      | (apply off_tail1; assumption)
      | (apply off_cons; apply off_cons; assumption)
      | (refine' ltNe ?zqal; (case zqal => first | assumption | (apply And.right; assumption) | (apply And.right; apply And.right; assumption) | (apply And.right; apply And.right; apply And.right; assumption) | (apply And.right; apply And.right; apply And.right; apply And.right; assumption) | (apply And.right; apply And.right; apply And.right; apply And.right; apply And.right; assumption))))
  k_with "ktr_room" => (first | exact roomA hd rfl | exact roomB hd rfl | exact roomC hd rfl)
  k_with "k_ne" => ((refine neN ?_; (try dsimp only); first | (refine' neLt ?zqcbh ?zqcbk; (case zqcbh => with_reducible assumption); (case zqcbk => (intro cbz; repeat (first | exact cbz.1 | replace cbz := cbz.2)))) | (refine' neGt ?zqcbh ?zqcbk; (case zqcbh => with_reducible assumption); (case zqcbk => (intro cbz; repeat (first | exact cbz.1 | replace cbz := cbz.2)))) | omega))
  k_with "spliced" => ((k_here; k_dflt (refine' pes_eval ?zqcbF ?zqcbv ?_ ?zqcba; (case zqcbF => k_asm); (case zqcba => rfl); (case zqcbv => exact Eq.refl (some (_, _))); k_whole); (try dsimp only [List.cons_append, List.nil_append])))
  k_with "eval Name" => ((k_here; k_dflt (refine' nameX_L ?zqcbF ?zqcbv ?_ ?zqcba ?zqcbb; (case zqcbF => k_asm); (case zqcba => rfl); (case zqcbb => rfl); (case zqcbv => exact Eq.refl (some _)); k_whole)))
  k_with "storeName" => ((k_here; k_dflt (refine' storeL ?zqcbF ?zqcbN ?_ ?zqcba ?zqcbb; (case zqcbF => k_asm); (case zqcbN => k_asm); (case zqcba => rfl); (case zqcbb => rfl); k_whole); intro _ _ _ _; (try k_sweep)))
  k_with "eval Call" => ((k_here; k_dflt (refine' callK_pe (hd := by decide) ?zqcbF ?zqcbX ?zqcbT ?zqcbe ?zqcbf ?zqcbv ?_ ?zqcba ?zqcbb; (case zqcbF => k_asm); (case zqcbX => k_asm); (case zqcbT => k_asm); (case zqcba => rfl); (case zqcbb => rfl); (case zqcbe => k_is); (case zqcbf => k_is); (case zqcbv => exact Eq.refl (some (_, _))); k_whole); (try dsimp only [List.cons_append, List.nil_append])))
  k_with "ks_enter" => ((refine' code_def ?zqk1 ?zqk2 ?zqk3 ?zqk4 ?zqk5 ?zqkA ?zqkF ?zqkK ?zqk6 ?zqk7 ?zqk8 ?zqk9 ?zqkB ?_ ?zqc2 ?zqc3 ?zqc4 ?zqc5; (case zqkA => exact rfl); (case zqkF => exact rfl); (case zqkK => exact rfl); (case zqk1 => k_asm); (case zqk2 => k_asm); (case zqk3 => k_asm); (case zqk4 => k_asm); (case zqk5 => k_asm); (case zqk6 => k_is); (case zqk7 => k_is); (case zqk8 => ktr_room); (case zqk9 => first | exact BindsTo.of_eq rfl | exact binds_K (by k_in) rfl (by k_is) rfl rfl rfl); (case zqc5 => decide); (case zqkB => exact locs rfl); (case zqc2 => exact rfl); (case zqc3 => exact rfl); (case zqc4 => exact rfl); k_whole; intro g' L' h' FG' F' N' B' X' T'; (try dsimp only); (try k_lift B'); (try k_fold)))
  k_with "call ref" => ((k_here; k_dflt (refine' call_cls ?zqk1 ?zqk2 ?zqk3 ?zqk4 ?zqk5 ?zqk6 ?_; (case zqk1 => k_asm); (case zqk2 => k_asm); (case zqk3 => k_asm); (case zqk4 => k_is); (case zqk5 => k_is); (case zqk6 => k_is); k_whole; intro x' d' h' F' N' l1 l2; (try k_lt l1); (try k_lt2 l2); (try k_sweep); ks_enter)))
  k_with "compareOp Eq ref ref" => ((k_here; (with_reducible show wpAny _ _ (compareOp CmpOp.Eq (Value.ref _) (Value.ref _)) _ _ _); k_dflt (refine' eqTup ?zqn1 ?zqn2 ?zqn3 ?zqn4 ?zqn5 ?_; (case zqn1 => assumption); (case zqn2 => ktr_unf); (case zqn3 => ktr_unf); (case zqn4 => units_room); (case zqn5 => repeat (first | exact SameVs.nil | refine SameVs.bytes ?_ | refine SameVs.int ?_)))))
  k_with "compareOp NotEq ref ref" => ((k_here; (with_reducible show wpAny _ _ (compareOp CmpOp.NotEq (Value.ref _) (Value.ref _)) _ _ _); k_dflt (refine' neTup ?zqn1 ?zqn2 ?zqn3 ?zqn4 ?zqn5 ?_; (case zqn1 => assumption); (case zqn2 => ktr_unf); (case zqn3 => ktr_unf); (case zqn4 => units_room); (case zqn5 => repeat (first | exact SameVs.nil | refine SameVs.bytes ?_ | refine SameVs.int ?_)))))
  k_with "call ref" => ((k_here; (with_reducible show wpAny _ _ (call (Value.ref 368) _) _ _ _); k_dflt (refine' use_pickB ?zqc1 ?zqc2 bsEnds ?zqc3 ?zqc4 ?zqc8 ?zqc5 ?zqc6 ?zqn1 ?zqn2 ?zqn3 ?zqn4 ?zqn5 ?zqn6 ?zqn7 ?zqn8 ?_; (case zqn4 => first | assumption | (refine' News.rot1d ?zqr; (case zqr => assumption)) | (refine' News.rot2 ?zqr; (case zqr => assumption)) | (refine' News.rot3 ?zqr; (case zqr => assumption)) | (refine' News.rot33 ?zqr; (case zqr => assumption))); (case zqc8 => ktr_unf); (case zqn1 => k_asm); (case zqn2 => k_asm); (case zqn3 => k_asm); (case zqn5 => k_asm); (case zqn6 => exact rfl); (case zqn7 => ktr_room); (case zqn8 => units_room); (case zqc1 => assumption); (case zqc2 => omega); (case zqc3 => decide); (case zqc4 => decide); (case zqc5 => lcg_off); (case zqc6 => lcg_off)); intro _ _ _ _ _ _ _ cM _ _ _; (have cM := endsLen cM); (try dsimp only)))
  k_with "call ref" => ((k_here; (with_reducible show wpAny _ _ (call (Value.ref 368) _) _ _ _); k_dflt (refine' use_pickB ?zqc1 ?zqc2 bsSome ?zqc3 ?zqc4 ?zqc8 ?zqc5 ?zqc6 ?zqn1 ?zqn2 ?zqn3 ?zqn4 ?zqn5 ?zqn6 ?zqn7 ?zqn8 ?_; (case zqn4 => first | assumption | (refine' News.rot1d ?zqr; (case zqr => assumption)) | (refine' News.rot2 ?zqr; (case zqr => assumption)) | (refine' News.rot3 ?zqr; (case zqr => assumption)) | (refine' News.rot33 ?zqr; (case zqr => assumption))); (case zqc8 => ktr_unf); (case zqn1 => k_asm); (case zqn2 => k_asm); (case zqn3 => k_asm); (case zqn5 => k_asm); (case zqn6 => exact rfl); (case zqn7 => ktr_room); (case zqn8 => units_room); (case zqc1 => assumption); (case zqc2 => omega); (case zqc3 => decide); (case zqc4 => decide); (case zqc5 => lcg_off); (case zqc6 => lcg_off)); intro _ _ _ _ _ _ _ cM _ _ _; (have cM := someLen cM); (try dsimp only)))
  k_with "S cleaned" => ((refine' ConS.use (conS_cleaned _ _ _ _ _ _ _ _ _ _ ?zqc1 ?zqc2) ?zqn1 ?zqn2 ?zqn3 ?zqn4 ?zqn5 ?zqn6 ?zqn7 ?zqn8 ?_; (case zqn4 => assumption); (case zqn1 => k_asm); (case zqn2 => k_asm); (case zqn3 => k_asm); (case zqn5 => k_asm); (case zqn6 => exact rfl); (case zqn7 => ktr_room); (case zqn8 => units_room); (case zqc1 => tb_start); (case zqc2 => tb_start)))
  k_with "call ref" => ((k_here; (with_reducible show wpAny _ _ (call (Value.ref 404) _) _ _ _); k_dflt (refine' Con.useB (con_plain _ _ _ _ ?zqc1) ?zqn1 ?zqn2 ?zqn3 ?zqn4 ?zqn5 ?zqn6 ?zqn7 ?zqn8 ?_; (case zqn4 => assumption); (case zqn1 => k_asm); (case zqn2 => k_asm); (case zqn3 => k_asm); (case zqn5 => k_asm); (case zqn6 => exact rfl); (case zqn7 => ktr_room); (case zqn8 => units_room); (case zqc1 => tb_start)); intro _ _ _ _ _; (try dsimp only)))
  k_with "S enter" => ((refine' codeS_def ?zqk1 ?zqk2 ?zqk3 ?zqk4 ?zqk5 ?zqkA ?zqkF ?zqkK ?zqk6 ?zqk7 ?zqk8 ?zqk9 ?zqkB ?_ ?zqc2 ?zqc3 ?zqc4 ?zqc5; (case zqkA => exact rfl); (case zqkF => exact rfl); (case zqkK => assumption); (case zqk1 => k_asm); (case zqk2 => k_asm); (case zqk3 => k_asm); (case zqk4 => k_asm); (case zqk5 => k_asm); (case zqk6 => k_is); (case zqk7 => k_is); (case zqk8 => ktr_room); (case zqk9 => first | exact BindsTo.of_eq rfl | exact binds_K (by k_in) rfl (by k_is) rfl rfl rfl); (case zqc5 => decide); (case zqkB => exact locs rfl); (case zqc2 => exact rfl); (case zqc3 => exact rfl); (case zqc4 => exact rfl); k_whole; intro g' L' h' FG' F' N' B' X' T'; (try dsimp only); (try k_lift B'); (try k_fold)))
  w_strict (
    refine wpS.call ?_
    k_dflt (k_extra "S enter")
    refine wpS.execs_consA ?_
    k_steps
    refine wpS.execs_consA ?_
    k_steps
    refine wpS.execs_consA ?_
    k_steps
    k_dflt (refine wpS.execs_cons (wpS.Assign_Name (hs := by rfl) (S_callK (hst := by rfl) (hp := by rfl) (hl := by rfl) (he := by rfl) (K := Mine.frag.heap_1 w.params) (fa := 174) (by k_is) ?_)))
    k_steps
    k_dflt (k_extra "S cleaned")
    intro r led' h5 tk5 hr F₅ N₅
    obtain ⟨x, dx, t1, t2, t3, t4, u1, u2, u3, u4, nn, rfl, rfl⟩ := hr
    dsimp only
    k_steps
    refine wpS.execs_consA ?_
    k_steps
    refine' hret _ _ _ _ ⟨_, _, _, rfl, Deck.mono ?ze0 ?zd, rfl⟩ ?ze1 (cb_drop ?zx ((fmc ?zy (fmc ?zz ?zu))))
    case ze1 => assumption
    case zx => assumption
    case zy => ktr_unf
    case zz => ktr_unf
    case zu => ktr_rel
    case ze0 => assumption
    case zd => omega)
section
variable {prog : Program} {w : World} {A : Around} {E : Value → Shared → Prop} {s : Shared} {t u : Tok} {l : List UInt8} {Q : Value → Shared → Prop}
theorem byteInt {k : Int} (h0 : 0 ≤ k) (h1 : k < 256) : k = (((UInt8.ofNat k.toNat).toNat : Nat) : Int) := by
  have : (UInt8.ofNat k.toNat).toNat = k.toNat := by simp [UInt8.toNat_ofNat']; omega
  rw [this]; omega
theorem inK {k : Int} (b : Bool) (h0 : 0 ≤ k) (h1 : k < 256) (e : l.contains (UInt8.ofNat k.toNat) = b) (h : Q (.bool b) s) : wpAny (model prog w) A (compareOp .In (.int k u) (.bytes l.toArray t)) Q E s := by
  rw [byteInt h0 h1]
  refine inB ?_
  rw [e]; exact h
theorem notInK {k : Int} (b : Bool) (h0 : 0 ≤ k) (h1 : k < 256) (e : (!l.contains (UInt8.ofNat k.toNat)) = b) (h : Q (.bool b) s) : wpAny (model prog w) A (compareOp .NotIn (.int k u) (.bytes l.toArray t)) Q E s := by
  rw [byteInt h0 h1]
  refine notInB ?_
  rw [e]; exact h
end
section
variable {h₀ : Heap} {L I : Addr} {it : Obj} {rest : (PySem.Str → Option Value) → List (Addr × Obj) → Prop} {s₁ : Shared} {h' : Heap} {tk : Nat} {m' : PySem.Str → Option Value} {news' : List (Addr × Obj)} {x y : Addr × Obj}
theorem UnrEnd.introT (F : Fr h₀ L h' m') (N : News h₀ L h' ((I, it) :: news')) (off : ∀ p ∈ news', p.1 ≠ I) (r : rest m' news') : UnrEnd h₀ L s₁ I it rest { s₁ with heap := h', toks := tk } :=
  UnrEnd.intro F N news' (fun _ h => h) off r
end
theorem lenStrE {prog : Program} {w : World} {A : Around} {E : Value → Shared → Prop} {s : Shared} {x : PySem.Str} {t : Tok} {i : Int} {Q : Value → Shared → Prop} (e : (x.length : Int) = i) (hi : i < 1000000) (h : ∀ t' k, Q (.int i t') { s with toks := k }) : wpAny (model prog w) A (call (.builtin "len") [.str x t]) Q E s :=
  PySem.P.len_str (by omega) (by rw [e]; exact h _ _)
theorem strItemE {prog : Program} {w : World} {A : Around} {E : Value → Shared → Prop} {s : Shared} {value slice : PySem.Expr} {x y : PySem.Str} {t u : Tok} {n : Nat} {i : Int} {Q : Value → Shared → Prop} (hk : x.length = n) (h0 : 0 ≤ i) (h1 : i < (n : Int)) (hn : n ≤ 16777216) (e : Txt.item x i = y) (h : ∀ t' k, Q (.str y t') { s with toks := k })
    (hs : subscripted slice false (.str x t) (.int i u) = operate [.str x t, .int i u] (getItem (.str x t) (.int i u)))
    (ht : ∀ r, letTemporaryGo value (.str x t) r = pure ()) :
    wpAny (model prog w) A (subscriptTail value slice (.str x t) (.int i u)) Q E s :=
  PySem.W.KXi.item hk (by omega) h1 hn (fun _ => e ▸ h _ _) hs ht
theorem abcd_len : (Str.ofString "abcd").length = 4 := by decide +kernel
theorem abcd0 : Txt.item (Str.ofString "abcd") 0 = Str.ofString "a" := by decide +kernel
theorem abcd1 : Txt.item (Str.ofString "abcd") 1 = Str.ofString "b" := by decide +kernel
theorem abcd2 : Txt.item (Str.ofString "abcd") 2 = Str.ofString "c" := by decide +kernel
theorem abcd3 : Txt.item (Str.ofString "abcd") 3 = Str.ofString "d" := by decide +kernel

theorem con_are_allT (w : World) (led : List (Addr × Obj)) (l sg : List UInt8) (t u : Tok) (e : l.all sg.contains = true) : Con w 118 1 8 led [.bytes l.toArray t, .bytes sg.toArray u] (PBool led true) := e ▸ con_are_all w led l sg t u
noncomputable def PStr (led : List (Addr × Obj)) (x : PySem.Str) : Value → List (Addr × Obj) → Prop := fun r led' => led' = led ∧ ∃ t, r = .str x t
theorem pStr {led : List (Addr × Obj)} {x y : PySem.Str} {t : Tok} (e : x = y) : PStr led y (.str x t) led := ⟨rfl, t, by rw [e]⟩
theorem Con.useT {w : World} {f : Addr} {d u : Nat} {led : List (Addr × Obj)} {vs : List Value} {x : PySem.Str} (C : Con w f d u led vs (PStr led x))
    {dp un : Nat} {gd : Option (List Code)} {cn : Str} {cs : Scope} {a : Addr} {ccd : Value} {cl : List (Str × Addr)} {outer : List Env} {A₀ : Around} {base h₀ : Heap} {L : Addr} {m : Str → Option Value} {s : Shared} {Q E : Value → Shared → Prop}
    {p : Program} {loose : List Str} {mean : ExcName → Option Value} {mg mb : Str → Option Value}
    (B : Below A₀ base outer h₀) (F : Fr h₀ L s.heap m) (X : (Mine.frag.heap_1 w.params).In h₀) (N : News h₀ L s.heap led) (T : Top p loose mean mg mb h₀) (hk : cs.kind = .function)
    (hd : dp + d < recursionLimit) (hu : un + u < cLine)
    (ret : ∀ (t : Tok) (h' : Heap) (tk' : Nat), Fr h₀ L h' m → News h₀ L h' led → Q (.str x t) { s with heap := h', toks := tk' }) :
    wpAny (model PySem.Challenge.rw_nt0282_01.row.prog w) (ktrTop dp un gd cn cs L a ccd cl outer) (call (.ref f) vs) Q E s := by
  refine Con.use C B F X N T hk hd hu ?_
  rintro r led' h' tk' ⟨rfl, t, rfl⟩ F' N'
  exact ret t h' tk' F' N'
theorem txt_abcd : Txt.join (Str.ofString "") [{ cps := #[Int.toNat 97] }, { cps := #[Int.toNat 98] }, { cps := #[Int.toNat 99] }, { cps := #[Int.toNat 100] }] = Str.ofString "abcd" := by decide +kernel
set_option maxHeartbeats 2000000 in
theorem con_text (w : World) (led : List (Addr × Obj)) (t : Tok) : Con w 52 1 100 led [.bytes #[97, 98, 99, 100] t] (PStr led (Str.ofString "abcd")) := by
  refine conOf ?_
  k_fill
  intro dp un gd cn cs a ccd cl outer A₀ base h₀ L m hp gn dr tk os Q E p loose mean mg mb B F X N T hk hd hu hret
  k_with_none
  k_with "ktr_rel" => (
      (intro cbp cbh; first
      | exact cbh
      | exact List.mem_cons_of_mem _ cbh
      | exact List.mem_cons_of_mem _ (List.mem_cons_of_mem _ cbh)
      | (simp only [List.mem_cons, List.mem_append] at cbh ⊢; first | exact cbh | (simp [cbh]; done) | grind)
      | grind))
  k_with "tb_rel" => (
      first
      | assumption
      | (refine' News.dr1 ?zqcbN; (case zqcbN => assumption))
      | (refine' News.dr2 ?zqcbN; (case zqcbN => assumption))
      | (refine' News.dr3 ?zqcbN; (case zqcbN => assumption))
      | (refine' News.dr4 ?zqcbN; (case zqcbN => assumption))
      | (refine' News.dr5 ?zqcbN; (case zqcbN => assumption))
      | (refine' News.dr6 ?zqcbN; (case zqcbN => assumption))
      | (refine' cb_drop ?zqcbN ?zqcbS; (case zqcbN => assumption); (case zqcbS => ktr_rel)))
  k_with "eval ListComp" => (k_extra "own ListComp")
  k_with "FinE" => ((k_here; (unfold LCg.FinE); intro _ _ _ _ _ _; (try dsimp only)))
  k_with "cell_enter" => ((refine' code_def ?zqk1 ?zqk2 ?zqk3 ?zqk4 ?zqk5 ?zqkA ?zqkF ?zqkK ?zqk6 ?zqk7 ?zqk8 ?zqk9 ?zqkB ?_ ?zqc2 ?zqc3 ?zqc4 ?zqc5; (case zqkA => exact rfl); (case zqkF => exact rfl); (case zqkK => assumption); (case zqk1 => k_asm); (case zqk2 => k_asm); (case zqk3 => k_asm); (case zqk4 => k_asm); (case zqk5 => k_asm); (case zqk6 => k_is); (case zqk7 => k_is); (case zqk8 => ktr_room); (case zqk9 => first | exact BindsTo.of_eq rfl | exact binds_K (by k_in) rfl (by k_is) rfl rfl rfl); (case zqc5 => decide); (case zqkB => exact locs rfl); (case zqc2 => exact rfl); (case zqc3 => exact rfl); (case zqc4 => exact rfl); k_whole; intro g' L' h' FG' F' N' B' X' T'; (try dsimp only); (try k_lift B'); (try k_fold)))
  k_with "k_ne" => ((refine neN ?_; (try dsimp only); first | (refine' neLt ?zqcbh ?zqcbk; (case zqcbh => with_reducible assumption); (case zqcbk => (intro cbz; repeat (first | exact cbz.1 | replace cbz := cbz.2)))) | (refine' neGt ?zqcbh ?zqcbk; (case zqcbh => with_reducible assumption); (case zqcbk => (intro cbz; repeat (first | exact cbz.1 | replace cbz := cbz.2)))) | omega))
  k_with "spliced" => ((k_here; k_dflt (refine' pes_eval ?zqcbF ?zqcbv ?_ ?zqcba; (case zqcbF => k_asm); (case zqcba => rfl); (case zqcbv => exact Eq.refl (some (_, _))); k_whole); (try dsimp only [List.cons_append, List.nil_append])))
  k_with "eval Name" => ((k_here; k_dflt (refine' nameX_L ?zqcbF ?zqcbv ?_ ?zqcba ?zqcbb; (case zqcbF => k_asm); (case zqcba => rfl); (case zqcbb => rfl); (case zqcbv => exact Eq.refl (some _)); k_whole)))
  k_with "compareOp NotIn" => ((k_here; (with_reducible show wpAny _ _ (compareOp CmpOp.NotIn (Value.int _ _) (Value.bytes (List.toArray _) _)) _ _ _); first | refine notInK true (by decide) (by decide) (by decide) ?_ | refine notInK false (by decide) (by decide) (by decide) ?_))
  k_with "compareOp In" => ((k_here; (with_reducible show wpAny _ _ (compareOp CmpOp.In (Value.int _ _) (Value.bytes (List.toArray _) _)) _ _ _); first | refine inK true (by decide) (by decide) (by decide) ?_ | refine inK false (by decide) (by decide) (by decide) ?_))
  k_with "UnrEnd" => ((k_here; k_dflt ((rename News _ _ _ _ => nE'); first | (refine' UnrEnd.introT ?zqF nE' ?zqoff ?_; (case zqF => assumption); (case zqoff => lcg_off)) | (refine' UnrEnd.introT1 ?zqF nE' ?zqoff ?_; (case zqF => assumption); (case zqoff => lcg_off)) | (refine' UnrEnd.introT2 ?zqF nE' ?zqoff ?_; (case zqF => assumption); (case zqoff => lcg_off)))))
  k_with "call builtin:len" => ((k_here; (with_reducible show wpAny _ _ (call (Value.builtin "len") [Value.str (PySem.Str.ofString _) _]) _ _ _); (refine lenStrE (by k_dflt kxw_int) (by decide) ?_); intro _ _; (try dsimp only)))
  k_with "call ref" => ((k_here; (with_reducible show wpAny _ _ (call (Value.ref 118) _) _ _ _); k_dflt (refine' Con.useO (con_are_allT _ _ _ _ _ _ ?zqc1) ?zqn1 ?zqn2 ?zqn3 ?zqn4 ?zqn5 ?zqn6 ?zqn7 ?zqn8 ?_; (case zqn4 => assumption); (case zqn1 => k_asm); (case zqn2 => k_asm); (case zqn3 => k_asm); (case zqn5 => k_asm); (case zqn6 => exact rfl); (case zqn7 => ktr_room); (case zqn8 => units_room); (case zqc1 => decide)); intro _ _ _ _; (try dsimp only)))
  k_with "BRest" => ((k_here; first | refine' BRest.zero ?_ | (refine' BRest.succ ?_; intro _ _ _ _ _ _ _ _ _ _ _ _ _ _ _ _)))
  k_with "CompEnd" => ((k_here; k_dflt (refine' LCg.CompEnd.intro ?zqn1 ?zqn2 _ ?zqn3 ?zqn4 ?zqn5 ?_; (case zqn1 => assumption); (case zqn2 => assumption); (case zqn3 => ktr_rel); (case zqn4 => assumption); (case zqn5 => exact trivial))))
  k_with "own ListComp" => (k_here; k_dflt (refine ListComp_B (hs := by intro _; rfl) (by k_asm) (by with_unfolding_all rfl) (by decide) (by rfl) (by decide) (by rfl) ?_))
  k_with "CompSrcBU" => k_dflt (
    refine' CompSrcBU.intro (l := [97, 98, 99, 100]) ?zn1 ?zn2 ?zn3 ?zn4 ?_
    case zn1 => exact rfl
    case zn2 => k_asm
    case zn3 => assumption
    case zn4 => decide
    intro _
    refine brest (ks := [97, 98, 99, 100]) (by decide) ?_)
  w_strict (
    refine wpAny_call ?_
    k_dflt cell_enter
    k_steps
    all_goals first | (refine' hret _ _ _ _ (pStr txt_abcd) ?ze1 ?ze2; (case ze1 => assumption); (case ze2 => tb_rel)) | trace_state)
-- a def of the text is entered where it is called
set_option maxHeartbeats 2000000 in
theorem con_hexed (w : World) (led : List (Addr × Obj)) (t : Tok) : Con w 78 3 200 led [.str (Str.ofString "abcd") t] (PBytes led [171, 205]) := by
  refine conOf ?_
  k_fill
  intro dp un gd cn cs a ccd cl outer A₀ base h₀ L m hp gn dr tk os Q E p loose mean mg mb B F X N T hk hd hu hret
  k_with_none
  k_with "ktr_rel" => (
      (intro cbp cbh; first
      | exact cbh
      | exact List.mem_cons_of_mem _ cbh
      | exact List.mem_cons_of_mem _ (List.mem_cons_of_mem _ cbh)
      | (simp only [List.mem_cons, List.mem_append] at cbh ⊢; first | exact cbh | (simp [cbh]; done) | grind)
      | grind))
  k_with "tb_rel" => (
      first
      | assumption
      | (refine' News.dr1 ?zqcbN; (case zqcbN => assumption))
      | (refine' News.dr2 ?zqcbN; (case zqcbN => assumption))
      | (refine' News.dr3 ?zqcbN; (case zqcbN => assumption))
      | (refine' News.dr4 ?zqcbN; (case zqcbN => assumption))
      | (refine' News.dr5 ?zqcbN; (case zqcbN => assumption))
      | (refine' News.dr6 ?zqcbN; (case zqcbN => assumption))
      | (refine' cb_drop ?zqcbN ?zqcbS; (case zqcbN => assumption); (case zqcbS => ktr_rel)))
  k_with "k_all" => (lcg_off)
  k_with "ktr_unf" => (
      first
      | assumption
      | exact List.Mem.head _
      | (refine' List.mem_append_left _ ?_; ktr_unf)
      | (refine' List.Mem.tail _ ?_; ktr_unf))
  k_with "lcg_off" => (
      first
      | assumption
      | (refine' off_lt ?zqal; (case zqal => assumption))
      | (refine' off_lt1 ?zqal; (case zqal => assumption))
      | (refine' OwnOff.ne ?zqal ?zqam; (case zqal => assumption); (case zqam => first | exact List.Mem.head _ | (simp; done)))
      | (refine' off_app ?zqal ?zqam; (case zqal => lcg_off); (case zqam => lcg_off))
      | (apply off_cons; assumption)
      | (refine' (fmc ?zqla ?zqlb); (case zqla => k_ne); (case zqlb => lcg_off))
      | (apply off_tail1; assumption)
      | (apply off_cons; apply off_cons; assumption)
      | (refine' ltNe ?zqal; (case zqal => first | assumption | (apply And.right; assumption) | (apply And.right; apply And.right; assumption) | (apply And.right; apply And.right; apply And.right; assumption) | (apply And.right; apply And.right; apply And.right; apply And.right; assumption) | (apply And.right; apply And.right; apply And.right; apply And.right; apply And.right; assumption))))
  k_with "exec For Name Call cons nil" => ((k_here; (rename Fr _ _ _ _ => lF'); (with_unfolding_all refine' For_invVF lF' ?zqk1 ?zqk2 ?_; (case zqk1 => exact rfl); (case zqk2 => exact rfl); k_whole)))
  k_with "cell_enter" => ((refine' code_def ?zqk1 ?zqk2 ?zqk3 ?zqk4 ?zqk5 ?zqkA ?zqkF ?zqkK ?zqk6 ?zqk7 ?zqk8 ?zqk9 ?zqkB ?_ ?zqc2 ?zqc3 ?zqc4 ?zqc5; (case zqkA => exact rfl); (case zqkF => exact rfl); (case zqkK => assumption); (case zqk1 => k_asm); (case zqk2 => k_asm); (case zqk3 => k_asm); (case zqk4 => k_asm); (case zqk5 => k_asm); (case zqk6 => k_is); (case zqk7 => k_is); (case zqk8 => ktr_room); (case zqk9 => first | exact BindsTo.of_eq rfl | exact binds_K (by k_in) rfl (by k_is) rfl rfl rfl); (case zqc5 => decide); (case zqkB => exact locs rfl); (case zqc2 => exact rfl); (case zqc3 => exact rfl); (case zqc4 => exact rfl); k_whole; intro g' L' h' FG' F' N' B' X' T'; (try dsimp only); (try k_lift B'); (try k_fold)))
  k_with "ktr_room" => (first | exact roomA hd rfl | exact roomB hd rfl | exact roomC hd rfl)
  k_with "k_ne" => ((refine neN ?_; (try dsimp only); first | (refine' neLt ?zqcbh ?zqcbk; (case zqcbh => with_reducible assumption); (case zqcbk => (intro cbz; repeat (first | exact cbz.1 | replace cbz := cbz.2)))) | (refine' neGt ?zqcbh ?zqcbk; (case zqcbh => with_reducible assumption); (case zqcbk => (intro cbz; repeat (first | exact cbz.1 | replace cbz := cbz.2)))) | omega))
  k_with "spliced" => ((k_here; k_dflt (refine' pes_eval ?zqcbF ?zqcbv ?_ ?zqcba; (case zqcbF => k_asm); (case zqcba => rfl); (case zqcbv => exact Eq.refl (some (_, _))); k_whole); (try dsimp only [List.cons_append, List.nil_append])))
  k_with "eval BinOp" => ((k_here; k_dflt (refine' binop_pe ?zqcbF ?zqcbv ?zqcbw ?_ ?zqcba; (case zqcbF => k_asm); (case zqcba => rfl); (case zqcbv => exact Eq.refl (some (_, _))); (case zqcbw => exact Eq.refl (some (_, _))); k_whole)))
  k_with "isTrue Compare" => ((k_here; k_dflt (refine' cmp_pe (hm := by with_unfolding_all rfl) ?zqcbF ?zqcbv ?zqcbw ?_ ?zqcba; (case zqcbF => k_asm); (case zqcba => rfl); (case zqcbv => exact Eq.refl (some (_, _))); (case zqcbw => exact Eq.refl (some (_, _))); k_whole)))
  k_with "eval Subscript" => ((k_here; k_dflt (refine' sub_pe ?zqcbF ?zqcbv ?zqcbw ?_ ?zqcba; (case zqcbF => k_asm); (case zqcba => rfl); (case zqcbv => exact Eq.refl (some (_, _))); (case zqcbw => exact Eq.refl (some (_, _))); k_whole)))
  k_with "eval Name" => ((k_here; k_dflt (refine' nameX_L ?zqcbF ?zqcbv ?_ ?zqcba ?zqcbb; (case zqcbF => k_asm); (case zqcba => rfl); (case zqcbb => rfl); (case zqcbv => exact Eq.refl (some _)); k_whole)))
  k_with "storeName" => ((k_here; k_dflt (refine' storeL ?zqcbF ?zqcbN ?_ ?zqcba ?zqcbb; (case zqcbF => k_asm); (case zqcbN => k_asm); (case zqcba => rfl); (case zqcbb => rfl); k_whole); intro _ _ _ _; (try k_sweep)))
  k_with "in enter" => ((refine' code_def ?zqk1 ?zqk2 ?zqk3 ?zqk4 ?zqk5 ?zqkA ?zqkF ?zqkK ?zqk6 ?zqk7 ?zqk8 ?zqk9 ?zqkB ?_ ?zqc2 ?zqc3 ?zqc4 ?zqc5; (case zqkA => exact rfl); (case zqkF => exact rfl); (case zqkK => exact rfl); (case zqk1 => k_asm); (case zqk2 => k_asm); (case zqk3 => k_asm); (case zqk4 => k_asm); (case zqk5 => k_asm); (case zqk6 => k_is); (case zqk7 => k_is); (case zqk8 => ktr_room); (case zqk9 => first | exact BindsTo.of_eq rfl | exact binds_K (by k_in) rfl (by k_is) rfl rfl rfl); (case zqc5 => decide); (case zqkB => exact locs rfl); (case zqc2 => exact rfl); (case zqc3 => exact rfl); (case zqc4 => exact rfl); k_whole; intro g' L' h' FG' F' N' B' X' T'; (try dsimp only); (try k_lift B'); (try k_fold)))
  k_with "in enter" => ((refine' code_defC ?zqk1 ?zqk2 ?zqk3 ?zqk4 ?zqk5 ?zqkA ?zqkF ?zqkK ?zqk6 ?zqk7 ?zqk8 ?zqk9 ?zqkB ?zqkD ?_ ?zqc2 ?zqc3 ?zqc4; (case zqkA => exact rfl); (case zqkF => exact rfl); (case zqkK => exact rfl); (case zqk1 => k_asm); (case zqk2 => k_asm); (case zqk3 => k_asm); (case zqk4 => k_asm); (case zqk5 => k_asm); (case zqk6 => k_is); (case zqk7 => k_is); (case zqk8 => ktr_room); (case zqk9 => exact BindsTo.of_eq rfl); (case zqkB => exact rfl); (case zqkD => decide +kernel); (case zqc2 => exact rfl); (case zqc3 => exact rfl); (case zqc4 => exact rfl); k_whole; intro g' L' h' tk' cells' FG' F' N' Y' B' X' T' l1; (try k_lt l1); k_cells Y'; (try simp only [List.cons_append, List.nil_append] at N'); (try dsimp only); (try k_lift B'); (try k_fold)))
  k_with "call ref" => ((k_here; k_dflt (refine wpAny_call ?_; k_extra "in enter")))
  k_with "compareOp NotIn" => ((k_here; (with_reducible show wpAny _ _ (compareOp CmpOp.NotIn (Value.int _ _) (Value.bytes (List.toArray _) _)) _ _ _); first | refine notInK true (by decide) (by decide) (by decide) ?_ | refine notInK false (by decide) (by decide) (by decide) ?_))
  k_with "compareOp In" => ((k_here; (with_reducible show wpAny _ _ (compareOp CmpOp.In (Value.int _ _) (Value.bytes (List.toArray _) _)) _ _ _); first | refine inK true (by decide) (by decide) (by decide) ?_ | refine inK false (by decide) (by decide) (by decide) ?_))
  k_with "UnrEnd" => ((k_here; k_dflt ((rename News _ _ _ _ => nE'); first | (refine' UnrEnd.introT ?zqF nE' ?zqoff ?_; (case zqF => assumption); (case zqoff => lcg_off)) | (refine' UnrEnd.introT1 ?zqF nE' ?zqoff ?_; (case zqF => assumption); (case zqoff => lcg_off)) | (refine' UnrEnd.introT2 ?zqF nE' ?zqoff ?_; (case zqF => assumption); (case zqoff => lcg_off)))))
  k_with "call builtin:len" => ((k_here; (with_reducible show wpAny _ _ (call (Value.builtin "len") [Value.str (PySem.Str.ofString _) _]) _ _ _); (refine lenStrE (by k_dflt kxw_int) (by decide) ?_); intro _ _; (try dsimp only)))
  k_with "subscriptTail" => ((k_here; (with_reducible show wpAny _ _ (subscriptTail _ _ (Value.str (PySem.Str.ofString "abcd") _) (Value.int _ _)) _ _ _); k_dflt (first | refine' strItemE (hs := by with_unfolding_all rfl) (ht := by intro _; with_unfolding_all rfl) abcd_len (by decide) (by decide) (by decide) abcd0 ?_ | refine' strItemE (hs := by with_unfolding_all rfl) (ht := by intro _; with_unfolding_all rfl) abcd_len (by decide) (by decide) (by decide) abcd1 ?_ | refine' strItemE (hs := by with_unfolding_all rfl) (ht := by intro _; with_unfolding_all rfl) abcd_len (by decide) (by decide) (by decide) abcd2 ?_ | refine' strItemE (hs := by with_unfolding_all rfl) (ht := by intro _; with_unfolding_all rfl) abcd_len (by decide) (by decide) (by decide) abcd3 ?_); intro _ _; (try dsimp only)))
  k_with "subscriptTail Name Name str int" => ((k_here; (with_reducible show wpAny _ _ (subscriptTail _ _ (Value.str (PySem.Str.ofString "abcd") _) (Value.int _ _)) _ _ _); k_dflt (first | refine' strItemE (hs := by with_unfolding_all rfl) (ht := by intro _; with_unfolding_all rfl) abcd_len (by decide) (by decide) (by decide) abcd0 ?_ | refine' strItemE (hs := by with_unfolding_all rfl) (ht := by intro _; with_unfolding_all rfl) abcd_len (by decide) (by decide) (by decide) abcd1 ?_ | refine' strItemE (hs := by with_unfolding_all rfl) (ht := by intro _; with_unfolding_all rfl) abcd_len (by decide) (by decide) (by decide) abcd2 ?_ | refine' strItemE (hs := by with_unfolding_all rfl) (ht := by intro _; with_unfolding_all rfl) abcd_len (by decide) (by decide) (by decide) abcd3 ?_); intro _ _; (try dsimp only)))
  k_with "call type:bytes" => ((k_here; (with_reducible show wpAny _ _ (call (Value.type "bytes") [Value.ref _]) _ _ _); k_dflt ((rename News _ _ _ _ => nB); (try simp only [List.push_toArray, List.cons_append, List.nil_append] at nB); refine' callBytes (l := [171, 205]) ?zqn1 nB ?zqn3 (News.isList nB ?zqn5) ?zqn6 ?zqn7 ?_; (case zqn1 => k_asm); (case zqn3 => exact rfl); (case zqn5 => ktr_unf); (case zqn6 => exact .cons ⟨_, rfl⟩ (.cons ⟨_, rfl⟩ .nil)); (case zqn7 => decide); intro _ _ _ _ _)))
  w_strict (
    refine wpAny_call ?_
    k_dflt cell_enter
    k_steps
    all_goals first | (refine' hret _ _ _ _ (pBe ?ze0) ?ze1 ?ze2; (case ze1 => assumption); (case ze2 => tb_rel); (case ze0 => exact rfl)) | trace_state)
set_option maxHeartbeats 2000000 in
theorem con_head_id (w : World) (led : List (Addr × Obj)) (t u : Tok) : Con w 188 5 300 led [.bytes #[97, 98, 99, 100] t, .int 2 u] (PBytes led [171, 205]) := by
  refine conOf ?_
  k_fill
  intro dp un gd cn cs a ccd cl outer A₀ base h₀ L m hp gn dr tk os Q E p loose mean mg mb B F X N T hk hd hu hret
  k_with_none
  k_with "tb_start" => (
      first
      | (refine' Nat.le_trans ?zqq1 (Nat.le_of_ble_eq_true ?zqq2); (case zqq1 => with_reducible assumption); (case zqq2 => exact rfl))
      | omega
      | (simp only [List.length_append, List.length_cons, List.length_nil, List.length_map, List.length_take, List.length_drop]; omega)
      | ((try simp only [List.length_append, List.length_cons, List.length_nil]); (first | refine Nat.le_trans (sl_length _ _) ?_ | skip); omega)
      | fail "size")
  k_with "call builtin:len" => ((k_here; (with_reducible show wpAny _ _ (call (Value.builtin "len") [Value.bytes (List.toArray _) _]) _ _ _); (refine lenB (by tb_start) ?_); intro _ _))
  k_with "tb_rel" => (
      first
      | assumption
      | (refine' News.dr1 ?zqcbN; (case zqcbN => assumption))
      | (refine' News.dr2 ?zqcbN; (case zqcbN => assumption))
      | (refine' News.dr3 ?zqcbN; (case zqcbN => assumption))
      | (refine' News.dr4 ?zqcbN; (case zqcbN => assumption))
      | (refine' News.dr5 ?zqcbN; (case zqcbN => assumption))
      | (refine' News.dr6 ?zqcbN; (case zqcbN => assumption))
      | (refine' cb_drop ?zqcbN ?zqcbS; (case zqcbN => assumption); (case zqcbS => ktr_rel)))
  k_with "units_room" => (first | exact roomA hu rfl | exact roomB hu rfl | exact roomC hu rfl | (have hcL9 := cLine_is; (try simp only [units_in1, units_deeper, Around.mark_units, units_caller] at *); (try dsimp only [ktrTop] at *); omega))
  k_with "cell_enter" => ((refine' code_def ?zqk1 ?zqk2 ?zqk3 ?zqk4 ?zqk5 ?zqkA ?zqkF ?zqkK ?zqk6 ?zqk7 ?zqk8 ?zqk9 ?zqkB ?_ ?zqc2 ?zqc3 ?zqc4 ?zqc5; (case zqkA => exact rfl); (case zqkF => exact rfl); (case zqkK => assumption); (case zqk1 => k_asm); (case zqk2 => k_asm); (case zqk3 => k_asm); (case zqk4 => k_asm); (case zqk5 => k_asm); (case zqk6 => k_is); (case zqk7 => k_is); (case zqk8 => ktr_room); (case zqk9 => first | exact BindsTo.of_eq rfl | exact binds_K (by k_in) rfl (by k_is) rfl rfl rfl); (case zqc5 => decide); (case zqkB => exact locs rfl); (case zqc2 => exact rfl); (case zqc3 => exact rfl); (case zqc4 => exact rfl); k_whole; intro g' L' h' FG' F' N' B' X' T'; (try dsimp only); (try k_lift B'); (try k_fold)))
  k_with "ktr_room" => (first | exact roomA hd rfl | exact roomB hd rfl | exact roomC hd rfl)
  k_with "k_ne" => ((refine neN ?_; (try dsimp only); first | (refine' neLt ?zqcbh ?zqcbk; (case zqcbh => with_reducible assumption); (case zqcbk => (intro cbz; repeat (first | exact cbz.1 | replace cbz := cbz.2)))) | (refine' neGt ?zqcbh ?zqcbk; (case zqcbh => with_reducible assumption); (case zqcbk => (intro cbz; repeat (first | exact cbz.1 | replace cbz := cbz.2)))) | omega))
  k_with "spliced" => ((k_here; k_dflt (refine' pes_eval ?zqcbF ?zqcbv ?_ ?zqcba; (case zqcbF => k_asm); (case zqcba => rfl); (case zqcbv => exact Eq.refl (some (_, _))); k_whole); (try dsimp only [List.cons_append, List.nil_append])))
  k_with "eval BinOp" => ((k_here; k_dflt (refine' binop_pe ?zqcbF ?zqcbv ?zqcbw ?_ ?zqcba; (case zqcbF => k_asm); (case zqcba => rfl); (case zqcbv => exact Eq.refl (some (_, _))); (case zqcbw => exact Eq.refl (some (_, _))); k_whole)))
  k_with "eval Name" => ((k_here; k_dflt (refine' nameX_L ?zqcbF ?zqcbv ?_ ?zqcba ?zqcbb; (case zqcbF => k_asm); (case zqcba => rfl); (case zqcbb => rfl); (case zqcbv => exact Eq.refl (some _)); k_whole)))
  k_with "eval Call" => ((k_here; k_dflt (refine' callK_pe (hd := by decide) ?zqcbF ?zqcbX ?zqcbT ?zqcbe ?zqcbf ?zqcbv ?_ ?zqcba ?zqcbb; (case zqcbF => k_asm); (case zqcbX => k_asm); (case zqcbT => k_asm); (case zqcba => rfl); (case zqcbb => rfl); (case zqcbe => k_is); (case zqcbf => k_is); (case zqcbv => exact Eq.refl (some (_, _))); k_whole); (try dsimp only [List.cons_append, List.nil_append])))
  k_with "compareOp NotIn" => ((k_here; (with_reducible show wpAny _ _ (compareOp CmpOp.NotIn (Value.int _ _) (Value.bytes (List.toArray _) _)) _ _ _); first | refine notInK true (by decide) (by decide) (by decide) ?_ | refine notInK false (by decide) (by decide) (by decide) ?_))
  k_with "compareOp In" => ((k_here; (with_reducible show wpAny _ _ (compareOp CmpOp.In (Value.int _ _) (Value.bytes (List.toArray _) _)) _ _ _); first | refine inK true (by decide) (by decide) (by decide) ?_ | refine inK false (by decide) (by decide) (by decide) ?_))
  k_with "UnrEnd" => ((k_here; k_dflt ((rename News _ _ _ _ => nE'); first | (refine' UnrEnd.introT ?zqF nE' ?zqoff ?_; (case zqF => assumption); (case zqoff => lcg_off)) | (refine' UnrEnd.introT1 ?zqF nE' ?zqoff ?_; (case zqF => assumption); (case zqoff => lcg_off)) | (refine' UnrEnd.introT2 ?zqF nE' ?zqoff ?_; (case zqF => assumption); (case zqoff => lcg_off)))))
  k_with "call builtin:len" => ((k_here; (with_reducible show wpAny _ _ (call (Value.builtin "len") [Value.str (PySem.Str.ofString _) _]) _ _ _); (refine lenStrE (by k_dflt kxw_int) (by decide) ?_); intro _ _; (try dsimp only)))
  k_with "call ref" => ((k_here; (with_reducible show wpAny _ _ (call (Value.ref 118) _) _ _ _); k_dflt (refine' Con.useO (con_are_allT _ _ _ _ _ _ ?zqc1) ?zqn1 ?zqn2 ?zqn3 ?zqn4 ?zqn5 ?zqn6 ?zqn7 ?zqn8 ?_; (case zqn4 => assumption); (case zqn1 => k_asm); (case zqn2 => k_asm); (case zqn3 => k_asm); (case zqn5 => k_asm); (case zqn6 => exact rfl); (case zqn7 => ktr_room); (case zqn8 => units_room); (case zqc1 => decide)); intro _ _ _ _; (try dsimp only)))
  k_with "call ref" => ((k_here; (with_reducible show wpAny _ _ (call (Value.ref 52) _) _ _ _); k_dflt (refine' Con.useT (con_text _ _ _) ?zqn1 ?zqn2 ?zqn3 ?zqn4 ?zqn5 ?zqn6 ?zqn7 ?zqn8 ?_; (case zqn4 => assumption); (case zqn1 => k_asm); (case zqn2 => k_asm); (case zqn3 => k_asm); (case zqn5 => k_asm); (case zqn6 => exact rfl); (case zqn7 => ktr_room); (case zqn8 => units_room)); intro _ _ _ _ _; (try dsimp only)))
  k_with "call ref" => ((k_here; (with_reducible show wpAny _ _ (call (Value.ref 78) _) _ _ _); k_dflt (refine' Con.useB (con_hexed _ _ _) ?zqn1 ?zqn2 ?zqn3 ?zqn4 ?zqn5 ?zqn6 ?zqn7 ?zqn8 ?_; (case zqn4 => assumption); (case zqn1 => k_asm); (case zqn2 => k_asm); (case zqn3 => k_asm); (case zqn5 => k_asm); (case zqn6 => exact rfl); (case zqn7 => ktr_room); (case zqn8 => units_room)); intro _ _ _ _ _; (try dsimp only)))
  w_strict (
    refine wpAny_call ?_
    k_dflt cell_enter
    k_steps
    all_goals first | (refine' hret _ _ _ _ (pBe ?ze0) ?ze1 ?ze2; (case ze1 => assumption); (case ze2 => tb_rel); (case ze0 => exact rfl)) | trace_state)
noncomputable def hdL : List UInt8 := [111, 98, 106, 101, 99, 116, 32, 97, 98, 99, 100, 10, 116, 121, 112, 101, 32, 98, 108, 111, 98, 10, 116, 97, 103, 32, 118, 10, 116, 97, 103, 103, 101, 114, 32, 65, 32, 60, 97, 64, 98, 62, 32, 49, 32, 43, 48, 48, 48, 48, 10, 10]
theorem hd_no {m : List UInt8} (h : (0 : UInt8) ∉ m) : (0 : UInt8) ∉ hdL ++ m := fun q => by
  rcases List.mem_append.mp q with q | q
  · exact absurd q (by decide)
  · exact h q
theorem hf0 {m : List UInt8} : FnIs (hdL ++ m) [10] 0 11 := by
  constructor
  rw [show hdL ++ m = [111, 98, 106, 101, 99, 116, 32, 97, 98, 99, 100] ++ 10 :: ([116, 121, 112, 101, 32, 98, 108, 111, 98, 10, 116, 97, 103, 32, 118, 10, 116, 97, 103, 103, 101, 114, 32, 65, 32, 60, 97, 64, 98, 62, 32, 49, 32, 43, 48, 48, 48, 48, 10, 10] ++ m) from rfl]
  exact fnd_at (pre := [111, 98, 106, 101, 99, 116, 32, 97, 98, 99, 100]) (k := 0) (by decide) (by decide)
theorem hs0 {m : List UInt8} : SlIs (hdL ++ m) (some 0) (some 11) [111, 98, 106, 101, 99, 116, 32, 97, 98, 99, 100] := ⟨sl_lit (pre := hdL) (m := m) (a := 0) (b := 11) (by decide) (by decide)⟩
theorem hra0 : SlIs [111, 98, 106, 101, 99, 116, 32, 97, 98, 99, 100] (none) (some 1) [111] := ⟨by decide +kernel⟩
theorem hrb0 : SlIs [111, 98, 106, 101, 99, 116, 32, 97, 98, 99, 100] (none) (some 6) [111, 98, 106, 101, 99, 116] := ⟨by decide +kernel⟩
theorem hrc0 : SlIs [111, 98, 106, 101, 99, 116, 32, 97, 98, 99, 100] (some 7) (none) [97, 98, 99, 100] := ⟨by decide +kernel⟩
theorem hb0 : FnIs [111, 98, 106, 101, 99, 116, 32, 97, 98, 99, 100] [32] 0 6 := ⟨by decide +kernel⟩
theorem hf12 {m : List UInt8} : FnIs (hdL ++ m) [10] 12 21 := by
  constructor
  rw [show hdL ++ m = [111, 98, 106, 101, 99, 116, 32, 97, 98, 99, 100, 10, 116, 121, 112, 101, 32, 98, 108, 111, 98] ++ 10 :: ([116, 97, 103, 32, 118, 10, 116, 97, 103, 103, 101, 114, 32, 65, 32, 60, 97, 64, 98, 62, 32, 49, 32, 43, 48, 48, 48, 48, 10, 10] ++ m) from rfl]
  exact fnd_at (pre := [111, 98, 106, 101, 99, 116, 32, 97, 98, 99, 100, 10, 116, 121, 112, 101, 32, 98, 108, 111, 98]) (k := 12) (by decide) (by decide)
theorem hs12 {m : List UInt8} : SlIs (hdL ++ m) (some 12) (some 21) [116, 121, 112, 101, 32, 98, 108, 111, 98] := ⟨sl_lit (pre := hdL) (m := m) (a := 12) (b := 21) (by decide) (by decide)⟩
theorem hra12 : SlIs [116, 121, 112, 101, 32, 98, 108, 111, 98] (none) (some 1) [116] := ⟨by decide +kernel⟩
theorem hrb12 : SlIs [116, 121, 112, 101, 32, 98, 108, 111, 98] (none) (some 4) [116, 121, 112, 101] := ⟨by decide +kernel⟩
theorem hrc12 : SlIs [116, 121, 112, 101, 32, 98, 108, 111, 98] (some 5) (none) [98, 108, 111, 98] := ⟨by decide +kernel⟩
theorem hb12 : FnIs [116, 121, 112, 101, 32, 98, 108, 111, 98] [32] 0 4 := ⟨by decide +kernel⟩
theorem hf22 {m : List UInt8} : FnIs (hdL ++ m) [10] 22 27 := by
  constructor
  rw [show hdL ++ m = [111, 98, 106, 101, 99, 116, 32, 97, 98, 99, 100, 10, 116, 121, 112, 101, 32, 98, 108, 111, 98, 10, 116, 97, 103, 32, 118] ++ 10 :: ([116, 97, 103, 103, 101, 114, 32, 65, 32, 60, 97, 64, 98, 62, 32, 49, 32, 43, 48, 48, 48, 48, 10, 10] ++ m) from rfl]
  exact fnd_at (pre := [111, 98, 106, 101, 99, 116, 32, 97, 98, 99, 100, 10, 116, 121, 112, 101, 32, 98, 108, 111, 98, 10, 116, 97, 103, 32, 118]) (k := 22) (by decide) (by decide)
theorem hs22 {m : List UInt8} : SlIs (hdL ++ m) (some 22) (some 27) [116, 97, 103, 32, 118] := ⟨sl_lit (pre := hdL) (m := m) (a := 22) (b := 27) (by decide) (by decide)⟩
theorem hra22 : SlIs [116, 97, 103, 32, 118] (none) (some 1) [116] := ⟨by decide +kernel⟩
theorem hrb22 : SlIs [116, 97, 103, 32, 118] (none) (some 3) [116, 97, 103] := ⟨by decide +kernel⟩
theorem hrc22 : SlIs [116, 97, 103, 32, 118] (some 4) (none) [118] := ⟨by decide +kernel⟩
theorem hb22 : FnIs [116, 97, 103, 32, 118] [32] 0 3 := ⟨by decide +kernel⟩
theorem hf28 {m : List UInt8} : FnIs (hdL ++ m) [10] 28 50 := by
  constructor
  rw [show hdL ++ m = [111, 98, 106, 101, 99, 116, 32, 97, 98, 99, 100, 10, 116, 121, 112, 101, 32, 98, 108, 111, 98, 10, 116, 97, 103, 32, 118, 10, 116, 97, 103, 103, 101, 114, 32, 65, 32, 60, 97, 64, 98, 62, 32, 49, 32, 43, 48, 48, 48, 48] ++ 10 :: ([10] ++ m) from rfl]
  exact fnd_at (pre := [111, 98, 106, 101, 99, 116, 32, 97, 98, 99, 100, 10, 116, 121, 112, 101, 32, 98, 108, 111, 98, 10, 116, 97, 103, 32, 118, 10, 116, 97, 103, 103, 101, 114, 32, 65, 32, 60, 97, 64, 98, 62, 32, 49, 32, 43, 48, 48, 48, 48]) (k := 28) (by decide) (by decide)
theorem hs28 {m : List UInt8} : SlIs (hdL ++ m) (some 28) (some 50) [116, 97, 103, 103, 101, 114, 32, 65, 32, 60, 97, 64, 98, 62, 32, 49, 32, 43, 48, 48, 48, 48] := ⟨sl_lit (pre := hdL) (m := m) (a := 28) (b := 50) (by decide) (by decide)⟩
theorem hra28 : SlIs [116, 97, 103, 103, 101, 114, 32, 65, 32, 60, 97, 64, 98, 62, 32, 49, 32, 43, 48, 48, 48, 48] (none) (some 1) [116] := ⟨by decide +kernel⟩
theorem hrb28 : SlIs [116, 97, 103, 103, 101, 114, 32, 65, 32, 60, 97, 64, 98, 62, 32, 49, 32, 43, 48, 48, 48, 48] (none) (some 6) [116, 97, 103, 103, 101, 114] := ⟨by decide +kernel⟩
theorem hrc28 : SlIs [116, 97, 103, 103, 101, 114, 32, 65, 32, 60, 97, 64, 98, 62, 32, 49, 32, 43, 48, 48, 48, 48] (some 7) (none) [65, 32, 60, 97, 64, 98, 62, 32, 49, 32, 43, 48, 48, 48, 48] := ⟨by decide +kernel⟩
theorem hb28 : FnIs [116, 97, 103, 103, 101, 114, 32, 65, 32, 60, 97, 64, 98, 62, 32, 49, 32, 43, 48, 48, 48, 48] [32] 0 6 := ⟨by decide +kernel⟩
theorem hf51 {m : List UInt8} : FnIs (hdL ++ m) [10] 51 51 := by
  constructor
  rw [show hdL ++ m = [111, 98, 106, 101, 99, 116, 32, 97, 98, 99, 100, 10, 116, 121, 112, 101, 32, 98, 108, 111, 98, 10, 116, 97, 103, 32, 118, 10, 116, 97, 103, 103, 101, 114, 32, 65, 32, 60, 97, 64, 98, 62, 32, 49, 32, 43, 48, 48, 48, 48, 10] ++ 10 :: ([] ++ m) from rfl]
  exact fnd_at (pre := [111, 98, 106, 101, 99, 116, 32, 97, 98, 99, 100, 10, 116, 121, 112, 101, 32, 98, 108, 111, 98, 10, 116, 97, 103, 32, 118, 10, 116, 97, 103, 103, 101, 114, 32, 65, 32, 60, 97, 64, 98, 62, 32, 49, 32, 43, 48, 48, 48, 48, 10]) (k := 51) (by decide) (by decide)
theorem hsE {m : List UInt8} : SlIs (hdL ++ m) (some 52) none m := ⟨sl_tail (pre := hdL) (a := 52) (by decide)⟩
theorem hdNul {m : List UInt8} (h : (0 : UInt8) ∉ m) : FnIs (hdL ++ m) [0] 0 (-1) := ⟨fnd_no (hd_no h)⟩
theorem hdRoom {m : List UInt8} (h : m.length ≤ 1000) : (hdL ++ m).length ≤ 16777216 := by
  have e : hdL.length = 52 := rfl
  rw [List.length_append, e]; omega
noncomputable def tup2 (a b : Value) : Obj := { cls := .type "tuple", data := .seq #[a, b] }
inductive PHeads (led : List (Addr × Obj)) (m : List UInt8) (r : Value) (led' : List (Addr × Obj)) : Prop
  | mk (T H a1 a2 a3 a4 : Addr) (tm t1 t2 t3 t4 u1 u2 u3 u4 : Tok) (n : Nat) (e1 : r = .ref T) (e2 : led' = (T, tup2 (.ref H) (.bytes m.toArray tm)) :: (H, listOf #[.ref a1, .ref a2, .ref a3, .ref a4] n) ::
    (a1, tup2 (.bytes #[111, 98, 106, 101, 99, 116] t1) (.bytes #[97, 98, 99, 100] u1)) :: (a2, tup2 (.bytes #[116, 121, 112, 101] t2) (.bytes #[98, 108, 111, 98] u2)) ::
    (a3, tup2 (.bytes #[116, 97, 103] t3) (.bytes #[118] u3)) :: (a4, tup2 (.bytes #[116, 97, 103, 103, 101, 114] t4) (.bytes #[65, 32, 60, 97, 64, 98, 62, 32, 49, 32, 43, 48, 48, 48, 48] u4)) :: led) : PHeads led m r led'
set_option maxHeartbeats 4000000 in
theorem con_heads (w : World) (led : List (Addr × Obj)) (m : List UInt8) (t : Tok) (hm : m.length ≤ 1000) (h0 : (0 : UInt8) ∉ m) : Con w 195 1 100 led [.bytes (hdL ++ m).toArray t] (PHeads led m) := by
  refine conOf ?_
  k_fill
  intro dp un gd cn cs a ccd cl outer A₀ base h₀ L m hp gn dr tk os Q E p loose mean mg mb B F X N T hk hd hu hret
  k_with_none
  k_with "tb_start" => (
      first
      | (refine' Nat.le_trans ?zqq1 (Nat.le_of_ble_eq_true ?zqq2); (case zqq1 => with_reducible assumption); (case zqq2 => exact rfl))
      | omega
      | (simp only [List.length_append, List.length_cons, List.length_nil, List.length_map, List.length_take, List.length_drop]; omega)
      | ((try simp only [List.length_append, List.length_cons, List.length_nil]); (first | refine Nat.le_trans (sl_length _ _) ?_ | skip); omega)
      | fail "size")
  k_with "getMethod bytes" => ((k_here; (with_reducible show wpAny _ _ (getMethod (Value.bytes (List.toArray _) _) (PySem.Str.ofString "find") _) _ _ _); (refine methB slotFind tyFind ?_)))
  k_with "ktr_rel" => (
      (intro cbp cbh; first
      | exact cbh
      | exact List.mem_cons_of_mem _ cbh
      | exact List.mem_cons_of_mem _ (List.mem_cons_of_mem _ cbh)
      | (simp only [List.mem_cons, List.mem_append] at cbh ⊢; first | exact cbh | (simp [cbh]; done) | grind)
      | grind))
  k_with "k_all" => (lcg_off)
  k_with "ktr_unf" => (
      first
      | assumption
      | exact List.Mem.head _
      | (refine' List.mem_append_left _ ?_; ktr_unf)
      | (refine' List.Mem.tail _ ?_; ktr_unf))
  k_with "lcg_off" => (
      first
      | assumption
      | (refine' off_lt ?zqal; (case zqal => assumption))
      | (refine' off_lt1 ?zqal; (case zqal => assumption))
      | (refine' OwnOff.ne ?zqal ?zqam; (case zqal => assumption); (case zqam => first | exact List.Mem.head _ | (simp; done)))
      | (refine' off_app ?zqal ?zqam; (case zqal => lcg_off); (case zqam => lcg_off))
      | (apply off_cons; assumption)
      | (refine' (fmc ?zqla ?zqlb); (case zqla => k_ne); (case zqlb => lcg_off))
      | (apply off_tail1; assumption)
      | (apply off_cons; apply off_cons; assumption)
      | (refine' ltNe ?zqal; (case zqal => first | assumption | (apply And.right; assumption) | (apply And.right; apply And.right; assumption) | (apply And.right; apply And.right; apply And.right; assumption) | (apply And.right; apply And.right; apply And.right; apply And.right; assumption) | (apply And.right; apply And.right; apply And.right; apply And.right; apply And.right; assumption))))
  k_with "cell_enter" => ((refine' code_def ?zqk1 ?zqk2 ?zqk3 ?zqk4 ?zqk5 ?zqkA ?zqkF ?zqkK ?zqk6 ?zqk7 ?zqk8 ?zqk9 ?zqkB ?_ ?zqc2 ?zqc3 ?zqc4 ?zqc5; (case zqkA => exact rfl); (case zqkF => exact rfl); (case zqkK => assumption); (case zqk1 => k_asm); (case zqk2 => k_asm); (case zqk3 => k_asm); (case zqk4 => k_asm); (case zqk5 => k_asm); (case zqk6 => k_is); (case zqk7 => k_is); (case zqk8 => ktr_room); (case zqk9 => first | exact BindsTo.of_eq rfl | exact binds_K (by k_in) rfl (by k_is) rfl rfl rfl); (case zqc5 => decide); (case zqkB => exact locs rfl); (case zqc2 => exact rfl); (case zqc3 => exact rfl); (case zqc4 => exact rfl); k_whole; intro g' L' h' FG' F' N' B' X' T'; (try dsimp only); (try k_lift B'); (try k_fold)))
  k_with "k_ne" => ((refine neN ?_; (try dsimp only); first | (refine' neLt ?zqcbh ?zqcbk; (case zqcbh => with_reducible assumption); (case zqcbk => (intro cbz; repeat (first | exact cbz.1 | replace cbz := cbz.2)))) | (refine' neGt ?zqcbh ?zqcbk; (case zqcbh => with_reducible assumption); (case zqcbk => (intro cbz; repeat (first | exact cbz.1 | replace cbz := cbz.2)))) | omega))
  k_with "spliced" => ((k_here; k_dflt (refine' pes_eval ?zqcbF ?zqcbv ?_ ?zqcba; (case zqcbF => k_asm); (case zqcba => rfl); (case zqcbv => exact Eq.refl (some (_, _))); k_whole); (try dsimp only [List.cons_append, List.nil_append])))
  k_with "eval BinOp" => ((k_here; k_dflt (refine' binop_pe ?zqcbF ?zqcbv ?zqcbw ?_ ?zqcba; (case zqcbF => k_asm); (case zqcba => rfl); (case zqcbv => exact Eq.refl (some (_, _))); (case zqcbw => exact Eq.refl (some (_, _))); k_whole)))
  k_with "isTrue Compare" => ((k_here; k_dflt (refine' cmp_pe (hm := by with_unfolding_all rfl) ?zqcbF ?zqcbv ?zqcbw ?_ ?zqcba; (case zqcbF => k_asm); (case zqcba => rfl); (case zqcbv => exact Eq.refl (some (_, _))); (case zqcbw => exact Eq.refl (some (_, _))); k_whole)))
  k_with "eval Slice" => ((k_here; k_dflt (refine' slice_pe ?zqcbF ?zqcbu ?zqcbv ?zqcbw ?_ ?zqcba; (case zqcbF => k_asm); (case zqcba => rfl); (case zqcbu => exact Eq.refl (some (_, _))); (case zqcbv => exact Eq.refl (some (_, _))); (case zqcbw => exact Eq.refl (some (_, _))); k_whole)))
  k_with "eval Name" => ((k_here; k_dflt (refine' nameX_L ?zqcbF ?zqcbv ?_ ?zqcba ?zqcbb; (case zqcbF => k_asm); (case zqcba => rfl); (case zqcbb => rfl); (case zqcbv => exact Eq.refl (some _)); k_whole)))
  k_with "storeName" => ((k_here; k_dflt (refine' storeL ?zqcbF ?zqcbN ?_ ?zqcba ?zqcbb; (case zqcbF => k_asm); (case zqcbN => k_asm); (case zqcba => rfl); (case zqcbb => rfl); k_whole); intro _ _ _ _; (try k_sweep)))
  k_with "compareOp NotIn" => ((k_here; (with_reducible show wpAny _ _ (compareOp CmpOp.NotIn (Value.int _ _) (Value.bytes (List.toArray _) _)) _ _ _); first | refine notInK true (by decide) (by decide) (by decide) ?_ | refine notInK false (by decide) (by decide) (by decide) ?_))
  k_with "compareOp In" => ((k_here; (with_reducible show wpAny _ _ (compareOp CmpOp.In (Value.int _ _) (Value.bytes (List.toArray _) _)) _ _ _); first | refine inK true (by decide) (by decide) (by decide) ?_ | refine inK false (by decide) (by decide) (by decide) ?_))
  k_with "UnrEnd" => ((k_here; k_dflt ((rename News _ _ _ _ => nE'); first | (refine' UnrEnd.introT ?zqF nE' ?zqoff ?_; (case zqF => assumption); (case zqoff => lcg_off)) | (refine' UnrEnd.introT1 ?zqF nE' ?zqoff ?_; (case zqF => assumption); (case zqoff => lcg_off)) | (refine' UnrEnd.introT2 ?zqF nE' ?zqoff ?_; (case zqF => assumption); (case zqoff => lcg_off)))))
  k_with "call builtin:len" => ((k_here; (with_reducible show wpAny _ _ (call (Value.builtin "len") [Value.str (PySem.Str.ofString _) _]) _ _ _); (refine lenStrE (by k_dflt kxw_int) (by decide) ?_); intro _ _; (try dsimp only)))
  k_with "call builtin:bytes.find" => ((k_here; (with_reducible show wpAny _ _ (call (Value.builtin "bytes.find") _) _ _ _); (try dsimp only [List.append, List.cons_append, List.nil_append]); k_dflt (first | (refine' find2E ?zqe ?_; (case zqe => first | (refine' hdNul ?zqx; (case zqx => assumption)) | exact hb0 | exact hb12 | exact hb22 | exact hb28)) | (refine' find3E ?zqh0 ?zqe ?_; (case zqh0 => first | decide | omega); (case zqe => first | exact hf0 | exact hf12 | exact hf22 | exact hf28 | exact hf51))); intro _ _))
  k_with "subscriptTail" => ((k_here; (with_reducible show wpAny _ _ (subscriptTail _ (Expr.Slice _ _ none _) (Value.bytes (List.toArray (_ ++ _)) _) (Value.ref _)) _ _ _); (with_reducible rename Fr _ _ _ _ => F'); (with_reducible rename News _ _ _ _ => N'); k_dflt (refine' sliceE (hs := by with_unfolding_all rfl) (ht := by intro _; with_unfolding_all rfl) (s := ⟨_, _, _, _, _⟩) F' N' ?zqk1 ?zqk2 ?zqk3 ?zqe ?_; (case zqk1 => constructor); (case zqk2 => constructor); (case zqe => first | exact hs0 | exact hs12 | exact hs22 | exact hs28 | exact hsE); (case zqk3 => tb_start)); intro _ _ _ _ _))
  k_with "subscriptTail" => ((k_here; (with_reducible show wpAny _ _ (subscriptTail _ (Expr.Slice _ _ none _) (Value.bytes (List.toArray (List.cons _ _)) _) (Value.ref _)) _ _ _); (with_reducible rename Fr _ _ _ _ => F'); (with_reducible rename News _ _ _ _ => N'); k_dflt (refine' sliceE (hs := by with_unfolding_all rfl) (ht := by intro _; with_unfolding_all rfl) (s := ⟨_, _, _, _, _⟩) F' N' ?zqk1 ?zqk2 ?zqk3 ?zqe ?_; (case zqk1 => constructor); (case zqk2 => constructor); (case zqe => first | exact hra0 | exact hrb0 | exact hrc0 | exact hra12 | exact hrb12 | exact hrc12 | exact hra22 | exact hrb22 | exact hrc22 | exact hra28 | exact hrb28 | exact hrc28); (case zqk3 => tb_start)); intro _ _ _ _ _))
  k_with "tb_start" => ((refine' hdRoom ?zqx; (case zqx => assumption)))
  k_with "compareOp Eq" => ((k_here; (with_reducible show wpAny _ _ (compareOp CmpOp.Eq (Value.bytes (List.toArray _) _) (Value.bytes (List.toArray _) _)) _ _ _); first | refine eqD true (by decide) ?_ | refine eqD false (by decide) ?_))
  k_with "compareOp NotEq" => ((k_here; (with_reducible show wpAny _ _ (compareOp CmpOp.NotEq (Value.bytes (List.toArray _) _) (Value.bytes (List.toArray _) _)) _ _ _); first | refine neD true (by decide) ?_ | refine neD false (by decide) ?_))
  w_strict (
    refine wpAny_call ?_
    k_dflt cell_enter
    k_steps
    (rename News _ _ _ _ => nE)
    (try simp only [List.push_toArray, List.cons_append, List.nil_append] at nE)
    refine' hret _ _ _ _ ⟨_, _, _, _, _, _, _, _, _, _, _, _, _, _, _, _, rfl, rfl⟩ ?ze1 (cb_drop nE ((fmc ?y1 (fmc ?y2 (fmc ?y3 (fmc ?y4 (fmc ?y5 (fmc ?y6 ?y7))))))))
    case ze1 => assumption
    case y1 => ktr_unf
    case y2 => ktr_unf
    case y3 => ktr_unf
    case y4 => ktr_unf
    case y5 => ktr_unf
    case y6 => ktr_unf
    case y7 => ktr_rel)
theorem noneIn {l sg pre post : List UInt8} {y : UInt8} (h : ∀ c ∈ sg, c ∉ l) (e : sg = pre ++ y :: post) : FnIs l [y] 0 (-1) := ⟨fnd_no (h y (by rw [e]; simp))⟩
theorem each1 {c : UInt8} {t : Tok} : Each RInt [.int ((c.toNat : Nat) : Int) t] [c] := .cons ⟨_, rfl⟩ .nil
set_option maxHeartbeats 4000000 in
theorem con_no_sign (w : World) (led : List (Addr × Obj)) (l sg : List UInt8) (t u : Tok) (hno : ∀ c ∈ sg, c ∉ l) : Con w 111 1 8 led [.bytes l.toArray t, .bytes sg.toArray u] (PBool led false) := by
  refine conOf ?_
  k_fill
  intro dp un gd cn cs a ccd cl outer A₀ base h₀ L m hp gn dr tk os Q E p loose mean mg mb B F X N T hk hd hu hret
  k_with_none
  k_with "getMethod bytes" => ((k_here; (with_reducible show wpAny _ _ (getMethod (Value.bytes (List.toArray _) _) (PySem.Str.ofString "find") _) _ _ _); (refine methB slotFind tyFind ?_)))
  k_with "ktr_rel" => (
      (intro cbp cbh; first
      | exact cbh
      | exact List.mem_cons_of_mem _ cbh
      | exact List.mem_cons_of_mem _ (List.mem_cons_of_mem _ cbh)
      | (simp only [List.mem_cons, List.mem_append] at cbh ⊢; first | exact cbh | (simp [cbh]; done) | grind)
      | grind))
  k_with "tb_rel" => (
      first
      | assumption
      | (refine' News.dr1 ?zqcbN; (case zqcbN => assumption))
      | (refine' News.dr2 ?zqcbN; (case zqcbN => assumption))
      | (refine' News.dr3 ?zqcbN; (case zqcbN => assumption))
      | (refine' News.dr4 ?zqcbN; (case zqcbN => assumption))
      | (refine' News.dr5 ?zqcbN; (case zqcbN => assumption))
      | (refine' News.dr6 ?zqcbN; (case zqcbN => assumption))
      | (refine' cb_drop ?zqcbN ?zqcbS; (case zqcbN => assumption); (case zqcbS => ktr_rel)))
  k_with "cell_enter" => ((refine' code_def ?zqk1 ?zqk2 ?zqk3 ?zqk4 ?zqk5 ?zqkA ?zqkF ?zqkK ?zqk6 ?zqk7 ?zqk8 ?zqk9 ?zqkB ?_ ?zqc2 ?zqc3 ?zqc4 ?zqc5; (case zqkA => exact rfl); (case zqkF => exact rfl); (case zqkK => assumption); (case zqk1 => k_asm); (case zqk2 => k_asm); (case zqk3 => k_asm); (case zqk4 => k_asm); (case zqk5 => k_asm); (case zqk6 => k_is); (case zqk7 => k_is); (case zqk8 => ktr_room); (case zqk9 => first | exact BindsTo.of_eq rfl | exact binds_K (by k_in) rfl (by k_is) rfl rfl rfl); (case zqc5 => decide); (case zqkB => exact locs rfl); (case zqc2 => exact rfl); (case zqc3 => exact rfl); (case zqc4 => exact rfl); k_whole; intro g' L' h' FG' F' N' B' X' T'; (try dsimp only); (try k_lift B'); (try k_fold)))
  k_with "k_ne" => ((refine neN ?_; (try dsimp only); first | (refine' neLt ?zqcbh ?zqcbk; (case zqcbh => with_reducible assumption); (case zqcbk => (intro cbz; repeat (first | exact cbz.1 | replace cbz := cbz.2)))) | (refine' neGt ?zqcbh ?zqcbk; (case zqcbh => with_reducible assumption); (case zqcbk => (intro cbz; repeat (first | exact cbz.1 | replace cbz := cbz.2)))) | omega))
  k_with "spliced" => ((k_here; k_dflt (refine' pes_eval ?zqcbF ?zqcbv ?_ ?zqcba; (case zqcbF => k_asm); (case zqcba => rfl); (case zqcbv => exact Eq.refl (some (_, _))); k_whole); (try dsimp only [List.cons_append, List.nil_append])))
  k_with "eval Name" => ((k_here; k_dflt (refine' nameX_L ?zqcbF ?zqcbv ?_ ?zqcba ?zqcbb; (case zqcbF => k_asm); (case zqcba => rfl); (case zqcbb => rfl); (case zqcbv => exact Eq.refl (some _)); k_whole)))
  k_with "exec For Name Name cons nil" => ((k_here; (rename Fr _ _ _ _ => lF'); (with_unfolding_all refine' For_invVF lF' ?zqk1 ?zqk2 ?_; (case zqk1 => exact rfl); (case zqk2 => exact rfl); k_whole)))
  k_with "pyIter bytes" => (k_dflt ((rename Fr _ _ _ _ => lF'); (rename News _ _ _ _ => lN'); refine' by_for (σ := Unit) (fun _ => []) [] (fun pre _ => True) () ?zqhh lF' lN' ?zqhk ?zqhp ?_ ?_; (case zqhk => exact (fun _ h => nomatch h)); (case zqhh => exact rfl); (case zqhp => exact trivial); (all_goals (clear lF' lN')); (all_goals (first | (intro cC cPre cY cPost cT cU cH cTk cOwn cE cO cP cF cN; (try dsimp only [kstB] at cF); (try dsimp only at cN); (try simp only [List.cons_append, List.nil_append] at cN)) | (intro cC cU cH cTk cP cF cN; (try dsimp only [kstB] at cF); (try dsimp only at cN))))))
  k_with "InvEndN" => ((k_here; k_dflt ((rename News _ _ _ _ => nE'); (rename Fr _ _ _ _ => fE'); refine' by_end () fE' nE' ?zqz1 ?zqz2 rfl ?zqz4 ?zqz5 ?zqz6; (case zqz1 => ktr_rel); (case zqz2 => ktr_rel); (case zqz4 => exact (fun _ h => nomatch h)); (case zqz5 => kst_same); (case zqz6 => exact trivial))))
  k_with "call type:bytes" => ((k_here; (with_reducible show wpAny _ _ (call (Value.type "bytes") [Value.ref _]) _ _ _); k_dflt ((rename News _ _ _ _ => nB); refine' callBytes ?zqn1 nB ?zqn3 (News.isList nB ?zqn5) ?zqn6 ?zqn7 ?_; (case zqn1 => k_asm); (case zqn3 => exact rfl); (case zqn5 => exact List.Mem.head _); (case zqn6 => exact each1); (case zqn7 => exact Nat.le_of_ble_eq_true rfl); intro _ _ _ _ _)))
  k_with "call builtin:bytes.find" => ((k_here; (with_reducible show wpAny _ _ (call (Value.builtin "bytes.find") _) _ _ _); (try dsimp only [List.append, List.cons_append, List.nil_append]); k_dflt (refine' find2E ?zqe ?_; (case zqe => refine' noneIn ?zqx ?zqy; (case zqx => assumption); (case zqy => assumption)); intro _ _)))
  w_strict (
    refine wpAny_call ?_
    k_dflt cell_enter
    k_steps
    all_goals first | (refine' hret _ _ _ _ (pBool rfl) ?ze1 ?ze2; (case ze1 => assumption); (case ze2 => tb_rel)) | trace_state)
theorem oneSplit {pre post : List UInt8} {y c : UInt8} (e : [c] = pre ++ y :: post) : pre = [] ∧ y = c := by
  cases pre with
  | nil => simp at e; exact ⟨rfl, e.1.symm⟩
  | cons a r => simp at e
structure NumP (pre : List UInt8) (k : Int) : Prop where
  out : k = (pre.length : Int)
theorem numP1 {k : Int} (h : k = 1) : NumP ([] ++ [49]) k := ⟨h⟩
theorem numL (l : List UInt8) {k : Int} (h : NumP [49] k) : k = 1 := h.out
set_option maxHeartbeats 4000000 in
theorem con_num1 (w : World) (led : List (Addr × Obj)) (t u : Tok) : Con w 85 1 8 led [.bytes #[49] t, .int 10 u] (PInt led 1) := by
  refine conOf ?_
  k_fill
  intro dp un gd cn cs a ccd cl outer A₀ base h₀ L m hp gn dr tk os Q E p loose mean mg mb B F X N T hk hd hu hret
  k_with_none
  k_with "tb_start" => (
      first
      | (refine' Nat.le_trans ?zqq1 (Nat.le_of_ble_eq_true ?zqq2); (case zqq1 => with_reducible assumption); (case zqq2 => exact rfl))
      | omega
      | (simp only [List.length_append, List.length_cons, List.length_nil, List.length_map, List.length_take, List.length_drop]; omega)
      | ((try simp only [List.length_append, List.length_cons, List.length_nil]); (first | refine Nat.le_trans (sl_length _ _) ?_ | skip); omega)
      | fail "size")
  k_with "call builtin:len" => ((k_here; (with_reducible show wpAny _ _ (call (Value.builtin "len") [Value.bytes (List.toArray _) _]) _ _ _); (refine lenB (by tb_start) ?_); intro _ _))
  k_with "ktr_rel" => (
      (intro cbp cbh; first
      | exact cbh
      | exact List.mem_cons_of_mem _ cbh
      | exact List.mem_cons_of_mem _ (List.mem_cons_of_mem _ cbh)
      | (simp only [List.mem_cons, List.mem_append] at cbh ⊢; first | exact cbh | (simp [cbh]; done) | grind)
      | grind))
  k_with "tb_rel" => (
      first
      | assumption
      | (refine' News.dr1 ?zqcbN; (case zqcbN => assumption))
      | (refine' News.dr2 ?zqcbN; (case zqcbN => assumption))
      | (refine' News.dr3 ?zqcbN; (case zqcbN => assumption))
      | (refine' News.dr4 ?zqcbN; (case zqcbN => assumption))
      | (refine' News.dr5 ?zqcbN; (case zqcbN => assumption))
      | (refine' News.dr6 ?zqcbN; (case zqcbN => assumption))
      | (refine' cb_drop ?zqcbN ?zqcbS; (case zqcbN => assumption); (case zqcbS => ktr_rel)))
  k_with "cell_enter" => ((refine' code_def ?zqk1 ?zqk2 ?zqk3 ?zqk4 ?zqk5 ?zqkA ?zqkF ?zqkK ?zqk6 ?zqk7 ?zqk8 ?zqk9 ?zqkB ?_ ?zqc2 ?zqc3 ?zqc4 ?zqc5; (case zqkA => exact rfl); (case zqkF => exact rfl); (case zqkK => assumption); (case zqk1 => k_asm); (case zqk2 => k_asm); (case zqk3 => k_asm); (case zqk4 => k_asm); (case zqk5 => k_asm); (case zqk6 => k_is); (case zqk7 => k_is); (case zqk8 => ktr_room); (case zqk9 => first | exact BindsTo.of_eq rfl | exact binds_K (by k_in) rfl (by k_is) rfl rfl rfl); (case zqc5 => decide); (case zqkB => exact locs rfl); (case zqc2 => exact rfl); (case zqc3 => exact rfl); (case zqc4 => exact rfl); k_whole; intro g' L' h' FG' F' N' B' X' T'; (try dsimp only); (try k_lift B'); (try k_fold)))
  k_with "k_ne" => ((refine neN ?_; (try dsimp only); first | (refine' neLt ?zqcbh ?zqcbk; (case zqcbh => with_reducible assumption); (case zqcbk => (intro cbz; repeat (first | exact cbz.1 | replace cbz := cbz.2)))) | (refine' neGt ?zqcbh ?zqcbk; (case zqcbh => with_reducible assumption); (case zqcbk => (intro cbz; repeat (first | exact cbz.1 | replace cbz := cbz.2)))) | omega))
  k_with "spliced" => ((k_here; k_dflt (refine' pes_eval ?zqcbF ?zqcbv ?_ ?zqcba; (case zqcbF => k_asm); (case zqcba => rfl); (case zqcbv => exact Eq.refl (some (_, _))); k_whole); (try dsimp only [List.cons_append, List.nil_append])))
  k_with "eval BinOp" => ((k_here; k_dflt (refine' binop_pe ?zqcbF ?zqcbv ?zqcbw ?_ ?zqcba; (case zqcbF => k_asm); (case zqcba => rfl); (case zqcbv => exact Eq.refl (some (_, _))); (case zqcbw => exact Eq.refl (some (_, _))); k_whole)))
  k_with "eval Name" => ((k_here; k_dflt (refine' nameX_L ?zqcbF ?zqcbv ?_ ?zqcba ?zqcbb; (case zqcbF => k_asm); (case zqcba => rfl); (case zqcbb => rfl); (case zqcbv => exact Eq.refl (some _)); k_whole)))
  k_with "storeName" => ((k_here; k_dflt (refine' storeL ?zqcbF ?zqcbN ?_ ?zqcba ?zqcbb; (case zqcbF => k_asm); (case zqcbN => k_asm); (case zqcba => rfl); (case zqcbb => rfl); k_whole); intro _ _ _ _; (try k_sweep)))
  k_with "exec For Name Name cons nil" => ((k_here; (rename Fr _ _ _ _ => lF'); (with_unfolding_all refine' For_invVF lF' ?zqk1 ?zqk2 ?_; (case zqk1 => exact rfl); (case zqk2 => exact rfl); k_whole)))
  k_with "pyIter bytes" => (k_dflt ((rename Fr _ _ _ _ => lF'); (rename News _ _ _ _ => lN'); refine' by_for (l := [49]) (σ := Int × Tok) (fun c => [(PySem.Str.ofString "number", .int c.1 c.2)]) [PySem.Str.ofString "digit"] (fun pre c => NumP pre c.1) (_, _) ?zqhh lF' lN' ?zqhk ?zqhp ?_ ?_; (case zqhk => kst_all); (case zqhh => exact rfl); (case zqhp => exact ⟨rfl⟩); (all_goals (clear lF' lN')); (all_goals (first | (intro cC cPre cY cPost cT cU cH cTk cOwn cE cO cP cF cN; obtain ⟨rfl, rfl⟩ := oneSplit cE; have cP := cP.out; (try dsimp only [kstB, List.length_nil] at cF cP); (try dsimp only at cN); (try simp only [List.cons_append, List.nil_append] at cN)) | (intro cC cU cH cTk cP cF cN; have cP := cP.out; (try dsimp only [kstB, List.length_cons, List.length_nil] at cF cP); (try dsimp only at cN))))))
  k_with "InvEndN" => ((k_here; k_dflt ((rename News _ _ _ _ => nE'); (rename Fr _ _ _ _ => fE'); refine' by_end (_, _) fE' nE' ?zqz1 ?zqz2 rfl ?zqz4 ?zqz5 ?zqz6; (case zqz1 => ktr_rel); (case zqz2 => ktr_rel); (case zqz4 => kst_all); (case zqz5 => kst_same); (case zqz6 => refine' numP1 ?zqx; (case zqx => (have e49 : ((UInt8.toNat 49 : Nat) : Int) = 49 := rfl); omega)))))
  w_strict (
    refine wpAny_call ?_
    k_dflt cell_enter
    k_steps
    all_goals first | (refine' hret _ _ _ _ (pInt ?ze0) ?ze1 ?ze2; (case ze1 => assumption); (case ze2 => tb_rel); (case ze0 => omega)) | trace_state)
-- a class is called
theorem pf0 : FnIs [65, 32, 60, 97, 64, 98, 62, 32, 49, 32, 43, 48, 48, 48, 48] [32, 60] 0 1 := ⟨by decide +kernel⟩
theorem pq0 : SlIs [65, 32, 60, 97, 64, 98, 62, 32, 49, 32, 43, 48, 48, 48, 48] none (some 1) [65] := ⟨by decide +kernel⟩
theorem pq1 : SlIs [65, 32, 60, 97, 64, 98, 62, 32, 49, 32, 43, 48, 48, 48, 48] (some 3) none [97, 64, 98, 62, 32, 49, 32, 43, 48, 48, 48, 48] := ⟨by decide +kernel⟩
theorem pf1 : FnIs [97, 64, 98, 62, 32, 49, 32, 43, 48, 48, 48, 48] [62, 32] 0 3 := ⟨by decide +kernel⟩
theorem pq2 : SlIs [97, 64, 98, 62, 32, 49, 32, 43, 48, 48, 48, 48] none (some 3) [97, 64, 98] := ⟨by decide +kernel⟩
theorem pq3 : SlIs [97, 64, 98, 62, 32, 49, 32, 43, 48, 48, 48, 48] (some 5) none [49, 32, 43, 48, 48, 48, 48] := ⟨by decide +kernel⟩
theorem pf2 : FnIs [49, 32, 43, 48, 48, 48, 48] [32] 0 1 := ⟨by decide +kernel⟩
theorem pq4 : SlIs [49, 32, 43, 48, 48, 48, 48] none (some 1) [49] := ⟨by decide +kernel⟩
theorem pq5 : SlIs [49, 32, 43, 48, 48, 48, 48] (some 2) none [43, 48, 48, 48, 48] := ⟨by decide +kernel⟩
theorem pq6 : SlIs [43, 48, 48, 48, 48] (some 1) none [48, 48, 48, 48] := ⟨by decide +kernel⟩
set_option maxHeartbeats 4000000 in
theorem con_number (w : World) (led : List (Addr × Obj)) (t : Tok) : Con w 92 3 100 led [.bytes #[49] t] (PInt led 1) := by
  refine conOf ?_
  k_fill
  intro dp un gd cn cs a ccd cl outer A₀ base h₀ L m hp gn dr tk os Q E p loose mean mg mb B F X N T hk hd hu hret
  k_with_none
  k_with "tb_start" => (
      first
      | (refine' Nat.le_trans ?zqq1 (Nat.le_of_ble_eq_true ?zqq2); (case zqq1 => with_reducible assumption); (case zqq2 => exact rfl))
      | omega
      | (simp only [List.length_append, List.length_cons, List.length_nil, List.length_map, List.length_take, List.length_drop]; omega)
      | ((try simp only [List.length_append, List.length_cons, List.length_nil]); (first | refine Nat.le_trans (sl_length _ _) ?_ | skip); omega)
      | fail "size")
  k_with "call builtin:len" => ((k_here; (with_reducible show wpAny _ _ (call (Value.builtin "len") [Value.bytes (List.toArray _) _]) _ _ _); (refine lenB (by tb_start) ?_); intro _ _))
  k_with "binaryOp Add bytes bytes" => ((k_here; (with_reducible show wpAny _ _ (binaryOp Operator.Add (Value.bytes (List.toArray _) _) (Value.bytes (List.toArray _) _)) _ _ _); (refine addB (by tb_start) ?_); intro _ _))
  k_with "getMethod bytes" => ((k_here; (with_reducible show wpAny _ _ (getMethod (Value.bytes (List.toArray _) _) (PySem.Str.ofString "find") _) _ _ _); (refine methB slotFind tyFind ?_)))
  k_with "ktr_rel" => (
      (intro cbp cbh; first
      | exact cbh
      | exact List.mem_cons_of_mem _ cbh
      | exact List.mem_cons_of_mem _ (List.mem_cons_of_mem _ cbh)
      | (simp only [List.mem_cons, List.mem_append] at cbh ⊢; first | exact cbh | (simp [cbh]; done) | grind)
      | grind))
  k_with "tb_rel" => (
      first
      | assumption
      | (refine' News.dr1 ?zqcbN; (case zqcbN => assumption))
      | (refine' News.dr2 ?zqcbN; (case zqcbN => assumption))
      | (refine' News.dr3 ?zqcbN; (case zqcbN => assumption))
      | (refine' News.dr4 ?zqcbN; (case zqcbN => assumption))
      | (refine' News.dr5 ?zqcbN; (case zqcbN => assumption))
      | (refine' News.dr6 ?zqcbN; (case zqcbN => assumption))
      | (refine' cb_drop ?zqcbN ?zqcbS; (case zqcbN => assumption); (case zqcbS => ktr_rel)))
  k_with "k_all" => (lcg_off)
  k_with "units_room" => (first | exact roomA hu rfl | exact roomB hu rfl | exact roomC hu rfl | (have hcL9 := cLine_is; (try simp only [units_in1, units_deeper, Around.mark_units, units_caller] at *); (try dsimp only [ktrTop] at *); omega))
  k_with "ktr_unf" => (
      first
      | assumption
      | exact List.Mem.head _
      | (refine' List.mem_append_left _ ?_; ktr_unf)
      | (refine' List.Mem.tail _ ?_; ktr_unf))
  k_with "lcg_off" => (
      first
      | assumption
      | (refine' off_lt ?zqal; (case zqal => assumption))
      | (refine' off_lt1 ?zqal; (case zqal => assumption))
      | (refine' OwnOff.ne ?zqal ?zqam; (case zqal => assumption); (case zqam => first | exact List.Mem.head _ | (simp; done)))
      | (refine' off_app ?zqal ?zqam; (case zqal => lcg_off); (case zqam => lcg_off))
      | (apply off_cons; assumption)
      | (refine' (fmc ?zqla ?zqlb); (case zqla => k_ne); (case zqlb => lcg_off))
      | (apply off_tail1; assumption)
      | (apply off_cons; apply off_cons; assumption)
      | (refine' ltNe ?zqal; (case zqal => first | assumption | (apply And.right; assumption) | (apply And.right; apply And.right; assumption) | (apply And.right; apply And.right; apply And.right; assumption) | (apply And.right; apply And.right; apply And.right; apply And.right; assumption) | (apply And.right; apply And.right; apply And.right; apply And.right; apply And.right; assumption))))
  k_with "cell_enter" => ((refine' code_def ?zqk1 ?zqk2 ?zqk3 ?zqk4 ?zqk5 ?zqkA ?zqkF ?zqkK ?zqk6 ?zqk7 ?zqk8 ?zqk9 ?zqkB ?_ ?zqc2 ?zqc3 ?zqc4 ?zqc5; (case zqkA => exact rfl); (case zqkF => exact rfl); (case zqkK => assumption); (case zqk1 => k_asm); (case zqk2 => k_asm); (case zqk3 => k_asm); (case zqk4 => k_asm); (case zqk5 => k_asm); (case zqk6 => k_is); (case zqk7 => k_is); (case zqk8 => ktr_room); (case zqk9 => first | exact BindsTo.of_eq rfl | exact binds_K (by k_in) rfl (by k_is) rfl rfl rfl); (case zqc5 => decide); (case zqkB => exact locs rfl); (case zqc2 => exact rfl); (case zqc3 => exact rfl); (case zqc4 => exact rfl); k_whole; intro g' L' h' FG' F' N' B' X' T'; (try dsimp only); (try k_lift B'); (try k_fold)))
  k_with "ktr_room" => (first | exact roomA hd rfl | exact roomB hd rfl | exact roomC hd rfl)
  k_with "k_ne" => ((refine neN ?_; (try dsimp only); first | (refine' neLt ?zqcbh ?zqcbk; (case zqcbh => with_reducible assumption); (case zqcbk => (intro cbz; repeat (first | exact cbz.1 | replace cbz := cbz.2)))) | (refine' neGt ?zqcbh ?zqcbk; (case zqcbh => with_reducible assumption); (case zqcbk => (intro cbz; repeat (first | exact cbz.1 | replace cbz := cbz.2)))) | omega))
  k_with "spliced" => ((k_here; k_dflt (refine' pes_eval ?zqcbF ?zqcbv ?_ ?zqcba; (case zqcbF => k_asm); (case zqcba => rfl); (case zqcbv => exact Eq.refl (some (_, _))); k_whole); (try dsimp only [List.cons_append, List.nil_append])))
  k_with "eval BinOp" => ((k_here; k_dflt (refine' binop_pe ?zqcbF ?zqcbv ?zqcbw ?_ ?zqcba; (case zqcbF => k_asm); (case zqcba => rfl); (case zqcbv => exact Eq.refl (some (_, _))); (case zqcbw => exact Eq.refl (some (_, _))); k_whole)))
  k_with "isTrue Compare" => ((k_here; k_dflt (refine' cmp_pe (hm := by with_unfolding_all rfl) ?zqcbF ?zqcbv ?zqcbw ?_ ?zqcba; (case zqcbF => k_asm); (case zqcba => rfl); (case zqcbv => exact Eq.refl (some (_, _))); (case zqcbw => exact Eq.refl (some (_, _))); k_whole)))
  k_with "eval Subscript" => ((k_here; k_dflt (refine' sub_pe ?zqcbF ?zqcbv ?zqcbw ?_ ?zqcba; (case zqcbF => k_asm); (case zqcba => rfl); (case zqcbv => exact Eq.refl (some (_, _))); (case zqcbw => exact Eq.refl (some (_, _))); k_whole)))
  k_with "eval Name" => ((k_here; k_dflt (refine' nameX_L ?zqcbF ?zqcbv ?_ ?zqcba ?zqcbb; (case zqcbF => k_asm); (case zqcba => rfl); (case zqcbb => rfl); (case zqcbv => exact Eq.refl (some _)); k_whole)))
  k_with "storeName" => ((k_here; k_dflt (refine' storeL ?zqcbF ?zqcbN ?_ ?zqcba ?zqcbb; (case zqcbF => k_asm); (case zqcbN => k_asm); (case zqcba => rfl); (case zqcbb => rfl); k_whole); intro _ _ _ _; (try k_sweep)))
  k_with "eval Call" => ((k_here; k_dflt (refine' callK_pe (hd := by decide) ?zqcbF ?zqcbX ?zqcbT ?zqcbe ?zqcbf ?zqcbv ?_ ?zqcba ?zqcbb; (case zqcbF => k_asm); (case zqcbX => k_asm); (case zqcbT => k_asm); (case zqcba => rfl); (case zqcbb => rfl); (case zqcbe => k_is); (case zqcbf => k_is); (case zqcbv => exact Eq.refl (some (_, _))); k_whole); (try dsimp only [List.cons_append, List.nil_append])))
  k_with "compareOp NotIn" => ((k_here; (with_reducible show wpAny _ _ (compareOp CmpOp.NotIn (Value.int _ _) (Value.bytes (List.toArray _) _)) _ _ _); first | refine notInK true (by decide) (by decide) (by decide) ?_ | refine notInK false (by decide) (by decide) (by decide) ?_))
  k_with "compareOp In" => ((k_here; (with_reducible show wpAny _ _ (compareOp CmpOp.In (Value.int _ _) (Value.bytes (List.toArray _) _)) _ _ _); first | refine inK true (by decide) (by decide) (by decide) ?_ | refine inK false (by decide) (by decide) (by decide) ?_))
  k_with "UnrEnd" => ((k_here; k_dflt ((rename News _ _ _ _ => nE'); first | (refine' UnrEnd.introT ?zqF nE' ?zqoff ?_; (case zqF => assumption); (case zqoff => lcg_off)) | (refine' UnrEnd.introT1 ?zqF nE' ?zqoff ?_; (case zqF => assumption); (case zqoff => lcg_off)) | (refine' UnrEnd.introT2 ?zqF nE' ?zqoff ?_; (case zqF => assumption); (case zqoff => lcg_off)))))
  k_with "call builtin:len" => ((k_here; (with_reducible show wpAny _ _ (call (Value.builtin "len") [Value.str (PySem.Str.ofString _) _]) _ _ _); (refine lenStrE (by k_dflt kxw_int) (by decide) ?_); intro _ _; (try dsimp only)))
  k_with "ks_enter" => ((refine' code_def ?zqk1 ?zqk2 ?zqk3 ?zqk4 ?zqk5 ?zqkA ?zqkF ?zqkK ?zqk6 ?zqk7 ?zqk8 ?zqk9 ?zqkB ?_ ?zqc2 ?zqc3 ?zqc4 ?zqc5; (case zqkA => exact rfl); (case zqkF => exact rfl); (case zqkK => exact rfl); (case zqk1 => k_asm); (case zqk2 => k_asm); (case zqk3 => k_asm); (case zqk4 => k_asm); (case zqk5 => k_asm); (case zqk6 => k_is); (case zqk7 => k_is); (case zqk8 => ktr_room); (case zqk9 => first | exact BindsTo.of_eq rfl | exact binds_K (by k_in) rfl (by k_is) rfl rfl rfl); (case zqc5 => decide); (case zqkB => exact locs rfl); (case zqc2 => exact rfl); (case zqc3 => exact rfl); (case zqc4 => exact rfl); k_whole; intro g' L' h' FG' F' N' B' X' T'; (try dsimp only); (try k_lift B'); (try k_fold)))
  k_with "call ref" => ((k_here; k_dflt (refine' call_cls ?zqk1 ?zqk2 ?zqk3 ?zqk4 ?zqk5 ?zqk6 ?_; (case zqk1 => k_asm); (case zqk2 => k_asm); (case zqk3 => k_asm); (case zqk4 => k_is); (case zqk5 => k_is); (case zqk6 => k_is); k_whole; intro x' d' h' F' N' l1 l2; (try k_lt l1); (try k_lt2 l2); (try k_sweep); ks_enter)))
  k_with "call builtin:bytes.find" => ((k_here; (with_reducible show wpAny _ _ (call (Value.builtin "bytes.find") _) _ _ _); (try dsimp only [List.append, List.cons_append, List.nil_append]); k_dflt (refine' find2E ?zqe ?_; (case zqe => first | exact pf0 | exact pf1 | exact pf2); intro _ _)))
  k_with "subscriptTail" => ((k_here; (with_reducible show wpAny _ _ (subscriptTail _ (Expr.Slice _ _ none _) (Value.bytes (List.toArray (List.cons _ _)) _) (Value.ref _)) _ _ _); (with_reducible rename Fr _ _ _ _ => F'); (with_reducible rename News _ _ _ _ => N'); k_dflt (refine' sliceE (hs := by with_unfolding_all rfl) (ht := by intro _; with_unfolding_all rfl) (s := ⟨_, _, _, _, _⟩) F' N' ?zqk1 ?zqk2 ?zqk3 ?zqe ?_; (case zqk1 => constructor); (case zqk2 => constructor); (case zqe => first | exact pq0 | exact pq1 | exact pq2 | exact pq3 | exact pq4 | exact pq5 | exact pq6); (case zqk3 => decide)); intro _ _ _ _ _))
  k_with "subscriptTail" => ((k_here; (with_reducible show wpAny _ _ (subscriptTail _ _ (Value.bytes (List.toArray (List.cons _ _)) _) (Value.int _ _)) _ _ _); k_dflt (refine' itemE (hs := by with_unfolding_all rfl) (ht := by intro _; with_unfolding_all rfl) (k := 43) ?zqk1 ?zqk2 ?zqk3 ?zqe ?_; (case zqk1 => decide); (case zqk2 => decide); (case zqk3 => decide); (case zqe => exact rfl)); intro _ _))
  k_with "call ref" => ((k_here; (with_reducible show wpAny _ _ (call (Value.ref 85) _) _ _ _); k_dflt (refine' Con.useI (con_num1 _ _ _ _) ?zqn1 ?zqn2 ?zqn3 ?zqn4 ?zqn5 ?zqn6 ?zqn7 ?zqn8 ?_; (case zqn4 => assumption); (case zqn1 => k_asm); (case zqn2 => k_asm); (case zqn3 => k_asm); (case zqn5 => k_asm); (case zqn6 => exact rfl); (case zqn7 => ktr_room); (case zqn8 => units_room)); intro _ _ _ _ _; (try dsimp only)))
  k_with "call ref" => ((k_here; (with_reducible show wpAny _ _ (call (Value.ref 111) _) _ _ _); k_dflt (refine' Con.useO (con_no_sign _ _ _ _ _ _ ?zqc1) ?zqn1 ?zqn2 ?zqn3 ?zqn4 ?zqn5 ?zqn6 ?zqn7 ?zqn8 ?_; (case zqn4 => assumption); (case zqn1 => k_asm); (case zqn2 => k_asm); (case zqn3 => k_asm); (case zqn5 => k_asm); (case zqn6 => exact rfl); (case zqn7 => ktr_room); (case zqn8 => units_room); (case zqc1 => decide)); intro _ _ _ _; (try dsimp only)))
  k_with "call ref" => ((k_here; (with_reducible show wpAny _ _ (call (Value.ref 118) _) _ _ _); k_dflt (refine' Con.useO (con_are_allT _ _ _ _ _ _ ?zqc1) ?zqn1 ?zqn2 ?zqn3 ?zqn4 ?zqn5 ?zqn6 ?zqn7 ?zqn8 ?_; (case zqn4 => assumption); (case zqn1 => k_asm); (case zqn2 => k_asm); (case zqn3 => k_asm); (case zqn5 => k_asm); (case zqn6 => exact rfl); (case zqn7 => ktr_room); (case zqn8 => units_room); (case zqc1 => decide)); intro _ _ _ _; (try dsimp only)))
  w_strict (
    refine wpAny_call ?_
    k_dflt cell_enter
    k_steps
    all_goals first | (refine' hret _ _ _ _ (pInt rfl) ?ze1 ?ze2; (case ze1 => assumption); (case ze2 => tb_rel)) | trace_state)
set_option maxHeartbeats 4000000 in
theorem con_read_person (w : World) (led : List (Addr × Obj)) (t : Tok) : Con w 167 5 200 led [.bytes #[65, 32, 60, 97, 64, 98, 62, 32, 49, 32, 43, 48, 48, 48, 48] t] (PPers w led [65] [97, 64, 98] 1 [43, 48, 48, 48, 48]) := by
  refine conOf ?_
  k_fill
  intro dp un gd cn cs a ccd cl outer A₀ base h₀ L m hp gn dr tk os Q E p loose mean mg mb B F X N T hk hd hu hret
  k_with_none
  k_with "tb_start" => (
      first
      | (refine' Nat.le_trans ?zqq1 (Nat.le_of_ble_eq_true ?zqq2); (case zqq1 => with_reducible assumption); (case zqq2 => exact rfl))
      | omega
      | (simp only [List.length_append, List.length_cons, List.length_nil, List.length_map, List.length_take, List.length_drop]; omega)
      | ((try simp only [List.length_append, List.length_cons, List.length_nil]); (first | refine Nat.le_trans (sl_length _ _) ?_ | skip); omega)
      | fail "size")
  k_with "call builtin:len" => ((k_here; (with_reducible show wpAny _ _ (call (Value.builtin "len") [Value.bytes (List.toArray _) _]) _ _ _); (refine lenB (by tb_start) ?_); intro _ _))
  k_with "binaryOp Add bytes bytes" => ((k_here; (with_reducible show wpAny _ _ (binaryOp Operator.Add (Value.bytes (List.toArray _) _) (Value.bytes (List.toArray _) _)) _ _ _); (refine addB (by tb_start) ?_); intro _ _))
  k_with "getMethod bytes" => ((k_here; (with_reducible show wpAny _ _ (getMethod (Value.bytes (List.toArray _) _) (PySem.Str.ofString "find") _) _ _ _); (refine methB slotFind tyFind ?_)))
  k_with "ktr_rel" => (
      (intro cbp cbh; first
      | exact cbh
      | exact List.mem_cons_of_mem _ cbh
      | exact List.mem_cons_of_mem _ (List.mem_cons_of_mem _ cbh)
      | (simp only [List.mem_cons, List.mem_append] at cbh ⊢; first | exact cbh | (simp [cbh]; done) | grind)
      | grind))
  k_with "tb_rel" => (
      first
      | assumption
      | (refine' News.dr1 ?zqcbN; (case zqcbN => assumption))
      | (refine' News.dr2 ?zqcbN; (case zqcbN => assumption))
      | (refine' News.dr3 ?zqcbN; (case zqcbN => assumption))
      | (refine' News.dr4 ?zqcbN; (case zqcbN => assumption))
      | (refine' News.dr5 ?zqcbN; (case zqcbN => assumption))
      | (refine' News.dr6 ?zqcbN; (case zqcbN => assumption))
      | (refine' cb_drop ?zqcbN ?zqcbS; (case zqcbN => assumption); (case zqcbS => ktr_rel)))
  k_with "k_all" => (lcg_off)
  k_with "units_room" => (first | exact roomA hu rfl | exact roomB hu rfl | exact roomC hu rfl | (have hcL9 := cLine_is; (try simp only [units_in1, units_deeper, Around.mark_units, units_caller] at *); (try dsimp only [ktrTop] at *); omega))
  k_with "ktr_unf" => (
      first
      | assumption
      | exact List.Mem.head _
      | (refine' List.mem_append_left _ ?_; ktr_unf)
      | (refine' List.Mem.tail _ ?_; ktr_unf))
  k_with "lcg_off" => (
      first
      | assumption
      | (refine' off_lt ?zqal; (case zqal => assumption))
      | (refine' off_lt1 ?zqal; (case zqal => assumption))
      | (refine' OwnOff.ne ?zqal ?zqam; (case zqal => assumption); (case zqam => first | exact List.Mem.head _ | (simp; done)))
      | (refine' off_app ?zqal ?zqam; (case zqal => lcg_off); (case zqam => lcg_off))
      | (apply off_cons; assumption)
      | (refine' (fmc ?zqla ?zqlb); (case zqla => k_ne); (case zqlb => lcg_off))
      | (apply off_tail1; assumption)
      | (apply off_cons; apply off_cons; assumption)
      | (refine' ltNe ?zqal; (case zqal => first | assumption | (apply And.right; assumption) | (apply And.right; apply And.right; assumption) | (apply And.right; apply And.right; apply And.right; assumption) | (apply And.right; apply And.right; apply And.right; apply And.right; assumption) | (apply And.right; apply And.right; apply And.right; apply And.right; apply And.right; assumption))))
  k_with "cell_enter" => ((refine' code_def ?zqk1 ?zqk2 ?zqk3 ?zqk4 ?zqk5 ?zqkA ?zqkF ?zqkK ?zqk6 ?zqk7 ?zqk8 ?zqk9 ?zqkB ?_ ?zqc2 ?zqc3 ?zqc4 ?zqc5; (case zqkA => exact rfl); (case zqkF => exact rfl); (case zqkK => assumption); (case zqk1 => k_asm); (case zqk2 => k_asm); (case zqk3 => k_asm); (case zqk4 => k_asm); (case zqk5 => k_asm); (case zqk6 => k_is); (case zqk7 => k_is); (case zqk8 => ktr_room); (case zqk9 => first | exact BindsTo.of_eq rfl | exact binds_K (by k_in) rfl (by k_is) rfl rfl rfl); (case zqc5 => decide); (case zqkB => exact locs rfl); (case zqc2 => exact rfl); (case zqc3 => exact rfl); (case zqc4 => exact rfl); k_whole; intro g' L' h' FG' F' N' B' X' T'; (try dsimp only); (try k_lift B'); (try k_fold)))
  k_with "ktr_room" => (first | exact roomA hd rfl | exact roomB hd rfl | exact roomC hd rfl)
  k_with "k_ne" => ((refine neN ?_; (try dsimp only); first | (refine' neLt ?zqcbh ?zqcbk; (case zqcbh => with_reducible assumption); (case zqcbk => (intro cbz; repeat (first | exact cbz.1 | replace cbz := cbz.2)))) | (refine' neGt ?zqcbh ?zqcbk; (case zqcbh => with_reducible assumption); (case zqcbk => (intro cbz; repeat (first | exact cbz.1 | replace cbz := cbz.2)))) | omega))
  k_with "spliced" => ((k_here; k_dflt (refine' pes_eval ?zqcbF ?zqcbv ?_ ?zqcba; (case zqcbF => k_asm); (case zqcba => rfl); (case zqcbv => exact Eq.refl (some (_, _))); k_whole); (try dsimp only [List.cons_append, List.nil_append])))
  k_with "eval BinOp" => ((k_here; k_dflt (refine' binop_pe ?zqcbF ?zqcbv ?zqcbw ?_ ?zqcba; (case zqcbF => k_asm); (case zqcba => rfl); (case zqcbv => exact Eq.refl (some (_, _))); (case zqcbw => exact Eq.refl (some (_, _))); k_whole)))
  k_with "isTrue Compare" => ((k_here; k_dflt (refine' cmp_pe (hm := by with_unfolding_all rfl) ?zqcbF ?zqcbv ?zqcbw ?_ ?zqcba; (case zqcbF => k_asm); (case zqcba => rfl); (case zqcbv => exact Eq.refl (some (_, _))); (case zqcbw => exact Eq.refl (some (_, _))); k_whole)))
  k_with "eval Subscript" => ((k_here; k_dflt (refine' sub_pe ?zqcbF ?zqcbv ?zqcbw ?_ ?zqcba; (case zqcbF => k_asm); (case zqcba => rfl); (case zqcbv => exact Eq.refl (some (_, _))); (case zqcbw => exact Eq.refl (some (_, _))); k_whole)))
  k_with "eval Name" => ((k_here; k_dflt (refine' nameX_L ?zqcbF ?zqcbv ?_ ?zqcba ?zqcbb; (case zqcbF => k_asm); (case zqcba => rfl); (case zqcbb => rfl); (case zqcbv => exact Eq.refl (some _)); k_whole)))
  k_with "storeName" => ((k_here; k_dflt (refine' storeL ?zqcbF ?zqcbN ?_ ?zqcba ?zqcbb; (case zqcbF => k_asm); (case zqcbN => k_asm); (case zqcba => rfl); (case zqcbb => rfl); k_whole); intro _ _ _ _; (try k_sweep)))
  k_with "eval Call" => ((k_here; k_dflt (refine' callK_pe (hd := by decide) ?zqcbF ?zqcbX ?zqcbT ?zqcbe ?zqcbf ?zqcbv ?_ ?zqcba ?zqcbb; (case zqcbF => k_asm); (case zqcbX => k_asm); (case zqcbT => k_asm); (case zqcba => rfl); (case zqcbb => rfl); (case zqcbe => k_is); (case zqcbf => k_is); (case zqcbv => exact Eq.refl (some (_, _))); k_whole); (try dsimp only [List.cons_append, List.nil_append])))
  k_with "compareOp NotIn" => ((k_here; (with_reducible show wpAny _ _ (compareOp CmpOp.NotIn (Value.int _ _) (Value.bytes (List.toArray _) _)) _ _ _); first | refine notInK true (by decide) (by decide) (by decide) ?_ | refine notInK false (by decide) (by decide) (by decide) ?_))
  k_with "compareOp In" => ((k_here; (with_reducible show wpAny _ _ (compareOp CmpOp.In (Value.int _ _) (Value.bytes (List.toArray _) _)) _ _ _); first | refine inK true (by decide) (by decide) (by decide) ?_ | refine inK false (by decide) (by decide) (by decide) ?_))
  k_with "UnrEnd" => ((k_here; k_dflt ((rename News _ _ _ _ => nE'); first | (refine' UnrEnd.introT ?zqF nE' ?zqoff ?_; (case zqF => assumption); (case zqoff => lcg_off)) | (refine' UnrEnd.introT1 ?zqF nE' ?zqoff ?_; (case zqF => assumption); (case zqoff => lcg_off)) | (refine' UnrEnd.introT2 ?zqF nE' ?zqoff ?_; (case zqF => assumption); (case zqoff => lcg_off)))))
  k_with "call builtin:len" => ((k_here; (with_reducible show wpAny _ _ (call (Value.builtin "len") [Value.str (PySem.Str.ofString _) _]) _ _ _); (refine lenStrE (by k_dflt kxw_int) (by decide) ?_); intro _ _; (try dsimp only)))
  k_with "ks_enter" => ((refine' code_def ?zqk1 ?zqk2 ?zqk3 ?zqk4 ?zqk5 ?zqkA ?zqkF ?zqkK ?zqk6 ?zqk7 ?zqk8 ?zqk9 ?zqkB ?_ ?zqc2 ?zqc3 ?zqc4 ?zqc5; (case zqkA => exact rfl); (case zqkF => exact rfl); (case zqkK => exact rfl); (case zqk1 => k_asm); (case zqk2 => k_asm); (case zqk3 => k_asm); (case zqk4 => k_asm); (case zqk5 => k_asm); (case zqk6 => k_is); (case zqk7 => k_is); (case zqk8 => ktr_room); (case zqk9 => first | exact BindsTo.of_eq rfl | exact binds_K (by k_in) rfl (by k_is) rfl rfl rfl); (case zqc5 => decide); (case zqkB => exact locs rfl); (case zqc2 => exact rfl); (case zqc3 => exact rfl); (case zqc4 => exact rfl); k_whole; intro g' L' h' FG' F' N' B' X' T'; (try dsimp only); (try k_lift B'); (try k_fold)))
  k_with "call ref" => ((k_here; k_dflt (refine' call_cls ?zqk1 ?zqk2 ?zqk3 ?zqk4 ?zqk5 ?zqk6 ?_; (case zqk1 => k_asm); (case zqk2 => k_asm); (case zqk3 => k_asm); (case zqk4 => k_is); (case zqk5 => k_is); (case zqk6 => k_is); k_whole; intro x' d' h' F' N' l1 l2; (try k_lt l1); (try k_lt2 l2); (try k_sweep); ks_enter)))
  k_with "call builtin:bytes.find" => ((k_here; (with_reducible show wpAny _ _ (call (Value.builtin "bytes.find") _) _ _ _); (try dsimp only [List.append, List.cons_append, List.nil_append]); k_dflt (refine' find2E ?zqe ?_; (case zqe => first | exact pf0 | exact pf1 | exact pf2); intro _ _)))
  k_with "subscriptTail" => ((k_here; (with_reducible show wpAny _ _ (subscriptTail _ (Expr.Slice _ _ none _) (Value.bytes (List.toArray (List.cons _ _)) _) (Value.ref _)) _ _ _); (with_reducible rename Fr _ _ _ _ => F'); (with_reducible rename News _ _ _ _ => N'); k_dflt (refine' sliceE (hs := by with_unfolding_all rfl) (ht := by intro _; with_unfolding_all rfl) (s := ⟨_, _, _, _, _⟩) F' N' ?zqk1 ?zqk2 ?zqk3 ?zqe ?_; (case zqk1 => constructor); (case zqk2 => constructor); (case zqe => first | exact pq0 | exact pq1 | exact pq2 | exact pq3 | exact pq4 | exact pq5 | exact pq6); (case zqk3 => decide)); intro _ _ _ _ _))
  k_with "subscriptTail" => ((k_here; (with_reducible show wpAny _ _ (subscriptTail _ _ (Value.bytes (List.toArray (List.cons _ _)) _) (Value.int _ _)) _ _ _); k_dflt (refine' itemE (hs := by with_unfolding_all rfl) (ht := by intro _; with_unfolding_all rfl) (k := 43) ?zqk1 ?zqk2 ?zqk3 ?zqe ?_; (case zqk1 => decide); (case zqk2 => decide); (case zqk3 => decide); (case zqe => exact rfl)); intro _ _))
  k_with "call ref" => ((k_here; (with_reducible show wpAny _ _ (call (Value.ref 85) _) _ _ _); k_dflt (refine' Con.useI (con_num1 _ _ _ _) ?zqn1 ?zqn2 ?zqn3 ?zqn4 ?zqn5 ?zqn6 ?zqn7 ?zqn8 ?_; (case zqn4 => assumption); (case zqn1 => k_asm); (case zqn2 => k_asm); (case zqn3 => k_asm); (case zqn5 => k_asm); (case zqn6 => exact rfl); (case zqn7 => ktr_room); (case zqn8 => units_room)); intro _ _ _ _ _; (try dsimp only)))
  k_with "call ref" => ((k_here; (with_reducible show wpAny _ _ (call (Value.ref 111) _) _ _ _); k_dflt (refine' Con.useO (con_no_sign _ _ _ _ _ _ ?zqc1) ?zqn1 ?zqn2 ?zqn3 ?zqn4 ?zqn5 ?zqn6 ?zqn7 ?zqn8 ?_; (case zqn4 => assumption); (case zqn1 => k_asm); (case zqn2 => k_asm); (case zqn3 => k_asm); (case zqn5 => k_asm); (case zqn6 => exact rfl); (case zqn7 => ktr_room); (case zqn8 => units_room); (case zqc1 => decide)); intro _ _ _ _; (try dsimp only)))
  k_with "call ref" => ((k_here; (with_reducible show wpAny _ _ (call (Value.ref 118) _) _ _ _); k_dflt (refine' Con.useO (con_are_allT _ _ _ _ _ _ ?zqc1) ?zqn1 ?zqn2 ?zqn3 ?zqn4 ?zqn5 ?zqn6 ?zqn7 ?zqn8 ?_; (case zqn4 => assumption); (case zqn1 => k_asm); (case zqn2 => k_asm); (case zqn3 => k_asm); (case zqn5 => k_asm); (case zqn6 => exact rfl); (case zqn7 => ktr_room); (case zqn8 => units_room); (case zqc1 => decide)); intro _ _ _ _; (try dsimp only)))
  k_with "call ref" => ((k_here; (with_reducible show wpAny _ _ (call (Value.ref 92) _) _ _ _); k_dflt (refine' Con.useI (con_number _ _ _) ?zqn1 ?zqn2 ?zqn3 ?zqn4 ?zqn5 ?zqn6 ?zqn7 ?zqn8 ?_; (case zqn4 => assumption); (case zqn1 => k_asm); (case zqn2 => k_asm); (case zqn3 => k_asm); (case zqn5 => k_asm); (case zqn6 => exact rfl); (case zqn7 => ktr_room); (case zqn8 => units_room)); intro _ _ _ _ _; (try dsimp only)))
  w_strict (
    refine wpAny_call ?_
    k_dflt cell_enter
    k_steps
    (rename News _ _ _ _ => nE)
    refine' hret _ _ _ _ ⟨_, _, _, _, _, _, _, _, _, _, _, rfl, rfl⟩ ?ze1 (cb_drop nE ((fmc ?y1 (fmc ?y2 ?y3))))
    case ze1 => assumption
    case y1 => ktr_unf
    case y2 => ktr_unf
    case y3 => ktr_rel)
-- a def of the text is entered where it is called
theorem itemAt {prog : Program} {w : World} {A : Around} {E : Value → Shared → Prop} {s : Shared} {value slice : Expr} {Q : Value → Shared → Prop} {L : Addr} {vs : List Value} {k : Int} {tk : Tok} {v : Value} (hl : s.heap.IsList L vs.toArray)
    (h0 : 0 ≤ k) (h1 : k < (vs.length : Int)) (hz : vs.length ≤ 1000) (e : vs[k.toNat]? = some v) (h : Q v s)
    (hs : subscripted slice false (.ref L) (.int k tk) = operate [.ref L, .int k tk] (getItem (.ref L) (.int k tk))) : wpAny (model prog w) A (subscriptTail value slice (.ref L) (.int k tk)) Q E s :=
  itemAny hl h0 h1 hz (fun x hx => by rw [e] at hx; cases hx; exact h) hs
noncomputable def PTake (w : World) (wx wd H : Addr) (t1 t2 : Tok) (k : Int) (v : List UInt8) (rest : List (Addr × Obj)) : Value → List (Addr × Obj) → Prop := fun r led' =>
  ∃ (tv u' : Tok), r = .bytes v.toArray tv ∧ led' = (wx, instObj 233 wd) :: (wd, dictOf [⟨PyData.keyHash w.params (PySem.Str.ofString "heads"), .str (PySem.Str.ofString "heads") t1, .ref H⟩, ⟨PyData.keyHash w.params (PySem.Str.ofString "at"), .str (PySem.Str.ofString "at") t2, .int (k + 1) u'⟩] 2) :: rest
theorem backK {vs : List Value} {k : Int} {v : Value} (e : vs[k.toNat]? = some v) : vs[(k + 1 - 1).toNat]? = some v := by
  rw [show k + 1 - 1 = k by omega]; exact e
theorem pTake {w : World} {wx wd H : Addr} {t1 t2 : Tok} {k : Int} {v : List UInt8} {rest : List (Addr × Obj)} {tv u' : Tok} {k' : Int} (e : k' = k + 1) : PTake w wx wd H t1 t2 k v rest (.bytes v.toArray tv) ((wx, instObj 233 wd) :: (wd, dictOf [⟨PyData.keyHash w.params (PySem.Str.ofString "heads"), .str (PySem.Str.ofString "heads") t1, .ref H⟩, ⟨PyData.keyHash w.params (PySem.Str.ofString "at"), .str (PySem.Str.ofString "at") t2, .int k' u'⟩] 2) :: rest) := ⟨_, _, rfl, by rw [e]⟩
set_option maxHeartbeats 4000000 in
theorem con_take (w : World) (rest : List (Addr × Obj)) (wx wd H a : Addr) (vs : List Value) (k : Int) (key val : List UInt8) (t t1 t2 t3 t4 u : Tok) (nh : Nat) (h0 : 0 ≤ k) (h1 : k < (vs.length : Int)) (h2 : vs.length ≤ 1000) (hH : (H, listOf vs.toArray nh) ∈ rest) (he : vs[k.toNat]? = some (.ref a)) (ha : (a, tup2 (.bytes key.toArray t3) (.bytes val.toArray t4)) ∈ rest) (hxd : @Ne Nat wx wd) (hoff : ∀ p ∈ rest, p.1 ≠ wd) :
    Con w 223 3 100 ((wx, instObj 233 wd) :: (wd, dictOf [⟨PyData.keyHash w.params (PySem.Str.ofString "heads"), .str (PySem.Str.ofString "heads") t1, .ref H⟩, ⟨PyData.keyHash w.params (PySem.Str.ofString "at"), .str (PySem.Str.ofString "at") t2, .int k u⟩] 2) :: rest) [.ref wx, .bytes key.toArray t] (PTake w wx wd H t1 t2 k val rest) := by
  refine conOf ?_
  k_fill
  intro dp un gd cn cs a ccd cl outer A₀ base h₀ L m hp gn dr tk os Q E p loose mean mg mb B F X N T hk hd hu hret
  k_with_none
  k_with "tb_start" => (
      first
      | (refine' Nat.le_trans ?zqq1 (Nat.le_of_ble_eq_true ?zqq2); (case zqq1 => with_reducible assumption); (case zqq2 => exact rfl))
      | omega
      | (simp only [List.length_append, List.length_cons, List.length_nil, List.length_map, List.length_take, List.length_drop]; omega)
      | ((try simp only [List.length_append, List.length_cons, List.length_nil]); (first | refine Nat.le_trans (sl_length _ _) ?_ | skip); omega)
      | fail "size")
  k_with "k_all" => (lcg_off)
  k_with "ktr_unf" => (
      first
      | assumption
      | exact List.Mem.head _
      | (refine' List.mem_append_left _ ?_; ktr_unf)
      | (refine' List.Mem.tail _ ?_; ktr_unf))
  k_with "call builtin:len" => ((k_here; (with_reducible show wpAny _ _ (call (Value.builtin "len") [Value.ref _]) _ _ _); (refine' lenAny (News.isList ?zqn1 ?zqn2) ?zqn3 ?_; (case zqn1 => assumption); (case zqn2 => ktr_unf); (case zqn3 => tb_start); intro _ _)))
  k_with "lcg_off" => (
      first
      | assumption
      | (refine' off_lt ?zqal; (case zqal => assumption))
      | (refine' off_lt1 ?zqal; (case zqal => assumption))
      | (refine' OwnOff.ne ?zqal ?zqam; (case zqal => assumption); (case zqam => first | exact List.Mem.head _ | (simp; done)))
      | (refine' off_app ?zqal ?zqam; (case zqal => lcg_off); (case zqam => lcg_off))
      | (apply off_cons; assumption)
      | (refine' (fmc ?zqla ?zqlb); (case zqla => k_ne); (case zqlb => lcg_off))
      | (apply off_tail1; assumption)
      | (apply off_cons; apply off_cons; assumption)
      | (refine' ltNe ?zqal; (case zqal => first | assumption | (apply And.right; assumption) | (apply And.right; apply And.right; assumption) | (apply And.right; apply And.right; apply And.right; assumption) | (apply And.right; apply And.right; apply And.right; apply And.right; assumption) | (apply And.right; apply And.right; apply And.right; apply And.right; apply And.right; assumption))))
  k_with "cell_enter" => ((refine' code_def ?zqk1 ?zqk2 ?zqk3 ?zqk4 ?zqk5 ?zqkA ?zqkF ?zqkK ?zqk6 ?zqk7 ?zqk8 ?zqk9 ?zqkB ?_ ?zqc2 ?zqc3 ?zqc4 ?zqc5; (case zqkA => exact rfl); (case zqkF => exact rfl); (case zqkK => assumption); (case zqk1 => k_asm); (case zqk2 => k_asm); (case zqk3 => k_asm); (case zqk4 => k_asm); (case zqk5 => k_asm); (case zqk6 => k_is); (case zqk7 => k_is); (case zqk8 => ktr_room); (case zqk9 => first | exact BindsTo.of_eq rfl | exact binds_K (by k_in) rfl (by k_is) rfl rfl rfl); (case zqc5 => decide); (case zqkB => exact locs rfl); (case zqc2 => exact rfl); (case zqc3 => exact rfl); (case zqc4 => exact rfl); k_whole; intro g' L' h' FG' F' N' B' X' T'; (try dsimp only); (try k_lift B'); (try k_fold)))
  k_with "ktr_room" => (first | exact roomA hd rfl | exact roomB hd rfl | exact roomC hd rfl)
  k_with "k_ne" => ((refine neN ?_; (try dsimp only); first | (refine' neLt ?zqcbh ?zqcbk; (case zqcbh => with_reducible assumption); (case zqcbk => (intro cbz; repeat (first | exact cbz.1 | replace cbz := cbz.2)))) | (refine' neGt ?zqcbh ?zqcbk; (case zqcbh => with_reducible assumption); (case zqcbk => (intro cbz; repeat (first | exact cbz.1 | replace cbz := cbz.2)))) | omega))
  k_with "spliced" => ((k_here; k_dflt (refine' pes_eval ?zqcbF ?zqcbv ?_ ?zqcba; (case zqcbF => k_asm); (case zqcba => rfl); (case zqcbv => exact Eq.refl (some (_, _))); k_whole); (try dsimp only [List.cons_append, List.nil_append])))
  k_with "eval Name" => ((k_here; k_dflt (refine' nameX_L ?zqcbF ?zqcbv ?_ ?zqcba ?zqcbb; (case zqcbF => k_asm); (case zqcba => rfl); (case zqcbb => rfl); (case zqcbv => exact Eq.refl (some _)); k_whole)))
  k_with "in enter" => ((refine' code_def ?zqk1 ?zqk2 ?zqk3 ?zqk4 ?zqk5 ?zqkA ?zqkF ?zqkK ?zqk6 ?zqk7 ?zqk8 ?zqk9 ?zqkB ?_ ?zqc2 ?zqc3 ?zqc4 ?zqc5; (case zqkA => exact rfl); (case zqkF => exact rfl); (case zqkK => exact rfl); (case zqk1 => k_asm); (case zqk2 => k_asm); (case zqk3 => k_asm); (case zqk4 => k_asm); (case zqk5 => k_asm); (case zqk6 => k_is); (case zqk7 => k_is); (case zqk8 => ktr_room); (case zqk9 => first | exact BindsTo.of_eq rfl | exact binds_K (by k_in) rfl (by k_is) rfl rfl rfl); (case zqc5 => decide); (case zqkB => exact locs rfl); (case zqc2 => exact rfl); (case zqc3 => exact rfl); (case zqc4 => exact rfl); k_whole; intro g' L' h' FG' F' N' B' X' T'; (try dsimp only); (try k_lift B'); (try k_fold)))
  k_with "in enter" => ((refine' code_defC ?zqk1 ?zqk2 ?zqk3 ?zqk4 ?zqk5 ?zqkA ?zqkF ?zqkK ?zqk6 ?zqk7 ?zqk8 ?zqk9 ?zqkB ?zqkD ?_ ?zqc2 ?zqc3 ?zqc4; (case zqkA => exact rfl); (case zqkF => exact rfl); (case zqkK => exact rfl); (case zqk1 => k_asm); (case zqk2 => k_asm); (case zqk3 => k_asm); (case zqk4 => k_asm); (case zqk5 => k_asm); (case zqk6 => k_is); (case zqk7 => k_is); (case zqk8 => ktr_room); (case zqk9 => exact BindsTo.of_eq rfl); (case zqkB => exact rfl); (case zqkD => decide +kernel); (case zqc2 => exact rfl); (case zqc3 => exact rfl); (case zqc4 => exact rfl); k_whole; intro g' L' h' tk' cells' FG' F' N' Y' B' X' T' l1; (try k_lt l1); k_cells Y'; (try simp only [List.cons_append, List.nil_append] at N'); (try dsimp only); (try k_lift B'); (try k_fold)))
  k_with "call ref" => ((k_here; k_dflt (refine wpAny_call ?_; k_extra "in enter")))
  k_with "subscriptTail" => ((k_here; (with_reducible show wpAny _ _ (subscriptTail _ _ (Value.ref _) (Value.int _ _)) _ _ _); k_dflt (refine' itemAt (hs := by with_unfolding_all rfl) (News.isList ?zqn1 ?zqn2) ?zqn3 ?zqn4 ?zqn5 ?zqe ?_; (case zqn1 => assumption); (case zqn2 => ktr_unf); (case zqn3 => first | assumption | omega); (case zqn4 => first | assumption | omega); (case zqn5 => assumption); (case zqe => first | assumption | (refine' backK ?zqx; (case zqx => assumption))))))
  k_with "subscriptTail" => ((k_here; (with_reducible show wpAny _ _ (subscriptTail _ _ (Value.ref _) (Value.int _ _)) _ _ _); k_dflt (refine' item_tupleT (News.isTup ?zqn1 ?zqn2) ?zqza ?zqzb ?zqzc ?zqzd ?_; (case zqn1 => assumption); (case zqn2 => ktr_unf); (case zqza => decide); (case zqzb => decide); (case zqzc => exact rfl); (case zqzd => exact rfl))))
  k_with "compareOp Eq bytes bytes" => ((k_here; (with_reducible refine eqSame ?_)))
  w_strict (
    refine wpAny_call ?_
    k_dflt cell_enter
    k_steps
    all_goals first | (refine' hret _ _ _ _ (pTake ?ze0) ?ze1 ?ze2; (case ze1 => assumption); (case ze2 => assumption); (case ze0 => exact rfl)) | trace_state)
-- a def of the text is entered where it is called
-- a class is called
theorem con_sigL (w : World) (led : List (Addr × Obj)) (l : List UInt8) (t : Tok) (hl : l.length ≤ 1000) : Con w 298 1 8 led [.bytes l.toArray t] (PInt led (lawSigned l)) := signed_same l ▸ con_sig_at w led l t hl
theorem ltFour {k : Int} {a b c d : Value} (h : k < 4) : k < (([a, b, c, d] : List Value).length : Int) := h
theorem leFour {a b c d : Value} : ([a, b, c, d] : List Value).length ≤ 1000 := Nat.le_of_ble_eq_true rfl
theorem any_bs {vs : List Value} {ls : List (List UInt8)} (x : List UInt8) (h : BsAre vs ls) : vs.any (fun v => (bArr v).toList == x) = ls.any (fun l => l == x) := by
  induction h with
  | nil => rfl
  | cons l t _ ih => rw [List.any_cons, List.any_cons, ih]; rfl
theorem notInTup {prog : Program} {w : World} {A : Around} {E : Value → Shared → Prop} {s : Shared} {Q : Value → Shared → Prop} {l : Addr} {vs : List Value} {ls : List (List UInt8)} {x : List UInt8} {t : Tok} (b : Bool) (hl : IsTup s.heap l vs.toArray) (hb : BsAre vs ls)
    (e : (!ls.any fun y => y == x) = b) (h : Q (.bool b) s) : wpAny (model prog w) A (compareOp .NotIn (.bytes x.toArray t) (.ref l)) Q E s := by
  refine PySem.SeqAt.notIn_tupleAt (fun v => (bArr v).toList == x) hl (fun y hy => ?_) ?_
  · have hy' : y ∈ vs := by simpa using hy
    obtain ⟨i, hi⟩ := List.mem_iff_getElem?.mp hy'
    obtain ⟨z, u, rfl, _⟩ := hb.get hi
    exact eqAtB
  · have e2 : vs.toArray.any (fun v => (bArr v).toList == x) = ls.any fun y => y == x := by
      rw [List.any_toArray]
      exact any_bs x hb
    rw [e2, e]
    exact h
theorem bsObjKinds {a b c d : Tok} : BsAre [.bytes #[98, 108, 111, 98] a, .bytes #[116, 114, 101, 101] b, .bytes #[99, 111, 109, 109, 105, 116] c, .bytes #[116, 97, 103] d] [[98, 108, 111, 98], [116, 114, 101, 101], [99, 111, 109, 109, 105, 116], [116, 97, 103]] := by
  repeat (first | exact .nil | refine .cons _ _ ?_)
theorem nf10 : FnIs [118] [10] 0 (-1) := ⟨fnd_no (by decide)⟩
noncomputable def tagD (w : World) (px : Addr) (a b : List UInt8) (t1 t2 t3 t4 t5 t6 u1 u2 u3 u5 u6 : Tok) : Obj := dictOf [⟨PyData.keyHash w.params (PySem.Str.ofString "target"), .str (PySem.Str.ofString "target") t1, .bytes #[171, 205] u1⟩, ⟨PyData.keyHash w.params (PySem.Str.ofString "kind"), .str (PySem.Str.ofString "kind") t2, .bytes #[98, 108, 111, 98] u2⟩, ⟨PyData.keyHash w.params (PySem.Str.ofString "name"), .str (PySem.Str.ofString "name") t3, .bytes #[118] u3⟩, ⟨PyData.keyHash w.params (PySem.Str.ofString "tagger"), .str (PySem.Str.ofString "tagger") t4, .ref px⟩, ⟨PyData.keyHash w.params (PySem.Str.ofString "message"), .str (PySem.Str.ofString "message") t5, .bytes a.toArray u5⟩, ⟨PyData.keyHash w.params (PySem.Str.ofString "signature"), .str (PySem.Str.ofString "signature") t6, .bytes b.toArray u6⟩] 6
noncomputable def persD (w : World) (t1 t2 t3 t4 u1 u2 u3 u4 : Tok) (n : Nat) : Obj := dictOf [⟨PyData.keyHash w.params (PySem.Str.ofString "name"), .str (PySem.Str.ofString "name") t1, .bytes #[65] u1⟩, ⟨PyData.keyHash w.params (PySem.Str.ofString "email"), .str (PySem.Str.ofString "email") t2, .bytes #[97, 64, 98] u2⟩, ⟨PyData.keyHash w.params (PySem.Str.ofString "when"), .str (PySem.Str.ofString "when") t3, .int 1 u3⟩, ⟨PyData.keyHash w.params (PySem.Str.ofString "zone"), .str (PySem.Str.ofString "zone") t4, .bytes #[43, 48, 48, 48, 48] u4⟩] n
inductive PTag (w : World) (led : List (Addr × Obj)) (m : List UInt8) (r : Value) (led' : List (Addr × Obj)) : Prop
  | mk (x dx px pdx : Addr) (t1 t2 t3 t4 t5 t6 u1 u2 u3 u5 u6 p1 p2 p3 p4 q1 q2 q3 q4 : Tok) (n : Nat) (e1 : r = .ref x) (e2 : led' = (x, instObj 330 dx) :: (dx, tagD w px (sl m none (some (lawSigned m))) (sl m (some (lawSigned m)) none) t1 t2 t3 t4 t5 t6 u1 u2 u3 u5 u6) :: (px, instObj 156 pdx) :: (pdx, persD w p1 p2 p3 p4 q1 q2 q3 q4 n) :: led) : PTag w led m r led'
set_option maxHeartbeats 8000000 in
theorem con_read_tag (w : World) (led : List (Addr × Obj)) (m : List UInt8) (t u : Tok) (hm : m.length ≤ 1000) (h0 : (0 : UInt8) ∉ m) : Con w 341 7 400 led [.bytes (hdL ++ m).toArray t, .int 2 u] (PTag w led m) := by
  refine conOf ?_
  k_fill
  intro dp un gd cn cs a ccd cl outer A₀ base h₀ L m hp gn dr tk os Q E p loose mean mg mb B F X N T hk hd hu hret
  k_with_none
  k_with "tb_start" => (
      first
      | (refine' Nat.le_trans ?zqq1 (Nat.le_of_ble_eq_true ?zqq2); (case zqq1 => with_reducible assumption); (case zqq2 => exact rfl))
      | omega
      | (simp only [List.length_append, List.length_cons, List.length_nil, List.length_map, List.length_take, List.length_drop]; omega)
      | ((try simp only [List.length_append, List.length_cons, List.length_nil]); (first | refine Nat.le_trans (sl_length _ _) ?_ | skip); omega)
      | fail "size")
  k_with "subscriptTail" => ((k_here; (with_reducible show wpAny _ _ (subscriptTail _ (Expr.Slice _ _ none _) (Value.bytes (List.toArray _) _) (Value.ref _)) _ _ _); (with_reducible rename Fr _ _ _ _ => F'); (with_reducible rename News _ _ _ _ => N'); (refine sliceB (hs := by with_unfolding_all rfl) (ht := by intro _; with_unfolding_all rfl) (s := ⟨_, _, _, _, _⟩) F' N' (by constructor) (by constructor) (by tb_start) ?_); intro _ _ _ _ _))
  k_with "getMethod bytes" => ((k_here; (with_reducible show wpAny _ _ (getMethod (Value.bytes (List.toArray _) _) (PySem.Str.ofString "find") _) _ _ _); (refine methB slotFind tyFind ?_)))
  k_with "ktr_rel" => (
      (intro cbp cbh; first
      | exact cbh
      | exact List.mem_cons_of_mem _ cbh
      | exact List.mem_cons_of_mem _ (List.mem_cons_of_mem _ cbh)
      | (simp only [List.mem_cons, List.mem_append] at cbh ⊢; first | exact cbh | (simp [cbh]; done) | grind)
      | grind))
  k_with "k_all" => (lcg_off)
  k_with "units_room" => (first | exact roomA hu rfl | exact roomB hu rfl | exact roomC hu rfl | (have hcL9 := cLine_is; (try simp only [units_in1, units_deeper, Around.mark_units, units_caller] at *); (try dsimp only [ktrTop] at *); omega))
  k_with "ktr_unf" => (
      first
      | assumption
      | exact List.Mem.head _
      | (refine' List.mem_append_left _ ?_; ktr_unf)
      | (refine' List.Mem.tail _ ?_; ktr_unf))
  k_with "lcg_off" => (
      first
      | assumption
      | (refine' off_lt ?zqal; (case zqal => assumption))
      | (refine' off_lt1 ?zqal; (case zqal => assumption))
      | (refine' OwnOff.ne ?zqal ?zqam; (case zqal => assumption); (case zqam => first | exact List.Mem.head _ | (simp; done)))
      | (refine' off_app ?zqal ?zqam; (case zqal => lcg_off); (case zqam => lcg_off))
      | (apply off_cons; assumption)
      | (refine' (fmc ?zqla ?zqlb); (case zqla => k_ne); (case zqlb => lcg_off))
      | (apply off_tail1; assumption)
      | (apply off_cons; apply off_cons; assumption)
      | (refine' ltNe ?zqal; (case zqal => first | assumption | (apply And.right; assumption) | (apply And.right; apply And.right; assumption) | (apply And.right; apply And.right; apply And.right; assumption) | (apply And.right; apply And.right; apply And.right; apply And.right; assumption) | (apply And.right; apply And.right; apply And.right; apply And.right; apply And.right; assumption))))
  k_with "cell_enter" => ((refine' code_def ?zqk1 ?zqk2 ?zqk3 ?zqk4 ?zqk5 ?zqkA ?zqkF ?zqkK ?zqk6 ?zqk7 ?zqk8 ?zqk9 ?zqkB ?_ ?zqc2 ?zqc3 ?zqc4 ?zqc5; (case zqkA => exact rfl); (case zqkF => exact rfl); (case zqkK => assumption); (case zqk1 => k_asm); (case zqk2 => k_asm); (case zqk3 => k_asm); (case zqk4 => k_asm); (case zqk5 => k_asm); (case zqk6 => k_is); (case zqk7 => k_is); (case zqk8 => ktr_room); (case zqk9 => first | exact BindsTo.of_eq rfl | exact binds_K (by k_in) rfl (by k_is) rfl rfl rfl); (case zqc5 => decide); (case zqkB => exact locs rfl); (case zqc2 => exact rfl); (case zqc3 => exact rfl); (case zqc4 => exact rfl); k_whole; intro g' L' h' FG' F' N' B' X' T'; (try dsimp only); (try k_lift B'); (try k_fold)))
  k_with "ktr_room" => (first | exact roomA hd rfl | exact roomB hd rfl | exact roomC hd rfl)
  k_with "k_ne" => ((refine neN ?_; (try dsimp only); first | (refine' neLt ?zqcbh ?zqcbk; (case zqcbh => with_reducible assumption); (case zqcbk => (intro cbz; repeat (first | exact cbz.1 | replace cbz := cbz.2)))) | (refine' neGt ?zqcbh ?zqcbk; (case zqcbh => with_reducible assumption); (case zqcbk => (intro cbz; repeat (first | exact cbz.1 | replace cbz := cbz.2)))) | omega))
  k_with "spliced" => ((k_here; k_dflt (refine' pes_eval ?zqcbF ?zqcbv ?_ ?zqcba; (case zqcbF => k_asm); (case zqcba => rfl); (case zqcbv => exact Eq.refl (some (_, _))); k_whole); (try dsimp only [List.cons_append, List.nil_append])))
  k_with "isTrue Compare" => ((k_here; k_dflt (refine' cmp_pe (hm := by with_unfolding_all rfl) ?zqcbF ?zqcbv ?zqcbw ?_ ?zqcba; (case zqcbF => k_asm); (case zqcba => rfl); (case zqcbv => exact Eq.refl (some (_, _))); (case zqcbw => exact Eq.refl (some (_, _))); k_whole)))
  k_with "eval Slice" => ((k_here; k_dflt (refine' slice_pe ?zqcbF ?zqcbu ?zqcbv ?zqcbw ?_ ?zqcba; (case zqcbF => k_asm); (case zqcba => rfl); (case zqcbu => exact Eq.refl (some (_, _))); (case zqcbv => exact Eq.refl (some (_, _))); (case zqcbw => exact Eq.refl (some (_, _))); k_whole)))
  k_with "eval Name" => ((k_here; k_dflt (refine' nameX_L ?zqcbF ?zqcbv ?_ ?zqcba ?zqcbb; (case zqcbF => k_asm); (case zqcba => rfl); (case zqcbb => rfl); (case zqcbv => exact Eq.refl (some _)); k_whole)))
  k_with "storeName" => ((k_here; k_dflt (refine' storeL ?zqcbF ?zqcbN ?_ ?zqcba ?zqcbb; (case zqcbF => k_asm); (case zqcbN => k_asm); (case zqcba => rfl); (case zqcbb => rfl); k_whole); intro _ _ _ _; (try k_sweep)))
  k_with "eval Call" => ((k_here; k_dflt (refine' callK_pe (hd := by decide) ?zqcbF ?zqcbX ?zqcbT ?zqcbe ?zqcbf ?zqcbv ?_ ?zqcba ?zqcbb; (case zqcbF => k_asm); (case zqcbX => k_asm); (case zqcbT => k_asm); (case zqcba => rfl); (case zqcbb => rfl); (case zqcbe => k_is); (case zqcbf => k_is); (case zqcbv => exact Eq.refl (some (_, _))); k_whole); (try dsimp only [List.cons_append, List.nil_append])))
  k_with "in enter" => ((refine' code_def ?zqk1 ?zqk2 ?zqk3 ?zqk4 ?zqk5 ?zqkA ?zqkF ?zqkK ?zqk6 ?zqk7 ?zqk8 ?zqk9 ?zqkB ?_ ?zqc2 ?zqc3 ?zqc4 ?zqc5; (case zqkA => exact rfl); (case zqkF => exact rfl); (case zqkK => exact rfl); (case zqk1 => k_asm); (case zqk2 => k_asm); (case zqk3 => k_asm); (case zqk4 => k_asm); (case zqk5 => k_asm); (case zqk6 => k_is); (case zqk7 => k_is); (case zqk8 => ktr_room); (case zqk9 => first | exact BindsTo.of_eq rfl | exact binds_K (by k_in) rfl (by k_is) rfl rfl rfl); (case zqc5 => decide); (case zqkB => exact locs rfl); (case zqc2 => exact rfl); (case zqc3 => exact rfl); (case zqc4 => exact rfl); k_whole; intro g' L' h' FG' F' N' B' X' T'; (try dsimp only); (try k_lift B'); (try k_fold)))
  k_with "in enter" => ((refine' code_defC ?zqk1 ?zqk2 ?zqk3 ?zqk4 ?zqk5 ?zqkA ?zqkF ?zqkK ?zqk6 ?zqk7 ?zqk8 ?zqk9 ?zqkB ?zqkD ?_ ?zqc2 ?zqc3 ?zqc4; (case zqkA => exact rfl); (case zqkF => exact rfl); (case zqkK => exact rfl); (case zqk1 => k_asm); (case zqk2 => k_asm); (case zqk3 => k_asm); (case zqk4 => k_asm); (case zqk5 => k_asm); (case zqk6 => k_is); (case zqk7 => k_is); (case zqk8 => ktr_room); (case zqk9 => exact BindsTo.of_eq rfl); (case zqkB => exact rfl); (case zqkD => decide +kernel); (case zqc2 => exact rfl); (case zqc3 => exact rfl); (case zqc4 => exact rfl); k_whole; intro g' L' h' tk' cells' FG' F' N' Y' B' X' T' l1; (try k_lt l1); k_cells Y'; (try simp only [List.cons_append, List.nil_append] at N'); (try dsimp only); (try k_lift B'); (try k_fold)))
  k_with "call ref" => ((k_here; k_dflt (refine wpAny_call ?_; k_extra "in enter")))
  k_with "compareOp NotIn" => ((k_here; (with_reducible show wpAny _ _ (compareOp CmpOp.NotIn (Value.int _ _) (Value.bytes (List.toArray _) _)) _ _ _); first | refine notInK true (by decide) (by decide) (by decide) ?_ | refine notInK false (by decide) (by decide) (by decide) ?_))
  k_with "compareOp In" => ((k_here; (with_reducible show wpAny _ _ (compareOp CmpOp.In (Value.int _ _) (Value.bytes (List.toArray _) _)) _ _ _); first | refine inK true (by decide) (by decide) (by decide) ?_ | refine inK false (by decide) (by decide) (by decide) ?_))
  k_with "UnrEnd" => ((k_here; k_dflt ((rename News _ _ _ _ => nE'); first | (refine' UnrEnd.introT ?zqF nE' ?zqoff ?_; (case zqF => assumption); (case zqoff => lcg_off)) | (refine' UnrEnd.introT1 ?zqF nE' ?zqoff ?_; (case zqF => assumption); (case zqoff => lcg_off)) | (refine' UnrEnd.introT2 ?zqF nE' ?zqoff ?_; (case zqF => assumption); (case zqoff => lcg_off)))))
  k_with "call builtin:len" => ((k_here; (with_reducible show wpAny _ _ (call (Value.builtin "len") [Value.str (PySem.Str.ofString _) _]) _ _ _); (refine lenStrE (by k_dflt kxw_int) (by decide) ?_); intro _ _; (try dsimp only)))
  k_with "ks_enter" => ((refine' code_def ?zqk1 ?zqk2 ?zqk3 ?zqk4 ?zqk5 ?zqkA ?zqkF ?zqkK ?zqk6 ?zqk7 ?zqk8 ?zqk9 ?zqkB ?_ ?zqc2 ?zqc3 ?zqc4 ?zqc5; (case zqkA => exact rfl); (case zqkF => exact rfl); (case zqkK => exact rfl); (case zqk1 => k_asm); (case zqk2 => k_asm); (case zqk3 => k_asm); (case zqk4 => k_asm); (case zqk5 => k_asm); (case zqk6 => k_is); (case zqk7 => k_is); (case zqk8 => ktr_room); (case zqk9 => first | exact BindsTo.of_eq rfl | exact binds_K (by k_in) rfl (by k_is) rfl rfl rfl); (case zqc5 => decide); (case zqkB => exact locs rfl); (case zqc2 => exact rfl); (case zqc3 => exact rfl); (case zqc4 => exact rfl); k_whole; intro g' L' h' FG' F' N' B' X' T'; (try dsimp only); (try k_lift B'); (try k_fold)))
  k_with "call ref" => ((k_here; k_dflt (refine' call_cls ?zqk1 ?zqk2 ?zqk3 ?zqk4 ?zqk5 ?zqk6 ?_; (case zqk1 => k_asm); (case zqk2 => k_asm); (case zqk3 => k_asm); (case zqk4 => k_is); (case zqk5 => k_is); (case zqk6 => k_is); k_whole; intro x' d' h' F' N' l1 l2; (try k_lt l1); (try k_lt2 l2); (try k_sweep); ks_enter)))
  k_with "compareOp NotIn" => ((k_here; (with_reducible show wpAny _ _ (compareOp CmpOp.NotIn (Value.bytes (List.toArray _) _) (Value.ref _)) _ _ _); k_dflt (refine' notInTup false ?zqk1 bsObjKinds ?zqe ?_; (case zqk1 => refine' kun_topT ?zqx1 ?zqx2 ?zqx3; (case zqx1 => k_asm); (case zqx2 => k_asm); (case zqx3 => k_is)); (case zqe => decide))))
  k_with "subscriptTail" => ((k_here; (with_reducible show wpAny _ _ (subscriptTail _ _ (Value.ref _) (Value.int _ _)) _ _ _); k_dflt (refine' itemAt (hs := by with_unfolding_all rfl) (News.isList ?zqn1 ?zqn2) ?zqn3 ?zqn4 ?zqn5 ?zqe ?_; (case zqn1 => assumption); (case zqn2 => ktr_unf); (case zqn3 => decide); (case zqn4 => decide); (case zqn5 => decide); (case zqe => exact rfl))))
  k_with "call builtin:bytes.find" => ((k_here; (with_reducible show wpAny _ _ (call (Value.builtin "bytes.find") _) _ _ _); (try dsimp only [List.append, List.cons_append, List.nil_append]); k_dflt (refine' find2E nf10 ?_; intro _ _)))
  k_with "call ref" => ((k_here; (with_reducible show wpAny _ _ (call (Value.ref 298) _) _ _ _); k_dflt (refine' Con.useI (con_sigL _ _ _ _ ?zqc1) ?zqn1 ?zqn2 ?zqn3 ?zqn4 ?zqn5 ?zqn6 ?zqn7 ?zqn8 ?_; (case zqn4 => assumption); (case zqn1 => k_asm); (case zqn2 => k_asm); (case zqn3 => k_asm); (case zqn5 => k_asm); (case zqn6 => exact rfl); (case zqn7 => ktr_room); (case zqn8 => units_room); (case zqc1 => assumption)); intro _ _ _ _ _; (try dsimp only)))
  k_with "call ref" => ((k_here; (with_reducible show wpAny _ _ (call (Value.ref 188) _) _ _ _); k_dflt (refine' Con.useB (con_head_id _ _ _ _) ?zqn1 ?zqn2 ?zqn3 ?zqn4 ?zqn5 ?zqn6 ?zqn7 ?zqn8 ?_; (case zqn4 => assumption); (case zqn1 => k_asm); (case zqn2 => k_asm); (case zqn3 => k_asm); (case zqn5 => k_asm); (case zqn6 => exact rfl); (case zqn7 => ktr_room); (case zqn8 => units_room)); intro _ _ _ _ _; (try dsimp only)))
  k_with "call ref" => ((k_here; (with_reducible show wpAny _ _ (call (Value.ref 195) _) _ _ _); k_dflt (refine' Con.use (con_heads _ _ _ _ ?zqc1 ?zqc2) ?zqn1 ?zqn2 ?zqn3 ?zqn4 ?zqn5 ?zqn6 ?zqn7 ?zqn8 ?_; (case zqn4 => assumption); (case zqn1 => k_asm); (case zqn2 => k_asm); (case zqn3 => k_asm); (case zqn5 => k_asm); (case zqn6 => exact rfl); (case zqn7 => ktr_room); (case zqn8 => units_room); (case zqc1 => assumption); (case zqc2 => assumption); (rintro _ _ h' tk' ⟨T, H, a1, a2, a3, a4, tm, t1, t2, t3, t4, u1, u2, u3, u4, nn, rfl, rfl⟩ F' N')); (try dsimp only)))
  k_with "call ref" => ((k_here; (with_reducible show wpAny _ _ (call (Value.ref 167) _) _ _ _); k_dflt (refine' Con.use (con_read_person _ _ _) ?zqn1 ?zqn2 ?zqn3 ?zqn4 ?zqn5 ?zqn6 ?zqn7 ?zqn8 ?_; (case zqn4 => assumption); (case zqn1 => k_asm); (case zqn2 => k_asm); (case zqn3 => k_asm); (case zqn5 => k_asm); (case zqn6 => exact rfl); (case zqn7 => ktr_room); (case zqn8 => units_room); (rintro _ _ h' tk' ⟨px, pdx, t1, t2, t3, t4, u1, u2, u3, u4, pn, rfl, rfl⟩ F' N')); (try dsimp only)))
  k_with "call ref" => ((k_here; (with_reducible show wpAny _ _ (call (Value.ref 223) _) _ _ _); k_dflt (refine' Con.use (con_take _ _ _ _ _ _ _ _ _ _ _ _ _ _ _ _ _ ?zqc0 ?zqc1 ?zqc2 ?zqcH ?zqce ?zqca ?zqcx ?zqco) ?zqn1 ?zqn2 ?zqn3 ?zqn4 ?zqn5 ?zqn6 ?zqn7 ?zqn8 ?_; (case zqn4 => first | assumption | (refine' News.rot2 ?zqr; (case zqr => assumption))); (case zqn1 => k_asm); (case zqn2 => k_asm); (case zqn3 => k_asm); (case zqn5 => k_asm); (case zqn6 => exact rfl); (case zqn7 => ktr_room); (case zqn8 => units_room); (case zqc0 => decide); (case zqcH => ktr_unf); (case zqc1 => refine' ltFour ?zqz; (case zqz => decide)); (case zqc2 => exact leFour); (case zqce => exact rfl); (case zqca => ktr_unf); (case zqcx => k_ne); (case zqco => lcg_off); (rintro _ _ h' tk' ⟨tv, tu, rfl, rfl⟩ F' N')); (try dsimp only)))
  w_strict (
    refine wpAny_call ?_
    k_dflt cell_enter
    k_steps
    (rename News _ _ _ _ => nE)
    refine' hret _ _ _ _ ⟨_, _, _, _, _, _, _, _, _, _, _, _, _, _, _, _, _, _, _, _, _, _, _, _, rfl, rfl⟩ ?ze1 (cb_drop nE ((fmc ?y1 (fmc ?y2 (fmc ?y3 (fmc ?y4 ?y5))))))
    case ze1 => assumption
    case y1 => ktr_unf
    case y2 => ktr_unf
    case y3 => ktr_unf
    case y4 => ktr_unf
    case y5 => ktr_rel)
-- a def of the text is entered where it is called
theorem txt_abcd4 : Txt.join (Str.ofString "") [Str.ofString "a", Str.ofString "b", Str.ofString "c", Str.ofString "d"] = Str.ofString "abcd" := by decide +kernel
set_option maxHeartbeats 4000000 in
theorem con_hexof (w : World) (led : List (Addr × Obj)) (t : Tok) : Con w 64 1 100 led [.bytes #[171, 205] t] (PStr led (Str.ofString "abcd")) := by
  refine conOf ?_
  k_fill
  intro dp un gd cn cs a ccd cl outer A₀ base h₀ L m hp gn dr tk os Q E p loose mean mg mb B F X N T hk hd hu hret
  k_with_none
  k_with "ktr_rel" => (
      (intro cbp cbh; first
      | exact cbh
      | exact List.mem_cons_of_mem _ cbh
      | exact List.mem_cons_of_mem _ (List.mem_cons_of_mem _ cbh)
      | (simp only [List.mem_cons, List.mem_append] at cbh ⊢; first | exact cbh | (simp [cbh]; done) | grind)
      | grind))
  k_with "tb_rel" => (
      first
      | assumption
      | (refine' News.dr1 ?zqcbN; (case zqcbN => assumption))
      | (refine' News.dr2 ?zqcbN; (case zqcbN => assumption))
      | (refine' News.dr3 ?zqcbN; (case zqcbN => assumption))
      | (refine' News.dr4 ?zqcbN; (case zqcbN => assumption))
      | (refine' News.dr5 ?zqcbN; (case zqcbN => assumption))
      | (refine' News.dr6 ?zqcbN; (case zqcbN => assumption))
      | (refine' cb_drop ?zqcbN ?zqcbS; (case zqcbN => assumption); (case zqcbS => ktr_rel)))
  k_with "k_all" => (lcg_off)
  k_with "lcg_off" => (
      first
      | assumption
      | (refine' off_lt ?zqal; (case zqal => assumption))
      | (refine' off_lt1 ?zqal; (case zqal => assumption))
      | (refine' OwnOff.ne ?zqal ?zqam; (case zqal => assumption); (case zqam => first | exact List.Mem.head _ | (simp; done)))
      | (refine' off_app ?zqal ?zqam; (case zqal => lcg_off); (case zqam => lcg_off))
      | (apply off_cons; assumption)
      | (refine' (fmc ?zqla ?zqlb); (case zqla => k_ne); (case zqlb => lcg_off))
      | (apply off_tail1; assumption)
      | (apply off_cons; apply off_cons; assumption)
      | (refine' ltNe ?zqal; (case zqal => first | assumption | (apply And.right; assumption) | (apply And.right; apply And.right; assumption) | (apply And.right; apply And.right; apply And.right; assumption) | (apply And.right; apply And.right; apply And.right; apply And.right; assumption) | (apply And.right; apply And.right; apply And.right; apply And.right; apply And.right; assumption))))
  k_with "cell_enter" => ((refine' code_def ?zqk1 ?zqk2 ?zqk3 ?zqk4 ?zqk5 ?zqkA ?zqkF ?zqkK ?zqk6 ?zqk7 ?zqk8 ?zqk9 ?zqkB ?_ ?zqc2 ?zqc3 ?zqc4 ?zqc5; (case zqkA => exact rfl); (case zqkF => exact rfl); (case zqkK => assumption); (case zqk1 => k_asm); (case zqk2 => k_asm); (case zqk3 => k_asm); (case zqk4 => k_asm); (case zqk5 => k_asm); (case zqk6 => k_is); (case zqk7 => k_is); (case zqk8 => ktr_room); (case zqk9 => first | exact BindsTo.of_eq rfl | exact binds_K (by k_in) rfl (by k_is) rfl rfl rfl); (case zqc5 => decide); (case zqkB => exact locs rfl); (case zqc2 => exact rfl); (case zqc3 => exact rfl); (case zqc4 => exact rfl); k_whole; intro g' L' h' FG' F' N' B' X' T'; (try dsimp only); (try k_lift B'); (try k_fold)))
  k_with "k_ne" => ((refine neN ?_; (try dsimp only); first | (refine' neLt ?zqcbh ?zqcbk; (case zqcbh => with_reducible assumption); (case zqcbk => (intro cbz; repeat (first | exact cbz.1 | replace cbz := cbz.2)))) | (refine' neGt ?zqcbh ?zqcbk; (case zqcbh => with_reducible assumption); (case zqcbk => (intro cbz; repeat (first | exact cbz.1 | replace cbz := cbz.2)))) | omega))
  k_with "spliced" => ((k_here; k_dflt (refine' pes_eval ?zqcbF ?zqcbv ?_ ?zqcba; (case zqcbF => k_asm); (case zqcba => rfl); (case zqcbv => exact Eq.refl (some (_, _))); k_whole); (try dsimp only [List.cons_append, List.nil_append])))
  k_with "eval BinOp" => ((k_here; k_dflt (refine' binop_pe ?zqcbF ?zqcbv ?zqcbw ?_ ?zqcba; (case zqcbF => k_asm); (case zqcba => rfl); (case zqcbv => exact Eq.refl (some (_, _))); (case zqcbw => exact Eq.refl (some (_, _))); k_whole)))
  k_with "eval Name" => ((k_here; k_dflt (refine' nameX_L ?zqcbF ?zqcbv ?_ ?zqcba ?zqcbb; (case zqcbF => k_asm); (case zqcba => rfl); (case zqcbb => rfl); (case zqcbv => exact Eq.refl (some _)); k_whole)))
  k_with "storeName" => ((k_here; k_dflt (refine' storeL ?zqcbF ?zqcbN ?_ ?zqcba ?zqcbb; (case zqcbF => k_asm); (case zqcbN => k_asm); (case zqcba => rfl); (case zqcbb => rfl); k_whole); intro _ _ _ _; (try k_sweep)))
  k_with "in enter" => ((refine' code_def ?zqk1 ?zqk2 ?zqk3 ?zqk4 ?zqk5 ?zqkA ?zqkF ?zqkK ?zqk6 ?zqk7 ?zqk8 ?zqk9 ?zqkB ?_ ?zqc2 ?zqc3 ?zqc4 ?zqc5; (case zqkA => exact rfl); (case zqkF => exact rfl); (case zqkK => exact rfl); (case zqk1 => k_asm); (case zqk2 => k_asm); (case zqk3 => k_asm); (case zqk4 => k_asm); (case zqk5 => k_asm); (case zqk6 => k_is); (case zqk7 => k_is); (case zqk8 => ktr_room); (case zqk9 => first | exact BindsTo.of_eq rfl | exact binds_K (by k_in) rfl (by k_is) rfl rfl rfl); (case zqc5 => decide); (case zqkB => exact locs rfl); (case zqc2 => exact rfl); (case zqc3 => exact rfl); (case zqc4 => exact rfl); k_whole; intro g' L' h' FG' F' N' B' X' T'; (try dsimp only); (try k_lift B'); (try k_fold)))
  k_with "in enter" => ((refine' code_defC ?zqk1 ?zqk2 ?zqk3 ?zqk4 ?zqk5 ?zqkA ?zqkF ?zqkK ?zqk6 ?zqk7 ?zqk8 ?zqk9 ?zqkB ?zqkD ?_ ?zqc2 ?zqc3 ?zqc4; (case zqkA => exact rfl); (case zqkF => exact rfl); (case zqkK => exact rfl); (case zqk1 => k_asm); (case zqk2 => k_asm); (case zqk3 => k_asm); (case zqk4 => k_asm); (case zqk5 => k_asm); (case zqk6 => k_is); (case zqk7 => k_is); (case zqk8 => ktr_room); (case zqk9 => exact BindsTo.of_eq rfl); (case zqkB => exact rfl); (case zqkD => decide +kernel); (case zqc2 => exact rfl); (case zqc3 => exact rfl); (case zqc4 => exact rfl); k_whole; intro g' L' h' tk' cells' FG' F' N' Y' B' X' T' l1; (try k_lt l1); k_cells Y'; (try simp only [List.cons_append, List.nil_append] at N'); (try dsimp only); (try k_lift B'); (try k_fold)))
  k_with "call ref" => ((k_here; k_dflt (refine wpAny_call ?_; k_extra "in enter")))
  k_with "compareOp NotIn" => ((k_here; (with_reducible show wpAny _ _ (compareOp CmpOp.NotIn (Value.int _ _) (Value.bytes (List.toArray _) _)) _ _ _); first | refine notInK true (by decide) (by decide) (by decide) ?_ | refine notInK false (by decide) (by decide) (by decide) ?_))
  k_with "compareOp In" => ((k_here; (with_reducible show wpAny _ _ (compareOp CmpOp.In (Value.int _ _) (Value.bytes (List.toArray _) _)) _ _ _); first | refine inK true (by decide) (by decide) (by decide) ?_ | refine inK false (by decide) (by decide) (by decide) ?_))
  k_with "UnrEnd" => ((k_here; k_dflt ((rename News _ _ _ _ => nE'); first | (refine' UnrEnd.introT ?zqF nE' ?zqoff ?_; (case zqF => assumption); (case zqoff => lcg_off)) | (refine' UnrEnd.introT1 ?zqF nE' ?zqoff ?_; (case zqF => assumption); (case zqoff => lcg_off)) | (refine' UnrEnd.introT2 ?zqF nE' ?zqoff ?_; (case zqF => assumption); (case zqoff => lcg_off)))))
  k_with "call builtin:len" => ((k_here; (with_reducible show wpAny _ _ (call (Value.builtin "len") [Value.str (PySem.Str.ofString _) _]) _ _ _); (refine lenStrE (by k_dflt kxw_int) (by decide) ?_); intro _ _; (try dsimp only)))
  k_with "subscriptTail" => ((k_here; (with_reducible show wpAny _ _ (subscriptTail _ _ (Value.str (PySem.Str.ofString "0123456789abcdef") _) (Value.int _ _)) _ _ _); k_dflt (first | refine' strItemX (hs := by with_unfolding_all rfl) (ht := by intro _; with_unfolding_all rfl) hexs_len (by decide +kernel) (by decide) (by decide) (by decide) hexs10 ?_ | refine' strItemX (hs := by with_unfolding_all rfl) (ht := by intro _; with_unfolding_all rfl) hexs_len (by decide +kernel) (by decide) (by decide) (by decide) hexs11 ?_ | refine' strItemX (hs := by with_unfolding_all rfl) (ht := by intro _; with_unfolding_all rfl) hexs_len (by decide +kernel) (by decide) (by decide) (by decide) hexs12 ?_ | refine' strItemX (hs := by with_unfolding_all rfl) (ht := by intro _; with_unfolding_all rfl) hexs_len (by decide +kernel) (by decide) (by decide) (by decide) hexs13 ?_); intro _ _; (try dsimp only)))
  w_strict (
    refine wpAny_call ?_
    k_dflt cell_enter
    k_steps
    all_goals first | (refine' hret _ _ _ _ (pStr txt_abcd4) ?ze1 ?ze2; (case ze1 => assumption); (case ze2 => tb_rel)) | trace_state)
-- a def of the text is entered where it is called
theorem code_a : (Str.ofString "a").cps.getD 0 0 = 97 := by decide +kernel
theorem code_b : (Str.ofString "b").cps.getD 0 0 = 98 := by decide +kernel
theorem code_c : (Str.ofString "c").cps.getD 0 0 = 99 := by decide +kernel
theorem code_d : (Str.ofString "d").cps.getD 0 0 = 100 := by decide +kernel
theorem code_1 : (Str.ofString "1").cps.getD 0 0 = 49 := by decide +kernel
set_option maxHeartbeats 4000000 in
theorem con_oct4 (w : World) (led : List (Addr × Obj)) (t : Tok) : Con w 57 1 100 led [.str (Str.ofString "abcd") t] (PBytes led [97, 98, 99, 100]) := by
  refine conOf ?_
  k_fill
  intro dp un gd cn cs a ccd cl outer A₀ base h₀ L m hp gn dr tk os Q E p loose mean mg mb B F X N T hk hd hu hret
  k_with_none
  k_with "ktr_rel" => (
      (intro cbp cbh; first
      | exact cbh
      | exact List.mem_cons_of_mem _ cbh
      | exact List.mem_cons_of_mem _ (List.mem_cons_of_mem _ cbh)
      | (simp only [List.mem_cons, List.mem_append] at cbh ⊢; first | exact cbh | (simp [cbh]; done) | grind)
      | grind))
  k_with "tb_rel" => (
      first
      | assumption
      | (refine' News.dr1 ?zqcbN; (case zqcbN => assumption))
      | (refine' News.dr2 ?zqcbN; (case zqcbN => assumption))
      | (refine' News.dr3 ?zqcbN; (case zqcbN => assumption))
      | (refine' News.dr4 ?zqcbN; (case zqcbN => assumption))
      | (refine' News.dr5 ?zqcbN; (case zqcbN => assumption))
      | (refine' News.dr6 ?zqcbN; (case zqcbN => assumption))
      | (refine' cb_drop ?zqcbN ?zqcbS; (case zqcbN => assumption); (case zqcbS => ktr_rel)))
  k_with "lcg_off" => (
      first
      | assumption
      | (refine' off_lt ?zqal; (case zqal => assumption))
      | (refine' off_lt1 ?zqal; (case zqal => assumption))
      | (refine' OwnOff.ne ?zqal ?zqam; (case zqal => assumption); (case zqam => first | exact List.Mem.head _ | (simp; done)))
      | (refine' off_app ?zqal ?zqam; (case zqal => lcg_off); (case zqam => lcg_off))
      | (apply off_cons; assumption)
      | (refine' (fmc ?zqla ?zqlb); (case zqla => k_ne); (case zqlb => lcg_off))
      | (apply off_tail1; assumption)
      | (apply off_cons; apply off_cons; assumption)
      | (refine' ltNe ?zqal; (case zqal => first | assumption | (apply And.right; assumption) | (apply And.right; apply And.right; assumption) | (apply And.right; apply And.right; apply And.right; assumption) | (apply And.right; apply And.right; apply And.right; apply And.right; assumption) | (apply And.right; apply And.right; apply And.right; apply And.right; apply And.right; assumption))))
  k_with "cell_enter" => ((refine' code_def ?zqk1 ?zqk2 ?zqk3 ?zqk4 ?zqk5 ?zqkA ?zqkF ?zqkK ?zqk6 ?zqk7 ?zqk8 ?zqk9 ?zqkB ?_ ?zqc2 ?zqc3 ?zqc4 ?zqc5; (case zqkA => exact rfl); (case zqkF => exact rfl); (case zqkK => assumption); (case zqk1 => k_asm); (case zqk2 => k_asm); (case zqk3 => k_asm); (case zqk4 => k_asm); (case zqk5 => k_asm); (case zqk6 => k_is); (case zqk7 => k_is); (case zqk8 => ktr_room); (case zqk9 => first | exact BindsTo.of_eq rfl | exact binds_K (by k_in) rfl (by k_is) rfl rfl rfl); (case zqc5 => decide); (case zqkB => exact locs rfl); (case zqc2 => exact rfl); (case zqc3 => exact rfl); (case zqc4 => exact rfl); k_whole; intro g' L' h' FG' F' N' B' X' T'; (try dsimp only); (try k_lift B'); (try k_fold)))
  k_with "k_ne" => ((refine neN ?_; (try dsimp only); first | (refine' neLt ?zqcbh ?zqcbk; (case zqcbh => with_reducible assumption); (case zqcbk => (intro cbz; repeat (first | exact cbz.1 | replace cbz := cbz.2)))) | (refine' neGt ?zqcbh ?zqcbk; (case zqcbh => with_reducible assumption); (case zqcbk => (intro cbz; repeat (first | exact cbz.1 | replace cbz := cbz.2)))) | omega))
  k_with "spliced" => ((k_here; k_dflt (refine' pes_eval ?zqcbF ?zqcbv ?_ ?zqcba; (case zqcbF => k_asm); (case zqcba => rfl); (case zqcbv => exact Eq.refl (some (_, _))); k_whole); (try dsimp only [List.cons_append, List.nil_append])))
  k_with "isTrue Compare" => ((k_here; k_dflt (refine' cmp_pe (hm := by with_unfolding_all rfl) ?zqcbF ?zqcbv ?zqcbw ?_ ?zqcba; (case zqcbF => k_asm); (case zqcba => rfl); (case zqcbv => exact Eq.refl (some (_, _))); (case zqcbw => exact Eq.refl (some (_, _))); k_whole)))
  k_with "eval Name" => ((k_here; k_dflt (refine' nameX_L ?zqcbF ?zqcbv ?_ ?zqcba ?zqcbb; (case zqcbF => k_asm); (case zqcba => rfl); (case zqcbb => rfl); (case zqcbv => exact Eq.refl (some _)); k_whole)))
  k_with "in enter" => ((refine' code_def ?zqk1 ?zqk2 ?zqk3 ?zqk4 ?zqk5 ?zqkA ?zqkF ?zqkK ?zqk6 ?zqk7 ?zqk8 ?zqk9 ?zqkB ?_ ?zqc2 ?zqc3 ?zqc4 ?zqc5; (case zqkA => exact rfl); (case zqkF => exact rfl); (case zqkK => exact rfl); (case zqk1 => k_asm); (case zqk2 => k_asm); (case zqk3 => k_asm); (case zqk4 => k_asm); (case zqk5 => k_asm); (case zqk6 => k_is); (case zqk7 => k_is); (case zqk8 => ktr_room); (case zqk9 => first | exact BindsTo.of_eq rfl | exact binds_K (by k_in) rfl (by k_is) rfl rfl rfl); (case zqc5 => decide); (case zqkB => exact locs rfl); (case zqc2 => exact rfl); (case zqc3 => exact rfl); (case zqc4 => exact rfl); k_whole; intro g' L' h' FG' F' N' B' X' T'; (try dsimp only); (try k_lift B'); (try k_fold)))
  k_with "in enter" => ((refine' code_defC ?zqk1 ?zqk2 ?zqk3 ?zqk4 ?zqk5 ?zqkA ?zqkF ?zqkK ?zqk6 ?zqk7 ?zqk8 ?zqk9 ?zqkB ?zqkD ?_ ?zqc2 ?zqc3 ?zqc4; (case zqkA => exact rfl); (case zqkF => exact rfl); (case zqkK => exact rfl); (case zqk1 => k_asm); (case zqk2 => k_asm); (case zqk3 => k_asm); (case zqk4 => k_asm); (case zqk5 => k_asm); (case zqk6 => k_is); (case zqk7 => k_is); (case zqk8 => ktr_room); (case zqk9 => exact BindsTo.of_eq rfl); (case zqkB => exact rfl); (case zqkD => decide +kernel); (case zqc2 => exact rfl); (case zqc3 => exact rfl); (case zqc4 => exact rfl); k_whole; intro g' L' h' tk' cells' FG' F' N' Y' B' X' T' l1; (try k_lt l1); k_cells Y'; (try simp only [List.cons_append, List.nil_append] at N'); (try dsimp only); (try k_lift B'); (try k_fold)))
  k_with "call ref" => ((k_here; k_dflt (refine wpAny_call ?_; k_extra "in enter")))
  k_with "compareOp NotIn" => ((k_here; (with_reducible show wpAny _ _ (compareOp CmpOp.NotIn (Value.int _ _) (Value.bytes (List.toArray _) _)) _ _ _); first | refine notInK true (by decide) (by decide) (by decide) ?_ | refine notInK false (by decide) (by decide) (by decide) ?_))
  k_with "compareOp In" => ((k_here; (with_reducible show wpAny _ _ (compareOp CmpOp.In (Value.int _ _) (Value.bytes (List.toArray _) _)) _ _ _); first | refine inK true (by decide) (by decide) (by decide) ?_ | refine inK false (by decide) (by decide) (by decide) ?_))
  k_with "UnrEnd" => ((k_here; k_dflt ((rename News _ _ _ _ => nE'); first | (refine' UnrEnd.introT ?zqF nE' ?zqoff ?_; (case zqF => assumption); (case zqoff => lcg_off)) | (refine' UnrEnd.introT1 ?zqF nE' ?zqoff ?_; (case zqF => assumption); (case zqoff => lcg_off)) | (refine' UnrEnd.introT2 ?zqF nE' ?zqoff ?_; (case zqF => assumption); (case zqoff => lcg_off)))))
  k_with "call builtin:len" => ((k_here; (with_reducible show wpAny _ _ (call (Value.builtin "len") [Value.str (PySem.Str.ofString _) _]) _ _ _); (refine lenStrE (by k_dflt kxw_int) (by decide) ?_); intro _ _; (try dsimp only)))
  k_with "SRest" => ((k_here; first | refine' SRest.zero ?_ | (refine' SRest.succ ?_; intro _ _ _ _ _ _ _ _ _ _ _ _ _ _ _ _)))
  k_with "CompEnd" => ((k_here; k_dflt (refine' LCg.CompEnd.intro ?zqn1 ?zqn2 _ ?zqn3 ?zqn4 ?zqn5 ?_; (case zqn1 => assumption); (case zqn2 => assumption); (case zqn3 => ktr_rel); (case zqn4 => assumption); (case zqn5 => exact trivial))))
  k_with "FinA" => ((k_here; (unfold LCg.FinA); intro _ _ _ _ nF _; (simp only [List.nil_append, List.cons_append, lst_is, List.length_cons, List.length_nil, code_a, code_b, code_c, code_d, code_1, Int.cast_ofNat_Int] at nF); (try dsimp only)))
  k_with "exec For Name Name cons nil" => ((k_here; (rename Fr _ _ _ _ => lF'); (with_unfolding_all refine' For_invVF lF' ?zqk1 ?zqk2 ?_; (case zqk1 => exact rfl); (case zqk2 => exact rfl); k_whole)))
  k_with "pyIter ref" => (k_dflt ((rename Fr _ _ _ _ => lF'); (rename News _ _ _ _ => lN'); refine' iter_listUnr ?zqhh lF' lN' ?zqhm ?zqhc ?zqhd ?_; (case zqhm => exact List.Mem.head _); (case zqhh => exact rfl); (case zqhc => exact rfl); (case zqhd => exact rfl); (clear lF'); intro i' l1))
  k_with "ListRest" => ((k_here; k_dflt (first | (refine' ListRest.zero ?_; intro _ _ _ _) | (refine' ListRest.succ ?_; intro _ _ _ _ _ _); (try dsimp only))))
  k_with "UnrEnd" => ((k_here; k_dflt ((rename News _ _ _ _ => nE'); refine' UnrEnd.introT ?zqF nE' ?zqoff ⟨?zqm, ?_⟩; (case zqF => assumption); (case zqoff => lcg_off); (case zqm => exact List.Mem.head _))))
  k_with "exec Assign cons ListComp" => (k_here; k_dflt (refine Assign_ListComp_S (hs := by intro _; rfl) (F₀ := by k_asm) (by rfl) (by with_unfolding_all rfl) (by with_unfolding_all rfl) (by decide) (by rfl) (by decide) (by rfl) (by rfl) (by rfl) ?_))
  k_with "CompSrcSU" => k_dflt (
    refine' CompSrcSU.intro (y := Str.ofString "abcd") ?zn1 ?zn0 ?zn2 ?zn3 ?zn4 ?_
    case zn0 => decide +kernel
    case zn1 => exact rfl
    case zn2 => k_asm
    case zn3 => assumption
    case zn4 => decide +kernel
    intro _
    refine srest (ks := [97, 98, 99, 100]) (by decide +kernel) ?_)
  w_strict (
    refine wpAny_call ?_
    k_dflt cell_enter
    k_steps
    all_goals first | (refine' hret _ _ _ _ (pBe ?ze0) ?ze1 ?ze2; (case ze1 => assumption); (case ze2 => tb_rel); (case ze0 => decide +kernel)) | trace_state)
set_option maxHeartbeats 4000000 in
theorem con_oct1 (w : World) (led : List (Addr × Obj)) (t : Tok) : Con w 57 1 100 led [.str (Str.ofString "1") t] (PBytes led [49]) := by
  refine conOf ?_
  k_fill
  intro dp un gd cn cs a ccd cl outer A₀ base h₀ L m hp gn dr tk os Q E p loose mean mg mb B F X N T hk hd hu hret
  k_with_none
  k_with "ktr_rel" => (
      (intro cbp cbh; first
      | exact cbh
      | exact List.mem_cons_of_mem _ cbh
      | exact List.mem_cons_of_mem _ (List.mem_cons_of_mem _ cbh)
      | (simp only [List.mem_cons, List.mem_append] at cbh ⊢; first | exact cbh | (simp [cbh]; done) | grind)
      | grind))
  k_with "tb_rel" => (
      first
      | assumption
      | (refine' News.dr1 ?zqcbN; (case zqcbN => assumption))
      | (refine' News.dr2 ?zqcbN; (case zqcbN => assumption))
      | (refine' News.dr3 ?zqcbN; (case zqcbN => assumption))
      | (refine' News.dr4 ?zqcbN; (case zqcbN => assumption))
      | (refine' News.dr5 ?zqcbN; (case zqcbN => assumption))
      | (refine' News.dr6 ?zqcbN; (case zqcbN => assumption))
      | (refine' cb_drop ?zqcbN ?zqcbS; (case zqcbN => assumption); (case zqcbS => ktr_rel)))
  k_with "lcg_off" => (
      first
      | assumption
      | (refine' off_lt ?zqal; (case zqal => assumption))
      | (refine' off_lt1 ?zqal; (case zqal => assumption))
      | (refine' OwnOff.ne ?zqal ?zqam; (case zqal => assumption); (case zqam => first | exact List.Mem.head _ | (simp; done)))
      | (refine' off_app ?zqal ?zqam; (case zqal => lcg_off); (case zqam => lcg_off))
      | (apply off_cons; assumption)
      | (refine' (fmc ?zqla ?zqlb); (case zqla => k_ne); (case zqlb => lcg_off))
      | (apply off_tail1; assumption)
      | (apply off_cons; apply off_cons; assumption)
      | (refine' ltNe ?zqal; (case zqal => first | assumption | (apply And.right; assumption) | (apply And.right; apply And.right; assumption) | (apply And.right; apply And.right; apply And.right; assumption) | (apply And.right; apply And.right; apply And.right; apply And.right; assumption) | (apply And.right; apply And.right; apply And.right; apply And.right; apply And.right; assumption))))
  k_with "cell_enter" => ((refine' code_def ?zqk1 ?zqk2 ?zqk3 ?zqk4 ?zqk5 ?zqkA ?zqkF ?zqkK ?zqk6 ?zqk7 ?zqk8 ?zqk9 ?zqkB ?_ ?zqc2 ?zqc3 ?zqc4 ?zqc5; (case zqkA => exact rfl); (case zqkF => exact rfl); (case zqkK => assumption); (case zqk1 => k_asm); (case zqk2 => k_asm); (case zqk3 => k_asm); (case zqk4 => k_asm); (case zqk5 => k_asm); (case zqk6 => k_is); (case zqk7 => k_is); (case zqk8 => ktr_room); (case zqk9 => first | exact BindsTo.of_eq rfl | exact binds_K (by k_in) rfl (by k_is) rfl rfl rfl); (case zqc5 => decide); (case zqkB => exact locs rfl); (case zqc2 => exact rfl); (case zqc3 => exact rfl); (case zqc4 => exact rfl); k_whole; intro g' L' h' FG' F' N' B' X' T'; (try dsimp only); (try k_lift B'); (try k_fold)))
  k_with "k_ne" => ((refine neN ?_; (try dsimp only); first | (refine' neLt ?zqcbh ?zqcbk; (case zqcbh => with_reducible assumption); (case zqcbk => (intro cbz; repeat (first | exact cbz.1 | replace cbz := cbz.2)))) | (refine' neGt ?zqcbh ?zqcbk; (case zqcbh => with_reducible assumption); (case zqcbk => (intro cbz; repeat (first | exact cbz.1 | replace cbz := cbz.2)))) | omega))
  k_with "spliced" => ((k_here; k_dflt (refine' pes_eval ?zqcbF ?zqcbv ?_ ?zqcba; (case zqcbF => k_asm); (case zqcba => rfl); (case zqcbv => exact Eq.refl (some (_, _))); k_whole); (try dsimp only [List.cons_append, List.nil_append])))
  k_with "isTrue Compare" => ((k_here; k_dflt (refine' cmp_pe (hm := by with_unfolding_all rfl) ?zqcbF ?zqcbv ?zqcbw ?_ ?zqcba; (case zqcbF => k_asm); (case zqcba => rfl); (case zqcbv => exact Eq.refl (some (_, _))); (case zqcbw => exact Eq.refl (some (_, _))); k_whole)))
  k_with "eval Name" => ((k_here; k_dflt (refine' nameX_L ?zqcbF ?zqcbv ?_ ?zqcba ?zqcbb; (case zqcbF => k_asm); (case zqcba => rfl); (case zqcbb => rfl); (case zqcbv => exact Eq.refl (some _)); k_whole)))
  k_with "in enter" => ((refine' code_def ?zqk1 ?zqk2 ?zqk3 ?zqk4 ?zqk5 ?zqkA ?zqkF ?zqkK ?zqk6 ?zqk7 ?zqk8 ?zqk9 ?zqkB ?_ ?zqc2 ?zqc3 ?zqc4 ?zqc5; (case zqkA => exact rfl); (case zqkF => exact rfl); (case zqkK => exact rfl); (case zqk1 => k_asm); (case zqk2 => k_asm); (case zqk3 => k_asm); (case zqk4 => k_asm); (case zqk5 => k_asm); (case zqk6 => k_is); (case zqk7 => k_is); (case zqk8 => ktr_room); (case zqk9 => first | exact BindsTo.of_eq rfl | exact binds_K (by k_in) rfl (by k_is) rfl rfl rfl); (case zqc5 => decide); (case zqkB => exact locs rfl); (case zqc2 => exact rfl); (case zqc3 => exact rfl); (case zqc4 => exact rfl); k_whole; intro g' L' h' FG' F' N' B' X' T'; (try dsimp only); (try k_lift B'); (try k_fold)))
  k_with "in enter" => ((refine' code_defC ?zqk1 ?zqk2 ?zqk3 ?zqk4 ?zqk5 ?zqkA ?zqkF ?zqkK ?zqk6 ?zqk7 ?zqk8 ?zqk9 ?zqkB ?zqkD ?_ ?zqc2 ?zqc3 ?zqc4; (case zqkA => exact rfl); (case zqkF => exact rfl); (case zqkK => exact rfl); (case zqk1 => k_asm); (case zqk2 => k_asm); (case zqk3 => k_asm); (case zqk4 => k_asm); (case zqk5 => k_asm); (case zqk6 => k_is); (case zqk7 => k_is); (case zqk8 => ktr_room); (case zqk9 => exact BindsTo.of_eq rfl); (case zqkB => exact rfl); (case zqkD => decide +kernel); (case zqc2 => exact rfl); (case zqc3 => exact rfl); (case zqc4 => exact rfl); k_whole; intro g' L' h' tk' cells' FG' F' N' Y' B' X' T' l1; (try k_lt l1); k_cells Y'; (try simp only [List.cons_append, List.nil_append] at N'); (try dsimp only); (try k_lift B'); (try k_fold)))
  k_with "call ref" => ((k_here; k_dflt (refine wpAny_call ?_; k_extra "in enter")))
  k_with "compareOp NotIn" => ((k_here; (with_reducible show wpAny _ _ (compareOp CmpOp.NotIn (Value.int _ _) (Value.bytes (List.toArray _) _)) _ _ _); first | refine notInK true (by decide) (by decide) (by decide) ?_ | refine notInK false (by decide) (by decide) (by decide) ?_))
  k_with "compareOp In" => ((k_here; (with_reducible show wpAny _ _ (compareOp CmpOp.In (Value.int _ _) (Value.bytes (List.toArray _) _)) _ _ _); first | refine inK true (by decide) (by decide) (by decide) ?_ | refine inK false (by decide) (by decide) (by decide) ?_))
  k_with "UnrEnd" => ((k_here; k_dflt ((rename News _ _ _ _ => nE'); first | (refine' UnrEnd.introT ?zqF nE' ?zqoff ?_; (case zqF => assumption); (case zqoff => lcg_off)) | (refine' UnrEnd.introT1 ?zqF nE' ?zqoff ?_; (case zqF => assumption); (case zqoff => lcg_off)) | (refine' UnrEnd.introT2 ?zqF nE' ?zqoff ?_; (case zqF => assumption); (case zqoff => lcg_off)))))
  k_with "call builtin:len" => ((k_here; (with_reducible show wpAny _ _ (call (Value.builtin "len") [Value.str (PySem.Str.ofString _) _]) _ _ _); (refine lenStrE (by k_dflt kxw_int) (by decide) ?_); intro _ _; (try dsimp only)))
  k_with "SRest" => ((k_here; first | refine' SRest.zero ?_ | (refine' SRest.succ ?_; intro _ _ _ _ _ _ _ _ _ _ _ _ _ _ _ _)))
  k_with "CompEnd" => ((k_here; k_dflt (refine' LCg.CompEnd.intro ?zqn1 ?zqn2 _ ?zqn3 ?zqn4 ?zqn5 ?_; (case zqn1 => assumption); (case zqn2 => assumption); (case zqn3 => ktr_rel); (case zqn4 => assumption); (case zqn5 => exact trivial))))
  k_with "FinA" => ((k_here; (unfold LCg.FinA); intro _ _ _ _ nF _; (simp only [List.nil_append, List.cons_append, lst_is, List.length_cons, List.length_nil, code_a, code_b, code_c, code_d, code_1, Int.cast_ofNat_Int] at nF); (try dsimp only)))
  k_with "exec For Name Name cons nil" => ((k_here; (rename Fr _ _ _ _ => lF'); (with_unfolding_all refine' For_invVF lF' ?zqk1 ?zqk2 ?_; (case zqk1 => exact rfl); (case zqk2 => exact rfl); k_whole)))
  k_with "pyIter ref" => (k_dflt ((rename Fr _ _ _ _ => lF'); (rename News _ _ _ _ => lN'); refine' iter_listUnr ?zqhh lF' lN' ?zqhm ?zqhc ?zqhd ?_; (case zqhm => exact List.Mem.head _); (case zqhh => exact rfl); (case zqhc => exact rfl); (case zqhd => exact rfl); (clear lF'); intro i' l1))
  k_with "ListRest" => ((k_here; k_dflt (first | (refine' ListRest.zero ?_; intro _ _ _ _) | (refine' ListRest.succ ?_; intro _ _ _ _ _ _); (try dsimp only))))
  k_with "UnrEnd" => ((k_here; k_dflt ((rename News _ _ _ _ => nE'); refine' UnrEnd.introT ?zqF nE' ?zqoff ⟨?zqm, ?_⟩; (case zqF => assumption); (case zqoff => lcg_off); (case zqm => exact List.Mem.head _))))
  k_with "exec Assign cons ListComp" => (k_here; k_dflt (refine Assign_ListComp_S (hs := by intro _; rfl) (F₀ := by k_asm) (by rfl) (by with_unfolding_all rfl) (by with_unfolding_all rfl) (by decide) (by rfl) (by decide) (by rfl) (by rfl) (by rfl) ?_))
  k_with "CompSrcSU" => k_dflt (
    refine' CompSrcSU.intro (y := Str.ofString "1") ?zn1 ?zn0 ?zn2 ?zn3 ?zn4 ?_
    case zn0 => decide +kernel
    case zn1 => exact rfl
    case zn2 => k_asm
    case zn3 => assumption
    case zn4 => decide +kernel
    intro _
    refine srest (ks := [49]) (by decide +kernel) ?_)
  w_strict (
    refine wpAny_call ?_
    k_dflt cell_enter
    k_steps
    all_goals first | (refine' hret _ _ _ _ (pBe ?ze0) ?ze1 ?ze2; (case ze1 => assumption); (case ze2 => tb_rel); (case ze0 => decide +kernel)) | trace_state)
-- a def of the text is entered where it is called
theorem con_oct1s (w : World) (led : List (Addr × Obj)) (t : Tok) : Con w 57 1 100 led [.str (Str.ofString (toString (1 : Int))) t] (PBytes led [49]) := by
  have e : toString (1 : Int) = "1" := by decide
  rw [e]
  exact con_oct1 w led t
set_option maxHeartbeats 4000000 in
theorem con_pers_oct (w : World) (led : List (Addr × Obj)) (px pdx : Addr) (p1 p2 p3 p4 q1 q2 q3 q4 : Tok) (n : Nat) : Con w 153 3 200 ((px, instObj 156 pdx) :: (pdx, persD w p1 p2 p3 p4 q1 q2 q3 q4 n) :: led) [.ref px] (PBytes ((px, instObj 156 pdx) :: (pdx, persD w p1 p2 p3 p4 q1 q2 q3 q4 n) :: led) [65, 32, 60, 97, 64, 98, 62, 32, 49, 32, 43, 48, 48, 48, 48]) := by
  unfold Con persD
  k_fill
  intro dp un gd cn cs a ccd cl outer A₀ base h₀ L m s Q E p loose mean mg mb B F X N T hk hd hu hret
  k_with_none
  k_with "tb_start" => (
      first
      | (refine' Nat.le_trans ?zqq1 (Nat.le_of_ble_eq_true ?zqq2); (case zqq1 => with_reducible assumption); (case zqq2 => exact rfl))
      | omega
      | (simp only [List.length_append, List.length_cons, List.length_nil, List.length_map, List.length_take, List.length_drop]; omega)
      | ((try simp only [List.length_append, List.length_cons, List.length_nil]); (first | refine Nat.le_trans (sl_length _ _) ?_ | skip); omega)
      | fail "size")
  k_with "binaryOp Add bytes bytes" => ((k_here; (with_reducible show wpAny _ _ (binaryOp Operator.Add (Value.bytes (List.toArray _) _) (Value.bytes (List.toArray _) _)) _ _ _); (refine addB (by tb_start) ?_); intro _ _))
  k_with "tb_rel" => (
      first
      | assumption
      | (refine' News.dr1 ?zqcbN; (case zqcbN => assumption))
      | (refine' News.dr2 ?zqcbN; (case zqcbN => assumption))
      | (refine' News.dr3 ?zqcbN; (case zqcbN => assumption))
      | (refine' News.dr4 ?zqcbN; (case zqcbN => assumption))
      | (refine' News.dr5 ?zqcbN; (case zqcbN => assumption))
      | (refine' News.dr6 ?zqcbN; (case zqcbN => assumption))
      | (refine' cb_drop ?zqcbN ?zqcbS; (case zqcbN => assumption); (case zqcbS => ktr_rel)))
  k_with "units_room" => (first | exact roomA hu rfl | exact roomB hu rfl | exact roomC hu rfl | (have hcL9 := cLine_is; (try simp only [units_in1, units_deeper, Around.mark_units, units_caller] at *); (try dsimp only [ktrTop] at *); omega))
  k_with "cell_enter" => ((refine' code_def ?zqk1 ?zqk2 ?zqk3 ?zqk4 ?zqk5 ?zqkA ?zqkF ?zqkK ?zqk6 ?zqk7 ?zqk8 ?zqk9 ?zqkB ?_ ?zqc2 ?zqc3 ?zqc4 ?zqc5; (case zqkA => exact rfl); (case zqkF => exact rfl); (case zqkK => assumption); (case zqk1 => k_asm); (case zqk2 => k_asm); (case zqk3 => k_asm); (case zqk4 => k_asm); (case zqk5 => k_asm); (case zqk6 => k_is); (case zqk7 => k_is); (case zqk8 => ktr_room); (case zqk9 => first | exact BindsTo.of_eq rfl | exact binds_K (by k_in) rfl (by k_is) rfl rfl rfl); (case zqc5 => decide); (case zqkB => exact locs rfl); (case zqc2 => exact rfl); (case zqc3 => exact rfl); (case zqc4 => exact rfl); k_whole; intro g' L' h' FG' F' N' B' X' T'; (try dsimp only); (try k_lift B'); (try k_fold)))
  k_with "ktr_room" => (first | exact roomA hd rfl | exact roomB hd rfl | exact roomC hd rfl)
  k_with "k_ne" => ((refine neN ?_; (try dsimp only); first | (refine' neLt ?zqcbh ?zqcbk; (case zqcbh => with_reducible assumption); (case zqcbk => (intro cbz; repeat (first | exact cbz.1 | replace cbz := cbz.2)))) | (refine' neGt ?zqcbh ?zqcbk; (case zqcbh => with_reducible assumption); (case zqcbk => (intro cbz; repeat (first | exact cbz.1 | replace cbz := cbz.2)))) | omega))
  k_with "spliced" => ((k_here; k_dflt (refine' pes_eval ?zqcbF ?zqcbv ?_ ?zqcba; (case zqcbF => k_asm); (case zqcba => rfl); (case zqcbv => exact Eq.refl (some (_, _))); k_whole); (try dsimp only [List.cons_append, List.nil_append])))
  k_with "eval Name" => ((k_here; k_dflt (refine' nameX_L ?zqcbF ?zqcbv ?_ ?zqcba ?zqcbb; (case zqcbF => k_asm); (case zqcba => rfl); (case zqcbb => rfl); (case zqcbv => exact Eq.refl (some _)); k_whole)))
  k_with "in enter" => ((refine' code_def ?zqk1 ?zqk2 ?zqk3 ?zqk4 ?zqk5 ?zqkA ?zqkF ?zqkK ?zqk6 ?zqk7 ?zqk8 ?zqk9 ?zqkB ?_ ?zqc2 ?zqc3 ?zqc4 ?zqc5; (case zqkA => exact rfl); (case zqkF => exact rfl); (case zqkK => exact rfl); (case zqk1 => k_asm); (case zqk2 => k_asm); (case zqk3 => k_asm); (case zqk4 => k_asm); (case zqk5 => k_asm); (case zqk6 => k_is); (case zqk7 => k_is); (case zqk8 => ktr_room); (case zqk9 => first | exact BindsTo.of_eq rfl | exact binds_K (by k_in) rfl (by k_is) rfl rfl rfl); (case zqc5 => decide); (case zqkB => exact locs rfl); (case zqc2 => exact rfl); (case zqc3 => exact rfl); (case zqc4 => exact rfl); k_whole; intro g' L' h' FG' F' N' B' X' T'; (try dsimp only); (try k_lift B'); (try k_fold)))
  k_with "in enter" => ((refine' code_defC ?zqk1 ?zqk2 ?zqk3 ?zqk4 ?zqk5 ?zqkA ?zqkF ?zqkK ?zqk6 ?zqk7 ?zqk8 ?zqk9 ?zqkB ?zqkD ?_ ?zqc2 ?zqc3 ?zqc4; (case zqkA => exact rfl); (case zqkF => exact rfl); (case zqkK => exact rfl); (case zqk1 => k_asm); (case zqk2 => k_asm); (case zqk3 => k_asm); (case zqk4 => k_asm); (case zqk5 => k_asm); (case zqk6 => k_is); (case zqk7 => k_is); (case zqk8 => ktr_room); (case zqk9 => exact BindsTo.of_eq rfl); (case zqkB => exact rfl); (case zqkD => decide +kernel); (case zqc2 => exact rfl); (case zqc3 => exact rfl); (case zqc4 => exact rfl); k_whole; intro g' L' h' tk' cells' FG' F' N' Y' B' X' T' l1; (try k_lt l1); k_cells Y'; (try simp only [List.cons_append, List.nil_append] at N'); (try dsimp only); (try k_lift B'); (try k_fold)))
  k_with "call ref" => ((k_here; k_dflt (refine wpAny_call ?_; k_extra "in enter")))
  k_with "compareOp NotIn" => ((k_here; (with_reducible show wpAny _ _ (compareOp CmpOp.NotIn (Value.int _ _) (Value.bytes (List.toArray _) _)) _ _ _); first | refine notInK true (by decide) (by decide) (by decide) ?_ | refine notInK false (by decide) (by decide) (by decide) ?_))
  k_with "compareOp In" => ((k_here; (with_reducible show wpAny _ _ (compareOp CmpOp.In (Value.int _ _) (Value.bytes (List.toArray _) _)) _ _ _); first | refine inK true (by decide) (by decide) (by decide) ?_ | refine inK false (by decide) (by decide) (by decide) ?_))
  k_with "UnrEnd" => ((k_here; k_dflt ((rename News _ _ _ _ => nE'); first | (refine' UnrEnd.introT ?zqF nE' ?zqoff ?_; (case zqF => assumption); (case zqoff => lcg_off)) | (refine' UnrEnd.introT1 ?zqF nE' ?zqoff ?_; (case zqF => assumption); (case zqoff => lcg_off)) | (refine' UnrEnd.introT2 ?zqF nE' ?zqoff ?_; (case zqF => assumption); (case zqoff => lcg_off)))))
  k_with "call builtin:len" => ((k_here; (with_reducible show wpAny _ _ (call (Value.builtin "len") [Value.str (PySem.Str.ofString _) _]) _ _ _); (refine lenStrE (by k_dflt kxw_int) (by decide) ?_); intro _ _; (try dsimp only)))
  k_with "call ref" => ((k_here; (with_reducible show wpAny _ _ (call (Value.ref 57) [Value.str (PySem.Str.ofString (toString _)) _]) _ _ _); k_dflt (refine' Con.useB (con_oct1s _ _ _) ?zqn1 ?zqn2 ?zqn3 ?zqn4 ?zqn5 ?zqn6 ?zqn7 ?zqn8 ?_; (case zqn4 => assumption); (case zqn1 => k_asm); (case zqn2 => k_asm); (case zqn3 => k_asm); (case zqn5 => k_asm); (case zqn6 => exact rfl); (case zqn7 => ktr_room); (case zqn8 => units_room)); intro _ _ _ _ _; (try dsimp only)))
  w_strict (
    refine wpAny_call ?_
    k_dflt cell_enter
    k_steps
    all_goals first | (refine' hret _ _ _ _ (pBe ?ze0) ?ze1 ?ze2; (case ze1 => assumption); (case ze2 => tb_rel); (case ze0 => decide +kernel)) | trace_state)
theorem Con.dupB {w : World} {f : Addr} {d u : Nat} {extra led : List (Addr × Obj)} {vs : List Value} {l : List UInt8} (C : Con w f d u (extra ++ led) vs (PBytes (extra ++ led) l)) (hs : ∀ p ∈ extra, p ∈ led) : Con w f d u led vs (PBytes led l) := by
  intro dp un gd cn cs a ccd cl outer A₀ base h₀ L m s Q E p loose mean mg mb B F X N T hk hd hu hret
  refine C _ _ _ _ _ _ _ _ _ _ _ _ _ _ _ _ _ _ _ _ _ _ B F X (fun p hp => N p ((List.mem_append.mp hp).elim (hs p) id)) T hk hd hu ?_
  rintro r led' h' tk' ⟨rfl, t, rfl⟩ F' N'
  exact hret _ _ _ _ ⟨rfl, t, rfl⟩ F' (fun p hp => N' p (List.mem_append_right _ hp))
-- a def of the text is entered where it is called
theorem joinRoom {a b c d x : List UInt8} (ha : a.length ≤ 100) (hb : b.length ≤ 100) (hc : c.length ≤ 100) (hd : d.length ≤ 100) (he : x.length ≤ 1000) : (joinB [] [a, b, c, d, 10 :: x]).length ≤ 16777216 := by
  simp [joinB]
  omega
theorem hdJoin {a : List UInt8} : joinB [] [[111, 98, 106, 101, 99, 116, 32, 97, 98, 99, 100, 10], [116, 121, 112, 101, 32, 98, 108, 111, 98, 10], [116, 97, 103, 32, 118, 10], [116, 97, 103, 103, 101, 114, 32, 65, 32, 60, 97, 64, 98, 62, 32, 49, 32, 43, 48, 48, 48, 48, 10], 10 :: a] = hdL ++ a := by simp [joinB, hdL]
set_option maxHeartbeats 4000000 in
theorem con_signed_part (w : World) (led : List (Addr × Obj)) (x dx px pdx : Addr) (a b : List UInt8) (t1 t2 t3 t4 t5 t6 u1 u2 u3 u5 u6 p1 p2 p3 p4 q1 q2 q3 q4 : Tok) (n : Nat) (ha : a.length ≤ 1000) :
    Con w 320 5 300 ((x, instObj 330 dx) :: (dx, tagD w px a b t1 t2 t3 t4 t5 t6 u1 u2 u3 u5 u6) :: (px, instObj 156 pdx) :: (pdx, persD w p1 p2 p3 p4 q1 q2 q3 q4 n) :: led) [.ref x] (PBytes ((x, instObj 330 dx) :: (dx, tagD w px a b t1 t2 t3 t4 t5 t6 u1 u2 u3 u5 u6) :: (px, instObj 156 pdx) :: (pdx, persD w p1 p2 p3 p4 q1 q2 q3 q4 n) :: led) (hdL ++ a)) := by
  unfold Con tagD
  k_fill
  intro dp un gd cn cs a ccd cl outer A₀ base h₀ L m s Q E p loose mean mg mb B F X N T hk hd hu hret
  k_with_none
  k_with "tb_start" => (
      first
      | (refine' Nat.le_trans ?zqq1 (Nat.le_of_ble_eq_true ?zqq2); (case zqq1 => with_reducible assumption); (case zqq2 => exact rfl))
      | omega
      | (simp only [List.length_append, List.length_cons, List.length_nil, List.length_map, List.length_take, List.length_drop]; omega)
      | ((try simp only [List.length_append, List.length_cons, List.length_nil]); (first | refine Nat.le_trans (sl_length _ _) ?_ | skip); omega)
      | fail "size")
  k_with "binaryOp Add bytes bytes" => ((k_here; (with_reducible show wpAny _ _ (binaryOp Operator.Add (Value.bytes (List.toArray _) _) (Value.bytes (List.toArray _) _)) _ _ _); (refine addB (by tb_start) ?_); intro _ _))
  k_with "getMethod bytes" => ((k_here; (with_reducible show wpAny _ _ (getMethod (Value.bytes (List.toArray _) _) (PySem.Str.ofString "join") _) _ _ _); (refine methB slotJoin tyJoin ?_)))
  k_with "ktr_rel" => (
      (intro cbp cbh; first
      | exact cbh
      | exact List.mem_cons_of_mem _ cbh
      | exact List.mem_cons_of_mem _ (List.mem_cons_of_mem _ cbh)
      | (simp only [List.mem_cons, List.mem_append] at cbh ⊢; first | exact cbh | (simp [cbh]; done) | grind)
      | grind))
  k_with "tb_rel" => (
      first
      | assumption
      | (refine' News.dr1 ?zqcbN; (case zqcbN => assumption))
      | (refine' News.dr2 ?zqcbN; (case zqcbN => assumption))
      | (refine' News.dr3 ?zqcbN; (case zqcbN => assumption))
      | (refine' News.dr4 ?zqcbN; (case zqcbN => assumption))
      | (refine' News.dr5 ?zqcbN; (case zqcbN => assumption))
      | (refine' News.dr6 ?zqcbN; (case zqcbN => assumption))
      | (refine' cb_drop ?zqcbN ?zqcbS; (case zqcbN => assumption); (case zqcbS => ktr_rel)))
  k_with "k_all" => (lcg_off)
  k_with "units_room" => (first | exact roomA hu rfl | exact roomB hu rfl | exact roomC hu rfl | (have hcL9 := cLine_is; (try simp only [units_in1, units_deeper, Around.mark_units, units_caller] at *); (try dsimp only [ktrTop] at *); omega))
  k_with "ktr_unf" => (
      first
      | assumption
      | exact List.Mem.head _
      | (refine' List.mem_append_left _ ?_; ktr_unf)
      | (refine' List.Mem.tail _ ?_; ktr_unf))
  k_with "lcg_off" => (
      first
      | assumption
      | (refine' off_lt ?zqal; (case zqal => assumption))
      | (refine' off_lt1 ?zqal; (case zqal => assumption))
      | (refine' OwnOff.ne ?zqal ?zqam; (case zqal => assumption); (case zqam => first | exact List.Mem.head _ | (simp; done)))
      | (refine' off_app ?zqal ?zqam; (case zqal => lcg_off); (case zqam => lcg_off))
      | (apply off_cons; assumption)
      | (refine' (fmc ?zqla ?zqlb); (case zqla => k_ne); (case zqlb => lcg_off))
      | (apply off_tail1; assumption)
      | (apply off_cons; apply off_cons; assumption)
      | (refine' ltNe ?zqal; (case zqal => first | assumption | (apply And.right; assumption) | (apply And.right; apply And.right; assumption) | (apply And.right; apply And.right; apply And.right; assumption) | (apply And.right; apply And.right; apply And.right; apply And.right; assumption) | (apply And.right; apply And.right; apply And.right; apply And.right; apply And.right; assumption))))
  k_with "cell_enter" => ((refine' code_def ?zqk1 ?zqk2 ?zqk3 ?zqk4 ?zqk5 ?zqkA ?zqkF ?zqkK ?zqk6 ?zqk7 ?zqk8 ?zqk9 ?zqkB ?_ ?zqc2 ?zqc3 ?zqc4 ?zqc5; (case zqkA => exact rfl); (case zqkF => exact rfl); (case zqkK => assumption); (case zqk1 => k_asm); (case zqk2 => k_asm); (case zqk3 => k_asm); (case zqk4 => k_asm); (case zqk5 => k_asm); (case zqk6 => k_is); (case zqk7 => k_is); (case zqk8 => ktr_room); (case zqk9 => first | exact BindsTo.of_eq rfl | exact binds_K (by k_in) rfl (by k_is) rfl rfl rfl); (case zqc5 => decide); (case zqkB => exact locs rfl); (case zqc2 => exact rfl); (case zqc3 => exact rfl); (case zqc4 => exact rfl); k_whole; intro g' L' h' FG' F' N' B' X' T'; (try dsimp only); (try k_lift B'); (try k_fold)))
  k_with "ktr_room" => (first | exact roomA hd rfl | exact roomB hd rfl | exact roomC hd rfl)
  k_with "k_ne" => ((refine neN ?_; (try dsimp only); first | (refine' neLt ?zqcbh ?zqcbk; (case zqcbh => with_reducible assumption); (case zqcbk => (intro cbz; repeat (first | exact cbz.1 | replace cbz := cbz.2)))) | (refine' neGt ?zqcbh ?zqcbk; (case zqcbh => with_reducible assumption); (case zqcbk => (intro cbz; repeat (first | exact cbz.1 | replace cbz := cbz.2)))) | omega))
  k_with "spliced" => ((k_here; k_dflt (refine' pes_eval ?zqcbF ?zqcbv ?_ ?zqcba; (case zqcbF => k_asm); (case zqcba => rfl); (case zqcbv => exact Eq.refl (some (_, _))); k_whole); (try dsimp only [List.cons_append, List.nil_append])))
  k_with "eval Name" => ((k_here; k_dflt (refine' nameX_L ?zqcbF ?zqcbv ?_ ?zqcba ?zqcbb; (case zqcbF => k_asm); (case zqcba => rfl); (case zqcbb => rfl); (case zqcbv => exact Eq.refl (some _)); k_whole)))
  k_with "storeName" => ((k_here; k_dflt (refine' storeL ?zqcbF ?zqcbN ?_ ?zqcba ?zqcbb; (case zqcbF => k_asm); (case zqcbN => k_asm); (case zqcba => rfl); (case zqcbb => rfl); k_whole); intro _ _ _ _; (try k_sweep)))
  k_with "in enter" => ((refine' code_def ?zqk1 ?zqk2 ?zqk3 ?zqk4 ?zqk5 ?zqkA ?zqkF ?zqkK ?zqk6 ?zqk7 ?zqk8 ?zqk9 ?zqkB ?_ ?zqc2 ?zqc3 ?zqc4 ?zqc5; (case zqkA => exact rfl); (case zqkF => exact rfl); (case zqkK => exact rfl); (case zqk1 => k_asm); (case zqk2 => k_asm); (case zqk3 => k_asm); (case zqk4 => k_asm); (case zqk5 => k_asm); (case zqk6 => k_is); (case zqk7 => k_is); (case zqk8 => ktr_room); (case zqk9 => first | exact BindsTo.of_eq rfl | exact binds_K (by k_in) rfl (by k_is) rfl rfl rfl); (case zqc5 => decide); (case zqkB => exact locs rfl); (case zqc2 => exact rfl); (case zqc3 => exact rfl); (case zqc4 => exact rfl); k_whole; intro g' L' h' FG' F' N' B' X' T'; (try dsimp only); (try k_lift B'); (try k_fold)))
  k_with "in enter" => ((refine' code_defC ?zqk1 ?zqk2 ?zqk3 ?zqk4 ?zqk5 ?zqkA ?zqkF ?zqkK ?zqk6 ?zqk7 ?zqk8 ?zqk9 ?zqkB ?zqkD ?_ ?zqc2 ?zqc3 ?zqc4; (case zqkA => exact rfl); (case zqkF => exact rfl); (case zqkK => exact rfl); (case zqk1 => k_asm); (case zqk2 => k_asm); (case zqk3 => k_asm); (case zqk4 => k_asm); (case zqk5 => k_asm); (case zqk6 => k_is); (case zqk7 => k_is); (case zqk8 => ktr_room); (case zqk9 => exact BindsTo.of_eq rfl); (case zqkB => exact rfl); (case zqkD => decide +kernel); (case zqc2 => exact rfl); (case zqc3 => exact rfl); (case zqc4 => exact rfl); k_whole; intro g' L' h' tk' cells' FG' F' N' Y' B' X' T' l1; (try k_lt l1); k_cells Y'; (try simp only [List.cons_append, List.nil_append] at N'); (try dsimp only); (try k_lift B'); (try k_fold)))
  k_with "call ref" => ((k_here; k_dflt (refine wpAny_call ?_; k_extra "in enter")))
  k_with "compareOp NotIn" => ((k_here; (with_reducible show wpAny _ _ (compareOp CmpOp.NotIn (Value.int _ _) (Value.bytes (List.toArray _) _)) _ _ _); first | refine notInK true (by decide) (by decide) (by decide) ?_ | refine notInK false (by decide) (by decide) (by decide) ?_))
  k_with "compareOp In" => ((k_here; (with_reducible show wpAny _ _ (compareOp CmpOp.In (Value.int _ _) (Value.bytes (List.toArray _) _)) _ _ _); first | refine inK true (by decide) (by decide) (by decide) ?_ | refine inK false (by decide) (by decide) (by decide) ?_))
  k_with "UnrEnd" => ((k_here; k_dflt ((rename News _ _ _ _ => nE'); first | (refine' UnrEnd.introT ?zqF nE' ?zqoff ?_; (case zqF => assumption); (case zqoff => lcg_off)) | (refine' UnrEnd.introT1 ?zqF nE' ?zqoff ?_; (case zqF => assumption); (case zqoff => lcg_off)) | (refine' UnrEnd.introT2 ?zqF nE' ?zqoff ?_; (case zqF => assumption); (case zqoff => lcg_off)))))
  k_with "call builtin:len" => ((k_here; (with_reducible show wpAny _ _ (call (Value.builtin "len") [Value.str (PySem.Str.ofString _) _]) _ _ _); (refine lenStrE (by k_dflt kxw_int) (by decide) ?_); intro _ _; (try dsimp only)))
  k_with "call ref" => ((k_here; (with_reducible show wpAny _ _ (call (Value.ref 57) [Value.str (PySem.Str.ofString "abcd") _]) _ _ _); k_dflt (refine' Con.useB (con_oct4 _ _ _) ?zqn1 ?zqn2 ?zqn3 ?zqn4 ?zqn5 ?zqn6 ?zqn7 ?zqn8 ?_; (case zqn4 => assumption); (case zqn1 => k_asm); (case zqn2 => k_asm); (case zqn3 => k_asm); (case zqn5 => k_asm); (case zqn6 => exact rfl); (case zqn7 => ktr_room); (case zqn8 => units_room)); intro _ _ _ _ _; (try dsimp only)))
  k_with "call ref" => ((k_here; (with_reducible show wpAny _ _ (call (Value.ref 64) _) _ _ _); k_dflt (refine' Con.useT (con_hexof _ _ _) ?zqn1 ?zqn2 ?zqn3 ?zqn4 ?zqn5 ?zqn6 ?zqn7 ?zqn8 ?_; (case zqn4 => assumption); (case zqn1 => k_asm); (case zqn2 => k_asm); (case zqn3 => k_asm); (case zqn5 => k_asm); (case zqn6 => exact rfl); (case zqn7 => ktr_room); (case zqn8 => units_room)); intro _ _ _ _ _; (try dsimp only)))
  k_with "call ref" => ((k_here; (with_reducible show wpAny _ _ (call (Value.ref 153) _) _ _ _); k_dflt (refine' Con.useB (Con.dupB (extra := [_, _]) (con_pers_oct _ _ _ _ _ _ _ _ _ _ _ _ _) ?zqhs) ?zqn1 ?zqn2 ?zqn3 ?zqn4 ?zqn5 ?zqn6 ?zqn7 ?zqn8 ?_; (case zqn4 => assumption); (case zqn1 => k_asm); (case zqn2 => k_asm); (case zqn3 => k_asm); (case zqn5 => k_asm); (case zqn6 => exact rfl); (case zqn7 => ktr_room); (case zqn8 => units_room); (case zqhs => refine' (fmc ?zqha (fmc ?zqhb ?zqhc)); (case zqha => ktr_unf); (case zqhb => ktr_unf); (case zqhc => exact fun _ h => nomatch h))); intro _ _ _ _ _; (try dsimp only)))
  k_with "call builtin:bytes.join" => ((k_here; (with_reducible show wpAny _ _ (call (Value.builtin "bytes.join") _) _ _ _); (try dsimp only [List.append, List.cons_append, List.nil_append]); k_dflt ((rename News _ _ _ _ => nJ); (try simp only [List.push_toArray, List.cons_append, List.nil_append] at nJ); refine' callJoin (News.get nJ ?zqn2) ?zqn3 ?zqn4 ?zqn5 ?_; (case zqn2 => exact List.Mem.head _); (case zqn3 => exact BsAre.cons _ _ (BsAre.cons _ _ (BsAre.cons _ _ (BsAre.cons _ _ (BsAre.cons _ _ BsAre.nil))))); (case zqn4 => refine' joinRoom ?zqja ?zqjb ?zqjc ?zqjd ?zqje; (case zqje => assumption); (all_goals exact Nat.le_of_ble_eq_true rfl)); (case zqn5 => exact Nat.le_of_ble_eq_true rfl); intro _ _)))
  w_strict (
    refine wpAny_call ?_
    k_dflt cell_enter
    k_steps
    all_goals first | (refine' hret _ _ _ _ (pBe ?ze0) ?ze1 ?ze2; (case ze1 => assumption); (case ze2 => tb_rel); (case ze0 => exact hdJoin)) | trace_state)
-- a def of the text is entered where it is called
theorem addRoom {a b : List UInt8} (ha : a.length ≤ 1000) (hb : b.length ≤ 1000) : (hdL ++ a).length + b.length ≤ 16777216 := by
  have e : hdL.length = 52 := rfl
  rw [List.length_append, e]; omega
set_option maxHeartbeats 4000000 in
theorem con_tag_octets (w : World) (led : List (Addr × Obj)) (x dx px pdx : Addr) (a b : List UInt8) (t1 t2 t3 t4 t5 t6 u1 u2 u3 u5 u6 p1 p2 p3 p4 q1 q2 q3 q4 : Tok) (n : Nat) (ha : a.length ≤ 1000) (hb : b.length ≤ 1000) :
    Con w 327 7 400 ((x, instObj 330 dx) :: (dx, tagD w px a b t1 t2 t3 t4 t5 t6 u1 u2 u3 u5 u6) :: (px, instObj 156 pdx) :: (pdx, persD w p1 p2 p3 p4 q1 q2 q3 q4 n) :: led) [.ref x] (PBytes ((x, instObj 330 dx) :: (dx, tagD w px a b t1 t2 t3 t4 t5 t6 u1 u2 u3 u5 u6) :: (px, instObj 156 pdx) :: (pdx, persD w p1 p2 p3 p4 q1 q2 q3 q4 n) :: led) (hdL ++ a ++ b)) := by
  unfold Con tagD
  k_fill
  intro dp un gd cn cs a ccd cl outer A₀ base h₀ L m s Q E p loose mean mg mb B F X N T hk hd hu hret
  k_with_none
  k_with "tb_rel" => (
      first
      | assumption
      | (refine' News.dr1 ?zqcbN; (case zqcbN => assumption))
      | (refine' News.dr2 ?zqcbN; (case zqcbN => assumption))
      | (refine' News.dr3 ?zqcbN; (case zqcbN => assumption))
      | (refine' News.dr4 ?zqcbN; (case zqcbN => assumption))
      | (refine' News.dr5 ?zqcbN; (case zqcbN => assumption))
      | (refine' News.dr6 ?zqcbN; (case zqcbN => assumption))
      | (refine' cb_drop ?zqcbN ?zqcbS; (case zqcbN => assumption); (case zqcbS => ktr_rel)))
  k_with "units_room" => (first | exact roomA hu rfl | exact roomB hu rfl | exact roomC hu rfl | (have hcL9 := cLine_is; (try simp only [units_in1, units_deeper, Around.mark_units, units_caller] at *); (try dsimp only [ktrTop] at *); omega))
  k_with "cell_enter" => ((refine' code_def ?zqk1 ?zqk2 ?zqk3 ?zqk4 ?zqk5 ?zqkA ?zqkF ?zqkK ?zqk6 ?zqk7 ?zqk8 ?zqk9 ?zqkB ?_ ?zqc2 ?zqc3 ?zqc4 ?zqc5; (case zqkA => exact rfl); (case zqkF => exact rfl); (case zqkK => assumption); (case zqk1 => k_asm); (case zqk2 => k_asm); (case zqk3 => k_asm); (case zqk4 => k_asm); (case zqk5 => k_asm); (case zqk6 => k_is); (case zqk7 => k_is); (case zqk8 => ktr_room); (case zqk9 => first | exact BindsTo.of_eq rfl | exact binds_K (by k_in) rfl (by k_is) rfl rfl rfl); (case zqc5 => decide); (case zqkB => exact locs rfl); (case zqc2 => exact rfl); (case zqc3 => exact rfl); (case zqc4 => exact rfl); k_whole; intro g' L' h' FG' F' N' B' X' T'; (try dsimp only); (try k_lift B'); (try k_fold)))
  k_with "ktr_room" => (first | exact roomA hd rfl | exact roomB hd rfl | exact roomC hd rfl)
  k_with "k_ne" => ((refine neN ?_; (try dsimp only); first | (refine' neLt ?zqcbh ?zqcbk; (case zqcbh => with_reducible assumption); (case zqcbk => (intro cbz; repeat (first | exact cbz.1 | replace cbz := cbz.2)))) | (refine' neGt ?zqcbh ?zqcbk; (case zqcbh => with_reducible assumption); (case zqcbk => (intro cbz; repeat (first | exact cbz.1 | replace cbz := cbz.2)))) | omega))
  k_with "eval Name" => ((k_here; k_dflt (refine' nameX_L ?zqcbF ?zqcbv ?_ ?zqcba ?zqcbb; (case zqcbF => k_asm); (case zqcba => rfl); (case zqcbb => rfl); (case zqcbv => exact Eq.refl (some _)); k_whole)))
  k_with "in enter" => ((refine' code_def ?zqk1 ?zqk2 ?zqk3 ?zqk4 ?zqk5 ?zqkA ?zqkF ?zqkK ?zqk6 ?zqk7 ?zqk8 ?zqk9 ?zqkB ?_ ?zqc2 ?zqc3 ?zqc4 ?zqc5; (case zqkA => exact rfl); (case zqkF => exact rfl); (case zqkK => exact rfl); (case zqk1 => k_asm); (case zqk2 => k_asm); (case zqk3 => k_asm); (case zqk4 => k_asm); (case zqk5 => k_asm); (case zqk6 => k_is); (case zqk7 => k_is); (case zqk8 => ktr_room); (case zqk9 => first | exact BindsTo.of_eq rfl | exact binds_K (by k_in) rfl (by k_is) rfl rfl rfl); (case zqc5 => decide); (case zqkB => exact locs rfl); (case zqc2 => exact rfl); (case zqc3 => exact rfl); (case zqc4 => exact rfl); k_whole; intro g' L' h' FG' F' N' B' X' T'; (try dsimp only); (try k_lift B'); (try k_fold)))
  k_with "in enter" => ((refine' code_defC ?zqk1 ?zqk2 ?zqk3 ?zqk4 ?zqk5 ?zqkA ?zqkF ?zqkK ?zqk6 ?zqk7 ?zqk8 ?zqk9 ?zqkB ?zqkD ?_ ?zqc2 ?zqc3 ?zqc4; (case zqkA => exact rfl); (case zqkF => exact rfl); (case zqkK => exact rfl); (case zqk1 => k_asm); (case zqk2 => k_asm); (case zqk3 => k_asm); (case zqk4 => k_asm); (case zqk5 => k_asm); (case zqk6 => k_is); (case zqk7 => k_is); (case zqk8 => ktr_room); (case zqk9 => exact BindsTo.of_eq rfl); (case zqkB => exact rfl); (case zqkD => decide +kernel); (case zqc2 => exact rfl); (case zqc3 => exact rfl); (case zqc4 => exact rfl); k_whole; intro g' L' h' tk' cells' FG' F' N' Y' B' X' T' l1; (try k_lt l1); k_cells Y'; (try simp only [List.cons_append, List.nil_append] at N'); (try dsimp only); (try k_lift B'); (try k_fold)))
  k_with "call ref" => ((k_here; k_dflt (refine wpAny_call ?_; k_extra "in enter")))
  k_with "compareOp NotIn" => ((k_here; (with_reducible show wpAny _ _ (compareOp CmpOp.NotIn (Value.int _ _) (Value.bytes (List.toArray _) _)) _ _ _); first | refine notInK true (by decide) (by decide) (by decide) ?_ | refine notInK false (by decide) (by decide) (by decide) ?_))
  k_with "compareOp In" => ((k_here; (with_reducible show wpAny _ _ (compareOp CmpOp.In (Value.int _ _) (Value.bytes (List.toArray _) _)) _ _ _); first | refine inK true (by decide) (by decide) (by decide) ?_ | refine inK false (by decide) (by decide) (by decide) ?_))
  k_with "UnrEnd" => ((k_here; k_dflt ((rename News _ _ _ _ => nE'); first | (refine' UnrEnd.introT ?zqF nE' ?zqoff ?_; (case zqF => assumption); (case zqoff => lcg_off)) | (refine' UnrEnd.introT1 ?zqF nE' ?zqoff ?_; (case zqF => assumption); (case zqoff => lcg_off)) | (refine' UnrEnd.introT2 ?zqF nE' ?zqoff ?_; (case zqF => assumption); (case zqoff => lcg_off)))))
  k_with "call builtin:len" => ((k_here; (with_reducible show wpAny _ _ (call (Value.builtin "len") [Value.str (PySem.Str.ofString _) _]) _ _ _); (refine lenStrE (by k_dflt kxw_int) (by decide) ?_); intro _ _; (try dsimp only)))
  k_with "call ref" => ((k_here; (with_reducible show wpAny _ _ (call (Value.ref 320) _) _ _ _); k_dflt (refine' Con.useB (con_signed_part _ _ _ _ _ _ _ _ _ _ _ _ _ _ _ _ _ _ _ _ _ _ _ _ _ _ _ _ ?zqc1) ?zqn1 ?zqn2 ?zqn3 ?zqn4 ?zqn5 ?zqn6 ?zqn7 ?zqn8 ?_; (case zqn4 => assumption); (case zqn1 => k_asm); (case zqn2 => k_asm); (case zqn3 => k_asm); (case zqn5 => k_asm); (case zqn6 => exact rfl); (case zqn7 => ktr_room); (case zqn8 => units_room); (case zqc1 => assumption)); intro _ _ _ _ _; (try dsimp only)))
  k_with "binaryOp Add bytes bytes" => ((k_here; (with_reducible show wpAny _ _ (binaryOp Operator.Add (Value.bytes (List.toArray _) _) (Value.bytes (List.toArray _) _)) _ _ _); k_dflt (refine' addB ?zqar ?_; (case zqar => refine' addRoom ?zqx ?zqy; (case zqx => assumption); (case zqy => assumption))); intro _ _))
  w_strict (
    refine wpAny_call ?_
    k_dflt cell_enter
    k_steps
    all_goals first | (refine' hret _ _ _ _ (pBe rfl) ?ze1 ?ze2; (case ze1 => assumption); (case ze2 => tb_rel)) | trace_state)
-- a def of the text is entered where it is called
-- a class is called
theorem slRoom {m : List UInt8} {lo hi : Option Int} (hm : m.length ≤ 400) : (sl m lo hi).length ≤ 1000 := by have := sl_length (l := m) lo hi; omega
theorem addSl {a m : List UInt8} {lo hi : Option Int} (ha : a.length ≤ 100) (hm : m.length ≤ 400) : a.length + (sl m lo hi).length ≤ 16777216 := by have := sl_length (l := m) lo hi; omega
theorem sl_all {m : List UInt8} : sl m none (some (lawSigned m)) ++ sl m (some (lawSigned m)) none = m := by
  have h := signed_range m
  rw [slTo2 h.1, slFrom2 h.1, List.take_append_drop]
theorem hdAll {m : List UInt8} : (hdL ++ sl m none (some (lawSigned m)) ++ sl m (some (lawSigned m)) none != hdL ++ m) = false := by
  rw [List.append_assoc, sl_all]; simp
theorem hdAllL {m : List UInt8} : (hdL ++ sl m none (some (lawSigned m)) ++ sl m (some (lawSigned m)) none != [111, 98, 106, 101, 99, 116, 32, 97, 98, 99, 100, 10, 116, 121, 112, 101, 32, 98, 108, 111, 98, 10, 116, 97, 103, 32, 118, 10, 116, 97, 103, 103, 101, 114, 32, 65, 32, 60, 97, 64, 98, 62, 32, 49, 32, 43, 48, 48, 48, 48, 10, 10] ++ m) = false := hdAll
theorem hdOneL {x : List UInt8} : (hdL ++ x != [111, 98, 106, 101, 99, 116, 32, 97, 98, 99, 100, 10, 116, 121, 112, 101, 32, 98, 108, 111, 98, 10, 116, 97, 103, 32, 118, 10, 116, 97, 103, 103, 101, 114, 32, 65, 32, 60, 97, 64, 98, 62, 32, 49, 32, 43, 48, 48, 48, 48, 10, 10] ++ x) = false := by
  show (hdL ++ x != hdL ++ x) = false
  simp
theorem neI {prog : Program} {w : World} {A : Around} {E : Value → Shared → Prop} {s : Shared} {t u : Tok} {k : Int} {Q : Value → Shared → Prop} (h : Q (.bool false) s) : wpAny (model prog w) A (compareOp .NotEq (.int k t) (.int k u)) Q E s := by
  refine PyProof.Rows.ne_int ?_
  have e : (k != k) = false := by simp
  rw [e]; exact h
set_option maxHeartbeats 8000000 in
theorem con_tags (w : World) (led : List (Addr × Obj)) (d : Addr) (m : List UInt8) (t : Tok) (hm : m.length ≤ 400) (h0 : (0 : UInt8) ∉ m) : Con w 432 9 500 led [.ref d, .bytes m.toArray t] (PBool led true) := by
  refine conOf ?_
  k_fill
  intro dp un gd cn cs a ccd cl outer A₀ base h₀ L m hp gn dr tk os Q E p loose mean mg mb B F X N T hk hd hu hret
  k_with_none
  k_with "tb_start" => (
      first
      | (refine' Nat.le_trans ?zqq1 (Nat.le_of_ble_eq_true ?zqq2); (case zqq1 => with_reducible assumption); (case zqq2 => exact rfl))
      | omega
      | (simp only [List.length_append, List.length_cons, List.length_nil, List.length_map, List.length_take, List.length_drop]; omega)
      | ((try simp only [List.length_append, List.length_cons, List.length_nil]); (first | refine Nat.le_trans (sl_length _ _) ?_ | skip); omega)
      | fail "size")
  k_with "binaryOp Add bytes bytes" => ((k_here; (with_reducible show wpAny _ _ (binaryOp Operator.Add (Value.bytes (List.toArray _) _) (Value.bytes (List.toArray _) _)) _ _ _); (refine addB (by tb_start) ?_); intro _ _))
  k_with "subscriptTail" => ((k_here; (with_reducible show wpAny _ _ (subscriptTail _ (Expr.Slice _ _ none _) (Value.bytes (List.toArray _) _) (Value.ref _)) _ _ _); (with_reducible rename Fr _ _ _ _ => F'); (with_reducible rename News _ _ _ _ => N'); (refine sliceB (hs := by with_unfolding_all rfl) (ht := by intro _; with_unfolding_all rfl) (s := ⟨_, _, _, _, _⟩) F' N' (by constructor) (by constructor) (by tb_start) ?_); intro _ _ _ _ _))
  k_with "ktr_rel" => (
      (intro cbp cbh; first
      | exact cbh
      | exact List.mem_cons_of_mem _ cbh
      | exact List.mem_cons_of_mem _ (List.mem_cons_of_mem _ cbh)
      | (simp only [List.mem_cons, List.mem_append] at cbh ⊢; first | exact cbh | (simp [cbh]; done) | grind)
      | grind))
  k_with "tb_rel" => (
      first
      | assumption
      | (refine' News.dr1 ?zqcbN; (case zqcbN => assumption))
      | (refine' News.dr2 ?zqcbN; (case zqcbN => assumption))
      | (refine' News.dr3 ?zqcbN; (case zqcbN => assumption))
      | (refine' News.dr4 ?zqcbN; (case zqcbN => assumption))
      | (refine' News.dr5 ?zqcbN; (case zqcbN => assumption))
      | (refine' News.dr6 ?zqcbN; (case zqcbN => assumption))
      | (refine' cb_drop ?zqcbN ?zqcbS; (case zqcbN => assumption); (case zqcbS => ktr_rel)))
  k_with "k_all" => (lcg_off)
  k_with "units_room" => (first | exact roomA hu rfl | exact roomB hu rfl | exact roomC hu rfl | (have hcL9 := cLine_is; (try simp only [units_in1, units_deeper, Around.mark_units, units_caller] at *); (try dsimp only [ktrTop] at *); omega))
  k_with "ktr_unf" => (
      first
      | assumption
      | exact List.Mem.head _
      | (refine' List.mem_append_left _ ?_; ktr_unf)
      | (refine' List.Mem.tail _ ?_; ktr_unf))
  k_with "lcg_off" => (
      first
      | assumption
      | (refine' off_lt ?zqal; (case zqal => assumption))
      | (refine' off_lt1 ?zqal; (case zqal => assumption))
      | (refine' OwnOff.ne ?zqal ?zqam; (case zqal => assumption); (case zqam => first | exact List.Mem.head _ | (simp; done)))
      | (refine' off_app ?zqal ?zqam; (case zqal => lcg_off); (case zqam => lcg_off))
      | (apply off_cons; assumption)
      | (refine' (fmc ?zqla ?zqlb); (case zqla => k_ne); (case zqlb => lcg_off))
      | (apply off_tail1; assumption)
      | (apply off_cons; apply off_cons; assumption)
      | (refine' ltNe ?zqal; (case zqal => first | assumption | (apply And.right; assumption) | (apply And.right; apply And.right; assumption) | (apply And.right; apply And.right; apply And.right; assumption) | (apply And.right; apply And.right; apply And.right; apply And.right; assumption) | (apply And.right; apply And.right; apply And.right; apply And.right; apply And.right; assumption))))
  k_with "cell_enter" => ((refine' code_def ?zqk1 ?zqk2 ?zqk3 ?zqk4 ?zqk5 ?zqkA ?zqkF ?zqkK ?zqk6 ?zqk7 ?zqk8 ?zqk9 ?zqkB ?_ ?zqc2 ?zqc3 ?zqc4 ?zqc5; (case zqkA => exact rfl); (case zqkF => exact rfl); (case zqkK => assumption); (case zqk1 => k_asm); (case zqk2 => k_asm); (case zqk3 => k_asm); (case zqk4 => k_asm); (case zqk5 => k_asm); (case zqk6 => k_is); (case zqk7 => k_is); (case zqk8 => ktr_room); (case zqk9 => first | exact BindsTo.of_eq rfl | exact binds_K (by k_in) rfl (by k_is) rfl rfl rfl); (case zqc5 => decide); (case zqkB => exact locs rfl); (case zqc2 => exact rfl); (case zqc3 => exact rfl); (case zqc4 => exact rfl); k_whole; intro g' L' h' FG' F' N' B' X' T'; (try dsimp only); (try k_lift B'); (try k_fold)))
  k_with "ktr_room" => (first | exact roomA hd rfl | exact roomB hd rfl | exact roomC hd rfl)
  k_with "k_ne" => ((refine neN ?_; (try dsimp only); first | (refine' neLt ?zqcbh ?zqcbk; (case zqcbh => with_reducible assumption); (case zqcbk => (intro cbz; repeat (first | exact cbz.1 | replace cbz := cbz.2)))) | (refine' neGt ?zqcbh ?zqcbk; (case zqcbh => with_reducible assumption); (case zqcbk => (intro cbz; repeat (first | exact cbz.1 | replace cbz := cbz.2)))) | omega))
  k_with "spliced" => ((k_here; k_dflt (refine' pes_eval ?zqcbF ?zqcbv ?_ ?zqcba; (case zqcbF => k_asm); (case zqcba => rfl); (case zqcbv => exact Eq.refl (some (_, _))); k_whole); (try dsimp only [List.cons_append, List.nil_append])))
  k_with "eval BinOp" => ((k_here; k_dflt (refine' binop_pe ?zqcbF ?zqcbv ?zqcbw ?_ ?zqcba; (case zqcbF => k_asm); (case zqcba => rfl); (case zqcbv => exact Eq.refl (some (_, _))); (case zqcbw => exact Eq.refl (some (_, _))); k_whole)))
  k_with "eval Slice" => ((k_here; k_dflt (refine' slice_pe ?zqcbF ?zqcbu ?zqcbv ?zqcbw ?_ ?zqcba; (case zqcbF => k_asm); (case zqcba => rfl); (case zqcbu => exact Eq.refl (some (_, _))); (case zqcbv => exact Eq.refl (some (_, _))); (case zqcbw => exact Eq.refl (some (_, _))); k_whole)))
  k_with "eval Name" => ((k_here; k_dflt (refine' nameX_L ?zqcbF ?zqcbv ?_ ?zqcba ?zqcbb; (case zqcbF => k_asm); (case zqcba => rfl); (case zqcbb => rfl); (case zqcbv => exact Eq.refl (some _)); k_whole)))
  k_with "storeName" => ((k_here; k_dflt (refine' storeL ?zqcbF ?zqcbN ?_ ?zqcba ?zqcbb; (case zqcbF => k_asm); (case zqcbN => k_asm); (case zqcba => rfl); (case zqcbb => rfl); k_whole); intro _ _ _ _; (try k_sweep)))
  k_with "eval Call" => ((k_here; k_dflt (refine' callK_pe (hd := by decide) ?zqcbF ?zqcbX ?zqcbT ?zqcbe ?zqcbf ?zqcbv ?_ ?zqcba ?zqcbb; (case zqcbF => k_asm); (case zqcbX => k_asm); (case zqcbT => k_asm); (case zqcba => rfl); (case zqcbb => rfl); (case zqcbe => k_is); (case zqcbf => k_is); (case zqcbv => exact Eq.refl (some (_, _))); k_whole); (try dsimp only [List.cons_append, List.nil_append])))
  k_with "in enter" => ((refine' code_def ?zqk1 ?zqk2 ?zqk3 ?zqk4 ?zqk5 ?zqkA ?zqkF ?zqkK ?zqk6 ?zqk7 ?zqk8 ?zqk9 ?zqkB ?_ ?zqc2 ?zqc3 ?zqc4 ?zqc5; (case zqkA => exact rfl); (case zqkF => exact rfl); (case zqkK => exact rfl); (case zqk1 => k_asm); (case zqk2 => k_asm); (case zqk3 => k_asm); (case zqk4 => k_asm); (case zqk5 => k_asm); (case zqk6 => k_is); (case zqk7 => k_is); (case zqk8 => ktr_room); (case zqk9 => first | exact BindsTo.of_eq rfl | exact binds_K (by k_in) rfl (by k_is) rfl rfl rfl); (case zqc5 => decide); (case zqkB => exact locs rfl); (case zqc2 => exact rfl); (case zqc3 => exact rfl); (case zqc4 => exact rfl); k_whole; intro g' L' h' FG' F' N' B' X' T'; (try dsimp only); (try k_lift B'); (try k_fold)))
  k_with "in enter" => ((refine' code_defC ?zqk1 ?zqk2 ?zqk3 ?zqk4 ?zqk5 ?zqkA ?zqkF ?zqkK ?zqk6 ?zqk7 ?zqk8 ?zqk9 ?zqkB ?zqkD ?_ ?zqc2 ?zqc3 ?zqc4; (case zqkA => exact rfl); (case zqkF => exact rfl); (case zqkK => exact rfl); (case zqk1 => k_asm); (case zqk2 => k_asm); (case zqk3 => k_asm); (case zqk4 => k_asm); (case zqk5 => k_asm); (case zqk6 => k_is); (case zqk7 => k_is); (case zqk8 => ktr_room); (case zqk9 => exact BindsTo.of_eq rfl); (case zqkB => exact rfl); (case zqkD => decide +kernel); (case zqc2 => exact rfl); (case zqc3 => exact rfl); (case zqc4 => exact rfl); k_whole; intro g' L' h' tk' cells' FG' F' N' Y' B' X' T' l1; (try k_lt l1); k_cells Y'; (try simp only [List.cons_append, List.nil_append] at N'); (try dsimp only); (try k_lift B'); (try k_fold)))
  k_with "call ref" => ((k_here; k_dflt (refine wpAny_call ?_; k_extra "in enter")))
  k_with "compareOp NotIn" => ((k_here; (with_reducible show wpAny _ _ (compareOp CmpOp.NotIn (Value.int _ _) (Value.bytes (List.toArray _) _)) _ _ _); first | refine notInK true (by decide) (by decide) (by decide) ?_ | refine notInK false (by decide) (by decide) (by decide) ?_))
  k_with "compareOp In" => ((k_here; (with_reducible show wpAny _ _ (compareOp CmpOp.In (Value.int _ _) (Value.bytes (List.toArray _) _)) _ _ _); first | refine inK true (by decide) (by decide) (by decide) ?_ | refine inK false (by decide) (by decide) (by decide) ?_))
  k_with "UnrEnd" => ((k_here; k_dflt ((rename News _ _ _ _ => nE'); first | (refine' UnrEnd.introT ?zqF nE' ?zqoff ?_; (case zqF => assumption); (case zqoff => lcg_off)) | (refine' UnrEnd.introT1 ?zqF nE' ?zqoff ?_; (case zqF => assumption); (case zqoff => lcg_off)) | (refine' UnrEnd.introT2 ?zqF nE' ?zqoff ?_; (case zqF => assumption); (case zqoff => lcg_off)))))
  k_with "call builtin:len" => ((k_here; (with_reducible show wpAny _ _ (call (Value.builtin "len") [Value.str (PySem.Str.ofString _) _]) _ _ _); (refine lenStrE (by k_dflt kxw_int) (by decide) ?_); intro _ _; (try dsimp only)))
  k_with "ks_enter" => ((refine' code_def ?zqk1 ?zqk2 ?zqk3 ?zqk4 ?zqk5 ?zqkA ?zqkF ?zqkK ?zqk6 ?zqk7 ?zqk8 ?zqk9 ?zqkB ?_ ?zqc2 ?zqc3 ?zqc4 ?zqc5; (case zqkA => exact rfl); (case zqkF => exact rfl); (case zqkK => exact rfl); (case zqk1 => k_asm); (case zqk2 => k_asm); (case zqk3 => k_asm); (case zqk4 => k_asm); (case zqk5 => k_asm); (case zqk6 => k_is); (case zqk7 => k_is); (case zqk8 => ktr_room); (case zqk9 => first | exact BindsTo.of_eq rfl | exact binds_K (by k_in) rfl (by k_is) rfl rfl rfl); (case zqc5 => decide); (case zqkB => exact locs rfl); (case zqc2 => exact rfl); (case zqc3 => exact rfl); (case zqc4 => exact rfl); k_whole; intro g' L' h' FG' F' N' B' X' T'; (try dsimp only); (try k_lift B'); (try k_fold)))
  k_with "call ref" => ((k_here; k_dflt (refine' call_cls ?zqk1 ?zqk2 ?zqk3 ?zqk4 ?zqk5 ?zqk6 ?_; (case zqk1 => k_asm); (case zqk2 => k_asm); (case zqk3 => k_asm); (case zqk4 => k_is); (case zqk5 => k_is); (case zqk6 => k_is); k_whole; intro x' d' h' F' N' l1 l2; (try k_lt l1); (try k_lt2 l2); (try k_sweep); ks_enter)))
  k_with "compareOp Eq ref ref" => ((k_here; (with_reducible show wpAny _ _ (compareOp CmpOp.Eq (Value.ref _) (Value.ref _)) _ _ _); k_dflt (refine' eqTup ?zqn1 ?zqn2 ?zqn3 ?zqn4 ?zqn5 ?_; (case zqn1 => assumption); (case zqn2 => ktr_unf); (case zqn3 => ktr_unf); (case zqn4 => units_room); (case zqn5 => repeat (first | exact SameVs.nil | refine SameVs.bytes ?_ | refine SameVs.int ?_)))))
  k_with "compareOp NotEq ref ref" => ((k_here; (with_reducible show wpAny _ _ (compareOp CmpOp.NotEq (Value.ref _) (Value.ref _)) _ _ _); k_dflt (refine' neTup ?zqn1 ?zqn2 ?zqn3 ?zqn4 ?zqn5 ?_; (case zqn1 => assumption); (case zqn2 => ktr_unf); (case zqn3 => ktr_unf); (case zqn4 => units_room); (case zqn5 => repeat (first | exact SameVs.nil | refine SameVs.bytes ?_ | refine SameVs.int ?_)))))
  k_with "tb_start" => ((refine' addSl ?zqx ?zqy; (case zqx => exact Nat.le_of_ble_eq_true rfl); (case zqy => assumption)))
  k_with "call ref" => ((k_here; (with_reducible show wpAny _ _ (call (Value.ref 399) _) _ _ _); k_dflt (refine' Con.useI (con_signed _ _ _ _ ?zqc1) ?zqn1 ?zqn2 ?zqn3 ?zqn4 ?zqn5 ?zqn6 ?zqn7 ?zqn8 ?_; (case zqn4 => assumption); (case zqn1 => k_asm); (case zqn2 => k_asm); (case zqn3 => k_asm); (case zqn5 => k_asm); (case zqn6 => exact rfl); (case zqn7 => ktr_room); (case zqn8 => units_room); (case zqc1 => omega)); intro _ _ _ _ _; (try dsimp only)))
  k_with "call ref" => ((k_here; (with_reducible show wpAny _ _ (call (Value.ref 298) _) _ _ _); k_dflt (refine' Con.useI (con_sigL _ _ _ _ ?zqc1) ?zqn1 ?zqn2 ?zqn3 ?zqn4 ?zqn5 ?zqn6 ?zqn7 ?zqn8 ?_; (case zqn4 => assumption); (case zqn1 => k_asm); (case zqn2 => k_asm); (case zqn3 => k_asm); (case zqn5 => k_asm); (case zqn6 => exact rfl); (case zqn7 => ktr_room); (case zqn8 => units_room); (case zqc1 => omega)); intro _ _ _ _ _; (try dsimp only)))
  k_with "call ref" => ((k_here; (with_reducible show wpAny _ _ (call (Value.ref 341) _) _ _ _); k_dflt (refine' Con.use (con_read_tag _ _ _ _ _ ?zqc1 ?zqc2) ?zqn1 ?zqn2 ?zqn3 ?zqn4 ?zqn5 ?zqn6 ?zqn7 ?zqn8 ?_; (case zqn4 => assumption); (case zqn1 => k_asm); (case zqn2 => k_asm); (case zqn3 => k_asm); (case zqn5 => k_asm); (case zqn6 => exact rfl); (case zqn7 => ktr_room); (case zqn8 => units_room); (case zqc1 => omega); (case zqc2 => assumption); (rintro _ _ h' tk' ⟨tx, tdx, px, pdx, t1, t2, t3, t4, t5, t6, u1, u2, u3, u5, u6, p1, p2, p3, p4, q1, q2, q3, q4, pn, rfl, rfl⟩ F' N'); unfold tagD at N'); (try dsimp only)))
  k_with "call ref" => ((k_here; (with_reducible show wpAny _ _ (call (Value.ref 320) _) _ _ _); k_dflt (refine' Con.useB (Con.dupB (extra := [_, _, _, _]) (con_signed_part _ _ _ _ _ _ _ _ _ _ _ _ _ _ _ _ _ _ _ _ _ _ _ _ _ _ _ _ ?zqc1) ?zqhs) ?zqn1 ?zqn2 ?zqn3 ?zqn4 ?zqn5 ?zqn6 ?zqn7 ?zqn8 ?_; (case zqn4 => assumption); (case zqn1 => k_asm); (case zqn2 => k_asm); (case zqn3 => k_asm); (case zqn5 => k_asm); (case zqn6 => exact rfl); (case zqn7 => ktr_room); (case zqn8 => units_room); (case zqhs => refine' (fmc ?zqha (fmc ?zqhb (fmc ?zqhc (fmc ?zqhd ?zqhe)))); (case zqha => ktr_unf); (case zqhb => ktr_unf); (case zqhc => ktr_unf); (case zqhd => ktr_unf); (case zqhe => exact fun _ h => nomatch h)); (case zqc1 => refine' slRoom ?zqx; (case zqx => assumption))); intro _ _ _ _ _; (try dsimp only)))
  k_with "call ref" => ((k_here; (with_reducible show wpAny _ _ (call (Value.ref 327) _) _ _ _); k_dflt (refine' Con.useB (Con.dupB (extra := [_, _, _, _]) (con_tag_octets _ _ _ _ _ _ _ _ _ _ _ _ _ _ _ _ _ _ _ _ _ _ _ _ _ _ _ _ ?zqc1 ?zqc2) ?zqhs) ?zqn1 ?zqn2 ?zqn3 ?zqn4 ?zqn5 ?zqn6 ?zqn7 ?zqn8 ?_; (case zqn4 => assumption); (case zqn1 => k_asm); (case zqn2 => k_asm); (case zqn3 => k_asm); (case zqn5 => k_asm); (case zqn6 => exact rfl); (case zqn7 => ktr_room); (case zqn8 => units_room); (case zqhs => refine' (fmc ?zqha (fmc ?zqhb (fmc ?zqhc (fmc ?zqhd ?zqhe)))); (case zqha => ktr_unf); (case zqhb => ktr_unf); (case zqhc => ktr_unf); (case zqhd => ktr_unf); (case zqhe => exact fun _ h => nomatch h)); (case zqc1 => refine' slRoom ?zqx; (case zqx => assumption)); (case zqc2 => refine' slRoom ?zqx; (case zqx => assumption))); intro _ _ _ _ _; (try dsimp only)))
  k_with "compareOp NotEq bytes bytes" => ((k_here; (with_reducible first | refine' neD false hdOneL ?_ | refine' neD false hdAllL ?_)))
  k_with "compareOp Eq bytes bytes" => ((k_here; (with_reducible refine' eqSame ?_)))
  k_with "compareOp NotEq int int" => ((k_here; (with_reducible refine neI ?_)))
  w_strict (
    refine wpAny_call ?_
    k_dflt cell_enter
    k_steps
    all_goals first | (refine' hret _ _ _ _ (pBool rfl) ?ze1 ?ze2; (case ze1 => assumption); (case ze2 => tb_rel)) | trace_state)
theorem revLen {ns : List Int} (h : ns.length ≤ 63) : (ns.take 8).reverse.length ≤ 63 := by
  rw [List.length_reverse, List.length_take]; omega
theorem deckMod {a : Int} : 0 ≤ a.fmod 2147483587 ∧ a.fmod 2147483587 < 2147483587 := ⟨Int.fmod_nonneg_of_pos _ (by decide), Int.fmod_lt_of_pos _ (by decide)⟩
theorem takeRoom {vs : List Value} {ns : List Int} {k : Nat} (h : IntsAre vs (ns.take k)) (hn : ns.length ≤ 63) : vs.toArray.size ≤ sizeLine := by
  have e := h.length
  rw [List.length_take] at e
  rw [sizeLine_eq]; simp; omega
set_option maxHeartbeats 8000000 in
theorem con_deck (w : World) (led : List (Addr × Obj)) (ax : Addr) (vs : List Value) (ns : List Int) (hI : IntsAre vs ns) (hn : ns.length ≤ 63) :
    ∀ (dp un : Nat) (gd : Option (List Code)) (cn : Str) (cs : Scope) (a : Addr) (ccd : Value) (cl : List (Str × Addr)) (outer : List Env) (A₀ : Around) (base h₀ : Heap) (L : Addr) (m : Str → Option Value) (s : Shared) (Q E : Value → Shared → Prop)
    (p : Program) (loose : List Str) (mean : ExcName → Option Value) (mg mb : Str → Option Value)
    (_ : Below A₀ base outer h₀) (_ : Fr h₀ L s.heap m) (_ : (Mine.frag.heap_1 w.params).In h₀) (_ : News h₀ L s.heap led) (_ : Top p loose mean mg mb h₀) (_ : cs.kind = .function)
    (_ : dp + 3 < recursionLimit) (_ : un + 200 < cLine) (_ : base.IsList ax vs.toArray)
    (_ : ∀ (d D : Addr) (o : Obj) (ws : List Value) (n : Nat) (h' : Heap) (tk' : Nat), Deck w d D 0 o ws → (∀ p ∈ led, p.1 ≠ d) → (∀ p ∈ led, p.1 ≠ D) → Fr h₀ L h' m → News h₀ L h' ((d, o) :: (D, listOf ws.toArray n) :: led) → Q (.ref d) { s with heap := h', toks := tk' }),
    wpAny (model PySem.Challenge.rw_nt0282_01.row.prog w) (ktrTop dp un gd cn cs L a ccd cl outer) (call (.ref 354) [.ref ax]) Q E s := by
  have hlen := hI.length
  k_fill
  intro dp un gd cn cs a ccd cl outer A₀ base h₀ L m s Q E p loose mean mg mb B F X N T hk hd hu hl hret
  k_with_none
  k_with "ktr_rel" => (
      (intro cbp cbh; first
      | exact cbh
      | exact List.mem_cons_of_mem _ cbh
      | exact List.mem_cons_of_mem _ (List.mem_cons_of_mem _ cbh)
      | (simp only [List.mem_cons, List.mem_append] at cbh ⊢; first | exact cbh | (simp [cbh]; done) | grind)
      | grind))
  k_with "k_all" => (lcg_off)
  k_with "ktr_unf" => (
      first
      | assumption
      | exact List.Mem.head _
      | (refine' List.mem_append_left _ ?_; ktr_unf)
      | (refine' List.Mem.tail _ ?_; ktr_unf))
  k_with "eval ListComp" => (k_extra "own ListComp")
  k_with "FinE" => ((k_here; (unfold LCg.FinE); intro _ _ _ _ _ _; (try dsimp only)))
  k_with "lcg_off" => (
      first
      | assumption
      | (refine' off_lt ?zqal; (case zqal => assumption))
      | (refine' off_lt1 ?zqal; (case zqal => assumption))
      | (refine' OwnOff.ne ?zqal ?zqam; (case zqal => assumption); (case zqam => first | exact List.Mem.head _ | (simp; done)))
      | (refine' off_app ?zqal ?zqam; (case zqal => lcg_off); (case zqam => lcg_off))
      | (apply off_cons; assumption)
      | (refine' (fmc ?zqla ?zqlb); (case zqla => k_ne); (case zqlb => lcg_off))
      | (apply off_tail1; assumption)
      | (apply off_cons; apply off_cons; assumption)
      | (refine' ltNe ?zqal; (case zqal => first | assumption | (apply And.right; assumption) | (apply And.right; apply And.right; assumption) | (apply And.right; apply And.right; apply And.right; assumption) | (apply And.right; apply And.right; apply And.right; apply And.right; assumption) | (apply And.right; apply And.right; apply And.right; apply And.right; apply And.right; assumption))))
  k_with "cell_enter" => ((refine' code_def ?zqk1 ?zqk2 ?zqk3 ?zqk4 ?zqk5 ?zqkA ?zqkF ?zqkK ?zqk6 ?zqk7 ?zqk8 ?zqk9 ?zqkB ?_ ?zqc2 ?zqc3 ?zqc4 ?zqc5; (case zqkA => exact rfl); (case zqkF => exact rfl); (case zqkK => assumption); (case zqk1 => k_asm); (case zqk2 => k_asm); (case zqk3 => k_asm); (case zqk4 => k_asm); (case zqk5 => k_asm); (case zqk6 => k_is); (case zqk7 => k_is); (case zqk8 => ktr_room); (case zqk9 => first | exact BindsTo.of_eq rfl | exact binds_K (by k_in) rfl (by k_is) rfl rfl rfl); (case zqc5 => decide); (case zqkB => exact locs rfl); (case zqc2 => exact rfl); (case zqc3 => exact rfl); (case zqc4 => exact rfl); k_whole; intro g' L' h' FG' F' N' B' X' T'; (try dsimp only); (try k_lift B'); (try k_fold)))
  k_with "k_ne" => ((refine neN ?_; (try dsimp only); first | (refine' neLt ?zqcbh ?zqcbk; (case zqcbh => with_reducible assumption); (case zqcbk => (intro cbz; repeat (first | exact cbz.1 | replace cbz := cbz.2)))) | (refine' neGt ?zqcbh ?zqcbk; (case zqcbh => with_reducible assumption); (case zqcbk => (intro cbz; repeat (first | exact cbz.1 | replace cbz := cbz.2)))) | omega))
  k_with "spliced" => ((k_here; k_dflt (refine' pes_eval ?zqcbF ?zqcbv ?_ ?zqcba; (case zqcbF => k_asm); (case zqcba => rfl); (case zqcbv => exact Eq.refl (some (_, _))); k_whole); (try dsimp only [List.cons_append, List.nil_append])))
  k_with "eval BinOp" => ((k_here; k_dflt (refine' binop_pe ?zqcbF ?zqcbv ?zqcbw ?_ ?zqcba; (case zqcbF => k_asm); (case zqcba => rfl); (case zqcbv => exact Eq.refl (some (_, _))); (case zqcbw => exact Eq.refl (some (_, _))); k_whole)))
  k_with "eval Name" => ((k_here; k_dflt (refine' nameX_L ?zqcbF ?zqcbv ?_ ?zqcba ?zqcbb; (case zqcbF => k_asm); (case zqcba => rfl); (case zqcbb => rfl); (case zqcbv => exact Eq.refl (some _)); k_whole)))
  k_with "storeName" => ((k_here; k_dflt (refine' storeL ?zqcbF ?zqcbN ?_ ?zqcba ?zqcbb; (case zqcbF => k_asm); (case zqcbN => k_asm); (case zqcba => rfl); (case zqcbb => rfl); k_whole); intro _ _ _ _; (try k_sweep)))
  k_with "CompSrc" => ((k_here; k_dflt (refine' LCg.CompSrc.ledger ?zqn1 ?zqn2 ?zqn3 ?zqn4 ?zqn5 ?_; (case zqn1 => exact rfl); (case zqn2 => k_asm); (case zqn3 => k_asm); (case zqn4 => ktr_unf); (case zqn5 => refine' takeRoom ?zqe1 ?zqe2; (case zqe1 => assumption); (case zqe2 => assumption))); intro _; refine int_rest (by assumption) (fun _ _ _ _ _ _ _ _ _ _ _ _ _ _ _ _ _ _ _ => ?_) (fun _ _ => ?_)))
  k_with "CompEnd" => ((k_here; (refine' LCg.CompEnd.intro ?zqn1 ?zqn2 _ ?zqn3 ?zqn4 ?zqn5 ⟨rfl, ⟨_, rfl⟩⟩; (case zqn1 => assumption); (case zqn2 => assumption); (case zqn3 => ktr_rel); (case zqn4 => assumption); (case zqn5 => first | (refine' Or.inr ⟨_, ?zqhm, ?zqh1, _, ?zqh2⟩; (case zqhm => ktr_unf); (case zqh1 => exact rfl); (case zqh2 => exact rfl)) | ktr_unf))))
  k_with "exec For Name Name cons nil" => ((k_here; (rename Fr _ _ _ _ => lF'); (with_unfolding_all refine' For_invVF lF' ?zqk1 ?zqk2 ?_; (case zqk1 => exact rfl); (case zqk2 => exact rfl); k_whole)))
  k_with "pyIter ref" => (k_dflt ((rename Fr _ _ _ _ => lF'); (rename News _ _ _ _ => lN'); refine' kst_listC (σ := Int × Tok) (fun c => [(PySem.Str.ofString "mixed", .int c.1 c.2)]) [] (fun _ c => 0 ≤ c.1 ∧ c.1 < 2147483587) (_, _) ?zqhh ?zqhl ?zqhi lF' lN' ?zqhk ?zqhp ?_ ?_; (case zqhk => kst_all); (case zqhh => exact rfl); (case zqhl => ktr_unf); (case zqhi => assumption); (case zqhp => exact ⟨(by decide : (0 : Int) ≤ 7575), (by decide : (7575 : Int) < 2147483587)⟩); (all_goals (clear lF' lN')); (all_goals (first | (intro cC cPre cPost cK cT cU cH cTk cOwn cE cM cO cP cF cN; (try dsimp only [kstB] at cF); (try dsimp only at cN); (try simp only [List.cons_append, List.nil_append] at cN)) | (intro cC cU cH cTk cP cF cN; (try dsimp only at cP); obtain ⟨cP1, cP2⟩ := cP; (try dsimp only [kstB] at cF); (try dsimp only at cN))))))
  k_with "InvEndN" => ((k_here; k_dflt ((rename News _ _ _ _ => nE'); (rename Fr _ _ _ _ => fE'); refine' kst_end (_, _) fE' nE' ?zqz1 ?zqz2 rfl trivial ?zqz4 ?zqz5 ?zqz6; (case zqz1 => ktr_rel); (case zqz2 => ktr_rel); (case zqz4 => kst_all); (case zqz5 => kst_same); (case zqz6 => exact deckMod))))
  k_with "own ListComp" => (k_here; k_dflt (refine LCg.ListComp_U (F₀ := by k_asm) (by with_unfolding_all rfl) (by decide) (by rfl) (by decide) (by rfl) ?_))
  w_strict (
    refine wpAny_call ?_
    k_dflt cell_enter
    k_steps
    (rename News _ _ _ _ => nE)
    refine' hret _ _ _ _ _ _ _ ⟨_, _, _, ⟨_, _, _, _, _, ?za⟩, ?zb, ?zc, ?zd, ?ze, ?zh, ?zi, ?zf, ?zg⟩ ?o1 ?o2 ?fF (cb_drop nE ((fmc ?y1 (fmc ?y2 ?y3))))
    case za => assumption
    case zb => assumption
    case zc => refine' revLen ?x; (case x => assumption)
    case zd => omega
    case ze => omega
    case zh => exact Int.le_refl _
    case zi => exact Int.le_refl _
    case fF => assumption
    case y1 => ktr_unf
    case y2 => ktr_unf
    case y3 => ktr_rel
    case zf => k_ne
    case zg => first | assumption | exact notMods T nE
    case o1 => lcg_off
    case o2 => lcg_off)
-- a def of the text is entered where it is called
theorem okAll {ls : List (List UInt8)} (h : ls.all (fun x => Nat.ble x.length 60 && !(x.contains 0)) = true) : ∀ x ∈ ls, OkB x := fun x hx => by
  have := List.all_eq_true.mp h x hx
  rw [Bool.and_eq_true] at this
  refine ⟨Nat.le_of_ble_eq_true this.1, fun q => ?_⟩
  have h2 := this.2
  rw [List.contains_iff_mem.mpr q] at h2
  exact absurd h2 (by decide)
theorem fourRoom {ys : List Value} {a b c d : Value} (h : BsAre ys opn) : ys.toArray.toList.length + ([a, b, c, d] : List Value).toArray.toList.length ≤ sizeLine := by
  have e := h.length
  have e2 : opn.length = 4 := by decide +kernel
  rw [sizeLine_eq]
  simp only [List.length_cons, List.length_nil]
  omega
theorem op_0 : opn.getD 0 [] = [45, 45, 45, 45, 45, 66, 69, 71, 73, 78, 32, 80, 71, 80, 32, 83, 73, 71, 78, 65, 84, 85, 82, 69, 45, 45, 45, 45, 45] := by decide +kernel
theorem op_1 : opn.getD 1 [] = [45, 45, 45, 45, 45, 66, 69, 71, 73, 78, 32, 80, 71, 80, 32, 77, 69, 83, 83, 65, 71, 69, 45, 45, 45, 45, 45] := by decide +kernel
theorem op_2 : opn.getD 2 [] = [45, 45, 45, 45, 45, 66, 69, 71, 73, 78, 32, 83, 83, 72, 32, 83, 73, 71, 78, 65, 84, 85, 82, 69, 45, 45, 45, 45, 45] := by decide +kernel
theorem op_3 : opn.getD 3 [] = [45, 45, 45, 45, 45, 66, 69, 71, 73, 78, 32, 83, 73, 71, 78, 69, 68, 32, 77, 69, 83, 83, 65, 71, 69, 45, 45, 45, 45, 45] := by decide +kernel
theorem itemOp {prog : Program} {w : World} {A : Around} {E : Value → Shared → Prop} {s : Shared} {value slice : Expr} {Q : Value → Shared → Prop} {R : Addr} {vs : List Value} {k : Int} {tk : Tok} {r : List UInt8} (hb : BsAre vs opn) (hl : s.heap.IsList R vs.toArray) (h0 : 0 ≤ k) (h1 : k < 4) (e : opn.getD k.toNat [] = r)
    (h : ∀ t, Q (.bytes r.toArray t) s)
    (hs : subscripted slice false (.ref R) (.int k tk) = operate [.ref R, .int k tk] (getItem (.ref R) (.int k tk))) : wpAny (model prog w) A (subscriptTail value slice (.ref R) (.int k tk)) Q E s := by
  have e2 : opn.length = 4 := by decide +kernel
  exact itemBs hb hl h0 (by rw [e2]; exact h1) (by rw [e2]; decide) (fun t => e ▸ h t) hs
theorem eqI {prog : Program} {w : World} {A : Around} {E : Value → Shared → Prop} {s : Shared} {t u : Tok} {j k : Int} {Q : Value → Shared → Prop} (e : j = k) (h : Q (.bool true) s) : wpAny (model prog w) A (compareOp .Eq (.int j t) (.int k u)) Q E s := by
  subst e
  refine PyProof.Rows.eq_int ?_
  have e : (j == j) = true := by simp
  rw [e]; exact h
set_option maxHeartbeats 8000000 in
theorem law_walk (w : World) (s : Shared) {p : Program} {loose : List Str} {mean : ExcName → Option Value} {mg mb : Str → Option Value} (ax : Addr) (vs : List Value) (ns : List Int) (hI : IntsAre vs ns) (hn : ns.length ≤ 63) (hl : s.heap.IsList ax vs.toArray) (T : Top p loose mean mg mb s.heap) (Q : Value → Shared → Prop) :
    (Mine.frag.heap_1 w.params).In s.heap → (∀ h' tk, (∀ b o, s.heap.get? b = some o → h'.get? b = some o) → Q (.bool true) { s with heap := h', toks := tk }) →
    wpS (model PySem.Challenge.rw_nt0282_01.row.prog w) callerA (call (.ref 439) [.ref ax]) Q s := by
  k_fill
  intro X hQ
  have B := below_caller s.heap
  k_with_none
  k_with "tb_start" => (
      first
      | (refine' Nat.le_trans ?zqq1 (Nat.le_of_ble_eq_true ?zqq2); (case zqq1 => with_reducible assumption); (case zqq2 => exact rfl))
      | omega
      | (simp only [List.length_append, List.length_cons, List.length_nil, List.length_map, List.length_take, List.length_drop]; omega)
      | ((try simp only [List.length_append, List.length_cons, List.length_nil]); (first | refine Nat.le_trans (sl_length _ _) ?_ | skip); omega)
      | fail "size")
  k_with "call builtin:len" => ((k_here; (with_reducible show wpAny _ _ (call (Value.builtin "len") [Value.bytes (List.toArray _) _]) _ _ _); (refine lenB (by tb_start) ?_); intro _ _))
  k_with "binaryOp Add bytes bytes" => ((k_here; (with_reducible show wpAny _ _ (binaryOp Operator.Add (Value.bytes (List.toArray _) _) (Value.bytes (List.toArray _) _)) _ _ _); (refine addB (by tb_start) ?_); intro _ _))
  k_with "subscriptTail" => ((k_here; (with_reducible show wpAny _ _ (subscriptTail _ (Expr.Slice _ _ none _) (Value.bytes (List.toArray _) _) (Value.ref _)) _ _ _); (with_reducible rename Fr _ _ _ _ => F'); (with_reducible rename News _ _ _ _ => N'); (refine sliceB (hs := by with_unfolding_all rfl) (ht := by intro _; with_unfolding_all rfl) (s := ⟨_, _, _, _, _⟩) F' N' (by constructor) (by constructor) (by tb_start) ?_); intro _ _ _ _ _))
  k_with "ktr_unf" => (
      first
      | assumption
      | exact List.Mem.head _
      | (refine' List.mem_append_left _ ?_; ktr_unf)
      | (refine' List.Mem.tail _ ?_; ktr_unf))
  k_with "lcg_off" => (
      first
      | assumption
      | (refine' off_lt ?zqal; (case zqal => assumption))
      | (refine' off_lt1 ?zqal; (case zqal => assumption))
      | (refine' OwnOff.ne ?zqal ?zqam; (case zqal => assumption); (case zqam => first | exact List.Mem.head _ | (simp; done)))
      | (refine' off_app ?zqal ?zqam; (case zqal => lcg_off); (case zqam => lcg_off))
      | (apply off_cons; assumption)
      | (refine' (fmc ?zqla ?zqlb); (case zqla => k_ne); (case zqlb => lcg_off))
      | (apply off_tail1; assumption)
      | (apply off_cons; apply off_cons; assumption)
      | (refine' ltNe ?zqal; (case zqal => first | assumption | (apply And.right; assumption) | (apply And.right; apply And.right; assumption) | (apply And.right; apply And.right; apply And.right; assumption) | (apply And.right; apply And.right; apply And.right; apply And.right; assumption) | (apply And.right; apply And.right; apply And.right; apply And.right; apply And.right; assumption))))
  k_with "k_ne" => ((refine neN ?_; (try dsimp only); first | (refine' neLt ?zqcbh ?zqcbk; (case zqcbh => with_reducible assumption); (case zqcbk => (intro cbz; repeat (first | exact cbz.1 | replace cbz := cbz.2)))) | (refine' neGt ?zqcbh ?zqcbk; (case zqcbh => with_reducible assumption); (case zqcbk => (intro cbz; repeat (first | exact cbz.1 | replace cbz := cbz.2)))) | omega))
  k_with "spliced" => ((k_here; k_dflt (refine' pes_eval ?zqcbF ?zqcbv ?_ ?zqcba; (case zqcbF => k_asm); (case zqcba => rfl); (case zqcbv => exact Eq.refl (some (_, _))); k_whole); (try dsimp only [List.cons_append, List.nil_append])))
  k_with "eval Subscript" => ((k_here; k_dflt (refine' sub_pe ?zqcbF ?zqcbv ?zqcbw ?_ ?zqcba; (case zqcbF => k_asm); (case zqcba => rfl); (case zqcbv => exact Eq.refl (some (_, _))); (case zqcbw => exact Eq.refl (some (_, _))); k_whole)))
  k_with "eval Name" => ((k_here; k_dflt (refine' nameX_L ?zqcbF ?zqcbv ?_ ?zqcba ?zqcbb; (case zqcbF => k_asm); (case zqcba => rfl); (case zqcbb => rfl); (case zqcbv => exact Eq.refl (some _)); k_whole)))
  k_with "storeName" => ((k_here; k_dflt (refine' storeL ?zqcbF ?zqcbN ?_ ?zqcba ?zqcbb; (case zqcbF => k_asm); (case zqcbN => k_asm); (case zqcba => rfl); (case zqcbb => rfl); k_whole); intro _ _ _ _; (try k_sweep)))
  k_with "eval Call" => ((k_here; k_dflt (refine' callK_pe (hd := by decide) ?zqcbF ?zqcbX ?zqcbT ?zqcbe ?zqcbf ?zqcbv ?_ ?zqcba ?zqcbb; (case zqcbF => k_asm); (case zqcbX => k_asm); (case zqcbT => k_asm); (case zqcba => rfl); (case zqcbb => rfl); (case zqcbe => k_is); (case zqcbf => k_is); (case zqcbv => exact Eq.refl (some (_, _))); k_whole); (try dsimp only [List.cons_append, List.nil_append])))
  k_with "in enter" => ((refine' code_def ?zqk1 ?zqk2 ?zqk3 ?zqk4 ?zqk5 ?zqkA ?zqkF ?zqkK ?zqk6 ?zqk7 ?zqk8 ?zqk9 ?zqkB ?_ ?zqc2 ?zqc3 ?zqc4 ?zqc5; (case zqkA => exact rfl); (case zqkF => exact rfl); (case zqkK => exact rfl); (case zqk1 => k_asm); (case zqk2 => k_asm); (case zqk3 => k_asm); (case zqk4 => k_asm); (case zqk5 => k_asm); (case zqk6 => k_is); (case zqk7 => k_is); (case zqk8 => ktr_room); (case zqk9 => first | exact BindsTo.of_eq rfl | exact binds_K (by k_in) rfl (by k_is) rfl rfl rfl); (case zqc5 => decide); (case zqkB => exact locs rfl); (case zqc2 => exact rfl); (case zqc3 => exact rfl); (case zqc4 => exact rfl); k_whole; intro g' L' h' FG' F' N' B' X' T'; (try dsimp only); (try k_lift B'); (try k_fold)))
  k_with "in enter" => ((refine' code_defC ?zqk1 ?zqk2 ?zqk3 ?zqk4 ?zqk5 ?zqkA ?zqkF ?zqkK ?zqk6 ?zqk7 ?zqk8 ?zqk9 ?zqkB ?zqkD ?_ ?zqc2 ?zqc3 ?zqc4; (case zqkA => exact rfl); (case zqkF => exact rfl); (case zqkK => exact rfl); (case zqk1 => k_asm); (case zqk2 => k_asm); (case zqk3 => k_asm); (case zqk4 => k_asm); (case zqk5 => k_asm); (case zqk6 => k_is); (case zqk7 => k_is); (case zqk8 => ktr_room); (case zqk9 => exact BindsTo.of_eq rfl); (case zqkB => exact rfl); (case zqkD => decide +kernel); (case zqc2 => exact rfl); (case zqc3 => exact rfl); (case zqc4 => exact rfl); k_whole; intro g' L' h' tk' cells' FG' F' N' Y' B' X' T' l1; (try k_lt l1); k_cells Y'; (try simp only [List.cons_append, List.nil_append] at N'); (try dsimp only); (try k_lift B'); (try k_fold)))
  k_with "call ref" => ((k_here; k_dflt (refine wpAny_call ?_; k_extra "in enter")))
  k_with "subscriptTail" => ((k_here; (with_reducible show wpAny _ _ (subscriptTail _ _ (Value.ref _) (Value.int _ _)) _ _ _); k_dflt (refine' itemOp (hs := by with_unfolding_all rfl) ?zqn3 (News.isList ?zqn1 ?zqn2) ?zqh0 ?zqh1 ?zqe ?_; (case zqn1 => assumption); (case zqn2 => ktr_unf); (case zqn3 => assumption); (case zqh0 => decide); (case zqh1 => decide); (case zqe => first | exact op_0 | exact op_1 | exact op_2)); intro _))
  k_with "ktr_room" => (exact Nat.le_of_ble_eq_true rfl)
  k_with "units_room" => (exact Nat.le_of_ble_eq_true rfl)
  k_with "call ref" => ((k_here; (with_reducible show wpAny _ _ (call (Value.ref 354) _) _ _ _); k_dflt (refine' con_deck _ _ _ _ _ ?zqhI ?zqhn _ _ _ _ _ _ _ _ _ _ _ _ _ _ _ _ _ _ _ _ _ _ ?zqn1 ?zqn2 ?zqn3 ?zqn4 ?zqn5 ?zqn6 ?zqn7 ?zqn8 ?zqhl ?_; (case zqn4 => assumption); (case zqn1 => k_asm); (case zqn2 => k_asm); (case zqn3 => k_asm); (case zqn5 => k_asm); (case zqn6 => exact rfl); (case zqn7 => ktr_room); (case zqn8 => units_room); (case zqhl => assumption); (case zqhI => assumption); (case zqhn => assumption)); intro d D o ws n h' tk' hD oD1 oD2 F' N'; (try dsimp only)))
  k_with "call ref" => ((k_here; (with_reducible show wpAny _ _ (call (Value.ref 418) _) _ _ _); k_dflt (refine' Con.use (con_mr _ _ _ _ _ _ _ _ ?zqc1 ?zqc2 ?zqc3 ?zqc4) ?zqn1 ?zqn2 ?zqn3 ?zqn4 ?zqn5 ?zqn6 ?zqn7 ?zqn8 ?_; (case zqn4 => assumption); (case zqn1 => k_asm); (case zqn2 => k_asm); (case zqn3 => k_asm); (case zqn5 => k_asm); (case zqn6 => exact rfl); (case zqn7 => ktr_room); (case zqn8 => units_room); (case zqc1 => assumption); (case zqc2 => omega); (case zqc3 => assumption); (case zqc4 => assumption); (rintro _ _ h' tk' ⟨o', ws', n', rfl, hD, rfl⟩ F' N')); (try dsimp only)))
  k_with "call ref" => ((k_here; (with_reducible show wpAny _ _ (call (Value.ref 394) _) _ _ _); k_dflt (refine' Con.useL (con_opens _ _) ?zqn1 ?zqn2 ?zqn3 ?zqn4 ?zqn5 ?zqn6 ?zqn7 ?zqn8 ?_; (case zqn4 => assumption); (case zqn1 => k_asm); (case zqn2 => k_asm); (case zqn3 => k_asm); (case zqn5 => k_asm); (case zqn6 => exact rfl); (case zqn7 => ktr_room); (case zqn8 => units_room)); intro R ys n0 h' tk' hb hR F' N'; (have hRd := ne_off hR (List.Mem.head _)); (have hRD := ne_off hR (List.Mem.tail _ (List.Mem.head _))); (try dsimp only)))
  k_with "S people" => ((refine' ConS.use (conS_people _ _ _ _ _ _ _ _ ?zqc1 ?zqc2 ?zqc3 ?zqc4) ?zqn1 ?zqn2 ?zqn3 ?zqn4 ?zqn5 ?zqn6 ?zqn7 ?zqn8 ?_; (case zqn4 => assumption); (case zqn1 => k_asm); (case zqn2 => k_asm); (case zqn3 => k_asm); (case zqn5 => k_asm); (case zqn6 => exact rfl); (case zqn7 => ktr_room); (case zqn8 => units_room); (case zqc1 => assumption); (case zqc2 => omega); (case zqc3 => assumption); (case zqc4 => assumption)))
  k_with "call ref" => ((k_here; (with_reducible show wpAny _ _ (call (Value.ref 411) _) _ _ _); k_dflt (refine' use_message ?zqc1 ?zqc2 (BsAre.append ?zqc7 (BsAre.cons _ _ (BsAre.cons _ _ (BsAre.cons _ _ (BsAre.cons _ _ BsAre.nil))))) ?zqc3 ?zqc4 ?zqc5 ?zqc6 ?zqc8 ?zqn1 ?zqn2 ?zqn3 ?zqn4 ?zqn5 ?zqn6 ?zqn7 ?zqn8 ?_; (case zqn4 => first | assumption | (refine' News.rot1d ?zqr; (case zqr => assumption)) | (refine' News.rot2 ?zqr; (case zqr => assumption)) | (refine' News.rot3 ?zqr; (case zqr => assumption)) | (refine' News.rot33 ?zqr; (case zqr => assumption))); (case zqn1 => k_asm); (case zqn2 => k_asm); (case zqn3 => k_asm); (case zqn5 => k_asm); (case zqn6 => exact rfl); (case zqn7 => ktr_room); (case zqn8 => units_room); (case zqc5 => ktr_unf); (case zqc7 => assumption); (case zqc1 => assumption); (case zqc2 => omega); (case zqc3 => exact okAll (by decide +kernel)); (case zqc4 => exact Nat.le_of_ble_eq_true (by decide +kernel)); (case zqc6 => lcg_off); (case zqc8 => lcg_off)); intro _ _ _ _ _ _ _ _ _ _ _ _; (try dsimp only)))
  k_with "call ref" => ((k_here; (with_reducible show wpAny _ _ (call (Value.ref 432) _) _ _ _); k_dflt (refine' Con.useO (con_tags _ _ _ _ _ ?zqc1 ?zqc2) ?zqn1 ?zqn2 ?zqn3 ?zqn4 ?zqn5 ?zqn6 ?zqn7 ?zqn8 ?_; (case zqn4 => assumption); (case zqn1 => k_asm); (case zqn2 => k_asm); (case zqn3 => k_asm); (case zqn5 => k_asm); (case zqn6 => exact rfl); (case zqn7 => ktr_room); (case zqn8 => units_room); (case zqc1 => first | assumption | exact Nat.le_of_ble_eq_true (by decide +kernel)); (case zqc2 => first | assumption | decide +kernel)); intro _ _ _ _; (try dsimp only)))
  k_with "call ref" => ((k_here; (with_reducible show wpAny _ _ (call (Value.ref 399) _) _ _ _); k_dflt (refine' Con.useI (con_signed _ _ _ _ ?zqc1) ?zqn1 ?zqn2 ?zqn3 ?zqn4 ?zqn5 ?zqn6 ?zqn7 ?zqn8 ?_; (case zqn4 => assumption); (case zqn1 => k_asm); (case zqn2 => k_asm); (case zqn3 => k_asm); (case zqn5 => k_asm); (case zqn6 => exact rfl); (case zqn7 => ktr_room); (case zqn8 => units_room); (case zqc1 => exact Nat.le_of_ble_eq_true (by decide +kernel))); intro _ _ _ _ _; (try dsimp only)))
  k_with "compareOp Eq int int" => ((k_here; k_dflt (refine' eqI ?zqe ?_; (case zqe => decide +kernel))))
  k_with "binaryOp Add ref ref" => ((k_here; (with_reducible show wpAny _ _ (binaryOp _ (Value.ref _) (Value.ref _)) _ _ _); k_dflt (refine' kmk_add_lit ?zqF ?zqN (News.isList ?zqn1 ?zqn2) (News.isList ?zqn4 ?zqn3) rfl ?_ ?zqz; (case zqF => k_asm); (case zqN => assumption); (case zqn1 => assumption); (case zqn2 => ktr_unf); (case zqn4 => assumption); (case zqn3 => ktr_unf); (case zqz => refine' fourRoom ?zqb; (case zqb => assumption))); intro D' h' F' N' l1; (try k_lt l1)))
  w_strict (
    refine wpS.call ?_
    k_dflt (refine' codeS_top X T ?ho ?hcd ?hbind ?hloc ?_ ?hco ?hgen ?hk ?hcell)
    case ho => k_is
    case hcd => k_is
    case hbind => exact BindsTo.of_eq rfl
    case hloc => exact locs rfl
    case hco => exact rfl
    case hgen => exact rfl
    case hk => exact rfl
    case hcell => decide
    intro L' h' F' N'
    (try dsimp only)
    refine wpS.execs_consA ?_
    k_steps
    refine wpS.execs_cons (wpS.If (wpS.isTrue_or (wpS.isTrue_not (wpS.isTrue_call (.any ?_)))))
    k_steps
    k_dflt (refine wpS.isTrue_not (wpS.isTrue_call (S_callK (hst := by rfl) (hp := by rfl) (hl := by rfl) (he := by rfl) (K := Mine.frag.heap_1 w.params) (fa := 425) (by k_is) ?_)))
    k_steps
    k_dflt (k_extra "S people")
    intro r led' h5 tk5 hr F₅ N₅
    obtain ⟨o₂, ws₂, n₂, rfl, hD₂, rfl⟩ := hr
    refine ⟨true, rfl, ?_⟩
    k_steps
    refine wpS.execs_nil (.any ?_)
    k_steps
    (rename Fr _ _ _ _ => fE)
    k_dflt (exact hQ _ _ fE.keep))
end Mine
end
section
set_option maxRecDepth 100000
open PySem PySem.W PySem.Calls PyProof.Rows
set_option Elab.async false
namespace Mine
theorem law_isIn (w : World) : nsIn (Mine.frag.heap_1 w.params) mainGlobals (Str.ofString "law") = some (some (.ref 439)) := by kernel_rfl
theorem walkS {q : Program} {loose : List Str} {d : DefRec} {kwd : List (Str × Expr)} {as : List Addr} {e : ∀ P, as = (Mine.frag.heap_1 P).map (·.1)} (hd : d.name = Str.ofString "law") :
    WalkS PySem.Challenge.rw_nt0282_01 q loose (fun _ _ => True) (kHook Mine.frag.heap_1 as e).says d kwd := by
  intro w s₀ s₁ mg mb G Y a o pm cd doc dV kV ho hdd hcd hD hmg hg args vals as' hpre hlay hrd hwl hlo
  have KX := kIn_of Y
  refine Ground.open G ?_
  intro T B D TE TW
  have ha : a = 439 := by
    have h1 := mg_of KX T.g (law_isIn w)
    rw [hd, h1] at hmg
    injection hmg with h
    injection h with h
    exact h.symm
  subst ha
  wrow_args hpre hlay hrd hwl hlo
  rename_i ns _ _ _ _ _ _ _ ax vs _ hL _ _ _ hI _ hc _
  refine law_walk w s₁ ax vs ns hI (by omega) hL T _ KX fun h' tk keep => ?_
  exact ⟨.inl ⟨.bool true, .bool true, [], rfl, raisesW_false (by intro ct h; exact nomatch h), .bool true, postW_of rfl rfl (same_self _), fun _ => ⟨List.nodup_nil, fun _ h => nomatch h⟩⟩, .of_keep keep, rfl, .of_eq hg⟩
end Mine
end
section
set_option maxRecDepth 100000
open PySem PySem.W PySem.Calls PyProof.Rows
set_option Elab.async false
namespace Mine
theorem whole : PySem.Challenge.rw_nt0282_01.Holds :=
  holds_law hsaid fun k1 => holdsS (XP := fun _ _ => True) (YP := (kHook Mine.frag.heap_1 has hkeys).says) left ((kHook Mine.frag.heap_1 has hkeys).of) ((kHook Mine.frag.heap_1 has hkeys).keeps) (fun _ _ => trivial) (fun _ _ _ _ _ => trivial)
    hdef_is hthe hkw k1 hok hbare hwit rfl (walkS hname)
end Mine
end
theorem PySem.Challenge.cw_nt0282_01_holds : PySem.Challenge.rw_nt0282_01.Holds :=
  Mine.whole
