import PyProof.Rows.All
import Wide.All
import OpenK.AllK
import Wide.FinOn
import KE.KStateDown
import HandS.ForMost
import HandS.Exc
import HandS.ExcInit
import HandS.ExcField
import HandS.ExcIs
import HandS.IsInst
import HandS.Defaults
import HandS.Head0
import HandS.Head1
import HandS.Head2
import HandS.HeadHook1
import HandS.HeadHook2
import HandS.HeadHook3
import HandS.HeadHook4
import HandS.HeadWalk
import PySem.Challenge.RW_neverhalf_k00_errors_made
import HandS.Wide
import HandS.ExcOwn
import HandS.ExcValue
import HandS.Lambda
import HandS.MakeKwOnly
import HandS.Zip
import HandS.ListItems
import HandS.Walk
import HandS.EndTab
set_option Elab.async false
set_option linter.all false
set_option maxRecDepth 100000
set_option maxHeartbeats 0
namespace K00
open PySem PySem.Spec PyProof.Rows L2
def top (i : Nat) : Stmt := PySem.Challenge.pw_neverhalf_k00_errors_made.main.body.getD i (.Pass ⟨0, 0, 0, 0⟩)

end K00
namespace K00
open PySem PySem.W
abbrev s (x : Str) (t : Nat) : Value := .str x t
abbrev r (a : Nat) : Value := .ref a
abbrev n (i : Int) (t : Nat) : Value := .int i t
abbrev y (x : String) : Value := .type x
abbrev u (x : String) : Value := .builtin x
abbrev e (p : Params) (x : Str) (t : Nat) (v : Value) : DictEntry := ⟨PyData.keyHash p x, .str x t, v⟩
abbrev fI (i : Nat) (q : Str) (g : Addr) (cl : List (Str × Addr)) (d k doc pm : Value) (an : Option Addr) (cd ct : Value) (bl : Addr) : FuncData :=
  ⟨"__init__", q, L2.defArgs (L2.inClass (top i) 0), .stmts (L2.defBody (L2.inClass (top i) 0)), L2.defScope (L2.inClass (top i) 0), g, cl, d, k, doc, pm, an, cd, ct, bl⟩
abbrev fT (i : Nat) (q : Str) (g : Addr) (cl : List (Str × Addr)) (d k doc pm : Value) (an : Option Addr) (cd ct : Value) (bl : Addr) : FuncData :=
  ⟨q, q, L2.defArgs (top i), .stmts (L2.defBody (top i)), L2.defScope (top i), g, cl, d, k, doc, pm, an, cd, ct, bl⟩
noncomputable def o0 (p : Params) : Obj := .mk (y "tuple") none (.seq #[] 0) #[]
noncomputable def o1 (p : Params) : Obj := .mk .none none (.fields #[]) #[]
noncomputable def o2 (p : Params) : Obj := .mk (y "code") none (.fields #[(s "<module>" 182), (s "<module>" 183), (s "/claim/cut.py" 184), (n 1 0), (n 0 0), (n 0 0), (n 0 0), (n 0 0), (r 11), (.bool false), (n 181 0), (r 12), .none, .none, .none, .none, (n 185 0), (n 1 0), (s "/claim/cut.py" 186)]) #[]
noncomputable def o3 (p : Params) : Obj := .mk (y "frame") none .plain #[(some (r 13)), (some (r 3)), (some (r 3)), none, (some (s "__main__" 164)), none, (some (r 0))]
noncomputable def T_a (p : Params) : BT := (.node (boot_o_0 p) (.node (boot_o_1 p) (.node (boot_o_3 p) (.node (boot_o_7 p) .nil .nil) (.node (o0 p) .nil .nil)) (.node (boot_o_5 p) (.node (boot_o_9 p) .nil .nil) (.node (o2 p) .nil .nil))) (.node (boot_o_2 p) (.node (boot_o_4 p) (.node (boot_o_8 p) .nil .nil) (.node (o1 p) .nil .nil)) (.node (boot_o_6 p) (.node (boot_o_10 p) .nil .nil) (.node (o3 p) .nil .nil))))
noncomputable def T_b (p : Params) : BT := (.node (boot_o_0 p) (.node (boot_o_1 p) (.node (boot_o_3 p) (.node (boot_o_7 p) .nil .nil) (.node (o0 p) .nil .nil)) (.node (boot_o_5 p) (.node (boot_o_9 p) .nil .nil) (.node (o2 p) .nil .nil))) (.node (boot_o_2 p) (.node (boot_o_4 p) (.node (boot_o_8 p) .nil .nil) (.node (o1 p) .nil .nil)) (.node (boot_o_6 p) (.node (boot_o_10 p) .nil .nil) (.node (o3 p) .nil .nil))))
noncomputable def o4 (p : Params) : Obj := .mk (y "dict") none (.dict #[(e p "__name__" 165 (s "neverhalf.errors" 187)), (e p "__doc__" 166 .none), (e p "__package__" 167 .none), (e p "__loader__" 168 (u "__main__.__loader__#opaque")), (e p "__spec__" 169 .none), (e p "__annotations__" 170 (r 6)), (e p "__builtins__" 171 (r 4)), (e p "__file__" 173 (s "/claim/cut.py" 172)), (e p "__cached__" 174 .none), (e p "WholeError" 206 (r 24)), (e p "BadText" 231 (r 44)), (e p "BadSource" 256 (r 63)), (e p "BadIndex" 281 (r 82)), (e p "NotChecked" 297 (r 94)), (e p "BadName" 322 (r 113)), (e p "BadInputs" 347 (r 132)), (e p "BadMost" 372 (r 151)), (e p "BadObject" 397 (r 170)), (e p "BadForm" 422 (r 189)), (e p "BadObjects" 447 (r 208)), (e p "NotLinked" 463 (r 220)), (e p "BadLinked" 488 (r 239)), (e p "BadKeeps" 513 (r 258)), (e p "BadValue" 538 (r 277)), (e p "BadState" 563 (r 296)), (e p "BadWord" 588 (r 315)), (e p "BadPasses" 613 (r 334)), (e p "BadRow" 638 (r 353)), (e p "BadField" 663 (r 372)), (e p "BadLengths" 688 (r 391)), (e p "BadCounts" 713 (r 410)), (e p "BadMany" 738 (r 429)), (e p "BadKinds" 763 (r 448)), (e p "BadClasses" 788 (r 467)), (e p "BadBits" 813 (r 486)), (e p "BadWidth" 838 (r 505)), (e p "BadWords" 863 (r 524)), (e p "BadVersion" 888 (r 543)), (e p "BadImage" 913 (r 562)), (e p "BadOne" 938 (r 581)), (e p "BadOther" 963 (r 600)), (e p "TooLong" 979 (r 612)), (e p "NotCode" 1004 (r 631)), (e p "BadBase" 1029 (r 650)), (e p "BadPatch" 1054 (r 669)), (e p "BadTarget" 1079 (r 688))] 46) #[]
noncomputable def o5 (p : Params) : Obj := .mk .none none (.fields #[(n 2 0), (n 0 0), (r 20), (n 4 0), (n 0 0), (r 33), (n 8 0), (n 0 0), (r 52), (n 12 0), (n 0 0), (r 71), (n 16 0), (n 0 0), (r 90), (n 18 0), (n 0 0), (r 102), (n 22 0), (n 0 0), (r 121), (n 26 0), (n 0 0), (r 140), (n 30 0), (n 0 0), (r 159), (n 34 0), (n 0 0), (r 178), (n 38 0), (n 0 0), (r 197), (n 42 0), (n 0 0), (r 216), (n 44 0), (n 0 0), (r 228), (n 48 0), (n 0 0), (r 247), (n 52 0), (n 0 0), (r 266), (n 56 0), (n 0 0), (r 285), (n 60 0), (n 0 0), (r 304), (n 64 0), (n 0 0), (r 323), (n 68 0), (n 0 0), (r 342), (n 72 0), (n 0 0), (r 361), (n 76 0), (n 0 0), (r 380), (n 80 0), (n 0 0), (r 399), (n 84 0), (n 0 0), (r 418), (n 88 0), (n 0 0), (r 437), (n 92 0), (n 0 0), (r 456), (n 96 0), (n 0 0), (r 475), (n 100 0), (n 0 0), (r 494), (n 104 0), (n 0 0), (r 513), (n 108 0), (n 0 0), (r 532), (n 112 0), (n 0 0), (r 551), (n 116 0), (n 0 0), (r 570), (n 120 0), (n 0 0), (r 589), (n 124 0), (n 0 0), (r 608), (n 126 0), (n 0 0), (r 620), (n 130 0), (n 0 0), (r 639), (n 134 0), (n 0 0), (r 658), (n 138 0), (n 0 0), (r 677)]) #[]
noncomputable def o6 (p : Params) : Obj := .mk (y "tuple") none (.seq #[(y "ValueError")] 0) #[]
noncomputable def o7 (p : Params) : Obj := .mk (y "builtin_function_or_method") none (.fields #[(u "type.__prepare__"), (y "type")]) #[]
noncomputable def o8 (p : Params) : Obj := .mk (y "dict") none (.dict #[(e p "__module__" 196 (s "neverhalf.errors" 187)), (e p "__qualname__" 198 (s "WholeError" 197)), (e p "__firstlineno__" 200 (n 2 199)), (e p "__static_attributes__" 201 (r 22))] 4) #[]
noncomputable def o9 (p : Params) : Obj := .mk (y "tuple") none (.seq #[] 0) #[]
noncomputable def o10 (p : Params) : Obj := .mk .none none (.fields #[]) #[]
noncomputable def o11 (p : Params) : Obj := .mk (y "code") none (.fields #[(s "WholeError" 191), (s "WholeError" 192), (s "/claim/cut.py" 193), (n 2 0), (n 0 0), (n 0 0), (n 0 0), (n 0 0), (r 18), (.bool false), (n 181 0), (r 19), .none, .none, .none, .none, (n 194 0), (n 2 0), (s "/claim/cut.py" 195)]) #[]
noncomputable def o12 (p : Params) : Obj := .mk (y "frame") none .plain #[(some (r 20)), (some (r 3)), (some (r 17)), none, (some (s "neverhalf.errors" 187)), none, (some (r 0))]
noncomputable def o13 (p : Params) : Obj := .mk (y "tuple") none (.seq #[] 0) #[]
noncomputable def o14 (p : Params) : Obj := .mk (y "dict") none (.dict #[(e p "__module__" 196 (s "neverhalf.errors" 187)), (e p "__firstlineno__" 200 (n 2 199)), (e p "__static_attributes__" 201 (r 22)), (e p "__weakref__" 203 (r 25)), (e p "__doc__" 204 .none)] 3) #[]
noncomputable def o15 (p : Params) : Obj := .mk (y "type") none (.cls (ClassData.mk "WholeError" [(y "ValueError")] [(r 24), (y "ValueError"), (y "Exception"), (y "BaseException"), (y "object")] 23 "WholeError" true [] [(r 44), (r 63), (r 82), (r 94), (r 113), (r 132), (r 151), (r 170), (r 189), (r 208), (r 220), (r 239), (r 258), (r 277), (r 296), (r 315), (r 334), (r 353), (r 372), (r 391), (r 410), (r 429), (r 448), (r 467), (r 486), (r 505), (r 524), (r 543), (r 562), (r 581), (r 600), (r 612), (r 631), (r 650), (r 669), (r 688)] false none false)) #[(some (r 15)), none, (some (s "WholeError" 189)), (some (s "WholeError" 197)), (some (u "ValueError.__new__")), (some (.bool true))]
noncomputable def o16 (p : Params) : Obj := .mk (y "getset_descriptor") none (.fields #[(s "__weakref__" 202), (r 24), (u "ExceptionGroup.__weakref__"), .none]) #[]
noncomputable def o17 (p : Params) : Obj := .mk (y "super") none (.fields #[(r 24), (r 24), (r 24)]) #[]
noncomputable def o18 (p : Params) : Obj := .mk (y "builtin_function_or_method") none (.fields #[(u "object.__init_subclass__"), (r 24)]) #[]
noncomputable def o19 (p : Params) : Obj := .mk (y "tuple") none (.seq #[(r 24)] 0) #[]
noncomputable def o20 (p : Params) : Obj := .mk (y "builtin_function_or_method") none (.fields #[(u "type.__prepare__"), (y "type")]) #[]
noncomputable def o21 (p : Params) : Obj := .mk (y "dict") none (.dict #[(e p "__module__" 214 (s "neverhalf.errors" 187)), (e p "__qualname__" 216 (s "BadText" 215)), (e p "__firstlineno__" 218 (n 4 217)), (e p "__init__" 226 (r 41)), (e p "__static_attributes__" 228 (r 42))] 5) #[]
noncomputable def o22 (p : Params) : Obj := .mk (y "tuple") none (.seq #[] 0) #[]
noncomputable def o23 (p : Params) : Obj := .mk .none none (.fields #[(n 6 0), (n 4 0), (r 40)]) #[]
noncomputable def o24 (p : Params) : Obj := .mk (y "code") none (.fields #[(s "BadText" 209), (s "BadText" 210), (s "/claim/cut.py" 211), (n 4 0), (n 0 0), (n 0 0), (n 0 0), (n 0 0), (r 31), (.bool false), (n 181 0), (r 32), .none, .none, .none, .none, (n 212 0), (n 4 0), (s "/claim/cut.py" 213)]) #[]
noncomputable def o25 (p : Params) : Obj := .mk (y "frame") none .plain #[(some (r 33)), (some (r 3)), (some (r 30)), none, (some (s "neverhalf.errors" 187)), none, (some (r 0))]
noncomputable def o26 (p : Params) : Obj := .mk (y "tuple") none (.seq #[] 0) #[]
noncomputable def o27 (p : Params) : Obj := .mk .none none (.fields #[]) #[]
noncomputable def o28 (p : Params) : Obj := .mk (y "tuple") none (.seq #[(s "self" 222), (s "text" 223)] 0) #[]
noncomputable def o29 (p : Params) : Obj := .mk (y "tuple") none (.seq #[] 0) #[]
noncomputable def o30 (p : Params) : Obj := .mk .none none (.func (fI 2 "BadText.__init__" 0 [] .none .none .none .none none .none .none 0)) #[]
noncomputable def o31 (p : Params) : Obj := .mk (y "code") none (.fields #[(s "__init__" 219), (s "BadText.__init__" 220), (s "/claim/cut.py" 221), (n 6 0), (n 2 0), (n 0 0), (n 0 0), (n 3 0), (r 35), (.bool true), (n 181 0), (r 36), .none, (r 37), (r 38), (r 39), (n 224 0), (n 6 0), (s "/claim/cut.py" 225)]) #[]
noncomputable def o32 (p : Params) : Obj := .mk (y "function") none (.func (fI 2 "BadText.__init__" 3 [] .none .none .none (s "neverhalf.errors" 187) none (r 40) .none 0)) #[]
noncomputable def o33 (p : Params) : Obj := .mk (y "tuple") none (.seq #[(s "text" 227)] 0) #[]
noncomputable def o34 (p : Params) : Obj := .mk (y "dict") none (.dict #[(e p "__module__" 214 (s "neverhalf.errors" 187)), (e p "__firstlineno__" 218 (n 4 217)), (e p "__init__" 226 (r 41)), (e p "__static_attributes__" 228 (r 42)), (e p "__doc__" 229 .none)] 2) #[]
noncomputable def o35 (p : Params) : Obj := .mk (y "type") none (.cls (ClassData.mk "BadText" [(r 24)] [(r 44), (r 24), (y "ValueError"), (y "Exception"), (y "BaseException"), (y "object")] 43 "BadText" true [] [] false none false)) #[(some (r 28)), none, (some (s "BadText" 207)), (some (s "BadText" 215)), (some (u "ValueError.__new__")), (some (.bool true))]
noncomputable def o36 (p : Params) : Obj := .mk (y "super") none (.fields #[(r 44), (r 44), (r 44)]) #[]
noncomputable def o37 (p : Params) : Obj := .mk (y "builtin_function_or_method") none (.fields #[(u "object.__init_subclass__"), (r 44)]) #[]
noncomputable def o38 (p : Params) : Obj := .mk (y "tuple") none (.seq #[(r 24)] 0) #[]
noncomputable def o39 (p : Params) : Obj := .mk (y "builtin_function_or_method") none (.fields #[(u "type.__prepare__"), (y "type")]) #[]
noncomputable def o40 (p : Params) : Obj := .mk (y "dict") none (.dict #[(e p "__module__" 239 (s "neverhalf.errors" 187)), (e p "__qualname__" 241 (s "BadSource" 240)), (e p "__firstlineno__" 243 (n 8 242)), (e p "__init__" 251 (r 60)), (e p "__static_attributes__" 253 (r 61))] 5) #[]
noncomputable def o41 (p : Params) : Obj := .mk (y "tuple") none (.seq #[] 0) #[]
noncomputable def o42 (p : Params) : Obj := .mk .none none (.fields #[(n 10 0), (n 4 0), (r 59)]) #[]
noncomputable def o43 (p : Params) : Obj := .mk (y "code") none (.fields #[(s "BadSource" 234), (s "BadSource" 235), (s "/claim/cut.py" 236), (n 8 0), (n 0 0), (n 0 0), (n 0 0), (n 0 0), (r 50), (.bool false), (n 181 0), (r 51), .none, .none, .none, .none, (n 237 0), (n 8 0), (s "/claim/cut.py" 238)]) #[]
noncomputable def o44 (p : Params) : Obj := .mk (y "frame") none .plain #[(some (r 52)), (some (r 3)), (some (r 49)), none, (some (s "neverhalf.errors" 187)), none, (some (r 0))]
noncomputable def o45 (p : Params) : Obj := .mk (y "tuple") none (.seq #[] 0) #[]
noncomputable def o46 (p : Params) : Obj := .mk .none none (.fields #[]) #[]
noncomputable def o47 (p : Params) : Obj := .mk (y "tuple") none (.seq #[(s "self" 247), (s "source" 248)] 0) #[]
noncomputable def o48 (p : Params) : Obj := .mk (y "tuple") none (.seq #[] 0) #[]
noncomputable def o49 (p : Params) : Obj := .mk .none none (.func (fI 3 "BadSource.__init__" 0 [] .none .none .none .none none .none .none 0)) #[]
noncomputable def o50 (p : Params) : Obj := .mk (y "code") none (.fields #[(s "__init__" 244), (s "BadSource.__init__" 245), (s "/claim/cut.py" 246), (n 10 0), (n 2 0), (n 0 0), (n 0 0), (n 3 0), (r 54), (.bool true), (n 181 0), (r 55), .none, (r 56), (r 57), (r 58), (n 249 0), (n 10 0), (s "/claim/cut.py" 250)]) #[]
noncomputable def o51 (p : Params) : Obj := .mk (y "function") none (.func (fI 3 "BadSource.__init__" 3 [] .none .none .none (s "neverhalf.errors" 187) none (r 59) .none 0)) #[]
noncomputable def o52 (p : Params) : Obj := .mk (y "tuple") none (.seq #[(s "source" 252)] 0) #[]
noncomputable def o53 (p : Params) : Obj := .mk (y "dict") none (.dict #[(e p "__module__" 239 (s "neverhalf.errors" 187)), (e p "__firstlineno__" 243 (n 8 242)), (e p "__init__" 251 (r 60)), (e p "__static_attributes__" 253 (r 61)), (e p "__doc__" 254 .none)] 2) #[]
noncomputable def o54 (p : Params) : Obj := .mk (y "type") none (.cls (ClassData.mk "BadSource" [(r 24)] [(r 63), (r 24), (y "ValueError"), (y "Exception"), (y "BaseException"), (y "object")] 62 "BadSource" true [] [] false none false)) #[(some (r 47)), none, (some (s "BadSource" 232)), (some (s "BadSource" 240)), (some (u "ValueError.__new__")), (some (.bool true))]
noncomputable def o55 (p : Params) : Obj := .mk (y "super") none (.fields #[(r 63), (r 63), (r 63)]) #[]
noncomputable def o56 (p : Params) : Obj := .mk (y "builtin_function_or_method") none (.fields #[(u "object.__init_subclass__"), (r 63)]) #[]
noncomputable def o57 (p : Params) : Obj := .mk (y "tuple") none (.seq #[(r 24)] 0) #[]
noncomputable def o58 (p : Params) : Obj := .mk (y "builtin_function_or_method") none (.fields #[(u "type.__prepare__"), (y "type")]) #[]
noncomputable def o59 (p : Params) : Obj := .mk (y "dict") none (.dict #[(e p "__module__" 264 (s "neverhalf.errors" 187)), (e p "__qualname__" 266 (s "BadIndex" 265)), (e p "__firstlineno__" 268 (n 12 267)), (e p "__init__" 276 (r 79)), (e p "__static_attributes__" 278 (r 80))] 5) #[]
noncomputable def o60 (p : Params) : Obj := .mk (y "tuple") none (.seq #[] 0) #[]
noncomputable def o61 (p : Params) : Obj := .mk .none none (.fields #[(n 14 0), (n 4 0), (r 78)]) #[]
noncomputable def o62 (p : Params) : Obj := .mk (y "code") none (.fields #[(s "BadIndex" 259), (s "BadIndex" 260), (s "/claim/cut.py" 261), (n 12 0), (n 0 0), (n 0 0), (n 0 0), (n 0 0), (r 69), (.bool false), (n 181 0), (r 70), .none, .none, .none, .none, (n 262 0), (n 12 0), (s "/claim/cut.py" 263)]) #[]
noncomputable def o63 (p : Params) : Obj := .mk (y "frame") none .plain #[(some (r 71)), (some (r 3)), (some (r 68)), none, (some (s "neverhalf.errors" 187)), none, (some (r 0))]
noncomputable def o64 (p : Params) : Obj := .mk (y "tuple") none (.seq #[] 0) #[]
noncomputable def o65 (p : Params) : Obj := .mk .none none (.fields #[]) #[]
noncomputable def o66 (p : Params) : Obj := .mk (y "tuple") none (.seq #[(s "self" 272), (s "index" 273)] 0) #[]
noncomputable def o67 (p : Params) : Obj := .mk (y "tuple") none (.seq #[] 0) #[]
noncomputable def o68 (p : Params) : Obj := .mk .none none (.func (fI 4 "BadIndex.__init__" 0 [] .none .none .none .none none .none .none 0)) #[]
noncomputable def o69 (p : Params) : Obj := .mk (y "code") none (.fields #[(s "__init__" 269), (s "BadIndex.__init__" 270), (s "/claim/cut.py" 271), (n 14 0), (n 2 0), (n 0 0), (n 0 0), (n 3 0), (r 73), (.bool true), (n 181 0), (r 74), .none, (r 75), (r 76), (r 77), (n 274 0), (n 14 0), (s "/claim/cut.py" 275)]) #[]
noncomputable def o70 (p : Params) : Obj := .mk (y "function") none (.func (fI 4 "BadIndex.__init__" 3 [] .none .none .none (s "neverhalf.errors" 187) none (r 78) .none 0)) #[]
noncomputable def o71 (p : Params) : Obj := .mk (y "tuple") none (.seq #[(s "index" 277)] 0) #[]
noncomputable def o72 (p : Params) : Obj := .mk (y "dict") none (.dict #[(e p "__module__" 264 (s "neverhalf.errors" 187)), (e p "__firstlineno__" 268 (n 12 267)), (e p "__init__" 276 (r 79)), (e p "__static_attributes__" 278 (r 80)), (e p "__doc__" 279 .none)] 2) #[]
noncomputable def o73 (p : Params) : Obj := .mk (y "type") none (.cls (ClassData.mk "BadIndex" [(r 24)] [(r 82), (r 24), (y "ValueError"), (y "Exception"), (y "BaseException"), (y "object")] 81 "BadIndex" true [] [] false none false)) #[(some (r 66)), none, (some (s "BadIndex" 257)), (some (s "BadIndex" 265)), (some (u "ValueError.__new__")), (some (.bool true))]
noncomputable def o74 (p : Params) : Obj := .mk (y "super") none (.fields #[(r 82), (r 82), (r 82)]) #[]
noncomputable def o75 (p : Params) : Obj := .mk (y "builtin_function_or_method") none (.fields #[(u "object.__init_subclass__"), (r 82)]) #[]
noncomputable def o76 (p : Params) : Obj := .mk (y "tuple") none (.seq #[(r 24)] 0) #[]
noncomputable def o77 (p : Params) : Obj := .mk (y "builtin_function_or_method") none (.fields #[(u "type.__prepare__"), (y "type")]) #[]
noncomputable def o78 (p : Params) : Obj := .mk (y "dict") none (.dict #[(e p "__module__" 289 (s "neverhalf.errors" 187)), (e p "__qualname__" 291 (s "NotChecked" 290)), (e p "__firstlineno__" 293 (n 16 292)), (e p "__static_attributes__" 294 (r 92))] 4) #[]
noncomputable def o79 (p : Params) : Obj := .mk (y "tuple") none (.seq #[] 0) #[]
noncomputable def o80 (p : Params) : Obj := .mk .none none (.fields #[]) #[]
noncomputable def o81 (p : Params) : Obj := .mk (y "code") none (.fields #[(s "NotChecked" 284), (s "NotChecked" 285), (s "/claim/cut.py" 286), (n 16 0), (n 0 0), (n 0 0), (n 0 0), (n 0 0), (r 88), (.bool false), (n 181 0), (r 89), .none, .none, .none, .none, (n 287 0), (n 16 0), (s "/claim/cut.py" 288)]) #[]
noncomputable def o82 (p : Params) : Obj := .mk (y "frame") none .plain #[(some (r 90)), (some (r 3)), (some (r 87)), none, (some (s "neverhalf.errors" 187)), none, (some (r 0))]
noncomputable def o83 (p : Params) : Obj := .mk (y "tuple") none (.seq #[] 0) #[]
noncomputable def o84 (p : Params) : Obj := .mk (y "dict") none (.dict #[(e p "__module__" 289 (s "neverhalf.errors" 187)), (e p "__firstlineno__" 293 (n 16 292)), (e p "__static_attributes__" 294 (r 92)), (e p "__doc__" 295 .none)] 2) #[]
noncomputable def o85 (p : Params) : Obj := .mk (y "type") none (.cls (ClassData.mk "NotChecked" [(r 24)] [(r 94), (r 24), (y "ValueError"), (y "Exception"), (y "BaseException"), (y "object")] 93 "NotChecked" true [] [] false none false)) #[(some (r 85)), none, (some (s "NotChecked" 282)), (some (s "NotChecked" 290)), (some (u "ValueError.__new__")), (some (.bool true))]
noncomputable def o86 (p : Params) : Obj := .mk (y "super") none (.fields #[(r 94), (r 94), (r 94)]) #[]
noncomputable def o87 (p : Params) : Obj := .mk (y "builtin_function_or_method") none (.fields #[(u "object.__init_subclass__"), (r 94)]) #[]
noncomputable def o88 (p : Params) : Obj := .mk (y "tuple") none (.seq #[(r 24)] 0) #[]
noncomputable def o89 (p : Params) : Obj := .mk (y "builtin_function_or_method") none (.fields #[(u "type.__prepare__"), (y "type")]) #[]
noncomputable def o90 (p : Params) : Obj := .mk (y "dict") none (.dict #[(e p "__module__" 305 (s "neverhalf.errors" 187)), (e p "__qualname__" 307 (s "BadName" 306)), (e p "__firstlineno__" 309 (n 18 308)), (e p "__init__" 317 (r 110)), (e p "__static_attributes__" 319 (r 111))] 5) #[]
noncomputable def o91 (p : Params) : Obj := .mk (y "tuple") none (.seq #[] 0) #[]
noncomputable def o92 (p : Params) : Obj := .mk .none none (.fields #[(n 20 0), (n 4 0), (r 109)]) #[]
noncomputable def o93 (p : Params) : Obj := .mk (y "code") none (.fields #[(s "BadName" 300), (s "BadName" 301), (s "/claim/cut.py" 302), (n 18 0), (n 0 0), (n 0 0), (n 0 0), (n 0 0), (r 100), (.bool false), (n 181 0), (r 101), .none, .none, .none, .none, (n 303 0), (n 18 0), (s "/claim/cut.py" 304)]) #[]
noncomputable def o94 (p : Params) : Obj := .mk (y "frame") none .plain #[(some (r 102)), (some (r 3)), (some (r 99)), none, (some (s "neverhalf.errors" 187)), none, (some (r 0))]
noncomputable def o95 (p : Params) : Obj := .mk (y "tuple") none (.seq #[] 0) #[]
noncomputable def o96 (p : Params) : Obj := .mk .none none (.fields #[]) #[]
noncomputable def o97 (p : Params) : Obj := .mk (y "tuple") none (.seq #[(s "self" 313), (s "name" 314)] 0) #[]
noncomputable def o98 (p : Params) : Obj := .mk (y "tuple") none (.seq #[] 0) #[]
noncomputable def o99 (p : Params) : Obj := .mk .none none (.func (fI 6 "BadName.__init__" 0 [] .none .none .none .none none .none .none 0)) #[]
noncomputable def o100 (p : Params) : Obj := .mk (y "code") none (.fields #[(s "__init__" 310), (s "BadName.__init__" 311), (s "/claim/cut.py" 312), (n 20 0), (n 2 0), (n 0 0), (n 0 0), (n 3 0), (r 104), (.bool true), (n 181 0), (r 105), .none, (r 106), (r 107), (r 108), (n 315 0), (n 20 0), (s "/claim/cut.py" 316)]) #[]
noncomputable def o101 (p : Params) : Obj := .mk (y "function") none (.func (fI 6 "BadName.__init__" 3 [] .none .none .none (s "neverhalf.errors" 187) none (r 109) .none 0)) #[]
noncomputable def o102 (p : Params) : Obj := .mk (y "tuple") none (.seq #[(s "name" 318)] 0) #[]
noncomputable def o103 (p : Params) : Obj := .mk (y "dict") none (.dict #[(e p "__module__" 305 (s "neverhalf.errors" 187)), (e p "__firstlineno__" 309 (n 18 308)), (e p "__init__" 317 (r 110)), (e p "__static_attributes__" 319 (r 111)), (e p "__doc__" 320 .none)] 2) #[]
noncomputable def o104 (p : Params) : Obj := .mk (y "type") none (.cls (ClassData.mk "BadName" [(r 24)] [(r 113), (r 24), (y "ValueError"), (y "Exception"), (y "BaseException"), (y "object")] 112 "BadName" true [] [] false none false)) #[(some (r 97)), none, (some (s "BadName" 298)), (some (s "BadName" 306)), (some (u "ValueError.__new__")), (some (.bool true))]
noncomputable def o105 (p : Params) : Obj := .mk (y "super") none (.fields #[(r 113), (r 113), (r 113)]) #[]
noncomputable def o106 (p : Params) : Obj := .mk (y "builtin_function_or_method") none (.fields #[(u "object.__init_subclass__"), (r 113)]) #[]
noncomputable def o107 (p : Params) : Obj := .mk (y "tuple") none (.seq #[(r 24)] 0) #[]
noncomputable def o108 (p : Params) : Obj := .mk (y "builtin_function_or_method") none (.fields #[(u "type.__prepare__"), (y "type")]) #[]
noncomputable def o109 (p : Params) : Obj := .mk (y "dict") none (.dict #[(e p "__module__" 330 (s "neverhalf.errors" 187)), (e p "__qualname__" 332 (s "BadInputs" 331)), (e p "__firstlineno__" 334 (n 22 333)), (e p "__init__" 342 (r 129)), (e p "__static_attributes__" 344 (r 130))] 5) #[]
noncomputable def o110 (p : Params) : Obj := .mk (y "tuple") none (.seq #[] 0) #[]
noncomputable def o111 (p : Params) : Obj := .mk .none none (.fields #[(n 24 0), (n 4 0), (r 128)]) #[]
noncomputable def o112 (p : Params) : Obj := .mk (y "code") none (.fields #[(s "BadInputs" 325), (s "BadInputs" 326), (s "/claim/cut.py" 327), (n 22 0), (n 0 0), (n 0 0), (n 0 0), (n 0 0), (r 119), (.bool false), (n 181 0), (r 120), .none, .none, .none, .none, (n 328 0), (n 22 0), (s "/claim/cut.py" 329)]) #[]
noncomputable def o113 (p : Params) : Obj := .mk (y "frame") none .plain #[(some (r 121)), (some (r 3)), (some (r 118)), none, (some (s "neverhalf.errors" 187)), none, (some (r 0))]
noncomputable def o114 (p : Params) : Obj := .mk (y "tuple") none (.seq #[] 0) #[]
noncomputable def o115 (p : Params) : Obj := .mk .none none (.fields #[]) #[]
noncomputable def o116 (p : Params) : Obj := .mk (y "tuple") none (.seq #[(s "self" 338), (s "inputs" 339)] 0) #[]
noncomputable def o117 (p : Params) : Obj := .mk (y "tuple") none (.seq #[] 0) #[]
noncomputable def o118 (p : Params) : Obj := .mk .none none (.func (fI 7 "BadInputs.__init__" 0 [] .none .none .none .none none .none .none 0)) #[]
noncomputable def o119 (p : Params) : Obj := .mk (y "code") none (.fields #[(s "__init__" 335), (s "BadInputs.__init__" 336), (s "/claim/cut.py" 337), (n 24 0), (n 2 0), (n 0 0), (n 0 0), (n 3 0), (r 123), (.bool true), (n 181 0), (r 124), .none, (r 125), (r 126), (r 127), (n 340 0), (n 24 0), (s "/claim/cut.py" 341)]) #[]
noncomputable def o120 (p : Params) : Obj := .mk (y "function") none (.func (fI 7 "BadInputs.__init__" 3 [] .none .none .none (s "neverhalf.errors" 187) none (r 128) .none 0)) #[]
noncomputable def o121 (p : Params) : Obj := .mk (y "tuple") none (.seq #[(s "inputs" 343)] 0) #[]
noncomputable def o122 (p : Params) : Obj := .mk (y "dict") none (.dict #[(e p "__module__" 330 (s "neverhalf.errors" 187)), (e p "__firstlineno__" 334 (n 22 333)), (e p "__init__" 342 (r 129)), (e p "__static_attributes__" 344 (r 130)), (e p "__doc__" 345 .none)] 2) #[]
noncomputable def o123 (p : Params) : Obj := .mk (y "type") none (.cls (ClassData.mk "BadInputs" [(r 24)] [(r 132), (r 24), (y "ValueError"), (y "Exception"), (y "BaseException"), (y "object")] 131 "BadInputs" true [] [] false none false)) #[(some (r 116)), none, (some (s "BadInputs" 323)), (some (s "BadInputs" 331)), (some (u "ValueError.__new__")), (some (.bool true))]
noncomputable def o124 (p : Params) : Obj := .mk (y "super") none (.fields #[(r 132), (r 132), (r 132)]) #[]
noncomputable def o125 (p : Params) : Obj := .mk (y "builtin_function_or_method") none (.fields #[(u "object.__init_subclass__"), (r 132)]) #[]
noncomputable def o126 (p : Params) : Obj := .mk (y "tuple") none (.seq #[(r 24)] 0) #[]
noncomputable def o127 (p : Params) : Obj := .mk (y "builtin_function_or_method") none (.fields #[(u "type.__prepare__"), (y "type")]) #[]
noncomputable def o128 (p : Params) : Obj := .mk (y "dict") none (.dict #[(e p "__module__" 355 (s "neverhalf.errors" 187)), (e p "__qualname__" 357 (s "BadMost" 356)), (e p "__firstlineno__" 359 (n 26 358)), (e p "__init__" 367 (r 148)), (e p "__static_attributes__" 369 (r 149))] 5) #[]
noncomputable def o129 (p : Params) : Obj := .mk (y "tuple") none (.seq #[] 0) #[]
noncomputable def o130 (p : Params) : Obj := .mk .none none (.fields #[(n 28 0), (n 4 0), (r 147)]) #[]
noncomputable def o131 (p : Params) : Obj := .mk (y "code") none (.fields #[(s "BadMost" 350), (s "BadMost" 351), (s "/claim/cut.py" 352), (n 26 0), (n 0 0), (n 0 0), (n 0 0), (n 0 0), (r 138), (.bool false), (n 181 0), (r 139), .none, .none, .none, .none, (n 353 0), (n 26 0), (s "/claim/cut.py" 354)]) #[]
noncomputable def o132 (p : Params) : Obj := .mk (y "frame") none .plain #[(some (r 140)), (some (r 3)), (some (r 137)), none, (some (s "neverhalf.errors" 187)), none, (some (r 0))]
noncomputable def o133 (p : Params) : Obj := .mk (y "tuple") none (.seq #[] 0) #[]
noncomputable def o134 (p : Params) : Obj := .mk .none none (.fields #[]) #[]
noncomputable def o135 (p : Params) : Obj := .mk (y "tuple") none (.seq #[(s "self" 363), (s "most" 364)] 0) #[]
noncomputable def o136 (p : Params) : Obj := .mk (y "tuple") none (.seq #[] 0) #[]
noncomputable def o137 (p : Params) : Obj := .mk .none none (.func (fI 8 "BadMost.__init__" 0 [] .none .none .none .none none .none .none 0)) #[]
noncomputable def o138 (p : Params) : Obj := .mk (y "code") none (.fields #[(s "__init__" 360), (s "BadMost.__init__" 361), (s "/claim/cut.py" 362), (n 28 0), (n 2 0), (n 0 0), (n 0 0), (n 3 0), (r 142), (.bool true), (n 181 0), (r 143), .none, (r 144), (r 145), (r 146), (n 365 0), (n 28 0), (s "/claim/cut.py" 366)]) #[]
noncomputable def o139 (p : Params) : Obj := .mk (y "function") none (.func (fI 8 "BadMost.__init__" 3 [] .none .none .none (s "neverhalf.errors" 187) none (r 147) .none 0)) #[]
noncomputable def o140 (p : Params) : Obj := .mk (y "tuple") none (.seq #[(s "most" 368)] 0) #[]
noncomputable def o141 (p : Params) : Obj := .mk (y "dict") none (.dict #[(e p "__module__" 355 (s "neverhalf.errors" 187)), (e p "__firstlineno__" 359 (n 26 358)), (e p "__init__" 367 (r 148)), (e p "__static_attributes__" 369 (r 149)), (e p "__doc__" 370 .none)] 2) #[]
noncomputable def o142 (p : Params) : Obj := .mk (y "type") none (.cls (ClassData.mk "BadMost" [(r 24)] [(r 151), (r 24), (y "ValueError"), (y "Exception"), (y "BaseException"), (y "object")] 150 "BadMost" true [] [] false none false)) #[(some (r 135)), none, (some (s "BadMost" 348)), (some (s "BadMost" 356)), (some (u "ValueError.__new__")), (some (.bool true))]
noncomputable def o143 (p : Params) : Obj := .mk (y "super") none (.fields #[(r 151), (r 151), (r 151)]) #[]
noncomputable def o144 (p : Params) : Obj := .mk (y "builtin_function_or_method") none (.fields #[(u "object.__init_subclass__"), (r 151)]) #[]
noncomputable def o145 (p : Params) : Obj := .mk (y "tuple") none (.seq #[(r 24)] 0) #[]
noncomputable def o146 (p : Params) : Obj := .mk (y "builtin_function_or_method") none (.fields #[(u "type.__prepare__"), (y "type")]) #[]
noncomputable def o147 (p : Params) : Obj := .mk (y "dict") none (.dict #[(e p "__module__" 380 (s "neverhalf.errors" 187)), (e p "__qualname__" 382 (s "BadObject" 381)), (e p "__firstlineno__" 384 (n 30 383)), (e p "__init__" 392 (r 167)), (e p "__static_attributes__" 394 (r 168))] 5) #[]
noncomputable def o148 (p : Params) : Obj := .mk (y "tuple") none (.seq #[] 0) #[]
noncomputable def o149 (p : Params) : Obj := .mk .none none (.fields #[(n 32 0), (n 4 0), (r 166)]) #[]
noncomputable def o150 (p : Params) : Obj := .mk (y "code") none (.fields #[(s "BadObject" 375), (s "BadObject" 376), (s "/claim/cut.py" 377), (n 30 0), (n 0 0), (n 0 0), (n 0 0), (n 0 0), (r 157), (.bool false), (n 181 0), (r 158), .none, .none, .none, .none, (n 378 0), (n 30 0), (s "/claim/cut.py" 379)]) #[]
noncomputable def o151 (p : Params) : Obj := .mk (y "frame") none .plain #[(some (r 159)), (some (r 3)), (some (r 156)), none, (some (s "neverhalf.errors" 187)), none, (some (r 0))]
noncomputable def o152 (p : Params) : Obj := .mk (y "tuple") none (.seq #[] 0) #[]
noncomputable def o153 (p : Params) : Obj := .mk .none none (.fields #[]) #[]
noncomputable def o154 (p : Params) : Obj := .mk (y "tuple") none (.seq #[(s "self" 388), (s "one" 389)] 0) #[]
noncomputable def o155 (p : Params) : Obj := .mk (y "tuple") none (.seq #[] 0) #[]
noncomputable def o156 (p : Params) : Obj := .mk .none none (.func (fI 9 "BadObject.__init__" 0 [] .none .none .none .none none .none .none 0)) #[]
noncomputable def o157 (p : Params) : Obj := .mk (y "code") none (.fields #[(s "__init__" 385), (s "BadObject.__init__" 386), (s "/claim/cut.py" 387), (n 32 0), (n 2 0), (n 0 0), (n 0 0), (n 3 0), (r 161), (.bool true), (n 181 0), (r 162), .none, (r 163), (r 164), (r 165), (n 390 0), (n 32 0), (s "/claim/cut.py" 391)]) #[]
noncomputable def o158 (p : Params) : Obj := .mk (y "function") none (.func (fI 9 "BadObject.__init__" 3 [] .none .none .none (s "neverhalf.errors" 187) none (r 166) .none 0)) #[]
noncomputable def o159 (p : Params) : Obj := .mk (y "tuple") none (.seq #[(s "one" 393)] 0) #[]
noncomputable def o160 (p : Params) : Obj := .mk (y "dict") none (.dict #[(e p "__module__" 380 (s "neverhalf.errors" 187)), (e p "__firstlineno__" 384 (n 30 383)), (e p "__init__" 392 (r 167)), (e p "__static_attributes__" 394 (r 168)), (e p "__doc__" 395 .none)] 2) #[]
noncomputable def o161 (p : Params) : Obj := .mk (y "type") none (.cls (ClassData.mk "BadObject" [(r 24)] [(r 170), (r 24), (y "ValueError"), (y "Exception"), (y "BaseException"), (y "object")] 169 "BadObject" true [] [] false none false)) #[(some (r 154)), none, (some (s "BadObject" 373)), (some (s "BadObject" 381)), (some (u "ValueError.__new__")), (some (.bool true))]
noncomputable def o162 (p : Params) : Obj := .mk (y "super") none (.fields #[(r 170), (r 170), (r 170)]) #[]
noncomputable def o163 (p : Params) : Obj := .mk (y "builtin_function_or_method") none (.fields #[(u "object.__init_subclass__"), (r 170)]) #[]
noncomputable def o164 (p : Params) : Obj := .mk (y "tuple") none (.seq #[(r 24)] 0) #[]
noncomputable def o165 (p : Params) : Obj := .mk (y "builtin_function_or_method") none (.fields #[(u "type.__prepare__"), (y "type")]) #[]
noncomputable def o166 (p : Params) : Obj := .mk (y "dict") none (.dict #[(e p "__module__" 405 (s "neverhalf.errors" 187)), (e p "__qualname__" 407 (s "BadForm" 406)), (e p "__firstlineno__" 409 (n 34 408)), (e p "__init__" 417 (r 186)), (e p "__static_attributes__" 419 (r 187))] 5) #[]
noncomputable def o167 (p : Params) : Obj := .mk (y "tuple") none (.seq #[] 0) #[]
noncomputable def o168 (p : Params) : Obj := .mk .none none (.fields #[(n 36 0), (n 4 0), (r 185)]) #[]
noncomputable def o169 (p : Params) : Obj := .mk (y "code") none (.fields #[(s "BadForm" 400), (s "BadForm" 401), (s "/claim/cut.py" 402), (n 34 0), (n 0 0), (n 0 0), (n 0 0), (n 0 0), (r 176), (.bool false), (n 181 0), (r 177), .none, .none, .none, .none, (n 403 0), (n 34 0), (s "/claim/cut.py" 404)]) #[]
noncomputable def o170 (p : Params) : Obj := .mk (y "frame") none .plain #[(some (r 178)), (some (r 3)), (some (r 175)), none, (some (s "neverhalf.errors" 187)), none, (some (r 0))]
noncomputable def o171 (p : Params) : Obj := .mk (y "tuple") none (.seq #[] 0) #[]
noncomputable def o172 (p : Params) : Obj := .mk .none none (.fields #[]) #[]
noncomputable def o173 (p : Params) : Obj := .mk (y "tuple") none (.seq #[(s "self" 413), (s "thing" 414)] 0) #[]
noncomputable def o174 (p : Params) : Obj := .mk (y "tuple") none (.seq #[] 0) #[]
noncomputable def o175 (p : Params) : Obj := .mk .none none (.func (fI 10 "BadForm.__init__" 0 [] .none .none .none .none none .none .none 0)) #[]
noncomputable def o176 (p : Params) : Obj := .mk (y "code") none (.fields #[(s "__init__" 410), (s "BadForm.__init__" 411), (s "/claim/cut.py" 412), (n 36 0), (n 2 0), (n 0 0), (n 0 0), (n 3 0), (r 180), (.bool true), (n 181 0), (r 181), .none, (r 182), (r 183), (r 184), (n 415 0), (n 36 0), (s "/claim/cut.py" 416)]) #[]
noncomputable def o177 (p : Params) : Obj := .mk (y "function") none (.func (fI 10 "BadForm.__init__" 3 [] .none .none .none (s "neverhalf.errors" 187) none (r 185) .none 0)) #[]
noncomputable def o178 (p : Params) : Obj := .mk (y "tuple") none (.seq #[(s "thing" 418)] 0) #[]
noncomputable def o179 (p : Params) : Obj := .mk (y "dict") none (.dict #[(e p "__module__" 405 (s "neverhalf.errors" 187)), (e p "__firstlineno__" 409 (n 34 408)), (e p "__init__" 417 (r 186)), (e p "__static_attributes__" 419 (r 187)), (e p "__doc__" 420 .none)] 2) #[]
noncomputable def o180 (p : Params) : Obj := .mk (y "type") none (.cls (ClassData.mk "BadForm" [(r 24)] [(r 189), (r 24), (y "ValueError"), (y "Exception"), (y "BaseException"), (y "object")] 188 "BadForm" true [] [] false none false)) #[(some (r 173)), none, (some (s "BadForm" 398)), (some (s "BadForm" 406)), (some (u "ValueError.__new__")), (some (.bool true))]
noncomputable def o181 (p : Params) : Obj := .mk (y "super") none (.fields #[(r 189), (r 189), (r 189)]) #[]
noncomputable def o182 (p : Params) : Obj := .mk (y "builtin_function_or_method") none (.fields #[(u "object.__init_subclass__"), (r 189)]) #[]
noncomputable def o183 (p : Params) : Obj := .mk (y "tuple") none (.seq #[(r 24)] 0) #[]
noncomputable def o184 (p : Params) : Obj := .mk (y "builtin_function_or_method") none (.fields #[(u "type.__prepare__"), (y "type")]) #[]
noncomputable def o185 (p : Params) : Obj := .mk (y "dict") none (.dict #[(e p "__module__" 430 (s "neverhalf.errors" 187)), (e p "__qualname__" 432 (s "BadObjects" 431)), (e p "__firstlineno__" 434 (n 38 433)), (e p "__init__" 442 (r 205)), (e p "__static_attributes__" 444 (r 206))] 5) #[]
noncomputable def o186 (p : Params) : Obj := .mk (y "tuple") none (.seq #[] 0) #[]
noncomputable def o187 (p : Params) : Obj := .mk .none none (.fields #[(n 40 0), (n 4 0), (r 204)]) #[]
noncomputable def o188 (p : Params) : Obj := .mk (y "code") none (.fields #[(s "BadObjects" 425), (s "BadObjects" 426), (s "/claim/cut.py" 427), (n 38 0), (n 0 0), (n 0 0), (n 0 0), (n 0 0), (r 195), (.bool false), (n 181 0), (r 196), .none, .none, .none, .none, (n 428 0), (n 38 0), (s "/claim/cut.py" 429)]) #[]
noncomputable def o189 (p : Params) : Obj := .mk (y "frame") none .plain #[(some (r 197)), (some (r 3)), (some (r 194)), none, (some (s "neverhalf.errors" 187)), none, (some (r 0))]
noncomputable def o190 (p : Params) : Obj := .mk (y "tuple") none (.seq #[] 0) #[]
noncomputable def o191 (p : Params) : Obj := .mk .none none (.fields #[]) #[]
noncomputable def o192 (p : Params) : Obj := .mk (y "tuple") none (.seq #[(s "self" 438), (s "objects" 439)] 0) #[]
noncomputable def o193 (p : Params) : Obj := .mk (y "tuple") none (.seq #[] 0) #[]
noncomputable def o194 (p : Params) : Obj := .mk .none none (.func (fI 11 "BadObjects.__init__" 0 [] .none .none .none .none none .none .none 0)) #[]
noncomputable def o195 (p : Params) : Obj := .mk (y "code") none (.fields #[(s "__init__" 435), (s "BadObjects.__init__" 436), (s "/claim/cut.py" 437), (n 40 0), (n 2 0), (n 0 0), (n 0 0), (n 3 0), (r 199), (.bool true), (n 181 0), (r 200), .none, (r 201), (r 202), (r 203), (n 440 0), (n 40 0), (s "/claim/cut.py" 441)]) #[]
noncomputable def o196 (p : Params) : Obj := .mk (y "function") none (.func (fI 11 "BadObjects.__init__" 3 [] .none .none .none (s "neverhalf.errors" 187) none (r 204) .none 0)) #[]
noncomputable def o197 (p : Params) : Obj := .mk (y "tuple") none (.seq #[(s "objects" 443)] 0) #[]
noncomputable def o198 (p : Params) : Obj := .mk (y "dict") none (.dict #[(e p "__module__" 430 (s "neverhalf.errors" 187)), (e p "__firstlineno__" 434 (n 38 433)), (e p "__init__" 442 (r 205)), (e p "__static_attributes__" 444 (r 206)), (e p "__doc__" 445 .none)] 2) #[]
noncomputable def o199 (p : Params) : Obj := .mk (y "type") none (.cls (ClassData.mk "BadObjects" [(r 24)] [(r 208), (r 24), (y "ValueError"), (y "Exception"), (y "BaseException"), (y "object")] 207 "BadObjects" true [] [] false none false)) #[(some (r 192)), none, (some (s "BadObjects" 423)), (some (s "BadObjects" 431)), (some (u "ValueError.__new__")), (some (.bool true))]
noncomputable def o200 (p : Params) : Obj := .mk (y "super") none (.fields #[(r 208), (r 208), (r 208)]) #[]
noncomputable def o201 (p : Params) : Obj := .mk (y "builtin_function_or_method") none (.fields #[(u "object.__init_subclass__"), (r 208)]) #[]
noncomputable def o202 (p : Params) : Obj := .mk (y "tuple") none (.seq #[(r 24)] 0) #[]
noncomputable def o203 (p : Params) : Obj := .mk (y "builtin_function_or_method") none (.fields #[(u "type.__prepare__"), (y "type")]) #[]
noncomputable def o204 (p : Params) : Obj := .mk (y "dict") none (.dict #[(e p "__module__" 455 (s "neverhalf.errors" 187)), (e p "__qualname__" 457 (s "NotLinked" 456)), (e p "__firstlineno__" 459 (n 42 458)), (e p "__static_attributes__" 460 (r 218))] 4) #[]
noncomputable def o205 (p : Params) : Obj := .mk (y "tuple") none (.seq #[] 0) #[]
noncomputable def o206 (p : Params) : Obj := .mk .none none (.fields #[]) #[]
noncomputable def o207 (p : Params) : Obj := .mk (y "code") none (.fields #[(s "NotLinked" 450), (s "NotLinked" 451), (s "/claim/cut.py" 452), (n 42 0), (n 0 0), (n 0 0), (n 0 0), (n 0 0), (r 214), (.bool false), (n 181 0), (r 215), .none, .none, .none, .none, (n 453 0), (n 42 0), (s "/claim/cut.py" 454)]) #[]
noncomputable def o208 (p : Params) : Obj := .mk (y "frame") none .plain #[(some (r 216)), (some (r 3)), (some (r 213)), none, (some (s "neverhalf.errors" 187)), none, (some (r 0))]
noncomputable def o209 (p : Params) : Obj := .mk (y "tuple") none (.seq #[] 0) #[]
noncomputable def o210 (p : Params) : Obj := .mk (y "dict") none (.dict #[(e p "__module__" 455 (s "neverhalf.errors" 187)), (e p "__firstlineno__" 459 (n 42 458)), (e p "__static_attributes__" 460 (r 218)), (e p "__doc__" 461 .none)] 2) #[]
noncomputable def o211 (p : Params) : Obj := .mk (y "type") none (.cls (ClassData.mk "NotLinked" [(r 24)] [(r 220), (r 24), (y "ValueError"), (y "Exception"), (y "BaseException"), (y "object")] 219 "NotLinked" true [] [] false none false)) #[(some (r 211)), none, (some (s "NotLinked" 448)), (some (s "NotLinked" 456)), (some (u "ValueError.__new__")), (some (.bool true))]
noncomputable def o212 (p : Params) : Obj := .mk (y "super") none (.fields #[(r 220), (r 220), (r 220)]) #[]
noncomputable def o213 (p : Params) : Obj := .mk (y "builtin_function_or_method") none (.fields #[(u "object.__init_subclass__"), (r 220)]) #[]
noncomputable def o214 (p : Params) : Obj := .mk (y "tuple") none (.seq #[(r 24)] 0) #[]
noncomputable def o215 (p : Params) : Obj := .mk (y "builtin_function_or_method") none (.fields #[(u "type.__prepare__"), (y "type")]) #[]
noncomputable def o216 (p : Params) : Obj := .mk (y "dict") none (.dict #[(e p "__module__" 471 (s "neverhalf.errors" 187)), (e p "__qualname__" 473 (s "BadLinked" 472)), (e p "__firstlineno__" 475 (n 44 474)), (e p "__init__" 483 (r 236)), (e p "__static_attributes__" 485 (r 237))] 5) #[]
noncomputable def o217 (p : Params) : Obj := .mk (y "tuple") none (.seq #[] 0) #[]
noncomputable def o218 (p : Params) : Obj := .mk .none none (.fields #[(n 46 0), (n 4 0), (r 235)]) #[]
noncomputable def o219 (p : Params) : Obj := .mk (y "code") none (.fields #[(s "BadLinked" 466), (s "BadLinked" 467), (s "/claim/cut.py" 468), (n 44 0), (n 0 0), (n 0 0), (n 0 0), (n 0 0), (r 226), (.bool false), (n 181 0), (r 227), .none, .none, .none, .none, (n 469 0), (n 44 0), (s "/claim/cut.py" 470)]) #[]
noncomputable def o220 (p : Params) : Obj := .mk (y "frame") none .plain #[(some (r 228)), (some (r 3)), (some (r 225)), none, (some (s "neverhalf.errors" 187)), none, (some (r 0))]
noncomputable def o221 (p : Params) : Obj := .mk (y "tuple") none (.seq #[] 0) #[]
noncomputable def o222 (p : Params) : Obj := .mk .none none (.fields #[]) #[]
noncomputable def o223 (p : Params) : Obj := .mk (y "tuple") none (.seq #[(s "self" 479), (s "linked" 480)] 0) #[]
noncomputable def o224 (p : Params) : Obj := .mk (y "tuple") none (.seq #[] 0) #[]
noncomputable def o225 (p : Params) : Obj := .mk .none none (.func (fI 13 "BadLinked.__init__" 0 [] .none .none .none .none none .none .none 0)) #[]
noncomputable def o226 (p : Params) : Obj := .mk (y "code") none (.fields #[(s "__init__" 476), (s "BadLinked.__init__" 477), (s "/claim/cut.py" 478), (n 46 0), (n 2 0), (n 0 0), (n 0 0), (n 3 0), (r 230), (.bool true), (n 181 0), (r 231), .none, (r 232), (r 233), (r 234), (n 481 0), (n 46 0), (s "/claim/cut.py" 482)]) #[]
noncomputable def o227 (p : Params) : Obj := .mk (y "function") none (.func (fI 13 "BadLinked.__init__" 3 [] .none .none .none (s "neverhalf.errors" 187) none (r 235) .none 0)) #[]
noncomputable def o228 (p : Params) : Obj := .mk (y "tuple") none (.seq #[(s "linked" 484)] 0) #[]
noncomputable def o229 (p : Params) : Obj := .mk (y "dict") none (.dict #[(e p "__module__" 471 (s "neverhalf.errors" 187)), (e p "__firstlineno__" 475 (n 44 474)), (e p "__init__" 483 (r 236)), (e p "__static_attributes__" 485 (r 237)), (e p "__doc__" 486 .none)] 2) #[]
noncomputable def o230 (p : Params) : Obj := .mk (y "type") none (.cls (ClassData.mk "BadLinked" [(r 24)] [(r 239), (r 24), (y "ValueError"), (y "Exception"), (y "BaseException"), (y "object")] 238 "BadLinked" true [] [] false none false)) #[(some (r 223)), none, (some (s "BadLinked" 464)), (some (s "BadLinked" 472)), (some (u "ValueError.__new__")), (some (.bool true))]
noncomputable def o231 (p : Params) : Obj := .mk (y "super") none (.fields #[(r 239), (r 239), (r 239)]) #[]
noncomputable def o232 (p : Params) : Obj := .mk (y "builtin_function_or_method") none (.fields #[(u "object.__init_subclass__"), (r 239)]) #[]
noncomputable def o233 (p : Params) : Obj := .mk (y "tuple") none (.seq #[(r 24)] 0) #[]
noncomputable def o234 (p : Params) : Obj := .mk (y "builtin_function_or_method") none (.fields #[(u "type.__prepare__"), (y "type")]) #[]
noncomputable def o235 (p : Params) : Obj := .mk (y "dict") none (.dict #[(e p "__module__" 496 (s "neverhalf.errors" 187)), (e p "__qualname__" 498 (s "BadKeeps" 497)), (e p "__firstlineno__" 500 (n 48 499)), (e p "__init__" 508 (r 255)), (e p "__static_attributes__" 510 (r 256))] 5) #[]
noncomputable def o236 (p : Params) : Obj := .mk (y "tuple") none (.seq #[] 0) #[]
noncomputable def o237 (p : Params) : Obj := .mk .none none (.fields #[(n 50 0), (n 4 0), (r 254)]) #[]
noncomputable def o238 (p : Params) : Obj := .mk (y "code") none (.fields #[(s "BadKeeps" 491), (s "BadKeeps" 492), (s "/claim/cut.py" 493), (n 48 0), (n 0 0), (n 0 0), (n 0 0), (n 0 0), (r 245), (.bool false), (n 181 0), (r 246), .none, .none, .none, .none, (n 494 0), (n 48 0), (s "/claim/cut.py" 495)]) #[]
noncomputable def o239 (p : Params) : Obj := .mk (y "frame") none .plain #[(some (r 247)), (some (r 3)), (some (r 244)), none, (some (s "neverhalf.errors" 187)), none, (some (r 0))]
noncomputable def o240 (p : Params) : Obj := .mk (y "tuple") none (.seq #[] 0) #[]
noncomputable def o241 (p : Params) : Obj := .mk .none none (.fields #[]) #[]
noncomputable def o242 (p : Params) : Obj := .mk (y "tuple") none (.seq #[(s "self" 504), (s "keeps" 505)] 0) #[]
noncomputable def o243 (p : Params) : Obj := .mk (y "tuple") none (.seq #[] 0) #[]
noncomputable def o244 (p : Params) : Obj := .mk .none none (.func (fI 14 "BadKeeps.__init__" 0 [] .none .none .none .none none .none .none 0)) #[]
noncomputable def o245 (p : Params) : Obj := .mk (y "code") none (.fields #[(s "__init__" 501), (s "BadKeeps.__init__" 502), (s "/claim/cut.py" 503), (n 50 0), (n 2 0), (n 0 0), (n 0 0), (n 3 0), (r 249), (.bool true), (n 181 0), (r 250), .none, (r 251), (r 252), (r 253), (n 506 0), (n 50 0), (s "/claim/cut.py" 507)]) #[]
noncomputable def o246 (p : Params) : Obj := .mk (y "function") none (.func (fI 14 "BadKeeps.__init__" 3 [] .none .none .none (s "neverhalf.errors" 187) none (r 254) .none 0)) #[]
noncomputable def o247 (p : Params) : Obj := .mk (y "tuple") none (.seq #[(s "keeps" 509)] 0) #[]
noncomputable def o248 (p : Params) : Obj := .mk (y "dict") none (.dict #[(e p "__module__" 496 (s "neverhalf.errors" 187)), (e p "__firstlineno__" 500 (n 48 499)), (e p "__init__" 508 (r 255)), (e p "__static_attributes__" 510 (r 256)), (e p "__doc__" 511 .none)] 2) #[]
noncomputable def o249 (p : Params) : Obj := .mk (y "type") none (.cls (ClassData.mk "BadKeeps" [(r 24)] [(r 258), (r 24), (y "ValueError"), (y "Exception"), (y "BaseException"), (y "object")] 257 "BadKeeps" true [] [] false none false)) #[(some (r 242)), none, (some (s "BadKeeps" 489)), (some (s "BadKeeps" 497)), (some (u "ValueError.__new__")), (some (.bool true))]
noncomputable def o250 (p : Params) : Obj := .mk (y "super") none (.fields #[(r 258), (r 258), (r 258)]) #[]
noncomputable def o251 (p : Params) : Obj := .mk (y "builtin_function_or_method") none (.fields #[(u "object.__init_subclass__"), (r 258)]) #[]
noncomputable def o252 (p : Params) : Obj := .mk (y "tuple") none (.seq #[(r 24)] 0) #[]
noncomputable def o253 (p : Params) : Obj := .mk (y "builtin_function_or_method") none (.fields #[(u "type.__prepare__"), (y "type")]) #[]
noncomputable def o254 (p : Params) : Obj := .mk (y "dict") none (.dict #[(e p "__module__" 521 (s "neverhalf.errors" 187)), (e p "__qualname__" 523 (s "BadValue" 522)), (e p "__firstlineno__" 525 (n 52 524)), (e p "__init__" 533 (r 274)), (e p "__static_attributes__" 535 (r 275))] 5) #[]
noncomputable def o255 (p : Params) : Obj := .mk (y "tuple") none (.seq #[] 0) #[]
noncomputable def o256 (p : Params) : Obj := .mk .none none (.fields #[(n 54 0), (n 4 0), (r 273)]) #[]
noncomputable def o257 (p : Params) : Obj := .mk (y "code") none (.fields #[(s "BadValue" 516), (s "BadValue" 517), (s "/claim/cut.py" 518), (n 52 0), (n 0 0), (n 0 0), (n 0 0), (n 0 0), (r 264), (.bool false), (n 181 0), (r 265), .none, .none, .none, .none, (n 519 0), (n 52 0), (s "/claim/cut.py" 520)]) #[]
noncomputable def o258 (p : Params) : Obj := .mk (y "frame") none .plain #[(some (r 266)), (some (r 3)), (some (r 263)), none, (some (s "neverhalf.errors" 187)), none, (some (r 0))]
noncomputable def o259 (p : Params) : Obj := .mk (y "tuple") none (.seq #[] 0) #[]
noncomputable def o260 (p : Params) : Obj := .mk .none none (.fields #[]) #[]
noncomputable def o261 (p : Params) : Obj := .mk (y "tuple") none (.seq #[(s "self" 529), (s "value" 530)] 0) #[]
noncomputable def o262 (p : Params) : Obj := .mk (y "tuple") none (.seq #[] 0) #[]
noncomputable def o263 (p : Params) : Obj := .mk .none none (.func (fI 15 "BadValue.__init__" 0 [] .none .none .none .none none .none .none 0)) #[]
noncomputable def o264 (p : Params) : Obj := .mk (y "code") none (.fields #[(s "__init__" 526), (s "BadValue.__init__" 527), (s "/claim/cut.py" 528), (n 54 0), (n 2 0), (n 0 0), (n 0 0), (n 3 0), (r 268), (.bool true), (n 181 0), (r 269), .none, (r 270), (r 271), (r 272), (n 531 0), (n 54 0), (s "/claim/cut.py" 532)]) #[]
noncomputable def o265 (p : Params) : Obj := .mk (y "function") none (.func (fI 15 "BadValue.__init__" 3 [] .none .none .none (s "neverhalf.errors" 187) none (r 273) .none 0)) #[]
noncomputable def o266 (p : Params) : Obj := .mk (y "tuple") none (.seq #[(s "value" 534)] 0) #[]
noncomputable def o267 (p : Params) : Obj := .mk (y "dict") none (.dict #[(e p "__module__" 521 (s "neverhalf.errors" 187)), (e p "__firstlineno__" 525 (n 52 524)), (e p "__init__" 533 (r 274)), (e p "__static_attributes__" 535 (r 275)), (e p "__doc__" 536 .none)] 2) #[]
noncomputable def o268 (p : Params) : Obj := .mk (y "type") none (.cls (ClassData.mk "BadValue" [(r 24)] [(r 277), (r 24), (y "ValueError"), (y "Exception"), (y "BaseException"), (y "object")] 276 "BadValue" true [] [] false none false)) #[(some (r 261)), none, (some (s "BadValue" 514)), (some (s "BadValue" 522)), (some (u "ValueError.__new__")), (some (.bool true))]
noncomputable def o269 (p : Params) : Obj := .mk (y "super") none (.fields #[(r 277), (r 277), (r 277)]) #[]
noncomputable def o270 (p : Params) : Obj := .mk (y "builtin_function_or_method") none (.fields #[(u "object.__init_subclass__"), (r 277)]) #[]
noncomputable def o271 (p : Params) : Obj := .mk (y "tuple") none (.seq #[(r 24)] 0) #[]
noncomputable def o272 (p : Params) : Obj := .mk (y "builtin_function_or_method") none (.fields #[(u "type.__prepare__"), (y "type")]) #[]
noncomputable def o273 (p : Params) : Obj := .mk (y "dict") none (.dict #[(e p "__module__" 546 (s "neverhalf.errors" 187)), (e p "__qualname__" 548 (s "BadState" 547)), (e p "__firstlineno__" 550 (n 56 549)), (e p "__init__" 558 (r 293)), (e p "__static_attributes__" 560 (r 294))] 5) #[]
noncomputable def o274 (p : Params) : Obj := .mk (y "tuple") none (.seq #[] 0) #[]
noncomputable def o275 (p : Params) : Obj := .mk .none none (.fields #[(n 58 0), (n 4 0), (r 292)]) #[]
noncomputable def o276 (p : Params) : Obj := .mk (y "code") none (.fields #[(s "BadState" 541), (s "BadState" 542), (s "/claim/cut.py" 543), (n 56 0), (n 0 0), (n 0 0), (n 0 0), (n 0 0), (r 283), (.bool false), (n 181 0), (r 284), .none, .none, .none, .none, (n 544 0), (n 56 0), (s "/claim/cut.py" 545)]) #[]
noncomputable def o277 (p : Params) : Obj := .mk (y "frame") none .plain #[(some (r 285)), (some (r 3)), (some (r 282)), none, (some (s "neverhalf.errors" 187)), none, (some (r 0))]
noncomputable def o278 (p : Params) : Obj := .mk (y "tuple") none (.seq #[] 0) #[]
noncomputable def o279 (p : Params) : Obj := .mk .none none (.fields #[]) #[]
noncomputable def o280 (p : Params) : Obj := .mk (y "tuple") none (.seq #[(s "self" 554), (s "state" 555)] 0) #[]
noncomputable def o281 (p : Params) : Obj := .mk (y "tuple") none (.seq #[] 0) #[]
noncomputable def o282 (p : Params) : Obj := .mk .none none (.func (fI 16 "BadState.__init__" 0 [] .none .none .none .none none .none .none 0)) #[]
noncomputable def o283 (p : Params) : Obj := .mk (y "code") none (.fields #[(s "__init__" 551), (s "BadState.__init__" 552), (s "/claim/cut.py" 553), (n 58 0), (n 2 0), (n 0 0), (n 0 0), (n 3 0), (r 287), (.bool true), (n 181 0), (r 288), .none, (r 289), (r 290), (r 291), (n 556 0), (n 58 0), (s "/claim/cut.py" 557)]) #[]
noncomputable def o284 (p : Params) : Obj := .mk (y "function") none (.func (fI 16 "BadState.__init__" 3 [] .none .none .none (s "neverhalf.errors" 187) none (r 292) .none 0)) #[]
noncomputable def o285 (p : Params) : Obj := .mk (y "tuple") none (.seq #[(s "state" 559)] 0) #[]
noncomputable def o286 (p : Params) : Obj := .mk (y "dict") none (.dict #[(e p "__module__" 546 (s "neverhalf.errors" 187)), (e p "__firstlineno__" 550 (n 56 549)), (e p "__init__" 558 (r 293)), (e p "__static_attributes__" 560 (r 294)), (e p "__doc__" 561 .none)] 2) #[]
noncomputable def o287 (p : Params) : Obj := .mk (y "type") none (.cls (ClassData.mk "BadState" [(r 24)] [(r 296), (r 24), (y "ValueError"), (y "Exception"), (y "BaseException"), (y "object")] 295 "BadState" true [] [] false none false)) #[(some (r 280)), none, (some (s "BadState" 539)), (some (s "BadState" 547)), (some (u "ValueError.__new__")), (some (.bool true))]
noncomputable def o288 (p : Params) : Obj := .mk (y "super") none (.fields #[(r 296), (r 296), (r 296)]) #[]
noncomputable def o289 (p : Params) : Obj := .mk (y "builtin_function_or_method") none (.fields #[(u "object.__init_subclass__"), (r 296)]) #[]
noncomputable def o290 (p : Params) : Obj := .mk (y "tuple") none (.seq #[(r 24)] 0) #[]
noncomputable def o291 (p : Params) : Obj := .mk (y "builtin_function_or_method") none (.fields #[(u "type.__prepare__"), (y "type")]) #[]
noncomputable def o292 (p : Params) : Obj := .mk (y "dict") none (.dict #[(e p "__module__" 571 (s "neverhalf.errors" 187)), (e p "__qualname__" 573 (s "BadWord" 572)), (e p "__firstlineno__" 575 (n 60 574)), (e p "__init__" 583 (r 312)), (e p "__static_attributes__" 585 (r 313))] 5) #[]
noncomputable def o293 (p : Params) : Obj := .mk (y "tuple") none (.seq #[] 0) #[]
noncomputable def o294 (p : Params) : Obj := .mk .none none (.fields #[(n 62 0), (n 4 0), (r 311)]) #[]
noncomputable def o295 (p : Params) : Obj := .mk (y "code") none (.fields #[(s "BadWord" 566), (s "BadWord" 567), (s "/claim/cut.py" 568), (n 60 0), (n 0 0), (n 0 0), (n 0 0), (n 0 0), (r 302), (.bool false), (n 181 0), (r 303), .none, .none, .none, .none, (n 569 0), (n 60 0), (s "/claim/cut.py" 570)]) #[]
noncomputable def o296 (p : Params) : Obj := .mk (y "frame") none .plain #[(some (r 304)), (some (r 3)), (some (r 301)), none, (some (s "neverhalf.errors" 187)), none, (some (r 0))]
noncomputable def o297 (p : Params) : Obj := .mk (y "tuple") none (.seq #[] 0) #[]
noncomputable def o298 (p : Params) : Obj := .mk .none none (.fields #[]) #[]
noncomputable def o299 (p : Params) : Obj := .mk (y "tuple") none (.seq #[(s "self" 579), (s "word" 580)] 0) #[]
noncomputable def o300 (p : Params) : Obj := .mk (y "tuple") none (.seq #[] 0) #[]
noncomputable def o301 (p : Params) : Obj := .mk .none none (.func (fI 17 "BadWord.__init__" 0 [] .none .none .none .none none .none .none 0)) #[]
noncomputable def o302 (p : Params) : Obj := .mk (y "code") none (.fields #[(s "__init__" 576), (s "BadWord.__init__" 577), (s "/claim/cut.py" 578), (n 62 0), (n 2 0), (n 0 0), (n 0 0), (n 3 0), (r 306), (.bool true), (n 181 0), (r 307), .none, (r 308), (r 309), (r 310), (n 581 0), (n 62 0), (s "/claim/cut.py" 582)]) #[]
noncomputable def o303 (p : Params) : Obj := .mk (y "function") none (.func (fI 17 "BadWord.__init__" 3 [] .none .none .none (s "neverhalf.errors" 187) none (r 311) .none 0)) #[]
noncomputable def o304 (p : Params) : Obj := .mk (y "tuple") none (.seq #[(s "word" 584)] 0) #[]
noncomputable def o305 (p : Params) : Obj := .mk (y "dict") none (.dict #[(e p "__module__" 571 (s "neverhalf.errors" 187)), (e p "__firstlineno__" 575 (n 60 574)), (e p "__init__" 583 (r 312)), (e p "__static_attributes__" 585 (r 313)), (e p "__doc__" 586 .none)] 2) #[]
noncomputable def o306 (p : Params) : Obj := .mk (y "type") none (.cls (ClassData.mk "BadWord" [(r 24)] [(r 315), (r 24), (y "ValueError"), (y "Exception"), (y "BaseException"), (y "object")] 314 "BadWord" true [] [] false none false)) #[(some (r 299)), none, (some (s "BadWord" 564)), (some (s "BadWord" 572)), (some (u "ValueError.__new__")), (some (.bool true))]
noncomputable def o307 (p : Params) : Obj := .mk (y "super") none (.fields #[(r 315), (r 315), (r 315)]) #[]
noncomputable def o308 (p : Params) : Obj := .mk (y "builtin_function_or_method") none (.fields #[(u "object.__init_subclass__"), (r 315)]) #[]
noncomputable def o309 (p : Params) : Obj := .mk (y "tuple") none (.seq #[(r 24)] 0) #[]
noncomputable def o310 (p : Params) : Obj := .mk (y "builtin_function_or_method") none (.fields #[(u "type.__prepare__"), (y "type")]) #[]
noncomputable def o311 (p : Params) : Obj := .mk (y "dict") none (.dict #[(e p "__module__" 596 (s "neverhalf.errors" 187)), (e p "__qualname__" 598 (s "BadPasses" 597)), (e p "__firstlineno__" 600 (n 64 599)), (e p "__init__" 608 (r 331)), (e p "__static_attributes__" 610 (r 332))] 5) #[]
noncomputable def o312 (p : Params) : Obj := .mk (y "tuple") none (.seq #[] 0) #[]
noncomputable def o313 (p : Params) : Obj := .mk .none none (.fields #[(n 66 0), (n 4 0), (r 330)]) #[]
noncomputable def o314 (p : Params) : Obj := .mk (y "code") none (.fields #[(s "BadPasses" 591), (s "BadPasses" 592), (s "/claim/cut.py" 593), (n 64 0), (n 0 0), (n 0 0), (n 0 0), (n 0 0), (r 321), (.bool false), (n 181 0), (r 322), .none, .none, .none, .none, (n 594 0), (n 64 0), (s "/claim/cut.py" 595)]) #[]
noncomputable def o315 (p : Params) : Obj := .mk (y "frame") none .plain #[(some (r 323)), (some (r 3)), (some (r 320)), none, (some (s "neverhalf.errors" 187)), none, (some (r 0))]
noncomputable def o316 (p : Params) : Obj := .mk (y "tuple") none (.seq #[] 0) #[]
noncomputable def o317 (p : Params) : Obj := .mk .none none (.fields #[]) #[]
noncomputable def o318 (p : Params) : Obj := .mk (y "tuple") none (.seq #[(s "self" 604), (s "passes" 605)] 0) #[]
noncomputable def o319 (p : Params) : Obj := .mk (y "tuple") none (.seq #[] 0) #[]
noncomputable def o320 (p : Params) : Obj := .mk .none none (.func (fI 18 "BadPasses.__init__" 0 [] .none .none .none .none none .none .none 0)) #[]
noncomputable def o321 (p : Params) : Obj := .mk (y "code") none (.fields #[(s "__init__" 601), (s "BadPasses.__init__" 602), (s "/claim/cut.py" 603), (n 66 0), (n 2 0), (n 0 0), (n 0 0), (n 3 0), (r 325), (.bool true), (n 181 0), (r 326), .none, (r 327), (r 328), (r 329), (n 606 0), (n 66 0), (s "/claim/cut.py" 607)]) #[]
noncomputable def o322 (p : Params) : Obj := .mk (y "function") none (.func (fI 18 "BadPasses.__init__" 3 [] .none .none .none (s "neverhalf.errors" 187) none (r 330) .none 0)) #[]
noncomputable def o323 (p : Params) : Obj := .mk (y "tuple") none (.seq #[(s "passes" 609)] 0) #[]
noncomputable def o324 (p : Params) : Obj := .mk (y "dict") none (.dict #[(e p "__module__" 596 (s "neverhalf.errors" 187)), (e p "__firstlineno__" 600 (n 64 599)), (e p "__init__" 608 (r 331)), (e p "__static_attributes__" 610 (r 332)), (e p "__doc__" 611 .none)] 2) #[]
noncomputable def o325 (p : Params) : Obj := .mk (y "type") none (.cls (ClassData.mk "BadPasses" [(r 24)] [(r 334), (r 24), (y "ValueError"), (y "Exception"), (y "BaseException"), (y "object")] 333 "BadPasses" true [] [] false none false)) #[(some (r 318)), none, (some (s "BadPasses" 589)), (some (s "BadPasses" 597)), (some (u "ValueError.__new__")), (some (.bool true))]
noncomputable def o326 (p : Params) : Obj := .mk (y "super") none (.fields #[(r 334), (r 334), (r 334)]) #[]
noncomputable def o327 (p : Params) : Obj := .mk (y "builtin_function_or_method") none (.fields #[(u "object.__init_subclass__"), (r 334)]) #[]
noncomputable def o328 (p : Params) : Obj := .mk (y "tuple") none (.seq #[(r 24)] 0) #[]
noncomputable def o329 (p : Params) : Obj := .mk (y "builtin_function_or_method") none (.fields #[(u "type.__prepare__"), (y "type")]) #[]
noncomputable def o330 (p : Params) : Obj := .mk (y "dict") none (.dict #[(e p "__module__" 621 (s "neverhalf.errors" 187)), (e p "__qualname__" 623 (s "BadRow" 622)), (e p "__firstlineno__" 625 (n 68 624)), (e p "__init__" 633 (r 350)), (e p "__static_attributes__" 635 (r 351))] 5) #[]
noncomputable def o331 (p : Params) : Obj := .mk (y "tuple") none (.seq #[] 0) #[]
noncomputable def o332 (p : Params) : Obj := .mk .none none (.fields #[(n 70 0), (n 4 0), (r 349)]) #[]
noncomputable def o333 (p : Params) : Obj := .mk (y "code") none (.fields #[(s "BadRow" 616), (s "BadRow" 617), (s "/claim/cut.py" 618), (n 68 0), (n 0 0), (n 0 0), (n 0 0), (n 0 0), (r 340), (.bool false), (n 181 0), (r 341), .none, .none, .none, .none, (n 619 0), (n 68 0), (s "/claim/cut.py" 620)]) #[]
noncomputable def o334 (p : Params) : Obj := .mk (y "frame") none .plain #[(some (r 342)), (some (r 3)), (some (r 339)), none, (some (s "neverhalf.errors" 187)), none, (some (r 0))]
noncomputable def o335 (p : Params) : Obj := .mk (y "tuple") none (.seq #[] 0) #[]
noncomputable def o336 (p : Params) : Obj := .mk .none none (.fields #[]) #[]
noncomputable def o337 (p : Params) : Obj := .mk (y "tuple") none (.seq #[(s "self" 629), (s "row" 630)] 0) #[]
noncomputable def o338 (p : Params) : Obj := .mk (y "tuple") none (.seq #[] 0) #[]
noncomputable def o339 (p : Params) : Obj := .mk .none none (.func (fI 19 "BadRow.__init__" 0 [] .none .none .none .none none .none .none 0)) #[]
noncomputable def o340 (p : Params) : Obj := .mk (y "code") none (.fields #[(s "__init__" 626), (s "BadRow.__init__" 627), (s "/claim/cut.py" 628), (n 70 0), (n 2 0), (n 0 0), (n 0 0), (n 3 0), (r 344), (.bool true), (n 181 0), (r 345), .none, (r 346), (r 347), (r 348), (n 631 0), (n 70 0), (s "/claim/cut.py" 632)]) #[]
noncomputable def o341 (p : Params) : Obj := .mk (y "function") none (.func (fI 19 "BadRow.__init__" 3 [] .none .none .none (s "neverhalf.errors" 187) none (r 349) .none 0)) #[]
noncomputable def o342 (p : Params) : Obj := .mk (y "tuple") none (.seq #[(s "row" 634)] 0) #[]
noncomputable def o343 (p : Params) : Obj := .mk (y "dict") none (.dict #[(e p "__module__" 621 (s "neverhalf.errors" 187)), (e p "__firstlineno__" 625 (n 68 624)), (e p "__init__" 633 (r 350)), (e p "__static_attributes__" 635 (r 351)), (e p "__doc__" 636 .none)] 2) #[]
noncomputable def o344 (p : Params) : Obj := .mk (y "type") none (.cls (ClassData.mk "BadRow" [(r 24)] [(r 353), (r 24), (y "ValueError"), (y "Exception"), (y "BaseException"), (y "object")] 352 "BadRow" true [] [] false none false)) #[(some (r 337)), none, (some (s "BadRow" 614)), (some (s "BadRow" 622)), (some (u "ValueError.__new__")), (some (.bool true))]
noncomputable def o345 (p : Params) : Obj := .mk (y "super") none (.fields #[(r 353), (r 353), (r 353)]) #[]
noncomputable def o346 (p : Params) : Obj := .mk (y "builtin_function_or_method") none (.fields #[(u "object.__init_subclass__"), (r 353)]) #[]
noncomputable def o347 (p : Params) : Obj := .mk (y "tuple") none (.seq #[(r 24)] 0) #[]
noncomputable def o348 (p : Params) : Obj := .mk (y "builtin_function_or_method") none (.fields #[(u "type.__prepare__"), (y "type")]) #[]
noncomputable def o349 (p : Params) : Obj := .mk (y "dict") none (.dict #[(e p "__module__" 646 (s "neverhalf.errors" 187)), (e p "__qualname__" 648 (s "BadField" 647)), (e p "__firstlineno__" 650 (n 72 649)), (e p "__init__" 658 (r 369)), (e p "__static_attributes__" 660 (r 370))] 5) #[]
noncomputable def o350 (p : Params) : Obj := .mk (y "tuple") none (.seq #[] 0) #[]
noncomputable def o351 (p : Params) : Obj := .mk .none none (.fields #[(n 74 0), (n 4 0), (r 368)]) #[]
noncomputable def o352 (p : Params) : Obj := .mk (y "code") none (.fields #[(s "BadField" 641), (s "BadField" 642), (s "/claim/cut.py" 643), (n 72 0), (n 0 0), (n 0 0), (n 0 0), (n 0 0), (r 359), (.bool false), (n 181 0), (r 360), .none, .none, .none, .none, (n 644 0), (n 72 0), (s "/claim/cut.py" 645)]) #[]
noncomputable def o353 (p : Params) : Obj := .mk (y "frame") none .plain #[(some (r 361)), (some (r 3)), (some (r 358)), none, (some (s "neverhalf.errors" 187)), none, (some (r 0))]
noncomputable def o354 (p : Params) : Obj := .mk (y "tuple") none (.seq #[] 0) #[]
noncomputable def o355 (p : Params) : Obj := .mk .none none (.fields #[]) #[]
noncomputable def o356 (p : Params) : Obj := .mk (y "tuple") none (.seq #[(s "self" 654), (s "field" 655)] 0) #[]
noncomputable def o357 (p : Params) : Obj := .mk (y "tuple") none (.seq #[] 0) #[]
noncomputable def o358 (p : Params) : Obj := .mk .none none (.func (fI 20 "BadField.__init__" 0 [] .none .none .none .none none .none .none 0)) #[]
noncomputable def o359 (p : Params) : Obj := .mk (y "code") none (.fields #[(s "__init__" 651), (s "BadField.__init__" 652), (s "/claim/cut.py" 653), (n 74 0), (n 2 0), (n 0 0), (n 0 0), (n 3 0), (r 363), (.bool true), (n 181 0), (r 364), .none, (r 365), (r 366), (r 367), (n 656 0), (n 74 0), (s "/claim/cut.py" 657)]) #[]
noncomputable def o360 (p : Params) : Obj := .mk (y "function") none (.func (fI 20 "BadField.__init__" 3 [] .none .none .none (s "neverhalf.errors" 187) none (r 368) .none 0)) #[]
noncomputable def o361 (p : Params) : Obj := .mk (y "tuple") none (.seq #[(s "field" 659)] 0) #[]
noncomputable def o362 (p : Params) : Obj := .mk (y "dict") none (.dict #[(e p "__module__" 646 (s "neverhalf.errors" 187)), (e p "__firstlineno__" 650 (n 72 649)), (e p "__init__" 658 (r 369)), (e p "__static_attributes__" 660 (r 370)), (e p "__doc__" 661 .none)] 2) #[]
noncomputable def o363 (p : Params) : Obj := .mk (y "type") none (.cls (ClassData.mk "BadField" [(r 24)] [(r 372), (r 24), (y "ValueError"), (y "Exception"), (y "BaseException"), (y "object")] 371 "BadField" true [] [] false none false)) #[(some (r 356)), none, (some (s "BadField" 639)), (some (s "BadField" 647)), (some (u "ValueError.__new__")), (some (.bool true))]
noncomputable def o364 (p : Params) : Obj := .mk (y "super") none (.fields #[(r 372), (r 372), (r 372)]) #[]
noncomputable def o365 (p : Params) : Obj := .mk (y "builtin_function_or_method") none (.fields #[(u "object.__init_subclass__"), (r 372)]) #[]
noncomputable def o366 (p : Params) : Obj := .mk (y "tuple") none (.seq #[(r 24)] 0) #[]
noncomputable def o367 (p : Params) : Obj := .mk (y "builtin_function_or_method") none (.fields #[(u "type.__prepare__"), (y "type")]) #[]
noncomputable def o368 (p : Params) : Obj := .mk (y "dict") none (.dict #[(e p "__module__" 671 (s "neverhalf.errors" 187)), (e p "__qualname__" 673 (s "BadLengths" 672)), (e p "__firstlineno__" 675 (n 76 674)), (e p "__init__" 683 (r 388)), (e p "__static_attributes__" 685 (r 389))] 5) #[]
noncomputable def o369 (p : Params) : Obj := .mk (y "tuple") none (.seq #[] 0) #[]
noncomputable def o370 (p : Params) : Obj := .mk .none none (.fields #[(n 78 0), (n 4 0), (r 387)]) #[]
noncomputable def o371 (p : Params) : Obj := .mk (y "code") none (.fields #[(s "BadLengths" 666), (s "BadLengths" 667), (s "/claim/cut.py" 668), (n 76 0), (n 0 0), (n 0 0), (n 0 0), (n 0 0), (r 378), (.bool false), (n 181 0), (r 379), .none, .none, .none, .none, (n 669 0), (n 76 0), (s "/claim/cut.py" 670)]) #[]
noncomputable def o372 (p : Params) : Obj := .mk (y "frame") none .plain #[(some (r 380)), (some (r 3)), (some (r 377)), none, (some (s "neverhalf.errors" 187)), none, (some (r 0))]
noncomputable def o373 (p : Params) : Obj := .mk (y "tuple") none (.seq #[] 0) #[]
noncomputable def o374 (p : Params) : Obj := .mk .none none (.fields #[]) #[]
noncomputable def o375 (p : Params) : Obj := .mk (y "tuple") none (.seq #[(s "self" 679), (s "lengths" 680)] 0) #[]
noncomputable def o376 (p : Params) : Obj := .mk (y "tuple") none (.seq #[] 0) #[]
noncomputable def o377 (p : Params) : Obj := .mk .none none (.func (fI 21 "BadLengths.__init__" 0 [] .none .none .none .none none .none .none 0)) #[]
noncomputable def o378 (p : Params) : Obj := .mk (y "code") none (.fields #[(s "__init__" 676), (s "BadLengths.__init__" 677), (s "/claim/cut.py" 678), (n 78 0), (n 2 0), (n 0 0), (n 0 0), (n 3 0), (r 382), (.bool true), (n 181 0), (r 383), .none, (r 384), (r 385), (r 386), (n 681 0), (n 78 0), (s "/claim/cut.py" 682)]) #[]
noncomputable def o379 (p : Params) : Obj := .mk (y "function") none (.func (fI 21 "BadLengths.__init__" 3 [] .none .none .none (s "neverhalf.errors" 187) none (r 387) .none 0)) #[]
noncomputable def o380 (p : Params) : Obj := .mk (y "tuple") none (.seq #[(s "lengths" 684)] 0) #[]
noncomputable def o381 (p : Params) : Obj := .mk (y "dict") none (.dict #[(e p "__module__" 671 (s "neverhalf.errors" 187)), (e p "__firstlineno__" 675 (n 76 674)), (e p "__init__" 683 (r 388)), (e p "__static_attributes__" 685 (r 389)), (e p "__doc__" 686 .none)] 2) #[]
noncomputable def o382 (p : Params) : Obj := .mk (y "type") none (.cls (ClassData.mk "BadLengths" [(r 24)] [(r 391), (r 24), (y "ValueError"), (y "Exception"), (y "BaseException"), (y "object")] 390 "BadLengths" true [] [] false none false)) #[(some (r 375)), none, (some (s "BadLengths" 664)), (some (s "BadLengths" 672)), (some (u "ValueError.__new__")), (some (.bool true))]
noncomputable def o383 (p : Params) : Obj := .mk (y "super") none (.fields #[(r 391), (r 391), (r 391)]) #[]
noncomputable def o384 (p : Params) : Obj := .mk (y "builtin_function_or_method") none (.fields #[(u "object.__init_subclass__"), (r 391)]) #[]
noncomputable def o385 (p : Params) : Obj := .mk (y "tuple") none (.seq #[(r 24)] 0) #[]
noncomputable def o386 (p : Params) : Obj := .mk (y "builtin_function_or_method") none (.fields #[(u "type.__prepare__"), (y "type")]) #[]
noncomputable def o387 (p : Params) : Obj := .mk (y "dict") none (.dict #[(e p "__module__" 696 (s "neverhalf.errors" 187)), (e p "__qualname__" 698 (s "BadCounts" 697)), (e p "__firstlineno__" 700 (n 80 699)), (e p "__init__" 708 (r 407)), (e p "__static_attributes__" 710 (r 408))] 5) #[]
noncomputable def o388 (p : Params) : Obj := .mk (y "tuple") none (.seq #[] 0) #[]
noncomputable def o389 (p : Params) : Obj := .mk .none none (.fields #[(n 82 0), (n 4 0), (r 406)]) #[]
noncomputable def o390 (p : Params) : Obj := .mk (y "code") none (.fields #[(s "BadCounts" 691), (s "BadCounts" 692), (s "/claim/cut.py" 693), (n 80 0), (n 0 0), (n 0 0), (n 0 0), (n 0 0), (r 397), (.bool false), (n 181 0), (r 398), .none, .none, .none, .none, (n 694 0), (n 80 0), (s "/claim/cut.py" 695)]) #[]
noncomputable def o391 (p : Params) : Obj := .mk (y "frame") none .plain #[(some (r 399)), (some (r 3)), (some (r 396)), none, (some (s "neverhalf.errors" 187)), none, (some (r 0))]
noncomputable def o392 (p : Params) : Obj := .mk (y "tuple") none (.seq #[] 0) #[]
noncomputable def o393 (p : Params) : Obj := .mk .none none (.fields #[]) #[]
noncomputable def o394 (p : Params) : Obj := .mk (y "tuple") none (.seq #[(s "self" 704), (s "counts" 705)] 0) #[]
noncomputable def o395 (p : Params) : Obj := .mk (y "tuple") none (.seq #[] 0) #[]
noncomputable def o396 (p : Params) : Obj := .mk .none none (.func (fI 22 "BadCounts.__init__" 0 [] .none .none .none .none none .none .none 0)) #[]
noncomputable def o397 (p : Params) : Obj := .mk (y "code") none (.fields #[(s "__init__" 701), (s "BadCounts.__init__" 702), (s "/claim/cut.py" 703), (n 82 0), (n 2 0), (n 0 0), (n 0 0), (n 3 0), (r 401), (.bool true), (n 181 0), (r 402), .none, (r 403), (r 404), (r 405), (n 706 0), (n 82 0), (s "/claim/cut.py" 707)]) #[]
noncomputable def o398 (p : Params) : Obj := .mk (y "function") none (.func (fI 22 "BadCounts.__init__" 3 [] .none .none .none (s "neverhalf.errors" 187) none (r 406) .none 0)) #[]
noncomputable def o399 (p : Params) : Obj := .mk (y "tuple") none (.seq #[(s "counts" 709)] 0) #[]
noncomputable def o400 (p : Params) : Obj := .mk (y "dict") none (.dict #[(e p "__module__" 696 (s "neverhalf.errors" 187)), (e p "__firstlineno__" 700 (n 80 699)), (e p "__init__" 708 (r 407)), (e p "__static_attributes__" 710 (r 408)), (e p "__doc__" 711 .none)] 2) #[]
noncomputable def o401 (p : Params) : Obj := .mk (y "type") none (.cls (ClassData.mk "BadCounts" [(r 24)] [(r 410), (r 24), (y "ValueError"), (y "Exception"), (y "BaseException"), (y "object")] 409 "BadCounts" true [] [] false none false)) #[(some (r 394)), none, (some (s "BadCounts" 689)), (some (s "BadCounts" 697)), (some (u "ValueError.__new__")), (some (.bool true))]
noncomputable def o402 (p : Params) : Obj := .mk (y "super") none (.fields #[(r 410), (r 410), (r 410)]) #[]
noncomputable def o403 (p : Params) : Obj := .mk (y "builtin_function_or_method") none (.fields #[(u "object.__init_subclass__"), (r 410)]) #[]
noncomputable def o404 (p : Params) : Obj := .mk (y "tuple") none (.seq #[(r 24)] 0) #[]
noncomputable def o405 (p : Params) : Obj := .mk (y "builtin_function_or_method") none (.fields #[(u "type.__prepare__"), (y "type")]) #[]
noncomputable def o406 (p : Params) : Obj := .mk (y "dict") none (.dict #[(e p "__module__" 721 (s "neverhalf.errors" 187)), (e p "__qualname__" 723 (s "BadMany" 722)), (e p "__firstlineno__" 725 (n 84 724)), (e p "__init__" 733 (r 426)), (e p "__static_attributes__" 735 (r 427))] 5) #[]
noncomputable def o407 (p : Params) : Obj := .mk (y "tuple") none (.seq #[] 0) #[]
noncomputable def o408 (p : Params) : Obj := .mk .none none (.fields #[(n 86 0), (n 4 0), (r 425)]) #[]
noncomputable def o409 (p : Params) : Obj := .mk (y "code") none (.fields #[(s "BadMany" 716), (s "BadMany" 717), (s "/claim/cut.py" 718), (n 84 0), (n 0 0), (n 0 0), (n 0 0), (n 0 0), (r 416), (.bool false), (n 181 0), (r 417), .none, .none, .none, .none, (n 719 0), (n 84 0), (s "/claim/cut.py" 720)]) #[]
noncomputable def o410 (p : Params) : Obj := .mk (y "frame") none .plain #[(some (r 418)), (some (r 3)), (some (r 415)), none, (some (s "neverhalf.errors" 187)), none, (some (r 0))]
noncomputable def o411 (p : Params) : Obj := .mk (y "tuple") none (.seq #[] 0) #[]
noncomputable def o412 (p : Params) : Obj := .mk .none none (.fields #[]) #[]
noncomputable def o413 (p : Params) : Obj := .mk (y "tuple") none (.seq #[(s "self" 729), (s "many" 730)] 0) #[]
noncomputable def o414 (p : Params) : Obj := .mk (y "tuple") none (.seq #[] 0) #[]
noncomputable def o415 (p : Params) : Obj := .mk .none none (.func (fI 23 "BadMany.__init__" 0 [] .none .none .none .none none .none .none 0)) #[]
noncomputable def o416 (p : Params) : Obj := .mk (y "code") none (.fields #[(s "__init__" 726), (s "BadMany.__init__" 727), (s "/claim/cut.py" 728), (n 86 0), (n 2 0), (n 0 0), (n 0 0), (n 3 0), (r 420), (.bool true), (n 181 0), (r 421), .none, (r 422), (r 423), (r 424), (n 731 0), (n 86 0), (s "/claim/cut.py" 732)]) #[]
noncomputable def o417 (p : Params) : Obj := .mk (y "function") none (.func (fI 23 "BadMany.__init__" 3 [] .none .none .none (s "neverhalf.errors" 187) none (r 425) .none 0)) #[]
noncomputable def o418 (p : Params) : Obj := .mk (y "tuple") none (.seq #[(s "many" 734)] 0) #[]
noncomputable def o419 (p : Params) : Obj := .mk (y "dict") none (.dict #[(e p "__module__" 721 (s "neverhalf.errors" 187)), (e p "__firstlineno__" 725 (n 84 724)), (e p "__init__" 733 (r 426)), (e p "__static_attributes__" 735 (r 427)), (e p "__doc__" 736 .none)] 2) #[]
noncomputable def o420 (p : Params) : Obj := .mk (y "type") none (.cls (ClassData.mk "BadMany" [(r 24)] [(r 429), (r 24), (y "ValueError"), (y "Exception"), (y "BaseException"), (y "object")] 428 "BadMany" true [] [] false none false)) #[(some (r 413)), none, (some (s "BadMany" 714)), (some (s "BadMany" 722)), (some (u "ValueError.__new__")), (some (.bool true))]
noncomputable def o421 (p : Params) : Obj := .mk (y "super") none (.fields #[(r 429), (r 429), (r 429)]) #[]
noncomputable def o422 (p : Params) : Obj := .mk (y "builtin_function_or_method") none (.fields #[(u "object.__init_subclass__"), (r 429)]) #[]
noncomputable def o423 (p : Params) : Obj := .mk (y "tuple") none (.seq #[(r 24)] 0) #[]
noncomputable def o424 (p : Params) : Obj := .mk (y "builtin_function_or_method") none (.fields #[(u "type.__prepare__"), (y "type")]) #[]
noncomputable def o425 (p : Params) : Obj := .mk (y "dict") none (.dict #[(e p "__module__" 746 (s "neverhalf.errors" 187)), (e p "__qualname__" 748 (s "BadKinds" 747)), (e p "__firstlineno__" 750 (n 88 749)), (e p "__init__" 758 (r 445)), (e p "__static_attributes__" 760 (r 446))] 5) #[]
noncomputable def o426 (p : Params) : Obj := .mk (y "tuple") none (.seq #[] 0) #[]
noncomputable def o427 (p : Params) : Obj := .mk .none none (.fields #[(n 90 0), (n 4 0), (r 444)]) #[]
noncomputable def o428 (p : Params) : Obj := .mk (y "code") none (.fields #[(s "BadKinds" 741), (s "BadKinds" 742), (s "/claim/cut.py" 743), (n 88 0), (n 0 0), (n 0 0), (n 0 0), (n 0 0), (r 435), (.bool false), (n 181 0), (r 436), .none, .none, .none, .none, (n 744 0), (n 88 0), (s "/claim/cut.py" 745)]) #[]
noncomputable def o429 (p : Params) : Obj := .mk (y "frame") none .plain #[(some (r 437)), (some (r 3)), (some (r 434)), none, (some (s "neverhalf.errors" 187)), none, (some (r 0))]
noncomputable def o430 (p : Params) : Obj := .mk (y "tuple") none (.seq #[] 0) #[]
noncomputable def o431 (p : Params) : Obj := .mk .none none (.fields #[]) #[]
noncomputable def o432 (p : Params) : Obj := .mk (y "tuple") none (.seq #[(s "self" 754), (s "kinds" 755)] 0) #[]
noncomputable def o433 (p : Params) : Obj := .mk (y "tuple") none (.seq #[] 0) #[]
noncomputable def o434 (p : Params) : Obj := .mk .none none (.func (fI 24 "BadKinds.__init__" 0 [] .none .none .none .none none .none .none 0)) #[]
noncomputable def o435 (p : Params) : Obj := .mk (y "code") none (.fields #[(s "__init__" 751), (s "BadKinds.__init__" 752), (s "/claim/cut.py" 753), (n 90 0), (n 2 0), (n 0 0), (n 0 0), (n 3 0), (r 439), (.bool true), (n 181 0), (r 440), .none, (r 441), (r 442), (r 443), (n 756 0), (n 90 0), (s "/claim/cut.py" 757)]) #[]
noncomputable def o436 (p : Params) : Obj := .mk (y "function") none (.func (fI 24 "BadKinds.__init__" 3 [] .none .none .none (s "neverhalf.errors" 187) none (r 444) .none 0)) #[]
noncomputable def o437 (p : Params) : Obj := .mk (y "tuple") none (.seq #[(s "kinds" 759)] 0) #[]
noncomputable def o438 (p : Params) : Obj := .mk (y "dict") none (.dict #[(e p "__module__" 746 (s "neverhalf.errors" 187)), (e p "__firstlineno__" 750 (n 88 749)), (e p "__init__" 758 (r 445)), (e p "__static_attributes__" 760 (r 446)), (e p "__doc__" 761 .none)] 2) #[]
noncomputable def o439 (p : Params) : Obj := .mk (y "type") none (.cls (ClassData.mk "BadKinds" [(r 24)] [(r 448), (r 24), (y "ValueError"), (y "Exception"), (y "BaseException"), (y "object")] 447 "BadKinds" true [] [] false none false)) #[(some (r 432)), none, (some (s "BadKinds" 739)), (some (s "BadKinds" 747)), (some (u "ValueError.__new__")), (some (.bool true))]
noncomputable def o440 (p : Params) : Obj := .mk (y "super") none (.fields #[(r 448), (r 448), (r 448)]) #[]
noncomputable def o441 (p : Params) : Obj := .mk (y "builtin_function_or_method") none (.fields #[(u "object.__init_subclass__"), (r 448)]) #[]
noncomputable def o442 (p : Params) : Obj := .mk (y "tuple") none (.seq #[(r 24)] 0) #[]
noncomputable def o443 (p : Params) : Obj := .mk (y "builtin_function_or_method") none (.fields #[(u "type.__prepare__"), (y "type")]) #[]
noncomputable def o444 (p : Params) : Obj := .mk (y "dict") none (.dict #[(e p "__module__" 771 (s "neverhalf.errors" 187)), (e p "__qualname__" 773 (s "BadClasses" 772)), (e p "__firstlineno__" 775 (n 92 774)), (e p "__init__" 783 (r 464)), (e p "__static_attributes__" 785 (r 465))] 5) #[]
noncomputable def o445 (p : Params) : Obj := .mk (y "tuple") none (.seq #[] 0) #[]
noncomputable def o446 (p : Params) : Obj := .mk .none none (.fields #[(n 94 0), (n 4 0), (r 463)]) #[]
noncomputable def o447 (p : Params) : Obj := .mk (y "code") none (.fields #[(s "BadClasses" 766), (s "BadClasses" 767), (s "/claim/cut.py" 768), (n 92 0), (n 0 0), (n 0 0), (n 0 0), (n 0 0), (r 454), (.bool false), (n 181 0), (r 455), .none, .none, .none, .none, (n 769 0), (n 92 0), (s "/claim/cut.py" 770)]) #[]
noncomputable def o448 (p : Params) : Obj := .mk (y "frame") none .plain #[(some (r 456)), (some (r 3)), (some (r 453)), none, (some (s "neverhalf.errors" 187)), none, (some (r 0))]
noncomputable def o449 (p : Params) : Obj := .mk (y "tuple") none (.seq #[] 0) #[]
noncomputable def o450 (p : Params) : Obj := .mk .none none (.fields #[]) #[]
noncomputable def o451 (p : Params) : Obj := .mk (y "tuple") none (.seq #[(s "self" 779), (s "classes" 780)] 0) #[]
noncomputable def o452 (p : Params) : Obj := .mk (y "tuple") none (.seq #[] 0) #[]
noncomputable def o453 (p : Params) : Obj := .mk .none none (.func (fI 25 "BadClasses.__init__" 0 [] .none .none .none .none none .none .none 0)) #[]
noncomputable def o454 (p : Params) : Obj := .mk (y "code") none (.fields #[(s "__init__" 776), (s "BadClasses.__init__" 777), (s "/claim/cut.py" 778), (n 94 0), (n 2 0), (n 0 0), (n 0 0), (n 3 0), (r 458), (.bool true), (n 181 0), (r 459), .none, (r 460), (r 461), (r 462), (n 781 0), (n 94 0), (s "/claim/cut.py" 782)]) #[]
noncomputable def o455 (p : Params) : Obj := .mk (y "function") none (.func (fI 25 "BadClasses.__init__" 3 [] .none .none .none (s "neverhalf.errors" 187) none (r 463) .none 0)) #[]
noncomputable def o456 (p : Params) : Obj := .mk (y "tuple") none (.seq #[(s "classes" 784)] 0) #[]
noncomputable def o457 (p : Params) : Obj := .mk (y "dict") none (.dict #[(e p "__module__" 771 (s "neverhalf.errors" 187)), (e p "__firstlineno__" 775 (n 92 774)), (e p "__init__" 783 (r 464)), (e p "__static_attributes__" 785 (r 465)), (e p "__doc__" 786 .none)] 2) #[]
noncomputable def o458 (p : Params) : Obj := .mk (y "type") none (.cls (ClassData.mk "BadClasses" [(r 24)] [(r 467), (r 24), (y "ValueError"), (y "Exception"), (y "BaseException"), (y "object")] 466 "BadClasses" true [] [] false none false)) #[(some (r 451)), none, (some (s "BadClasses" 764)), (some (s "BadClasses" 772)), (some (u "ValueError.__new__")), (some (.bool true))]
noncomputable def o459 (p : Params) : Obj := .mk (y "super") none (.fields #[(r 467), (r 467), (r 467)]) #[]
noncomputable def o460 (p : Params) : Obj := .mk (y "builtin_function_or_method") none (.fields #[(u "object.__init_subclass__"), (r 467)]) #[]
noncomputable def o461 (p : Params) : Obj := .mk (y "tuple") none (.seq #[(r 24)] 0) #[]
noncomputable def o462 (p : Params) : Obj := .mk (y "builtin_function_or_method") none (.fields #[(u "type.__prepare__"), (y "type")]) #[]
noncomputable def o463 (p : Params) : Obj := .mk (y "dict") none (.dict #[(e p "__module__" 796 (s "neverhalf.errors" 187)), (e p "__qualname__" 798 (s "BadBits" 797)), (e p "__firstlineno__" 800 (n 96 799)), (e p "__init__" 808 (r 483)), (e p "__static_attributes__" 810 (r 484))] 5) #[]
noncomputable def o464 (p : Params) : Obj := .mk (y "tuple") none (.seq #[] 0) #[]
noncomputable def o465 (p : Params) : Obj := .mk .none none (.fields #[(n 98 0), (n 4 0), (r 482)]) #[]
noncomputable def o466 (p : Params) : Obj := .mk (y "code") none (.fields #[(s "BadBits" 791), (s "BadBits" 792), (s "/claim/cut.py" 793), (n 96 0), (n 0 0), (n 0 0), (n 0 0), (n 0 0), (r 473), (.bool false), (n 181 0), (r 474), .none, .none, .none, .none, (n 794 0), (n 96 0), (s "/claim/cut.py" 795)]) #[]
noncomputable def o467 (p : Params) : Obj := .mk (y "frame") none .plain #[(some (r 475)), (some (r 3)), (some (r 472)), none, (some (s "neverhalf.errors" 187)), none, (some (r 0))]
noncomputable def o468 (p : Params) : Obj := .mk (y "tuple") none (.seq #[] 0) #[]
noncomputable def o469 (p : Params) : Obj := .mk .none none (.fields #[]) #[]
noncomputable def o470 (p : Params) : Obj := .mk (y "tuple") none (.seq #[(s "self" 804), (s "bits" 805)] 0) #[]
noncomputable def o471 (p : Params) : Obj := .mk (y "tuple") none (.seq #[] 0) #[]
noncomputable def o472 (p : Params) : Obj := .mk .none none (.func (fI 26 "BadBits.__init__" 0 [] .none .none .none .none none .none .none 0)) #[]
noncomputable def o473 (p : Params) : Obj := .mk (y "code") none (.fields #[(s "__init__" 801), (s "BadBits.__init__" 802), (s "/claim/cut.py" 803), (n 98 0), (n 2 0), (n 0 0), (n 0 0), (n 3 0), (r 477), (.bool true), (n 181 0), (r 478), .none, (r 479), (r 480), (r 481), (n 806 0), (n 98 0), (s "/claim/cut.py" 807)]) #[]
noncomputable def o474 (p : Params) : Obj := .mk (y "function") none (.func (fI 26 "BadBits.__init__" 3 [] .none .none .none (s "neverhalf.errors" 187) none (r 482) .none 0)) #[]
noncomputable def o475 (p : Params) : Obj := .mk (y "tuple") none (.seq #[(s "bits" 809)] 0) #[]
noncomputable def o476 (p : Params) : Obj := .mk (y "dict") none (.dict #[(e p "__module__" 796 (s "neverhalf.errors" 187)), (e p "__firstlineno__" 800 (n 96 799)), (e p "__init__" 808 (r 483)), (e p "__static_attributes__" 810 (r 484)), (e p "__doc__" 811 .none)] 2) #[]
noncomputable def o477 (p : Params) : Obj := .mk (y "type") none (.cls (ClassData.mk "BadBits" [(r 24)] [(r 486), (r 24), (y "ValueError"), (y "Exception"), (y "BaseException"), (y "object")] 485 "BadBits" true [] [] false none false)) #[(some (r 470)), none, (some (s "BadBits" 789)), (some (s "BadBits" 797)), (some (u "ValueError.__new__")), (some (.bool true))]
noncomputable def o478 (p : Params) : Obj := .mk (y "super") none (.fields #[(r 486), (r 486), (r 486)]) #[]
noncomputable def o479 (p : Params) : Obj := .mk (y "builtin_function_or_method") none (.fields #[(u "object.__init_subclass__"), (r 486)]) #[]
noncomputable def o480 (p : Params) : Obj := .mk (y "tuple") none (.seq #[(r 24)] 0) #[]
noncomputable def o481 (p : Params) : Obj := .mk (y "builtin_function_or_method") none (.fields #[(u "type.__prepare__"), (y "type")]) #[]
noncomputable def o482 (p : Params) : Obj := .mk (y "dict") none (.dict #[(e p "__module__" 821 (s "neverhalf.errors" 187)), (e p "__qualname__" 823 (s "BadWidth" 822)), (e p "__firstlineno__" 825 (n 100 824)), (e p "__init__" 833 (r 502)), (e p "__static_attributes__" 835 (r 503))] 5) #[]
noncomputable def o483 (p : Params) : Obj := .mk (y "tuple") none (.seq #[] 0) #[]
noncomputable def o484 (p : Params) : Obj := .mk .none none (.fields #[(n 102 0), (n 4 0), (r 501)]) #[]
noncomputable def o485 (p : Params) : Obj := .mk (y "code") none (.fields #[(s "BadWidth" 816), (s "BadWidth" 817), (s "/claim/cut.py" 818), (n 100 0), (n 0 0), (n 0 0), (n 0 0), (n 0 0), (r 492), (.bool false), (n 181 0), (r 493), .none, .none, .none, .none, (n 819 0), (n 100 0), (s "/claim/cut.py" 820)]) #[]
noncomputable def o486 (p : Params) : Obj := .mk (y "frame") none .plain #[(some (r 494)), (some (r 3)), (some (r 491)), none, (some (s "neverhalf.errors" 187)), none, (some (r 0))]
noncomputable def o487 (p : Params) : Obj := .mk (y "tuple") none (.seq #[] 0) #[]
noncomputable def o488 (p : Params) : Obj := .mk .none none (.fields #[]) #[]
noncomputable def o489 (p : Params) : Obj := .mk (y "tuple") none (.seq #[(s "self" 829), (s "width" 830)] 0) #[]
noncomputable def o490 (p : Params) : Obj := .mk (y "tuple") none (.seq #[] 0) #[]
noncomputable def o491 (p : Params) : Obj := .mk .none none (.func (fI 27 "BadWidth.__init__" 0 [] .none .none .none .none none .none .none 0)) #[]
noncomputable def o492 (p : Params) : Obj := .mk (y "code") none (.fields #[(s "__init__" 826), (s "BadWidth.__init__" 827), (s "/claim/cut.py" 828), (n 102 0), (n 2 0), (n 0 0), (n 0 0), (n 3 0), (r 496), (.bool true), (n 181 0), (r 497), .none, (r 498), (r 499), (r 500), (n 831 0), (n 102 0), (s "/claim/cut.py" 832)]) #[]
noncomputable def o493 (p : Params) : Obj := .mk (y "function") none (.func (fI 27 "BadWidth.__init__" 3 [] .none .none .none (s "neverhalf.errors" 187) none (r 501) .none 0)) #[]
noncomputable def o494 (p : Params) : Obj := .mk (y "tuple") none (.seq #[(s "width" 834)] 0) #[]
noncomputable def o495 (p : Params) : Obj := .mk (y "dict") none (.dict #[(e p "__module__" 821 (s "neverhalf.errors" 187)), (e p "__firstlineno__" 825 (n 100 824)), (e p "__init__" 833 (r 502)), (e p "__static_attributes__" 835 (r 503)), (e p "__doc__" 836 .none)] 2) #[]
noncomputable def o496 (p : Params) : Obj := .mk (y "type") none (.cls (ClassData.mk "BadWidth" [(r 24)] [(r 505), (r 24), (y "ValueError"), (y "Exception"), (y "BaseException"), (y "object")] 504 "BadWidth" true [] [] false none false)) #[(some (r 489)), none, (some (s "BadWidth" 814)), (some (s "BadWidth" 822)), (some (u "ValueError.__new__")), (some (.bool true))]
noncomputable def o497 (p : Params) : Obj := .mk (y "super") none (.fields #[(r 505), (r 505), (r 505)]) #[]
noncomputable def o498 (p : Params) : Obj := .mk (y "builtin_function_or_method") none (.fields #[(u "object.__init_subclass__"), (r 505)]) #[]
noncomputable def o499 (p : Params) : Obj := .mk (y "tuple") none (.seq #[(r 24)] 0) #[]
noncomputable def o500 (p : Params) : Obj := .mk (y "builtin_function_or_method") none (.fields #[(u "type.__prepare__"), (y "type")]) #[]
noncomputable def o501 (p : Params) : Obj := .mk (y "dict") none (.dict #[(e p "__module__" 846 (s "neverhalf.errors" 187)), (e p "__qualname__" 848 (s "BadWords" 847)), (e p "__firstlineno__" 850 (n 104 849)), (e p "__init__" 858 (r 521)), (e p "__static_attributes__" 860 (r 522))] 5) #[]
noncomputable def o502 (p : Params) : Obj := .mk (y "tuple") none (.seq #[] 0) #[]
noncomputable def o503 (p : Params) : Obj := .mk .none none (.fields #[(n 106 0), (n 4 0), (r 520)]) #[]
noncomputable def o504 (p : Params) : Obj := .mk (y "code") none (.fields #[(s "BadWords" 841), (s "BadWords" 842), (s "/claim/cut.py" 843), (n 104 0), (n 0 0), (n 0 0), (n 0 0), (n 0 0), (r 511), (.bool false), (n 181 0), (r 512), .none, .none, .none, .none, (n 844 0), (n 104 0), (s "/claim/cut.py" 845)]) #[]
noncomputable def o505 (p : Params) : Obj := .mk (y "frame") none .plain #[(some (r 513)), (some (r 3)), (some (r 510)), none, (some (s "neverhalf.errors" 187)), none, (some (r 0))]
noncomputable def o506 (p : Params) : Obj := .mk (y "tuple") none (.seq #[] 0) #[]
noncomputable def o507 (p : Params) : Obj := .mk .none none (.fields #[]) #[]
noncomputable def o508 (p : Params) : Obj := .mk (y "tuple") none (.seq #[(s "self" 854), (s "words" 855)] 0) #[]
noncomputable def o509 (p : Params) : Obj := .mk (y "tuple") none (.seq #[] 0) #[]
noncomputable def o510 (p : Params) : Obj := .mk .none none (.func (fI 28 "BadWords.__init__" 0 [] .none .none .none .none none .none .none 0)) #[]
noncomputable def o511 (p : Params) : Obj := .mk (y "code") none (.fields #[(s "__init__" 851), (s "BadWords.__init__" 852), (s "/claim/cut.py" 853), (n 106 0), (n 2 0), (n 0 0), (n 0 0), (n 3 0), (r 515), (.bool true), (n 181 0), (r 516), .none, (r 517), (r 518), (r 519), (n 856 0), (n 106 0), (s "/claim/cut.py" 857)]) #[]
noncomputable def o512 (p : Params) : Obj := .mk (y "function") none (.func (fI 28 "BadWords.__init__" 3 [] .none .none .none (s "neverhalf.errors" 187) none (r 520) .none 0)) #[]
noncomputable def o513 (p : Params) : Obj := .mk (y "tuple") none (.seq #[(s "words" 859)] 0) #[]
noncomputable def o514 (p : Params) : Obj := .mk (y "dict") none (.dict #[(e p "__module__" 846 (s "neverhalf.errors" 187)), (e p "__firstlineno__" 850 (n 104 849)), (e p "__init__" 858 (r 521)), (e p "__static_attributes__" 860 (r 522)), (e p "__doc__" 861 .none)] 2) #[]
noncomputable def o515 (p : Params) : Obj := .mk (y "type") none (.cls (ClassData.mk "BadWords" [(r 24)] [(r 524), (r 24), (y "ValueError"), (y "Exception"), (y "BaseException"), (y "object")] 523 "BadWords" true [] [] false none false)) #[(some (r 508)), none, (some (s "BadWords" 839)), (some (s "BadWords" 847)), (some (u "ValueError.__new__")), (some (.bool true))]
noncomputable def o516 (p : Params) : Obj := .mk (y "super") none (.fields #[(r 524), (r 524), (r 524)]) #[]
noncomputable def o517 (p : Params) : Obj := .mk (y "builtin_function_or_method") none (.fields #[(u "object.__init_subclass__"), (r 524)]) #[]
noncomputable def o518 (p : Params) : Obj := .mk (y "tuple") none (.seq #[(r 24)] 0) #[]
noncomputable def o519 (p : Params) : Obj := .mk (y "builtin_function_or_method") none (.fields #[(u "type.__prepare__"), (y "type")]) #[]
noncomputable def o520 (p : Params) : Obj := .mk (y "dict") none (.dict #[(e p "__module__" 871 (s "neverhalf.errors" 187)), (e p "__qualname__" 873 (s "BadVersion" 872)), (e p "__firstlineno__" 875 (n 108 874)), (e p "__init__" 883 (r 540)), (e p "__static_attributes__" 885 (r 541))] 5) #[]
noncomputable def o521 (p : Params) : Obj := .mk (y "tuple") none (.seq #[] 0) #[]
noncomputable def o522 (p : Params) : Obj := .mk .none none (.fields #[(n 110 0), (n 4 0), (r 539)]) #[]
noncomputable def o523 (p : Params) : Obj := .mk (y "code") none (.fields #[(s "BadVersion" 866), (s "BadVersion" 867), (s "/claim/cut.py" 868), (n 108 0), (n 0 0), (n 0 0), (n 0 0), (n 0 0), (r 530), (.bool false), (n 181 0), (r 531), .none, .none, .none, .none, (n 869 0), (n 108 0), (s "/claim/cut.py" 870)]) #[]
noncomputable def o524 (p : Params) : Obj := .mk (y "frame") none .plain #[(some (r 532)), (some (r 3)), (some (r 529)), none, (some (s "neverhalf.errors" 187)), none, (some (r 0))]
noncomputable def o525 (p : Params) : Obj := .mk (y "tuple") none (.seq #[] 0) #[]
noncomputable def o526 (p : Params) : Obj := .mk .none none (.fields #[]) #[]
noncomputable def o527 (p : Params) : Obj := .mk (y "tuple") none (.seq #[(s "self" 879), (s "version" 880)] 0) #[]
noncomputable def o528 (p : Params) : Obj := .mk (y "tuple") none (.seq #[] 0) #[]
noncomputable def o529 (p : Params) : Obj := .mk .none none (.func (fI 29 "BadVersion.__init__" 0 [] .none .none .none .none none .none .none 0)) #[]
noncomputable def o530 (p : Params) : Obj := .mk (y "code") none (.fields #[(s "__init__" 876), (s "BadVersion.__init__" 877), (s "/claim/cut.py" 878), (n 110 0), (n 2 0), (n 0 0), (n 0 0), (n 3 0), (r 534), (.bool true), (n 181 0), (r 535), .none, (r 536), (r 537), (r 538), (n 881 0), (n 110 0), (s "/claim/cut.py" 882)]) #[]
noncomputable def o531 (p : Params) : Obj := .mk (y "function") none (.func (fI 29 "BadVersion.__init__" 3 [] .none .none .none (s "neverhalf.errors" 187) none (r 539) .none 0)) #[]
noncomputable def o532 (p : Params) : Obj := .mk (y "tuple") none (.seq #[(s "version" 884)] 0) #[]
noncomputable def o533 (p : Params) : Obj := .mk (y "dict") none (.dict #[(e p "__module__" 871 (s "neverhalf.errors" 187)), (e p "__firstlineno__" 875 (n 108 874)), (e p "__init__" 883 (r 540)), (e p "__static_attributes__" 885 (r 541)), (e p "__doc__" 886 .none)] 2) #[]
noncomputable def o534 (p : Params) : Obj := .mk (y "type") none (.cls (ClassData.mk "BadVersion" [(r 24)] [(r 543), (r 24), (y "ValueError"), (y "Exception"), (y "BaseException"), (y "object")] 542 "BadVersion" true [] [] false none false)) #[(some (r 527)), none, (some (s "BadVersion" 864)), (some (s "BadVersion" 872)), (some (u "ValueError.__new__")), (some (.bool true))]
noncomputable def o535 (p : Params) : Obj := .mk (y "super") none (.fields #[(r 543), (r 543), (r 543)]) #[]
noncomputable def o536 (p : Params) : Obj := .mk (y "builtin_function_or_method") none (.fields #[(u "object.__init_subclass__"), (r 543)]) #[]
noncomputable def o537 (p : Params) : Obj := .mk (y "tuple") none (.seq #[(r 24)] 0) #[]
noncomputable def o538 (p : Params) : Obj := .mk (y "builtin_function_or_method") none (.fields #[(u "type.__prepare__"), (y "type")]) #[]
noncomputable def o539 (p : Params) : Obj := .mk (y "dict") none (.dict #[(e p "__module__" 896 (s "neverhalf.errors" 187)), (e p "__qualname__" 898 (s "BadImage" 897)), (e p "__firstlineno__" 900 (n 112 899)), (e p "__init__" 908 (r 559)), (e p "__static_attributes__" 910 (r 560))] 5) #[]
noncomputable def o540 (p : Params) : Obj := .mk (y "tuple") none (.seq #[] 0) #[]
noncomputable def o541 (p : Params) : Obj := .mk .none none (.fields #[(n 114 0), (n 4 0), (r 558)]) #[]
noncomputable def o542 (p : Params) : Obj := .mk (y "code") none (.fields #[(s "BadImage" 891), (s "BadImage" 892), (s "/claim/cut.py" 893), (n 112 0), (n 0 0), (n 0 0), (n 0 0), (n 0 0), (r 549), (.bool false), (n 181 0), (r 550), .none, .none, .none, .none, (n 894 0), (n 112 0), (s "/claim/cut.py" 895)]) #[]
noncomputable def o543 (p : Params) : Obj := .mk (y "frame") none .plain #[(some (r 551)), (some (r 3)), (some (r 548)), none, (some (s "neverhalf.errors" 187)), none, (some (r 0))]
noncomputable def o544 (p : Params) : Obj := .mk (y "tuple") none (.seq #[] 0) #[]
noncomputable def o545 (p : Params) : Obj := .mk .none none (.fields #[]) #[]
noncomputable def o546 (p : Params) : Obj := .mk (y "tuple") none (.seq #[(s "self" 904), (s "image" 905)] 0) #[]
noncomputable def o547 (p : Params) : Obj := .mk (y "tuple") none (.seq #[] 0) #[]
noncomputable def o548 (p : Params) : Obj := .mk .none none (.func (fI 30 "BadImage.__init__" 0 [] .none .none .none .none none .none .none 0)) #[]
noncomputable def o549 (p : Params) : Obj := .mk (y "code") none (.fields #[(s "__init__" 901), (s "BadImage.__init__" 902), (s "/claim/cut.py" 903), (n 114 0), (n 2 0), (n 0 0), (n 0 0), (n 3 0), (r 553), (.bool true), (n 181 0), (r 554), .none, (r 555), (r 556), (r 557), (n 906 0), (n 114 0), (s "/claim/cut.py" 907)]) #[]
noncomputable def o550 (p : Params) : Obj := .mk (y "function") none (.func (fI 30 "BadImage.__init__" 3 [] .none .none .none (s "neverhalf.errors" 187) none (r 558) .none 0)) #[]
noncomputable def o551 (p : Params) : Obj := .mk (y "tuple") none (.seq #[(s "image" 909)] 0) #[]
noncomputable def o552 (p : Params) : Obj := .mk (y "dict") none (.dict #[(e p "__module__" 896 (s "neverhalf.errors" 187)), (e p "__firstlineno__" 900 (n 112 899)), (e p "__init__" 908 (r 559)), (e p "__static_attributes__" 910 (r 560)), (e p "__doc__" 911 .none)] 2) #[]
noncomputable def o553 (p : Params) : Obj := .mk (y "type") none (.cls (ClassData.mk "BadImage" [(r 24)] [(r 562), (r 24), (y "ValueError"), (y "Exception"), (y "BaseException"), (y "object")] 561 "BadImage" true [] [] false none false)) #[(some (r 546)), none, (some (s "BadImage" 889)), (some (s "BadImage" 897)), (some (u "ValueError.__new__")), (some (.bool true))]
noncomputable def o554 (p : Params) : Obj := .mk (y "super") none (.fields #[(r 562), (r 562), (r 562)]) #[]
noncomputable def o555 (p : Params) : Obj := .mk (y "builtin_function_or_method") none (.fields #[(u "object.__init_subclass__"), (r 562)]) #[]
noncomputable def o556 (p : Params) : Obj := .mk (y "tuple") none (.seq #[(r 24)] 0) #[]
noncomputable def o557 (p : Params) : Obj := .mk (y "builtin_function_or_method") none (.fields #[(u "type.__prepare__"), (y "type")]) #[]
noncomputable def o558 (p : Params) : Obj := .mk (y "dict") none (.dict #[(e p "__module__" 921 (s "neverhalf.errors" 187)), (e p "__qualname__" 923 (s "BadOne" 922)), (e p "__firstlineno__" 925 (n 116 924)), (e p "__init__" 933 (r 578)), (e p "__static_attributes__" 935 (r 579))] 5) #[]
noncomputable def o559 (p : Params) : Obj := .mk (y "tuple") none (.seq #[] 0) #[]
noncomputable def o560 (p : Params) : Obj := .mk .none none (.fields #[(n 118 0), (n 4 0), (r 577)]) #[]
noncomputable def o561 (p : Params) : Obj := .mk (y "code") none (.fields #[(s "BadOne" 916), (s "BadOne" 917), (s "/claim/cut.py" 918), (n 116 0), (n 0 0), (n 0 0), (n 0 0), (n 0 0), (r 568), (.bool false), (n 181 0), (r 569), .none, .none, .none, .none, (n 919 0), (n 116 0), (s "/claim/cut.py" 920)]) #[]
noncomputable def o562 (p : Params) : Obj := .mk (y "frame") none .plain #[(some (r 570)), (some (r 3)), (some (r 567)), none, (some (s "neverhalf.errors" 187)), none, (some (r 0))]
noncomputable def o563 (p : Params) : Obj := .mk (y "tuple") none (.seq #[] 0) #[]
noncomputable def o564 (p : Params) : Obj := .mk .none none (.fields #[]) #[]
noncomputable def o565 (p : Params) : Obj := .mk (y "tuple") none (.seq #[(s "self" 929), (s "one" 930)] 0) #[]
noncomputable def o566 (p : Params) : Obj := .mk (y "tuple") none (.seq #[] 0) #[]
noncomputable def o567 (p : Params) : Obj := .mk .none none (.func (fI 31 "BadOne.__init__" 0 [] .none .none .none .none none .none .none 0)) #[]
noncomputable def o568 (p : Params) : Obj := .mk (y "code") none (.fields #[(s "__init__" 926), (s "BadOne.__init__" 927), (s "/claim/cut.py" 928), (n 118 0), (n 2 0), (n 0 0), (n 0 0), (n 3 0), (r 572), (.bool true), (n 181 0), (r 573), .none, (r 574), (r 575), (r 576), (n 931 0), (n 118 0), (s "/claim/cut.py" 932)]) #[]
noncomputable def o569 (p : Params) : Obj := .mk (y "function") none (.func (fI 31 "BadOne.__init__" 3 [] .none .none .none (s "neverhalf.errors" 187) none (r 577) .none 0)) #[]
noncomputable def o570 (p : Params) : Obj := .mk (y "tuple") none (.seq #[(s "one" 934)] 0) #[]
noncomputable def o571 (p : Params) : Obj := .mk (y "dict") none (.dict #[(e p "__module__" 921 (s "neverhalf.errors" 187)), (e p "__firstlineno__" 925 (n 116 924)), (e p "__init__" 933 (r 578)), (e p "__static_attributes__" 935 (r 579)), (e p "__doc__" 936 .none)] 2) #[]
noncomputable def o572 (p : Params) : Obj := .mk (y "type") none (.cls (ClassData.mk "BadOne" [(r 24)] [(r 581), (r 24), (y "ValueError"), (y "Exception"), (y "BaseException"), (y "object")] 580 "BadOne" true [] [] false none false)) #[(some (r 565)), none, (some (s "BadOne" 914)), (some (s "BadOne" 922)), (some (u "ValueError.__new__")), (some (.bool true))]
noncomputable def o573 (p : Params) : Obj := .mk (y "super") none (.fields #[(r 581), (r 581), (r 581)]) #[]
noncomputable def o574 (p : Params) : Obj := .mk (y "builtin_function_or_method") none (.fields #[(u "object.__init_subclass__"), (r 581)]) #[]
noncomputable def o575 (p : Params) : Obj := .mk (y "tuple") none (.seq #[(r 24)] 0) #[]
noncomputable def o576 (p : Params) : Obj := .mk (y "builtin_function_or_method") none (.fields #[(u "type.__prepare__"), (y "type")]) #[]
noncomputable def o577 (p : Params) : Obj := .mk (y "dict") none (.dict #[(e p "__module__" 946 (s "neverhalf.errors" 187)), (e p "__qualname__" 948 (s "BadOther" 947)), (e p "__firstlineno__" 950 (n 120 949)), (e p "__init__" 958 (r 597)), (e p "__static_attributes__" 960 (r 598))] 5) #[]
noncomputable def o578 (p : Params) : Obj := .mk (y "tuple") none (.seq #[] 0) #[]
noncomputable def o579 (p : Params) : Obj := .mk .none none (.fields #[(n 122 0), (n 4 0), (r 596)]) #[]
noncomputable def o580 (p : Params) : Obj := .mk (y "code") none (.fields #[(s "BadOther" 941), (s "BadOther" 942), (s "/claim/cut.py" 943), (n 120 0), (n 0 0), (n 0 0), (n 0 0), (n 0 0), (r 587), (.bool false), (n 181 0), (r 588), .none, .none, .none, .none, (n 944 0), (n 120 0), (s "/claim/cut.py" 945)]) #[]
noncomputable def o581 (p : Params) : Obj := .mk (y "frame") none .plain #[(some (r 589)), (some (r 3)), (some (r 586)), none, (some (s "neverhalf.errors" 187)), none, (some (r 0))]
noncomputable def o582 (p : Params) : Obj := .mk (y "tuple") none (.seq #[] 0) #[]
noncomputable def o583 (p : Params) : Obj := .mk .none none (.fields #[]) #[]
noncomputable def o584 (p : Params) : Obj := .mk (y "tuple") none (.seq #[(s "self" 954), (s "other" 955)] 0) #[]
noncomputable def o585 (p : Params) : Obj := .mk (y "tuple") none (.seq #[] 0) #[]
noncomputable def o586 (p : Params) : Obj := .mk .none none (.func (fI 32 "BadOther.__init__" 0 [] .none .none .none .none none .none .none 0)) #[]
noncomputable def o587 (p : Params) : Obj := .mk (y "code") none (.fields #[(s "__init__" 951), (s "BadOther.__init__" 952), (s "/claim/cut.py" 953), (n 122 0), (n 2 0), (n 0 0), (n 0 0), (n 3 0), (r 591), (.bool true), (n 181 0), (r 592), .none, (r 593), (r 594), (r 595), (n 956 0), (n 122 0), (s "/claim/cut.py" 957)]) #[]
noncomputable def o588 (p : Params) : Obj := .mk (y "function") none (.func (fI 32 "BadOther.__init__" 3 [] .none .none .none (s "neverhalf.errors" 187) none (r 596) .none 0)) #[]
noncomputable def o589 (p : Params) : Obj := .mk (y "tuple") none (.seq #[(s "other" 959)] 0) #[]
noncomputable def o590 (p : Params) : Obj := .mk (y "dict") none (.dict #[(e p "__module__" 946 (s "neverhalf.errors" 187)), (e p "__firstlineno__" 950 (n 120 949)), (e p "__init__" 958 (r 597)), (e p "__static_attributes__" 960 (r 598)), (e p "__doc__" 961 .none)] 2) #[]
noncomputable def o591 (p : Params) : Obj := .mk (y "type") none (.cls (ClassData.mk "BadOther" [(r 24)] [(r 600), (r 24), (y "ValueError"), (y "Exception"), (y "BaseException"), (y "object")] 599 "BadOther" true [] [] false none false)) #[(some (r 584)), none, (some (s "BadOther" 939)), (some (s "BadOther" 947)), (some (u "ValueError.__new__")), (some (.bool true))]
noncomputable def o592 (p : Params) : Obj := .mk (y "super") none (.fields #[(r 600), (r 600), (r 600)]) #[]
noncomputable def o593 (p : Params) : Obj := .mk (y "builtin_function_or_method") none (.fields #[(u "object.__init_subclass__"), (r 600)]) #[]
noncomputable def o594 (p : Params) : Obj := .mk (y "tuple") none (.seq #[(r 24)] 0) #[]
noncomputable def o595 (p : Params) : Obj := .mk (y "builtin_function_or_method") none (.fields #[(u "type.__prepare__"), (y "type")]) #[]
noncomputable def o596 (p : Params) : Obj := .mk (y "dict") none (.dict #[(e p "__module__" 971 (s "neverhalf.errors" 187)), (e p "__qualname__" 973 (s "TooLong" 972)), (e p "__firstlineno__" 975 (n 124 974)), (e p "__static_attributes__" 976 (r 610))] 4) #[]
noncomputable def o597 (p : Params) : Obj := .mk (y "tuple") none (.seq #[] 0) #[]
noncomputable def o598 (p : Params) : Obj := .mk .none none (.fields #[]) #[]
noncomputable def o599 (p : Params) : Obj := .mk (y "code") none (.fields #[(s "TooLong" 966), (s "TooLong" 967), (s "/claim/cut.py" 968), (n 124 0), (n 0 0), (n 0 0), (n 0 0), (n 0 0), (r 606), (.bool false), (n 181 0), (r 607), .none, .none, .none, .none, (n 969 0), (n 124 0), (s "/claim/cut.py" 970)]) #[]
noncomputable def o600 (p : Params) : Obj := .mk (y "frame") none .plain #[(some (r 608)), (some (r 3)), (some (r 605)), none, (some (s "neverhalf.errors" 187)), none, (some (r 0))]
noncomputable def o601 (p : Params) : Obj := .mk (y "tuple") none (.seq #[] 0) #[]
noncomputable def o602 (p : Params) : Obj := .mk (y "dict") none (.dict #[(e p "__module__" 971 (s "neverhalf.errors" 187)), (e p "__firstlineno__" 975 (n 124 974)), (e p "__static_attributes__" 976 (r 610)), (e p "__doc__" 977 .none)] 2) #[]
noncomputable def o603 (p : Params) : Obj := .mk (y "type") none (.cls (ClassData.mk "TooLong" [(r 24)] [(r 612), (r 24), (y "ValueError"), (y "Exception"), (y "BaseException"), (y "object")] 611 "TooLong" true [] [] false none false)) #[(some (r 603)), none, (some (s "TooLong" 964)), (some (s "TooLong" 972)), (some (u "ValueError.__new__")), (some (.bool true))]
noncomputable def o604 (p : Params) : Obj := .mk (y "super") none (.fields #[(r 612), (r 612), (r 612)]) #[]
noncomputable def o605 (p : Params) : Obj := .mk (y "builtin_function_or_method") none (.fields #[(u "object.__init_subclass__"), (r 612)]) #[]
noncomputable def o606 (p : Params) : Obj := .mk (y "tuple") none (.seq #[(r 24)] 0) #[]
noncomputable def o607 (p : Params) : Obj := .mk (y "builtin_function_or_method") none (.fields #[(u "type.__prepare__"), (y "type")]) #[]
noncomputable def o608 (p : Params) : Obj := .mk (y "dict") none (.dict #[(e p "__module__" 987 (s "neverhalf.errors" 187)), (e p "__qualname__" 989 (s "NotCode" 988)), (e p "__firstlineno__" 991 (n 126 990)), (e p "__init__" 999 (r 628)), (e p "__static_attributes__" 1001 (r 629))] 5) #[]
noncomputable def o609 (p : Params) : Obj := .mk (y "tuple") none (.seq #[] 0) #[]
noncomputable def o610 (p : Params) : Obj := .mk .none none (.fields #[(n 128 0), (n 4 0), (r 627)]) #[]
noncomputable def o611 (p : Params) : Obj := .mk (y "code") none (.fields #[(s "NotCode" 982), (s "NotCode" 983), (s "/claim/cut.py" 984), (n 126 0), (n 0 0), (n 0 0), (n 0 0), (n 0 0), (r 618), (.bool false), (n 181 0), (r 619), .none, .none, .none, .none, (n 985 0), (n 126 0), (s "/claim/cut.py" 986)]) #[]
noncomputable def o612 (p : Params) : Obj := .mk (y "frame") none .plain #[(some (r 620)), (some (r 3)), (some (r 617)), none, (some (s "neverhalf.errors" 187)), none, (some (r 0))]
noncomputable def o613 (p : Params) : Obj := .mk (y "tuple") none (.seq #[] 0) #[]
noncomputable def o614 (p : Params) : Obj := .mk .none none (.fields #[]) #[]
noncomputable def o615 (p : Params) : Obj := .mk (y "tuple") none (.seq #[(s "self" 995), (s "why" 996)] 0) #[]
noncomputable def o616 (p : Params) : Obj := .mk (y "tuple") none (.seq #[] 0) #[]
noncomputable def o617 (p : Params) : Obj := .mk .none none (.func (fI 34 "NotCode.__init__" 0 [] .none .none .none .none none .none .none 0)) #[]
noncomputable def o618 (p : Params) : Obj := .mk (y "code") none (.fields #[(s "__init__" 992), (s "NotCode.__init__" 993), (s "/claim/cut.py" 994), (n 128 0), (n 2 0), (n 0 0), (n 0 0), (n 3 0), (r 622), (.bool true), (n 181 0), (r 623), .none, (r 624), (r 625), (r 626), (n 997 0), (n 128 0), (s "/claim/cut.py" 998)]) #[]
noncomputable def o619 (p : Params) : Obj := .mk (y "function") none (.func (fI 34 "NotCode.__init__" 3 [] .none .none .none (s "neverhalf.errors" 187) none (r 627) .none 0)) #[]
noncomputable def o620 (p : Params) : Obj := .mk (y "tuple") none (.seq #[(s "why" 1000)] 0) #[]
noncomputable def o621 (p : Params) : Obj := .mk (y "dict") none (.dict #[(e p "__module__" 987 (s "neverhalf.errors" 187)), (e p "__firstlineno__" 991 (n 126 990)), (e p "__init__" 999 (r 628)), (e p "__static_attributes__" 1001 (r 629)), (e p "__doc__" 1002 .none)] 2) #[]
noncomputable def o622 (p : Params) : Obj := .mk (y "type") none (.cls (ClassData.mk "NotCode" [(r 24)] [(r 631), (r 24), (y "ValueError"), (y "Exception"), (y "BaseException"), (y "object")] 630 "NotCode" true [] [] false none false)) #[(some (r 615)), none, (some (s "NotCode" 980)), (some (s "NotCode" 988)), (some (u "ValueError.__new__")), (some (.bool true))]
noncomputable def o623 (p : Params) : Obj := .mk (y "super") none (.fields #[(r 631), (r 631), (r 631)]) #[]
noncomputable def o624 (p : Params) : Obj := .mk (y "builtin_function_or_method") none (.fields #[(u "object.__init_subclass__"), (r 631)]) #[]
noncomputable def o625 (p : Params) : Obj := .mk (y "tuple") none (.seq #[(r 24)] 0) #[]
noncomputable def o626 (p : Params) : Obj := .mk (y "builtin_function_or_method") none (.fields #[(u "type.__prepare__"), (y "type")]) #[]
noncomputable def o627 (p : Params) : Obj := .mk (y "dict") none (.dict #[(e p "__module__" 1012 (s "neverhalf.errors" 187)), (e p "__qualname__" 1014 (s "BadBase" 1013)), (e p "__firstlineno__" 1016 (n 130 1015)), (e p "__init__" 1024 (r 647)), (e p "__static_attributes__" 1026 (r 648))] 5) #[]
noncomputable def o628 (p : Params) : Obj := .mk (y "tuple") none (.seq #[] 0) #[]
noncomputable def o629 (p : Params) : Obj := .mk .none none (.fields #[(n 132 0), (n 4 0), (r 646)]) #[]
noncomputable def o630 (p : Params) : Obj := .mk (y "code") none (.fields #[(s "BadBase" 1007), (s "BadBase" 1008), (s "/claim/cut.py" 1009), (n 130 0), (n 0 0), (n 0 0), (n 0 0), (n 0 0), (r 637), (.bool false), (n 181 0), (r 638), .none, .none, .none, .none, (n 1010 0), (n 130 0), (s "/claim/cut.py" 1011)]) #[]
noncomputable def o631 (p : Params) : Obj := .mk (y "frame") none .plain #[(some (r 639)), (some (r 3)), (some (r 636)), none, (some (s "neverhalf.errors" 187)), none, (some (r 0))]
noncomputable def o632 (p : Params) : Obj := .mk (y "tuple") none (.seq #[] 0) #[]
noncomputable def o633 (p : Params) : Obj := .mk .none none (.fields #[]) #[]
noncomputable def o634 (p : Params) : Obj := .mk (y "tuple") none (.seq #[(s "self" 1020), (s "base" 1021)] 0) #[]
noncomputable def o635 (p : Params) : Obj := .mk (y "tuple") none (.seq #[] 0) #[]
noncomputable def o636 (p : Params) : Obj := .mk .none none (.func (fI 35 "BadBase.__init__" 0 [] .none .none .none .none none .none .none 0)) #[]
noncomputable def o637 (p : Params) : Obj := .mk (y "code") none (.fields #[(s "__init__" 1017), (s "BadBase.__init__" 1018), (s "/claim/cut.py" 1019), (n 132 0), (n 2 0), (n 0 0), (n 0 0), (n 3 0), (r 641), (.bool true), (n 181 0), (r 642), .none, (r 643), (r 644), (r 645), (n 1022 0), (n 132 0), (s "/claim/cut.py" 1023)]) #[]
noncomputable def o638 (p : Params) : Obj := .mk (y "function") none (.func (fI 35 "BadBase.__init__" 3 [] .none .none .none (s "neverhalf.errors" 187) none (r 646) .none 0)) #[]
noncomputable def o639 (p : Params) : Obj := .mk (y "tuple") none (.seq #[(s "base" 1025)] 0) #[]
noncomputable def o640 (p : Params) : Obj := .mk (y "dict") none (.dict #[(e p "__module__" 1012 (s "neverhalf.errors" 187)), (e p "__firstlineno__" 1016 (n 130 1015)), (e p "__init__" 1024 (r 647)), (e p "__static_attributes__" 1026 (r 648)), (e p "__doc__" 1027 .none)] 2) #[]
noncomputable def o641 (p : Params) : Obj := .mk (y "type") none (.cls (ClassData.mk "BadBase" [(r 24)] [(r 650), (r 24), (y "ValueError"), (y "Exception"), (y "BaseException"), (y "object")] 649 "BadBase" true [] [] false none false)) #[(some (r 634)), none, (some (s "BadBase" 1005)), (some (s "BadBase" 1013)), (some (u "ValueError.__new__")), (some (.bool true))]
noncomputable def o642 (p : Params) : Obj := .mk (y "super") none (.fields #[(r 650), (r 650), (r 650)]) #[]
noncomputable def o643 (p : Params) : Obj := .mk (y "builtin_function_or_method") none (.fields #[(u "object.__init_subclass__"), (r 650)]) #[]
noncomputable def o644 (p : Params) : Obj := .mk (y "tuple") none (.seq #[(r 24)] 0) #[]
noncomputable def o645 (p : Params) : Obj := .mk (y "builtin_function_or_method") none (.fields #[(u "type.__prepare__"), (y "type")]) #[]
noncomputable def o646 (p : Params) : Obj := .mk (y "dict") none (.dict #[(e p "__module__" 1037 (s "neverhalf.errors" 187)), (e p "__qualname__" 1039 (s "BadPatch" 1038)), (e p "__firstlineno__" 1041 (n 134 1040)), (e p "__init__" 1049 (r 666)), (e p "__static_attributes__" 1051 (r 667))] 5) #[]
noncomputable def o647 (p : Params) : Obj := .mk (y "tuple") none (.seq #[] 0) #[]
noncomputable def o648 (p : Params) : Obj := .mk .none none (.fields #[(n 136 0), (n 4 0), (r 665)]) #[]
noncomputable def o649 (p : Params) : Obj := .mk (y "code") none (.fields #[(s "BadPatch" 1032), (s "BadPatch" 1033), (s "/claim/cut.py" 1034), (n 134 0), (n 0 0), (n 0 0), (n 0 0), (n 0 0), (r 656), (.bool false), (n 181 0), (r 657), .none, .none, .none, .none, (n 1035 0), (n 134 0), (s "/claim/cut.py" 1036)]) #[]
noncomputable def o650 (p : Params) : Obj := .mk (y "frame") none .plain #[(some (r 658)), (some (r 3)), (some (r 655)), none, (some (s "neverhalf.errors" 187)), none, (some (r 0))]
noncomputable def o651 (p : Params) : Obj := .mk (y "tuple") none (.seq #[] 0) #[]
noncomputable def o652 (p : Params) : Obj := .mk .none none (.fields #[]) #[]
noncomputable def o653 (p : Params) : Obj := .mk (y "tuple") none (.seq #[(s "self" 1045), (s "patch" 1046)] 0) #[]
noncomputable def o654 (p : Params) : Obj := .mk (y "tuple") none (.seq #[] 0) #[]
noncomputable def o655 (p : Params) : Obj := .mk .none none (.func (fI 36 "BadPatch.__init__" 0 [] .none .none .none .none none .none .none 0)) #[]
noncomputable def o656 (p : Params) : Obj := .mk (y "code") none (.fields #[(s "__init__" 1042), (s "BadPatch.__init__" 1043), (s "/claim/cut.py" 1044), (n 136 0), (n 2 0), (n 0 0), (n 0 0), (n 3 0), (r 660), (.bool true), (n 181 0), (r 661), .none, (r 662), (r 663), (r 664), (n 1047 0), (n 136 0), (s "/claim/cut.py" 1048)]) #[]
noncomputable def o657 (p : Params) : Obj := .mk (y "function") none (.func (fI 36 "BadPatch.__init__" 3 [] .none .none .none (s "neverhalf.errors" 187) none (r 665) .none 0)) #[]
noncomputable def o658 (p : Params) : Obj := .mk (y "tuple") none (.seq #[(s "patch" 1050)] 0) #[]
noncomputable def o659 (p : Params) : Obj := .mk (y "dict") none (.dict #[(e p "__module__" 1037 (s "neverhalf.errors" 187)), (e p "__firstlineno__" 1041 (n 134 1040)), (e p "__init__" 1049 (r 666)), (e p "__static_attributes__" 1051 (r 667)), (e p "__doc__" 1052 .none)] 2) #[]
noncomputable def o660 (p : Params) : Obj := .mk (y "type") none (.cls (ClassData.mk "BadPatch" [(r 24)] [(r 669), (r 24), (y "ValueError"), (y "Exception"), (y "BaseException"), (y "object")] 668 "BadPatch" true [] [] false none false)) #[(some (r 653)), none, (some (s "BadPatch" 1030)), (some (s "BadPatch" 1038)), (some (u "ValueError.__new__")), (some (.bool true))]
noncomputable def o661 (p : Params) : Obj := .mk (y "super") none (.fields #[(r 669), (r 669), (r 669)]) #[]
noncomputable def o662 (p : Params) : Obj := .mk (y "builtin_function_or_method") none (.fields #[(u "object.__init_subclass__"), (r 669)]) #[]
noncomputable def o663 (p : Params) : Obj := .mk (y "tuple") none (.seq #[(r 24)] 0) #[]
noncomputable def o664 (p : Params) : Obj := .mk (y "builtin_function_or_method") none (.fields #[(u "type.__prepare__"), (y "type")]) #[]
noncomputable def o665 (p : Params) : Obj := .mk (y "dict") none (.dict #[(e p "__module__" 1062 (s "neverhalf.errors" 187)), (e p "__qualname__" 1064 (s "BadTarget" 1063)), (e p "__firstlineno__" 1066 (n 138 1065)), (e p "__init__" 1074 (r 685)), (e p "__static_attributes__" 1076 (r 686))] 5) #[]
noncomputable def o666 (p : Params) : Obj := .mk (y "tuple") none (.seq #[] 0) #[]
noncomputable def o667 (p : Params) : Obj := .mk .none none (.fields #[(n 140 0), (n 4 0), (r 684)]) #[]
noncomputable def o668 (p : Params) : Obj := .mk (y "code") none (.fields #[(s "BadTarget" 1057), (s "BadTarget" 1058), (s "/claim/cut.py" 1059), (n 138 0), (n 0 0), (n 0 0), (n 0 0), (n 0 0), (r 675), (.bool false), (n 181 0), (r 676), .none, .none, .none, .none, (n 1060 0), (n 138 0), (s "/claim/cut.py" 1061)]) #[]
noncomputable def o669 (p : Params) : Obj := .mk (y "frame") none .plain #[(some (r 677)), (some (r 3)), (some (r 674)), none, (some (s "neverhalf.errors" 187)), none, (some (r 0))]
noncomputable def o670 (p : Params) : Obj := .mk (y "tuple") none (.seq #[] 0) #[]
noncomputable def o671 (p : Params) : Obj := .mk .none none (.fields #[]) #[]
noncomputable def o672 (p : Params) : Obj := .mk (y "tuple") none (.seq #[(s "self" 1070), (s "target" 1071)] 0) #[]
noncomputable def o673 (p : Params) : Obj := .mk (y "tuple") none (.seq #[] 0) #[]
noncomputable def o674 (p : Params) : Obj := .mk .none none (.func (fI 37 "BadTarget.__init__" 0 [] .none .none .none .none none .none .none 0)) #[]
noncomputable def o675 (p : Params) : Obj := .mk (y "code") none (.fields #[(s "__init__" 1067), (s "BadTarget.__init__" 1068), (s "/claim/cut.py" 1069), (n 140 0), (n 2 0), (n 0 0), (n 0 0), (n 3 0), (r 679), (.bool true), (n 181 0), (r 680), .none, (r 681), (r 682), (r 683), (n 1072 0), (n 140 0), (s "/claim/cut.py" 1073)]) #[]
noncomputable def o676 (p : Params) : Obj := .mk (y "function") none (.func (fI 37 "BadTarget.__init__" 3 [] .none .none .none (s "neverhalf.errors" 187) none (r 684) .none 0)) #[]
noncomputable def o677 (p : Params) : Obj := .mk (y "tuple") none (.seq #[(s "target" 1075)] 0) #[]
noncomputable def o678 (p : Params) : Obj := .mk (y "dict") none (.dict #[(e p "__module__" 1062 (s "neverhalf.errors" 187)), (e p "__firstlineno__" 1066 (n 138 1065)), (e p "__init__" 1074 (r 685)), (e p "__static_attributes__" 1076 (r 686)), (e p "__doc__" 1077 .none)] 2) #[]
noncomputable def o679 (p : Params) : Obj := .mk (y "type") none (.cls (ClassData.mk "BadTarget" [(r 24)] [(r 688), (r 24), (y "ValueError"), (y "Exception"), (y "BaseException"), (y "object")] 687 "BadTarget" true [] [] false none false)) #[(some (r 672)), none, (some (s "BadTarget" 1055)), (some (s "BadTarget" 1063)), (some (u "ValueError.__new__")), (some (.bool true))]
noncomputable def o680 (p : Params) : Obj := .mk (y "super") none (.fields #[(r 688), (r 688), (r 688)]) #[]
noncomputable def o681 (p : Params) : Obj := .mk (y "builtin_function_or_method") none (.fields #[(u "object.__init_subclass__"), (r 688)]) #[]
noncomputable def T_c (p : Params) : BT := (.node (boot_o_0 p) (.node (boot_o_1 p) (.node (o4 p) (.node (boot_o_7 p) (.node (o6 p) (.node (o22 p) (.node (o54 p) (.node (o118 p) (.node (o246 p) (.node (o502 p) .nil .nil) .nil) (.node (o374 p) (.node (o630 p) .nil .nil) .nil)) (.node (o182 p) (.node (o310 p) (.node (o566 p) .nil .nil) .nil) (.node (o438 p) .nil .nil))) (.node (o86 p) (.node (o150 p) (.node (o278 p) (.node (o534 p) .nil .nil) .nil) (.node (o406 p) (.node (o662 p) .nil .nil) .nil)) (.node (o214 p) (.node (o342 p) (.node (o598 p) .nil .nil) .nil) (.node (o470 p) .nil .nil)))) (.node (o38 p) (.node (o70 p) (.node (o134 p) (.node (o262 p) (.node (o518 p) .nil .nil) .nil) (.node (o390 p) (.node (o646 p) .nil .nil) .nil)) (.node (o198 p) (.node (o326 p) (.node (o582 p) .nil .nil) .nil) (.node (o454 p) .nil .nil))) (.node (o102 p) (.node (o166 p) (.node (o294 p) (.node (o550 p) .nil .nil) .nil) (.node (o422 p) (.node (o678 p) .nil .nil) .nil)) (.node (o230 p) (.node (o358 p) (.node (o614 p) .nil .nil) .nil) (.node (o486 p) .nil .nil))))) (.node (o14 p) (.node (o30 p) (.node (o62 p) (.node (o126 p) (.node (o254 p) (.node (o510 p) .nil .nil) .nil) (.node (o382 p) (.node (o638 p) .nil .nil) .nil)) (.node (o190 p) (.node (o318 p) (.node (o574 p) .nil .nil) .nil) (.node (o446 p) .nil .nil))) (.node (o94 p) (.node (o158 p) (.node (o286 p) (.node (o542 p) .nil .nil) .nil) (.node (o414 p) (.node (o670 p) .nil .nil) .nil)) (.node (o222 p) (.node (o350 p) (.node (o606 p) .nil .nil) .nil) (.node (o478 p) .nil .nil)))) (.node (o46 p) (.node (o78 p) (.node (o142 p) (.node (o270 p) (.node (o526 p) .nil .nil) .nil) (.node (o398 p) (.node (o654 p) .nil .nil) .nil)) (.node (o206 p) (.node (o334 p) (.node (o590 p) .nil .nil) .nil) (.node (o462 p) .nil .nil))) (.node (o110 p) (.node (o174 p) (.node (o302 p) (.node (o558 p) .nil .nil) .nil) (.node (o430 p) .nil .nil)) (.node (o238 p) (.node (o366 p) (.node (o622 p) .nil .nil) .nil) (.node (o494 p) .nil .nil)))))) (.node (o0 p) (.node (o10 p) (.node (o26 p) (.node (o58 p) (.node (o122 p) (.node (o250 p) (.node (o506 p) .nil .nil) .nil) (.node (o378 p) (.node (o634 p) .nil .nil) .nil)) (.node (o186 p) (.node (o314 p) (.node (o570 p) .nil .nil) .nil) (.node (o442 p) .nil .nil))) (.node (o90 p) (.node (o154 p) (.node (o282 p) (.node (o538 p) .nil .nil) .nil) (.node (o410 p) (.node (o666 p) .nil .nil) .nil)) (.node (o218 p) (.node (o346 p) (.node (o602 p) .nil .nil) .nil) (.node (o474 p) .nil .nil)))) (.node (o42 p) (.node (o74 p) (.node (o138 p) (.node (o266 p) (.node (o522 p) .nil .nil) .nil) (.node (o394 p) (.node (o650 p) .nil .nil) .nil)) (.node (o202 p) (.node (o330 p) (.node (o586 p) .nil .nil) .nil) (.node (o458 p) .nil .nil))) (.node (o106 p) (.node (o170 p) (.node (o298 p) (.node (o554 p) .nil .nil) .nil) (.node (o426 p) .nil .nil)) (.node (o234 p) (.node (o362 p) (.node (o618 p) .nil .nil) .nil) (.node (o490 p) .nil .nil))))) (.node (o18 p) (.node (o34 p) (.node (o66 p) (.node (o130 p) (.node (o258 p) (.node (o514 p) .nil .nil) .nil) (.node (o386 p) (.node (o642 p) .nil .nil) .nil)) (.node (o194 p) (.node (o322 p) (.node (o578 p) .nil .nil) .nil) (.node (o450 p) .nil .nil))) (.node (o98 p) (.node (o162 p) (.node (o290 p) (.node (o546 p) .nil .nil) .nil) (.node (o418 p) (.node (o674 p) .nil .nil) .nil)) (.node (o226 p) (.node (o354 p) (.node (o610 p) .nil .nil) .nil) (.node (o482 p) .nil .nil)))) (.node (o50 p) (.node (o82 p) (.node (o146 p) (.node (o274 p) (.node (o530 p) .nil .nil) .nil) (.node (o402 p) (.node (o658 p) .nil .nil) .nil)) (.node (o210 p) (.node (o338 p) (.node (o594 p) .nil .nil) .nil) (.node (o466 p) .nil .nil))) (.node (o114 p) (.node (o178 p) (.node (o306 p) (.node (o562 p) .nil .nil) .nil) (.node (o434 p) .nil .nil)) (.node (o242 p) (.node (o370 p) (.node (o626 p) .nil .nil) .nil) (.node (o498 p) .nil .nil))))))) (.node (boot_o_5 p) (.node (boot_o_9 p) (.node (o8 p) (.node (o24 p) (.node (o56 p) (.node (o120 p) (.node (o248 p) (.node (o504 p) .nil .nil) .nil) (.node (o376 p) (.node (o632 p) .nil .nil) .nil)) (.node (o184 p) (.node (o312 p) (.node (o568 p) .nil .nil) .nil) (.node (o440 p) .nil .nil))) (.node (o88 p) (.node (o152 p) (.node (o280 p) (.node (o536 p) .nil .nil) .nil) (.node (o408 p) (.node (o664 p) .nil .nil) .nil)) (.node (o216 p) (.node (o344 p) (.node (o600 p) .nil .nil) .nil) (.node (o472 p) .nil .nil)))) (.node (o40 p) (.node (o72 p) (.node (o136 p) (.node (o264 p) (.node (o520 p) .nil .nil) .nil) (.node (o392 p) (.node (o648 p) .nil .nil) .nil)) (.node (o200 p) (.node (o328 p) (.node (o584 p) .nil .nil) .nil) (.node (o456 p) .nil .nil))) (.node (o104 p) (.node (o168 p) (.node (o296 p) (.node (o552 p) .nil .nil) .nil) (.node (o424 p) (.node (o680 p) .nil .nil) .nil)) (.node (o232 p) (.node (o360 p) (.node (o616 p) .nil .nil) .nil) (.node (o488 p) .nil .nil))))) (.node (o16 p) (.node (o32 p) (.node (o64 p) (.node (o128 p) (.node (o256 p) (.node (o512 p) .nil .nil) .nil) (.node (o384 p) (.node (o640 p) .nil .nil) .nil)) (.node (o192 p) (.node (o320 p) (.node (o576 p) .nil .nil) .nil) (.node (o448 p) .nil .nil))) (.node (o96 p) (.node (o160 p) (.node (o288 p) (.node (o544 p) .nil .nil) .nil) (.node (o416 p) (.node (o672 p) .nil .nil) .nil)) (.node (o224 p) (.node (o352 p) (.node (o608 p) .nil .nil) .nil) (.node (o480 p) .nil .nil)))) (.node (o48 p) (.node (o80 p) (.node (o144 p) (.node (o272 p) (.node (o528 p) .nil .nil) .nil) (.node (o400 p) (.node (o656 p) .nil .nil) .nil)) (.node (o208 p) (.node (o336 p) (.node (o592 p) .nil .nil) .nil) (.node (o464 p) .nil .nil))) (.node (o112 p) (.node (o176 p) (.node (o304 p) (.node (o560 p) .nil .nil) .nil) (.node (o432 p) .nil .nil)) (.node (o240 p) (.node (o368 p) (.node (o624 p) .nil .nil) .nil) (.node (o496 p) .nil .nil)))))) (.node (o2 p) (.node (o12 p) (.node (o28 p) (.node (o60 p) (.node (o124 p) (.node (o252 p) (.node (o508 p) .nil .nil) .nil) (.node (o380 p) (.node (o636 p) .nil .nil) .nil)) (.node (o188 p) (.node (o316 p) (.node (o572 p) .nil .nil) .nil) (.node (o444 p) .nil .nil))) (.node (o92 p) (.node (o156 p) (.node (o284 p) (.node (o540 p) .nil .nil) .nil) (.node (o412 p) (.node (o668 p) .nil .nil) .nil)) (.node (o220 p) (.node (o348 p) (.node (o604 p) .nil .nil) .nil) (.node (o476 p) .nil .nil)))) (.node (o44 p) (.node (o76 p) (.node (o140 p) (.node (o268 p) (.node (o524 p) .nil .nil) .nil) (.node (o396 p) (.node (o652 p) .nil .nil) .nil)) (.node (o204 p) (.node (o332 p) (.node (o588 p) .nil .nil) .nil) (.node (o460 p) .nil .nil))) (.node (o108 p) (.node (o172 p) (.node (o300 p) (.node (o556 p) .nil .nil) .nil) (.node (o428 p) .nil .nil)) (.node (o236 p) (.node (o364 p) (.node (o620 p) .nil .nil) .nil) (.node (o492 p) .nil .nil))))) (.node (o20 p) (.node (o36 p) (.node (o68 p) (.node (o132 p) (.node (o260 p) (.node (o516 p) .nil .nil) .nil) (.node (o388 p) (.node (o644 p) .nil .nil) .nil)) (.node (o196 p) (.node (o324 p) (.node (o580 p) .nil .nil) .nil) (.node (o452 p) .nil .nil))) (.node (o100 p) (.node (o164 p) (.node (o292 p) (.node (o548 p) .nil .nil) .nil) (.node (o420 p) (.node (o676 p) .nil .nil) .nil)) (.node (o228 p) (.node (o356 p) (.node (o612 p) .nil .nil) .nil) (.node (o484 p) .nil .nil)))) (.node (o52 p) (.node (o84 p) (.node (o148 p) (.node (o276 p) (.node (o532 p) .nil .nil) .nil) (.node (o404 p) (.node (o660 p) .nil .nil) .nil)) (.node (o212 p) (.node (o340 p) (.node (o596 p) .nil .nil) .nil) (.node (o468 p) .nil .nil))) (.node (o116 p) (.node (o180 p) (.node (o308 p) (.node (o564 p) .nil .nil) .nil) (.node (o436 p) .nil .nil)) (.node (o244 p) (.node (o372 p) (.node (o628 p) .nil .nil) .nil) (.node (o500 p) .nil .nil)))))))) (.node (boot_o_2 p) (.node (boot_o_4 p) (.node (boot_o_8 p) (.node (o7 p) (.node (o23 p) (.node (o55 p) (.node (o119 p) (.node (o247 p) (.node (o503 p) .nil .nil) .nil) (.node (o375 p) (.node (o631 p) .nil .nil) .nil)) (.node (o183 p) (.node (o311 p) (.node (o567 p) .nil .nil) .nil) (.node (o439 p) .nil .nil))) (.node (o87 p) (.node (o151 p) (.node (o279 p) (.node (o535 p) .nil .nil) .nil) (.node (o407 p) (.node (o663 p) .nil .nil) .nil)) (.node (o215 p) (.node (o343 p) (.node (o599 p) .nil .nil) .nil) (.node (o471 p) .nil .nil)))) (.node (o39 p) (.node (o71 p) (.node (o135 p) (.node (o263 p) (.node (o519 p) .nil .nil) .nil) (.node (o391 p) (.node (o647 p) .nil .nil) .nil)) (.node (o199 p) (.node (o327 p) (.node (o583 p) .nil .nil) .nil) (.node (o455 p) .nil .nil))) (.node (o103 p) (.node (o167 p) (.node (o295 p) (.node (o551 p) .nil .nil) .nil) (.node (o423 p) (.node (o679 p) .nil .nil) .nil)) (.node (o231 p) (.node (o359 p) (.node (o615 p) .nil .nil) .nil) (.node (o487 p) .nil .nil))))) (.node (o15 p) (.node (o31 p) (.node (o63 p) (.node (o127 p) (.node (o255 p) (.node (o511 p) .nil .nil) .nil) (.node (o383 p) (.node (o639 p) .nil .nil) .nil)) (.node (o191 p) (.node (o319 p) (.node (o575 p) .nil .nil) .nil) (.node (o447 p) .nil .nil))) (.node (o95 p) (.node (o159 p) (.node (o287 p) (.node (o543 p) .nil .nil) .nil) (.node (o415 p) (.node (o671 p) .nil .nil) .nil)) (.node (o223 p) (.node (o351 p) (.node (o607 p) .nil .nil) .nil) (.node (o479 p) .nil .nil)))) (.node (o47 p) (.node (o79 p) (.node (o143 p) (.node (o271 p) (.node (o527 p) .nil .nil) .nil) (.node (o399 p) (.node (o655 p) .nil .nil) .nil)) (.node (o207 p) (.node (o335 p) (.node (o591 p) .nil .nil) .nil) (.node (o463 p) .nil .nil))) (.node (o111 p) (.node (o175 p) (.node (o303 p) (.node (o559 p) .nil .nil) .nil) (.node (o431 p) .nil .nil)) (.node (o239 p) (.node (o367 p) (.node (o623 p) .nil .nil) .nil) (.node (o495 p) .nil .nil)))))) (.node (o5 p) (.node (o11 p) (.node (o27 p) (.node (o59 p) (.node (o123 p) (.node (o251 p) (.node (o507 p) .nil .nil) .nil) (.node (o379 p) (.node (o635 p) .nil .nil) .nil)) (.node (o187 p) (.node (o315 p) (.node (o571 p) .nil .nil) .nil) (.node (o443 p) .nil .nil))) (.node (o91 p) (.node (o155 p) (.node (o283 p) (.node (o539 p) .nil .nil) .nil) (.node (o411 p) (.node (o667 p) .nil .nil) .nil)) (.node (o219 p) (.node (o347 p) (.node (o603 p) .nil .nil) .nil) (.node (o475 p) .nil .nil)))) (.node (o43 p) (.node (o75 p) (.node (o139 p) (.node (o267 p) (.node (o523 p) .nil .nil) .nil) (.node (o395 p) (.node (o651 p) .nil .nil) .nil)) (.node (o203 p) (.node (o331 p) (.node (o587 p) .nil .nil) .nil) (.node (o459 p) .nil .nil))) (.node (o107 p) (.node (o171 p) (.node (o299 p) (.node (o555 p) .nil .nil) .nil) (.node (o427 p) .nil .nil)) (.node (o235 p) (.node (o363 p) (.node (o619 p) .nil .nil) .nil) (.node (o491 p) .nil .nil))))) (.node (o19 p) (.node (o35 p) (.node (o67 p) (.node (o131 p) (.node (o259 p) (.node (o515 p) .nil .nil) .nil) (.node (o387 p) (.node (o643 p) .nil .nil) .nil)) (.node (o195 p) (.node (o323 p) (.node (o579 p) .nil .nil) .nil) (.node (o451 p) .nil .nil))) (.node (o99 p) (.node (o163 p) (.node (o291 p) (.node (o547 p) .nil .nil) .nil) (.node (o419 p) (.node (o675 p) .nil .nil) .nil)) (.node (o227 p) (.node (o355 p) (.node (o611 p) .nil .nil) .nil) (.node (o483 p) .nil .nil)))) (.node (o51 p) (.node (o83 p) (.node (o147 p) (.node (o275 p) (.node (o531 p) .nil .nil) .nil) (.node (o403 p) (.node (o659 p) .nil .nil) .nil)) (.node (o211 p) (.node (o339 p) (.node (o595 p) .nil .nil) .nil) (.node (o467 p) .nil .nil))) (.node (o115 p) (.node (o179 p) (.node (o307 p) (.node (o563 p) .nil .nil) .nil) (.node (o435 p) .nil .nil)) (.node (o243 p) (.node (o371 p) (.node (o627 p) .nil .nil) .nil) (.node (o499 p) .nil .nil))))))) (.node (boot_o_6 p) (.node (boot_o_10 p) (.node (o9 p) (.node (o25 p) (.node (o57 p) (.node (o121 p) (.node (o249 p) (.node (o505 p) .nil .nil) .nil) (.node (o377 p) (.node (o633 p) .nil .nil) .nil)) (.node (o185 p) (.node (o313 p) (.node (o569 p) .nil .nil) .nil) (.node (o441 p) .nil .nil))) (.node (o89 p) (.node (o153 p) (.node (o281 p) (.node (o537 p) .nil .nil) .nil) (.node (o409 p) (.node (o665 p) .nil .nil) .nil)) (.node (o217 p) (.node (o345 p) (.node (o601 p) .nil .nil) .nil) (.node (o473 p) .nil .nil)))) (.node (o41 p) (.node (o73 p) (.node (o137 p) (.node (o265 p) (.node (o521 p) .nil .nil) .nil) (.node (o393 p) (.node (o649 p) .nil .nil) .nil)) (.node (o201 p) (.node (o329 p) (.node (o585 p) .nil .nil) .nil) (.node (o457 p) .nil .nil))) (.node (o105 p) (.node (o169 p) (.node (o297 p) (.node (o553 p) .nil .nil) .nil) (.node (o425 p) (.node (o681 p) .nil .nil) .nil)) (.node (o233 p) (.node (o361 p) (.node (o617 p) .nil .nil) .nil) (.node (o489 p) .nil .nil))))) (.node (o17 p) (.node (o33 p) (.node (o65 p) (.node (o129 p) (.node (o257 p) (.node (o513 p) .nil .nil) .nil) (.node (o385 p) (.node (o641 p) .nil .nil) .nil)) (.node (o193 p) (.node (o321 p) (.node (o577 p) .nil .nil) .nil) (.node (o449 p) .nil .nil))) (.node (o97 p) (.node (o161 p) (.node (o289 p) (.node (o545 p) .nil .nil) .nil) (.node (o417 p) (.node (o673 p) .nil .nil) .nil)) (.node (o225 p) (.node (o353 p) (.node (o609 p) .nil .nil) .nil) (.node (o481 p) .nil .nil)))) (.node (o49 p) (.node (o81 p) (.node (o145 p) (.node (o273 p) (.node (o529 p) .nil .nil) .nil) (.node (o401 p) (.node (o657 p) .nil .nil) .nil)) (.node (o209 p) (.node (o337 p) (.node (o593 p) .nil .nil) .nil) (.node (o465 p) .nil .nil))) (.node (o113 p) (.node (o177 p) (.node (o305 p) (.node (o561 p) .nil .nil) .nil) (.node (o433 p) .nil .nil)) (.node (o241 p) (.node (o369 p) (.node (o625 p) .nil .nil) .nil) (.node (o497 p) .nil .nil)))))) (.node (o3 p) (.node (o13 p) (.node (o29 p) (.node (o61 p) (.node (o125 p) (.node (o253 p) (.node (o509 p) .nil .nil) .nil) (.node (o381 p) (.node (o637 p) .nil .nil) .nil)) (.node (o189 p) (.node (o317 p) (.node (o573 p) .nil .nil) .nil) (.node (o445 p) .nil .nil))) (.node (o93 p) (.node (o157 p) (.node (o285 p) (.node (o541 p) .nil .nil) .nil) (.node (o413 p) (.node (o669 p) .nil .nil) .nil)) (.node (o221 p) (.node (o349 p) (.node (o605 p) .nil .nil) .nil) (.node (o477 p) .nil .nil)))) (.node (o45 p) (.node (o77 p) (.node (o141 p) (.node (o269 p) (.node (o525 p) .nil .nil) .nil) (.node (o397 p) (.node (o653 p) .nil .nil) .nil)) (.node (o205 p) (.node (o333 p) (.node (o589 p) .nil .nil) .nil) (.node (o461 p) .nil .nil))) (.node (o109 p) (.node (o173 p) (.node (o301 p) (.node (o557 p) .nil .nil) .nil) (.node (o429 p) .nil .nil)) (.node (o237 p) (.node (o365 p) (.node (o621 p) .nil .nil) .nil) (.node (o493 p) .nil .nil))))) (.node (o21 p) (.node (o37 p) (.node (o69 p) (.node (o133 p) (.node (o261 p) (.node (o517 p) .nil .nil) .nil) (.node (o389 p) (.node (o645 p) .nil .nil) .nil)) (.node (o197 p) (.node (o325 p) (.node (o581 p) .nil .nil) .nil) (.node (o453 p) .nil .nil))) (.node (o101 p) (.node (o165 p) (.node (o293 p) (.node (o549 p) .nil .nil) .nil) (.node (o421 p) (.node (o677 p) .nil .nil) .nil)) (.node (o229 p) (.node (o357 p) (.node (o613 p) .nil .nil) .nil) (.node (o485 p) .nil .nil)))) (.node (o53 p) (.node (o85 p) (.node (o149 p) (.node (o277 p) (.node (o533 p) .nil .nil) .nil) (.node (o405 p) (.node (o661 p) .nil .nil) .nil)) (.node (o213 p) (.node (o341 p) (.node (o597 p) .nil .nil) .nil) (.node (o469 p) .nil .nil))) (.node (o117 p) (.node (o181 p) (.node (o309 p) (.node (o565 p) .nil .nil) .nil) (.node (o437 p) .nil .nil)) (.node (o245 p) (.node (o373 p) (.node (o629 p) .nil .nil) .nil) (.node (o501 p) .nil .nil)))))))))
noncomputable def o682 (p : Params) : Obj := .mk (y "dict") none (.dict #[(e p "__name__" 165 (s "neverhalf.refusals" 1503)), (e p "__doc__" 166 .none), (e p "__package__" 167 .none), (e p "__loader__" 168 (u "__main__.__loader__#opaque")), (e p "__spec__" 169 .none), (e p "__annotations__" 170 (r 6)), (e p "__builtins__" 171 (r 4)), (e p "__file__" 173 (s "/claim/cut.py" 172)), (e p "__cached__" 174 .none), (e p "WholeError" 206 (r 24)), (e p "BadText" 231 (r 44)), (e p "BadSource" 256 (r 63)), (e p "BadIndex" 281 (r 82)), (e p "NotChecked" 297 (r 94)), (e p "BadName" 322 (r 113)), (e p "BadInputs" 347 (r 132)), (e p "BadMost" 372 (r 151)), (e p "BadObject" 397 (r 170)), (e p "BadForm" 422 (r 189)), (e p "BadObjects" 447 (r 208)), (e p "NotLinked" 463 (r 220)), (e p "BadLinked" 488 (r 239)), (e p "BadKeeps" 513 (r 258)), (e p "BadValue" 538 (r 277)), (e p "BadState" 563 (r 296)), (e p "BadWord" 588 (r 315)), (e p "BadPasses" 613 (r 334)), (e p "BadRow" 638 (r 353)), (e p "BadField" 663 (r 372)), (e p "BadLengths" 688 (r 391)), (e p "BadCounts" 713 (r 410)), (e p "BadMany" 738 (r 429)), (e p "BadKinds" 763 (r 448)), (e p "BadClasses" 788 (r 467)), (e p "BadBits" 813 (r 486)), (e p "BadWidth" 838 (r 505)), (e p "BadWords" 863 (r 524)), (e p "BadVersion" 888 (r 543)), (e p "BadImage" 913 (r 562)), (e p "BadOne" 938 (r 581)), (e p "BadOther" 963 (r 600)), (e p "TooLong" 979 (r 612)), (e p "NotCode" 1004 (r 631)), (e p "BadBase" 1029 (r 650)), (e p "BadPatch" 1054 (r 669)), (e p "BadTarget" 1079 (r 688)), (e p "BadStore" 1104 (r 707)), (e p "BadOps" 1129 (r 726)), (e p "BadOp" 1154 (r 745)), (e p "BadTorn" 1179 (r 764)), (e p "BadBox" 1204 (r 783)), (e p "BadSlot" 1229 (r 802)), (e p "NoRoom" 1254 (r 821)), (e p "BadBlock" 1279 (r 840)), (e p "BadBlocks" 1304 (r 859)), (e p "BadRun" 1329 (r 878)), (e p "BadGiven" 1354 (r 897)), (e p "NotRun" 1370 (r 909)), (e p "NotMade" 1395 (r 928)), (e p "BadCut" 1420 (r 947)), (e p "OnTrial" 1436 (r 959)), (e p "OldVersion" 1452 (r 971)), (e p "BadSetting" 1477 (r 990)), (e p "BadProtocol" 1502 (r 1009)), (e p "BadRule" 1529 (r 1028)), (e p "BadCuts" 1554 (r 1047)), (e p "BadDone" 1579 (r 1066)), (e p "BadEvent" 1604 (r 1085)), (e p "BadEvents" 1629 (r 1104)), (e p "NotOf" 1645 (r 1116)), (e p "BadCount" 1670 (r 1135)), (e p "BadPlace" 1695 (r 1154)), (e p "BadTower" 1720 (r 1173)), (e p "BadStory" 1745 (r 1192)), (e p "BadThing" 1770 (r 1211)), (e p "NoName" 1795 (r 1230)), (e p "InRing" 1820 (r 1249)), (e p "InUse" 1845 (r 1268)), (e p "NoThing" 1870 (r 1287)), (e p "BadVow" 1895 (r 1306)), (e p "Watched" 1920 (r 1325)), (e p "NotHeldNow" 1945 (r 1344))] 82) #[]
noncomputable def o683 (p : Params) : Obj := .mk .none none (.fields #[(n 2 0), (n 0 0), (r 20), (n 4 0), (n 0 0), (r 33), (n 8 0), (n 0 0), (r 52), (n 12 0), (n 0 0), (r 71), (n 16 0), (n 0 0), (r 90), (n 18 0), (n 0 0), (r 102), (n 22 0), (n 0 0), (r 121), (n 26 0), (n 0 0), (r 140), (n 30 0), (n 0 0), (r 159), (n 34 0), (n 0 0), (r 178), (n 38 0), (n 0 0), (r 197), (n 42 0), (n 0 0), (r 216), (n 44 0), (n 0 0), (r 228), (n 48 0), (n 0 0), (r 247), (n 52 0), (n 0 0), (r 266), (n 56 0), (n 0 0), (r 285), (n 60 0), (n 0 0), (r 304), (n 64 0), (n 0 0), (r 323), (n 68 0), (n 0 0), (r 342), (n 72 0), (n 0 0), (r 361), (n 76 0), (n 0 0), (r 380), (n 80 0), (n 0 0), (r 399), (n 84 0), (n 0 0), (r 418), (n 88 0), (n 0 0), (r 437), (n 92 0), (n 0 0), (r 456), (n 96 0), (n 0 0), (r 475), (n 100 0), (n 0 0), (r 494), (n 104 0), (n 0 0), (r 513), (n 108 0), (n 0 0), (r 532), (n 112 0), (n 0 0), (r 551), (n 116 0), (n 0 0), (r 570), (n 120 0), (n 0 0), (r 589), (n 124 0), (n 0 0), (r 608), (n 126 0), (n 0 0), (r 620), (n 130 0), (n 0 0), (r 639), (n 134 0), (n 0 0), (r 658), (n 138 0), (n 0 0), (r 677), (n 142 0), (n 0 0), (r 696), (n 146 0), (n 0 0), (r 715), (n 150 0), (n 0 0), (r 734), (n 154 0), (n 0 0), (r 753), (n 158 0), (n 0 0), (r 772), (n 162 0), (n 0 0), (r 791), (n 166 0), (n 0 0), (r 810), (n 170 0), (n 0 0), (r 829), (n 174 0), (n 0 0), (r 848), (n 178 0), (n 0 0), (r 867), (n 182 0), (n 0 0), (r 886), (n 186 0), (n 0 0), (r 905), (n 188 0), (n 0 0), (r 917), (n 192 0), (n 0 0), (r 936), (n 196 0), (n 0 0), (r 955), (n 198 0), (n 0 0), (r 967), (n 200 0), (n 0 0), (r 979), (n 204 0), (n 0 0), (r 998), (n 209 0), (n 0 0), (r 1017), (n 213 0), (n 0 0), (r 1036), (n 217 0), (n 0 0), (r 1055), (n 221 0), (n 0 0), (r 1074), (n 225 0), (n 0 0), (r 1093), (n 229 0), (n 0 0), (r 1112), (n 231 0), (n 0 0), (r 1124), (n 235 0), (n 0 0), (r 1143), (n 239 0), (n 0 0), (r 1162), (n 243 0), (n 0 0), (r 1181), (n 247 0), (n 0 0), (r 1200), (n 251 0), (n 0 0), (r 1219), (n 255 0), (n 0 0), (r 1238), (n 259 0), (n 0 0), (r 1257), (n 263 0), (n 0 0), (r 1276), (n 267 0), (n 0 0), (r 1295), (n 271 0), (n 0 0), (r 1314), (n 275 0), (n 0 0), (r 1333)]) #[]
noncomputable def o684 (p : Params) : Obj := .mk (y "type") none (.cls (ClassData.mk "WholeError" [(y "ValueError")] [(r 24), (y "ValueError"), (y "Exception"), (y "BaseException"), (y "object")] 23 "WholeError" true [] [(r 44), (r 63), (r 82), (r 94), (r 113), (r 132), (r 151), (r 170), (r 189), (r 208), (r 220), (r 239), (r 258), (r 277), (r 296), (r 315), (r 334), (r 353), (r 372), (r 391), (r 410), (r 429), (r 448), (r 467), (r 486), (r 505), (r 524), (r 543), (r 562), (r 581), (r 600), (r 612), (r 631), (r 650), (r 669), (r 688), (r 707), (r 726), (r 745), (r 764), (r 783), (r 802), (r 821), (r 840), (r 859), (r 878), (r 897), (r 909), (r 928), (r 947), (r 959), (r 971), (r 990), (r 1009), (r 1028), (r 1047), (r 1066), (r 1085), (r 1104), (r 1116), (r 1135), (r 1154), (r 1173), (r 1192), (r 1211), (r 1230), (r 1249), (r 1268), (r 1287), (r 1306), (r 1325), (r 1344)] false none false)) #[(some (r 15)), none, (some (s "WholeError" 189)), (some (s "WholeError" 197)), (some (u "ValueError.__new__")), (some (.bool true))]
noncomputable def o685 (p : Params) : Obj := .mk (y "tuple") none (.seq #[(r 24)] 0) #[]
noncomputable def o686 (p : Params) : Obj := .mk (y "builtin_function_or_method") none (.fields #[(u "type.__prepare__"), (y "type")]) #[]
noncomputable def o687 (p : Params) : Obj := .mk (y "dict") none (.dict #[(e p "__module__" 1087 (s "neverhalf.errors" 187)), (e p "__qualname__" 1089 (s "BadStore" 1088)), (e p "__firstlineno__" 1091 (n 142 1090)), (e p "__init__" 1099 (r 704)), (e p "__static_attributes__" 1101 (r 705))] 5) #[]
noncomputable def o688 (p : Params) : Obj := .mk (y "tuple") none (.seq #[] 0) #[]
noncomputable def o689 (p : Params) : Obj := .mk .none none (.fields #[(n 144 0), (n 4 0), (r 703)]) #[]
noncomputable def o690 (p : Params) : Obj := .mk (y "code") none (.fields #[(s "BadStore" 1082), (s "BadStore" 1083), (s "/claim/cut.py" 1084), (n 142 0), (n 0 0), (n 0 0), (n 0 0), (n 0 0), (r 694), (.bool false), (n 181 0), (r 695), .none, .none, .none, .none, (n 1085 0), (n 142 0), (s "/claim/cut.py" 1086)]) #[]
noncomputable def o691 (p : Params) : Obj := .mk (y "frame") none .plain #[(some (r 696)), (some (r 3)), (some (r 693)), none, (some (s "neverhalf.errors" 187)), none, (some (r 0))]
noncomputable def o692 (p : Params) : Obj := .mk (y "tuple") none (.seq #[] 0) #[]
noncomputable def o693 (p : Params) : Obj := .mk .none none (.fields #[]) #[]
noncomputable def o694 (p : Params) : Obj := .mk (y "tuple") none (.seq #[(s "self" 1095), (s "store" 1096)] 0) #[]
noncomputable def o695 (p : Params) : Obj := .mk (y "tuple") none (.seq #[] 0) #[]
noncomputable def o696 (p : Params) : Obj := .mk .none none (.func (fI 38 "BadStore.__init__" 0 [] .none .none .none .none none .none .none 0)) #[]
noncomputable def o697 (p : Params) : Obj := .mk (y "code") none (.fields #[(s "__init__" 1092), (s "BadStore.__init__" 1093), (s "/claim/cut.py" 1094), (n 144 0), (n 2 0), (n 0 0), (n 0 0), (n 3 0), (r 698), (.bool true), (n 181 0), (r 699), .none, (r 700), (r 701), (r 702), (n 1097 0), (n 144 0), (s "/claim/cut.py" 1098)]) #[]
noncomputable def o698 (p : Params) : Obj := .mk (y "function") none (.func (fI 38 "BadStore.__init__" 3 [] .none .none .none (s "neverhalf.errors" 187) none (r 703) .none 0)) #[]
noncomputable def o699 (p : Params) : Obj := .mk (y "tuple") none (.seq #[(s "store" 1100)] 0) #[]
noncomputable def o700 (p : Params) : Obj := .mk (y "dict") none (.dict #[(e p "__module__" 1087 (s "neverhalf.errors" 187)), (e p "__firstlineno__" 1091 (n 142 1090)), (e p "__init__" 1099 (r 704)), (e p "__static_attributes__" 1101 (r 705)), (e p "__doc__" 1102 .none)] 2) #[]
noncomputable def o701 (p : Params) : Obj := .mk (y "type") none (.cls (ClassData.mk "BadStore" [(r 24)] [(r 707), (r 24), (y "ValueError"), (y "Exception"), (y "BaseException"), (y "object")] 706 "BadStore" true [] [] false none false)) #[(some (r 691)), none, (some (s "BadStore" 1080)), (some (s "BadStore" 1088)), (some (u "ValueError.__new__")), (some (.bool true))]
noncomputable def o702 (p : Params) : Obj := .mk (y "super") none (.fields #[(r 707), (r 707), (r 707)]) #[]
noncomputable def o703 (p : Params) : Obj := .mk (y "builtin_function_or_method") none (.fields #[(u "object.__init_subclass__"), (r 707)]) #[]
noncomputable def o704 (p : Params) : Obj := .mk (y "tuple") none (.seq #[(r 24)] 0) #[]
noncomputable def o705 (p : Params) : Obj := .mk (y "builtin_function_or_method") none (.fields #[(u "type.__prepare__"), (y "type")]) #[]
noncomputable def o706 (p : Params) : Obj := .mk (y "dict") none (.dict #[(e p "__module__" 1112 (s "neverhalf.errors" 187)), (e p "__qualname__" 1114 (s "BadOps" 1113)), (e p "__firstlineno__" 1116 (n 146 1115)), (e p "__init__" 1124 (r 723)), (e p "__static_attributes__" 1126 (r 724))] 5) #[]
noncomputable def o707 (p : Params) : Obj := .mk (y "tuple") none (.seq #[] 0) #[]
noncomputable def o708 (p : Params) : Obj := .mk .none none (.fields #[(n 148 0), (n 4 0), (r 722)]) #[]
noncomputable def o709 (p : Params) : Obj := .mk (y "code") none (.fields #[(s "BadOps" 1107), (s "BadOps" 1108), (s "/claim/cut.py" 1109), (n 146 0), (n 0 0), (n 0 0), (n 0 0), (n 0 0), (r 713), (.bool false), (n 181 0), (r 714), .none, .none, .none, .none, (n 1110 0), (n 146 0), (s "/claim/cut.py" 1111)]) #[]
noncomputable def o710 (p : Params) : Obj := .mk (y "frame") none .plain #[(some (r 715)), (some (r 3)), (some (r 712)), none, (some (s "neverhalf.errors" 187)), none, (some (r 0))]
noncomputable def o711 (p : Params) : Obj := .mk (y "tuple") none (.seq #[] 0) #[]
noncomputable def o712 (p : Params) : Obj := .mk .none none (.fields #[]) #[]
noncomputable def o713 (p : Params) : Obj := .mk (y "tuple") none (.seq #[(s "self" 1120), (s "ops" 1121)] 0) #[]
noncomputable def o714 (p : Params) : Obj := .mk (y "tuple") none (.seq #[] 0) #[]
noncomputable def o715 (p : Params) : Obj := .mk .none none (.func (fI 39 "BadOps.__init__" 0 [] .none .none .none .none none .none .none 0)) #[]
noncomputable def o716 (p : Params) : Obj := .mk (y "code") none (.fields #[(s "__init__" 1117), (s "BadOps.__init__" 1118), (s "/claim/cut.py" 1119), (n 148 0), (n 2 0), (n 0 0), (n 0 0), (n 3 0), (r 717), (.bool true), (n 181 0), (r 718), .none, (r 719), (r 720), (r 721), (n 1122 0), (n 148 0), (s "/claim/cut.py" 1123)]) #[]
noncomputable def o717 (p : Params) : Obj := .mk (y "function") none (.func (fI 39 "BadOps.__init__" 3 [] .none .none .none (s "neverhalf.errors" 187) none (r 722) .none 0)) #[]
noncomputable def o718 (p : Params) : Obj := .mk (y "tuple") none (.seq #[(s "ops" 1125)] 0) #[]
noncomputable def o719 (p : Params) : Obj := .mk (y "dict") none (.dict #[(e p "__module__" 1112 (s "neverhalf.errors" 187)), (e p "__firstlineno__" 1116 (n 146 1115)), (e p "__init__" 1124 (r 723)), (e p "__static_attributes__" 1126 (r 724)), (e p "__doc__" 1127 .none)] 2) #[]
noncomputable def o720 (p : Params) : Obj := .mk (y "type") none (.cls (ClassData.mk "BadOps" [(r 24)] [(r 726), (r 24), (y "ValueError"), (y "Exception"), (y "BaseException"), (y "object")] 725 "BadOps" true [] [] false none false)) #[(some (r 710)), none, (some (s "BadOps" 1105)), (some (s "BadOps" 1113)), (some (u "ValueError.__new__")), (some (.bool true))]
noncomputable def o721 (p : Params) : Obj := .mk (y "super") none (.fields #[(r 726), (r 726), (r 726)]) #[]
noncomputable def o722 (p : Params) : Obj := .mk (y "builtin_function_or_method") none (.fields #[(u "object.__init_subclass__"), (r 726)]) #[]
noncomputable def o723 (p : Params) : Obj := .mk (y "tuple") none (.seq #[(r 24)] 0) #[]
noncomputable def o724 (p : Params) : Obj := .mk (y "builtin_function_or_method") none (.fields #[(u "type.__prepare__"), (y "type")]) #[]
noncomputable def o725 (p : Params) : Obj := .mk (y "dict") none (.dict #[(e p "__module__" 1137 (s "neverhalf.errors" 187)), (e p "__qualname__" 1139 (s "BadOp" 1138)), (e p "__firstlineno__" 1141 (n 150 1140)), (e p "__init__" 1149 (r 742)), (e p "__static_attributes__" 1151 (r 743))] 5) #[]
noncomputable def o726 (p : Params) : Obj := .mk (y "tuple") none (.seq #[] 0) #[]
noncomputable def o727 (p : Params) : Obj := .mk .none none (.fields #[(n 152 0), (n 4 0), (r 741)]) #[]
noncomputable def o728 (p : Params) : Obj := .mk (y "code") none (.fields #[(s "BadOp" 1132), (s "BadOp" 1133), (s "/claim/cut.py" 1134), (n 150 0), (n 0 0), (n 0 0), (n 0 0), (n 0 0), (r 732), (.bool false), (n 181 0), (r 733), .none, .none, .none, .none, (n 1135 0), (n 150 0), (s "/claim/cut.py" 1136)]) #[]
noncomputable def o729 (p : Params) : Obj := .mk (y "frame") none .plain #[(some (r 734)), (some (r 3)), (some (r 731)), none, (some (s "neverhalf.errors" 187)), none, (some (r 0))]
noncomputable def o730 (p : Params) : Obj := .mk (y "tuple") none (.seq #[] 0) #[]
noncomputable def o731 (p : Params) : Obj := .mk .none none (.fields #[]) #[]
noncomputable def o732 (p : Params) : Obj := .mk (y "tuple") none (.seq #[(s "self" 1145), (s "op" 1146)] 0) #[]
noncomputable def o733 (p : Params) : Obj := .mk (y "tuple") none (.seq #[] 0) #[]
noncomputable def o734 (p : Params) : Obj := .mk .none none (.func (fI 40 "BadOp.__init__" 0 [] .none .none .none .none none .none .none 0)) #[]
noncomputable def o735 (p : Params) : Obj := .mk (y "code") none (.fields #[(s "__init__" 1142), (s "BadOp.__init__" 1143), (s "/claim/cut.py" 1144), (n 152 0), (n 2 0), (n 0 0), (n 0 0), (n 3 0), (r 736), (.bool true), (n 181 0), (r 737), .none, (r 738), (r 739), (r 740), (n 1147 0), (n 152 0), (s "/claim/cut.py" 1148)]) #[]
noncomputable def o736 (p : Params) : Obj := .mk (y "function") none (.func (fI 40 "BadOp.__init__" 3 [] .none .none .none (s "neverhalf.errors" 187) none (r 741) .none 0)) #[]
noncomputable def o737 (p : Params) : Obj := .mk (y "tuple") none (.seq #[(s "op" 1150)] 0) #[]
noncomputable def o738 (p : Params) : Obj := .mk (y "dict") none (.dict #[(e p "__module__" 1137 (s "neverhalf.errors" 187)), (e p "__firstlineno__" 1141 (n 150 1140)), (e p "__init__" 1149 (r 742)), (e p "__static_attributes__" 1151 (r 743)), (e p "__doc__" 1152 .none)] 2) #[]
noncomputable def o739 (p : Params) : Obj := .mk (y "type") none (.cls (ClassData.mk "BadOp" [(r 24)] [(r 745), (r 24), (y "ValueError"), (y "Exception"), (y "BaseException"), (y "object")] 744 "BadOp" true [] [] false none false)) #[(some (r 729)), none, (some (s "BadOp" 1130)), (some (s "BadOp" 1138)), (some (u "ValueError.__new__")), (some (.bool true))]
noncomputable def o740 (p : Params) : Obj := .mk (y "super") none (.fields #[(r 745), (r 745), (r 745)]) #[]
noncomputable def o741 (p : Params) : Obj := .mk (y "builtin_function_or_method") none (.fields #[(u "object.__init_subclass__"), (r 745)]) #[]
noncomputable def o742 (p : Params) : Obj := .mk (y "tuple") none (.seq #[(r 24)] 0) #[]
noncomputable def o743 (p : Params) : Obj := .mk (y "builtin_function_or_method") none (.fields #[(u "type.__prepare__"), (y "type")]) #[]
noncomputable def o744 (p : Params) : Obj := .mk (y "dict") none (.dict #[(e p "__module__" 1162 (s "neverhalf.errors" 187)), (e p "__qualname__" 1164 (s "BadTorn" 1163)), (e p "__firstlineno__" 1166 (n 154 1165)), (e p "__init__" 1174 (r 761)), (e p "__static_attributes__" 1176 (r 762))] 5) #[]
noncomputable def o745 (p : Params) : Obj := .mk (y "tuple") none (.seq #[] 0) #[]
noncomputable def o746 (p : Params) : Obj := .mk .none none (.fields #[(n 156 0), (n 4 0), (r 760)]) #[]
noncomputable def o747 (p : Params) : Obj := .mk (y "code") none (.fields #[(s "BadTorn" 1157), (s "BadTorn" 1158), (s "/claim/cut.py" 1159), (n 154 0), (n 0 0), (n 0 0), (n 0 0), (n 0 0), (r 751), (.bool false), (n 181 0), (r 752), .none, .none, .none, .none, (n 1160 0), (n 154 0), (s "/claim/cut.py" 1161)]) #[]
noncomputable def o748 (p : Params) : Obj := .mk (y "frame") none .plain #[(some (r 753)), (some (r 3)), (some (r 750)), none, (some (s "neverhalf.errors" 187)), none, (some (r 0))]
noncomputable def o749 (p : Params) : Obj := .mk (y "tuple") none (.seq #[] 0) #[]
noncomputable def o750 (p : Params) : Obj := .mk .none none (.fields #[]) #[]
noncomputable def o751 (p : Params) : Obj := .mk (y "tuple") none (.seq #[(s "self" 1170), (s "torn" 1171)] 0) #[]
noncomputable def o752 (p : Params) : Obj := .mk (y "tuple") none (.seq #[] 0) #[]
noncomputable def o753 (p : Params) : Obj := .mk .none none (.func (fI 41 "BadTorn.__init__" 0 [] .none .none .none .none none .none .none 0)) #[]
noncomputable def o754 (p : Params) : Obj := .mk (y "code") none (.fields #[(s "__init__" 1167), (s "BadTorn.__init__" 1168), (s "/claim/cut.py" 1169), (n 156 0), (n 2 0), (n 0 0), (n 0 0), (n 3 0), (r 755), (.bool true), (n 181 0), (r 756), .none, (r 757), (r 758), (r 759), (n 1172 0), (n 156 0), (s "/claim/cut.py" 1173)]) #[]
noncomputable def o755 (p : Params) : Obj := .mk (y "function") none (.func (fI 41 "BadTorn.__init__" 3 [] .none .none .none (s "neverhalf.errors" 187) none (r 760) .none 0)) #[]
noncomputable def o756 (p : Params) : Obj := .mk (y "tuple") none (.seq #[(s "torn" 1175)] 0) #[]
noncomputable def o757 (p : Params) : Obj := .mk (y "dict") none (.dict #[(e p "__module__" 1162 (s "neverhalf.errors" 187)), (e p "__firstlineno__" 1166 (n 154 1165)), (e p "__init__" 1174 (r 761)), (e p "__static_attributes__" 1176 (r 762)), (e p "__doc__" 1177 .none)] 2) #[]
noncomputable def o758 (p : Params) : Obj := .mk (y "type") none (.cls (ClassData.mk "BadTorn" [(r 24)] [(r 764), (r 24), (y "ValueError"), (y "Exception"), (y "BaseException"), (y "object")] 763 "BadTorn" true [] [] false none false)) #[(some (r 748)), none, (some (s "BadTorn" 1155)), (some (s "BadTorn" 1163)), (some (u "ValueError.__new__")), (some (.bool true))]
noncomputable def o759 (p : Params) : Obj := .mk (y "super") none (.fields #[(r 764), (r 764), (r 764)]) #[]
noncomputable def o760 (p : Params) : Obj := .mk (y "builtin_function_or_method") none (.fields #[(u "object.__init_subclass__"), (r 764)]) #[]
noncomputable def o761 (p : Params) : Obj := .mk (y "tuple") none (.seq #[(r 24)] 0) #[]
noncomputable def o762 (p : Params) : Obj := .mk (y "builtin_function_or_method") none (.fields #[(u "type.__prepare__"), (y "type")]) #[]
noncomputable def o763 (p : Params) : Obj := .mk (y "dict") none (.dict #[(e p "__module__" 1187 (s "neverhalf.errors" 187)), (e p "__qualname__" 1189 (s "BadBox" 1188)), (e p "__firstlineno__" 1191 (n 158 1190)), (e p "__init__" 1199 (r 780)), (e p "__static_attributes__" 1201 (r 781))] 5) #[]
noncomputable def o764 (p : Params) : Obj := .mk (y "tuple") none (.seq #[] 0) #[]
noncomputable def o765 (p : Params) : Obj := .mk .none none (.fields #[(n 160 0), (n 4 0), (r 779)]) #[]
noncomputable def o766 (p : Params) : Obj := .mk (y "code") none (.fields #[(s "BadBox" 1182), (s "BadBox" 1183), (s "/claim/cut.py" 1184), (n 158 0), (n 0 0), (n 0 0), (n 0 0), (n 0 0), (r 770), (.bool false), (n 181 0), (r 771), .none, .none, .none, .none, (n 1185 0), (n 158 0), (s "/claim/cut.py" 1186)]) #[]
noncomputable def o767 (p : Params) : Obj := .mk (y "frame") none .plain #[(some (r 772)), (some (r 3)), (some (r 769)), none, (some (s "neverhalf.errors" 187)), none, (some (r 0))]
noncomputable def o768 (p : Params) : Obj := .mk (y "tuple") none (.seq #[] 0) #[]
noncomputable def o769 (p : Params) : Obj := .mk .none none (.fields #[]) #[]
noncomputable def o770 (p : Params) : Obj := .mk (y "tuple") none (.seq #[(s "self" 1195), (s "box" 1196)] 0) #[]
noncomputable def o771 (p : Params) : Obj := .mk (y "tuple") none (.seq #[] 0) #[]
noncomputable def o772 (p : Params) : Obj := .mk .none none (.func (fI 42 "BadBox.__init__" 0 [] .none .none .none .none none .none .none 0)) #[]
noncomputable def o773 (p : Params) : Obj := .mk (y "code") none (.fields #[(s "__init__" 1192), (s "BadBox.__init__" 1193), (s "/claim/cut.py" 1194), (n 160 0), (n 2 0), (n 0 0), (n 0 0), (n 3 0), (r 774), (.bool true), (n 181 0), (r 775), .none, (r 776), (r 777), (r 778), (n 1197 0), (n 160 0), (s "/claim/cut.py" 1198)]) #[]
noncomputable def o774 (p : Params) : Obj := .mk (y "function") none (.func (fI 42 "BadBox.__init__" 3 [] .none .none .none (s "neverhalf.errors" 187) none (r 779) .none 0)) #[]
noncomputable def o775 (p : Params) : Obj := .mk (y "tuple") none (.seq #[(s "box" 1200)] 0) #[]
noncomputable def o776 (p : Params) : Obj := .mk (y "dict") none (.dict #[(e p "__module__" 1187 (s "neverhalf.errors" 187)), (e p "__firstlineno__" 1191 (n 158 1190)), (e p "__init__" 1199 (r 780)), (e p "__static_attributes__" 1201 (r 781)), (e p "__doc__" 1202 .none)] 2) #[]
noncomputable def o777 (p : Params) : Obj := .mk (y "type") none (.cls (ClassData.mk "BadBox" [(r 24)] [(r 783), (r 24), (y "ValueError"), (y "Exception"), (y "BaseException"), (y "object")] 782 "BadBox" true [] [] false none false)) #[(some (r 767)), none, (some (s "BadBox" 1180)), (some (s "BadBox" 1188)), (some (u "ValueError.__new__")), (some (.bool true))]
noncomputable def o778 (p : Params) : Obj := .mk (y "super") none (.fields #[(r 783), (r 783), (r 783)]) #[]
noncomputable def o779 (p : Params) : Obj := .mk (y "builtin_function_or_method") none (.fields #[(u "object.__init_subclass__"), (r 783)]) #[]
noncomputable def o780 (p : Params) : Obj := .mk (y "tuple") none (.seq #[(r 24)] 0) #[]
noncomputable def o781 (p : Params) : Obj := .mk (y "builtin_function_or_method") none (.fields #[(u "type.__prepare__"), (y "type")]) #[]
noncomputable def o782 (p : Params) : Obj := .mk (y "dict") none (.dict #[(e p "__module__" 1212 (s "neverhalf.errors" 187)), (e p "__qualname__" 1214 (s "BadSlot" 1213)), (e p "__firstlineno__" 1216 (n 162 1215)), (e p "__init__" 1224 (r 799)), (e p "__static_attributes__" 1226 (r 800))] 5) #[]
noncomputable def o783 (p : Params) : Obj := .mk (y "tuple") none (.seq #[] 0) #[]
noncomputable def o784 (p : Params) : Obj := .mk .none none (.fields #[(n 164 0), (n 4 0), (r 798)]) #[]
noncomputable def o785 (p : Params) : Obj := .mk (y "code") none (.fields #[(s "BadSlot" 1207), (s "BadSlot" 1208), (s "/claim/cut.py" 1209), (n 162 0), (n 0 0), (n 0 0), (n 0 0), (n 0 0), (r 789), (.bool false), (n 181 0), (r 790), .none, .none, .none, .none, (n 1210 0), (n 162 0), (s "/claim/cut.py" 1211)]) #[]
noncomputable def o786 (p : Params) : Obj := .mk (y "frame") none .plain #[(some (r 791)), (some (r 3)), (some (r 788)), none, (some (s "neverhalf.errors" 187)), none, (some (r 0))]
noncomputable def o787 (p : Params) : Obj := .mk (y "tuple") none (.seq #[] 0) #[]
noncomputable def o788 (p : Params) : Obj := .mk .none none (.fields #[]) #[]
noncomputable def o789 (p : Params) : Obj := .mk (y "tuple") none (.seq #[(s "self" 1220), (s "slot" 1221)] 0) #[]
noncomputable def o790 (p : Params) : Obj := .mk (y "tuple") none (.seq #[] 0) #[]
noncomputable def o791 (p : Params) : Obj := .mk .none none (.func (fI 43 "BadSlot.__init__" 0 [] .none .none .none .none none .none .none 0)) #[]
noncomputable def o792 (p : Params) : Obj := .mk (y "code") none (.fields #[(s "__init__" 1217), (s "BadSlot.__init__" 1218), (s "/claim/cut.py" 1219), (n 164 0), (n 2 0), (n 0 0), (n 0 0), (n 3 0), (r 793), (.bool true), (n 181 0), (r 794), .none, (r 795), (r 796), (r 797), (n 1222 0), (n 164 0), (s "/claim/cut.py" 1223)]) #[]
noncomputable def o793 (p : Params) : Obj := .mk (y "function") none (.func (fI 43 "BadSlot.__init__" 3 [] .none .none .none (s "neverhalf.errors" 187) none (r 798) .none 0)) #[]
noncomputable def o794 (p : Params) : Obj := .mk (y "tuple") none (.seq #[(s "slot" 1225)] 0) #[]
noncomputable def o795 (p : Params) : Obj := .mk (y "dict") none (.dict #[(e p "__module__" 1212 (s "neverhalf.errors" 187)), (e p "__firstlineno__" 1216 (n 162 1215)), (e p "__init__" 1224 (r 799)), (e p "__static_attributes__" 1226 (r 800)), (e p "__doc__" 1227 .none)] 2) #[]
noncomputable def o796 (p : Params) : Obj := .mk (y "type") none (.cls (ClassData.mk "BadSlot" [(r 24)] [(r 802), (r 24), (y "ValueError"), (y "Exception"), (y "BaseException"), (y "object")] 801 "BadSlot" true [] [] false none false)) #[(some (r 786)), none, (some (s "BadSlot" 1205)), (some (s "BadSlot" 1213)), (some (u "ValueError.__new__")), (some (.bool true))]
noncomputable def o797 (p : Params) : Obj := .mk (y "super") none (.fields #[(r 802), (r 802), (r 802)]) #[]
noncomputable def o798 (p : Params) : Obj := .mk (y "builtin_function_or_method") none (.fields #[(u "object.__init_subclass__"), (r 802)]) #[]
noncomputable def o799 (p : Params) : Obj := .mk (y "tuple") none (.seq #[(r 24)] 0) #[]
noncomputable def o800 (p : Params) : Obj := .mk (y "builtin_function_or_method") none (.fields #[(u "type.__prepare__"), (y "type")]) #[]
noncomputable def o801 (p : Params) : Obj := .mk (y "dict") none (.dict #[(e p "__module__" 1237 (s "neverhalf.errors" 187)), (e p "__qualname__" 1239 (s "NoRoom" 1238)), (e p "__firstlineno__" 1241 (n 166 1240)), (e p "__init__" 1249 (r 818)), (e p "__static_attributes__" 1251 (r 819))] 5) #[]
noncomputable def o802 (p : Params) : Obj := .mk (y "tuple") none (.seq #[] 0) #[]
noncomputable def o803 (p : Params) : Obj := .mk .none none (.fields #[(n 168 0), (n 4 0), (r 817)]) #[]
noncomputable def o804 (p : Params) : Obj := .mk (y "code") none (.fields #[(s "NoRoom" 1232), (s "NoRoom" 1233), (s "/claim/cut.py" 1234), (n 166 0), (n 0 0), (n 0 0), (n 0 0), (n 0 0), (r 808), (.bool false), (n 181 0), (r 809), .none, .none, .none, .none, (n 1235 0), (n 166 0), (s "/claim/cut.py" 1236)]) #[]
noncomputable def o805 (p : Params) : Obj := .mk (y "frame") none .plain #[(some (r 810)), (some (r 3)), (some (r 807)), none, (some (s "neverhalf.errors" 187)), none, (some (r 0))]
noncomputable def o806 (p : Params) : Obj := .mk (y "tuple") none (.seq #[] 0) #[]
noncomputable def o807 (p : Params) : Obj := .mk .none none (.fields #[]) #[]
noncomputable def o808 (p : Params) : Obj := .mk (y "tuple") none (.seq #[(s "self" 1245), (s "count" 1246)] 0) #[]
noncomputable def o809 (p : Params) : Obj := .mk (y "tuple") none (.seq #[] 0) #[]
noncomputable def o810 (p : Params) : Obj := .mk .none none (.func (fI 44 "NoRoom.__init__" 0 [] .none .none .none .none none .none .none 0)) #[]
noncomputable def o811 (p : Params) : Obj := .mk (y "code") none (.fields #[(s "__init__" 1242), (s "NoRoom.__init__" 1243), (s "/claim/cut.py" 1244), (n 168 0), (n 2 0), (n 0 0), (n 0 0), (n 3 0), (r 812), (.bool true), (n 181 0), (r 813), .none, (r 814), (r 815), (r 816), (n 1247 0), (n 168 0), (s "/claim/cut.py" 1248)]) #[]
noncomputable def o812 (p : Params) : Obj := .mk (y "function") none (.func (fI 44 "NoRoom.__init__" 3 [] .none .none .none (s "neverhalf.errors" 187) none (r 817) .none 0)) #[]
noncomputable def o813 (p : Params) : Obj := .mk (y "tuple") none (.seq #[(s "count" 1250)] 0) #[]
noncomputable def o814 (p : Params) : Obj := .mk (y "dict") none (.dict #[(e p "__module__" 1237 (s "neverhalf.errors" 187)), (e p "__firstlineno__" 1241 (n 166 1240)), (e p "__init__" 1249 (r 818)), (e p "__static_attributes__" 1251 (r 819)), (e p "__doc__" 1252 .none)] 2) #[]
noncomputable def o815 (p : Params) : Obj := .mk (y "type") none (.cls (ClassData.mk "NoRoom" [(r 24)] [(r 821), (r 24), (y "ValueError"), (y "Exception"), (y "BaseException"), (y "object")] 820 "NoRoom" true [] [] false none false)) #[(some (r 805)), none, (some (s "NoRoom" 1230)), (some (s "NoRoom" 1238)), (some (u "ValueError.__new__")), (some (.bool true))]
noncomputable def o816 (p : Params) : Obj := .mk (y "super") none (.fields #[(r 821), (r 821), (r 821)]) #[]
noncomputable def o817 (p : Params) : Obj := .mk (y "builtin_function_or_method") none (.fields #[(u "object.__init_subclass__"), (r 821)]) #[]
noncomputable def o818 (p : Params) : Obj := .mk (y "tuple") none (.seq #[(r 24)] 0) #[]
noncomputable def o819 (p : Params) : Obj := .mk (y "builtin_function_or_method") none (.fields #[(u "type.__prepare__"), (y "type")]) #[]
noncomputable def o820 (p : Params) : Obj := .mk (y "dict") none (.dict #[(e p "__module__" 1262 (s "neverhalf.errors" 187)), (e p "__qualname__" 1264 (s "BadBlock" 1263)), (e p "__firstlineno__" 1266 (n 170 1265)), (e p "__init__" 1274 (r 837)), (e p "__static_attributes__" 1276 (r 838))] 5) #[]
noncomputable def o821 (p : Params) : Obj := .mk (y "tuple") none (.seq #[] 0) #[]
noncomputable def o822 (p : Params) : Obj := .mk .none none (.fields #[(n 172 0), (n 4 0), (r 836)]) #[]
noncomputable def o823 (p : Params) : Obj := .mk (y "code") none (.fields #[(s "BadBlock" 1257), (s "BadBlock" 1258), (s "/claim/cut.py" 1259), (n 170 0), (n 0 0), (n 0 0), (n 0 0), (n 0 0), (r 827), (.bool false), (n 181 0), (r 828), .none, .none, .none, .none, (n 1260 0), (n 170 0), (s "/claim/cut.py" 1261)]) #[]
noncomputable def o824 (p : Params) : Obj := .mk (y "frame") none .plain #[(some (r 829)), (some (r 3)), (some (r 826)), none, (some (s "neverhalf.errors" 187)), none, (some (r 0))]
noncomputable def o825 (p : Params) : Obj := .mk (y "tuple") none (.seq #[] 0) #[]
noncomputable def o826 (p : Params) : Obj := .mk .none none (.fields #[]) #[]
noncomputable def o827 (p : Params) : Obj := .mk (y "tuple") none (.seq #[(s "self" 1270), (s "block" 1271)] 0) #[]
noncomputable def o828 (p : Params) : Obj := .mk (y "tuple") none (.seq #[] 0) #[]
noncomputable def o829 (p : Params) : Obj := .mk .none none (.func (fI 45 "BadBlock.__init__" 0 [] .none .none .none .none none .none .none 0)) #[]
noncomputable def o830 (p : Params) : Obj := .mk (y "code") none (.fields #[(s "__init__" 1267), (s "BadBlock.__init__" 1268), (s "/claim/cut.py" 1269), (n 172 0), (n 2 0), (n 0 0), (n 0 0), (n 3 0), (r 831), (.bool true), (n 181 0), (r 832), .none, (r 833), (r 834), (r 835), (n 1272 0), (n 172 0), (s "/claim/cut.py" 1273)]) #[]
noncomputable def o831 (p : Params) : Obj := .mk (y "function") none (.func (fI 45 "BadBlock.__init__" 3 [] .none .none .none (s "neverhalf.errors" 187) none (r 836) .none 0)) #[]
noncomputable def o832 (p : Params) : Obj := .mk (y "tuple") none (.seq #[(s "block" 1275)] 0) #[]
noncomputable def o833 (p : Params) : Obj := .mk (y "dict") none (.dict #[(e p "__module__" 1262 (s "neverhalf.errors" 187)), (e p "__firstlineno__" 1266 (n 170 1265)), (e p "__init__" 1274 (r 837)), (e p "__static_attributes__" 1276 (r 838)), (e p "__doc__" 1277 .none)] 2) #[]
noncomputable def o834 (p : Params) : Obj := .mk (y "type") none (.cls (ClassData.mk "BadBlock" [(r 24)] [(r 840), (r 24), (y "ValueError"), (y "Exception"), (y "BaseException"), (y "object")] 839 "BadBlock" true [] [] false none false)) #[(some (r 824)), none, (some (s "BadBlock" 1255)), (some (s "BadBlock" 1263)), (some (u "ValueError.__new__")), (some (.bool true))]
noncomputable def o835 (p : Params) : Obj := .mk (y "super") none (.fields #[(r 840), (r 840), (r 840)]) #[]
noncomputable def o836 (p : Params) : Obj := .mk (y "builtin_function_or_method") none (.fields #[(u "object.__init_subclass__"), (r 840)]) #[]
noncomputable def o837 (p : Params) : Obj := .mk (y "tuple") none (.seq #[(r 24)] 0) #[]
noncomputable def o838 (p : Params) : Obj := .mk (y "builtin_function_or_method") none (.fields #[(u "type.__prepare__"), (y "type")]) #[]
noncomputable def o839 (p : Params) : Obj := .mk (y "dict") none (.dict #[(e p "__module__" 1287 (s "neverhalf.errors" 187)), (e p "__qualname__" 1289 (s "BadBlocks" 1288)), (e p "__firstlineno__" 1291 (n 174 1290)), (e p "__init__" 1299 (r 856)), (e p "__static_attributes__" 1301 (r 857))] 5) #[]
noncomputable def o840 (p : Params) : Obj := .mk (y "tuple") none (.seq #[] 0) #[]
noncomputable def o841 (p : Params) : Obj := .mk .none none (.fields #[(n 176 0), (n 4 0), (r 855)]) #[]
noncomputable def o842 (p : Params) : Obj := .mk (y "code") none (.fields #[(s "BadBlocks" 1282), (s "BadBlocks" 1283), (s "/claim/cut.py" 1284), (n 174 0), (n 0 0), (n 0 0), (n 0 0), (n 0 0), (r 846), (.bool false), (n 181 0), (r 847), .none, .none, .none, .none, (n 1285 0), (n 174 0), (s "/claim/cut.py" 1286)]) #[]
noncomputable def o843 (p : Params) : Obj := .mk (y "frame") none .plain #[(some (r 848)), (some (r 3)), (some (r 845)), none, (some (s "neverhalf.errors" 187)), none, (some (r 0))]
noncomputable def o844 (p : Params) : Obj := .mk (y "tuple") none (.seq #[] 0) #[]
noncomputable def o845 (p : Params) : Obj := .mk .none none (.fields #[]) #[]
noncomputable def o846 (p : Params) : Obj := .mk (y "tuple") none (.seq #[(s "self" 1295), (s "blocks" 1296)] 0) #[]
noncomputable def o847 (p : Params) : Obj := .mk (y "tuple") none (.seq #[] 0) #[]
noncomputable def o848 (p : Params) : Obj := .mk .none none (.func (fI 46 "BadBlocks.__init__" 0 [] .none .none .none .none none .none .none 0)) #[]
noncomputable def o849 (p : Params) : Obj := .mk (y "code") none (.fields #[(s "__init__" 1292), (s "BadBlocks.__init__" 1293), (s "/claim/cut.py" 1294), (n 176 0), (n 2 0), (n 0 0), (n 0 0), (n 3 0), (r 850), (.bool true), (n 181 0), (r 851), .none, (r 852), (r 853), (r 854), (n 1297 0), (n 176 0), (s "/claim/cut.py" 1298)]) #[]
noncomputable def o850 (p : Params) : Obj := .mk (y "function") none (.func (fI 46 "BadBlocks.__init__" 3 [] .none .none .none (s "neverhalf.errors" 187) none (r 855) .none 0)) #[]
noncomputable def o851 (p : Params) : Obj := .mk (y "tuple") none (.seq #[(s "blocks" 1300)] 0) #[]
noncomputable def o852 (p : Params) : Obj := .mk (y "dict") none (.dict #[(e p "__module__" 1287 (s "neverhalf.errors" 187)), (e p "__firstlineno__" 1291 (n 174 1290)), (e p "__init__" 1299 (r 856)), (e p "__static_attributes__" 1301 (r 857)), (e p "__doc__" 1302 .none)] 2) #[]
noncomputable def o853 (p : Params) : Obj := .mk (y "type") none (.cls (ClassData.mk "BadBlocks" [(r 24)] [(r 859), (r 24), (y "ValueError"), (y "Exception"), (y "BaseException"), (y "object")] 858 "BadBlocks" true [] [] false none false)) #[(some (r 843)), none, (some (s "BadBlocks" 1280)), (some (s "BadBlocks" 1288)), (some (u "ValueError.__new__")), (some (.bool true))]
noncomputable def o854 (p : Params) : Obj := .mk (y "super") none (.fields #[(r 859), (r 859), (r 859)]) #[]
noncomputable def o855 (p : Params) : Obj := .mk (y "builtin_function_or_method") none (.fields #[(u "object.__init_subclass__"), (r 859)]) #[]
noncomputable def o856 (p : Params) : Obj := .mk (y "tuple") none (.seq #[(r 24)] 0) #[]
noncomputable def o857 (p : Params) : Obj := .mk (y "builtin_function_or_method") none (.fields #[(u "type.__prepare__"), (y "type")]) #[]
noncomputable def o858 (p : Params) : Obj := .mk (y "dict") none (.dict #[(e p "__module__" 1312 (s "neverhalf.errors" 187)), (e p "__qualname__" 1314 (s "BadRun" 1313)), (e p "__firstlineno__" 1316 (n 178 1315)), (e p "__init__" 1324 (r 875)), (e p "__static_attributes__" 1326 (r 876))] 5) #[]
noncomputable def o859 (p : Params) : Obj := .mk (y "tuple") none (.seq #[] 0) #[]
noncomputable def o860 (p : Params) : Obj := .mk .none none (.fields #[(n 180 0), (n 4 0), (r 874)]) #[]
noncomputable def o861 (p : Params) : Obj := .mk (y "code") none (.fields #[(s "BadRun" 1307), (s "BadRun" 1308), (s "/claim/cut.py" 1309), (n 178 0), (n 0 0), (n 0 0), (n 0 0), (n 0 0), (r 865), (.bool false), (n 181 0), (r 866), .none, .none, .none, .none, (n 1310 0), (n 178 0), (s "/claim/cut.py" 1311)]) #[]
noncomputable def o862 (p : Params) : Obj := .mk (y "frame") none .plain #[(some (r 867)), (some (r 3)), (some (r 864)), none, (some (s "neverhalf.errors" 187)), none, (some (r 0))]
noncomputable def o863 (p : Params) : Obj := .mk (y "tuple") none (.seq #[] 0) #[]
noncomputable def o864 (p : Params) : Obj := .mk .none none (.fields #[]) #[]
noncomputable def o865 (p : Params) : Obj := .mk (y "tuple") none (.seq #[(s "self" 1320), (s "run" 1321)] 0) #[]
noncomputable def o866 (p : Params) : Obj := .mk (y "tuple") none (.seq #[] 0) #[]
noncomputable def o867 (p : Params) : Obj := .mk .none none (.func (fI 47 "BadRun.__init__" 0 [] .none .none .none .none none .none .none 0)) #[]
noncomputable def o868 (p : Params) : Obj := .mk (y "code") none (.fields #[(s "__init__" 1317), (s "BadRun.__init__" 1318), (s "/claim/cut.py" 1319), (n 180 0), (n 2 0), (n 0 0), (n 0 0), (n 3 0), (r 869), (.bool true), (n 181 0), (r 870), .none, (r 871), (r 872), (r 873), (n 1322 0), (n 180 0), (s "/claim/cut.py" 1323)]) #[]
noncomputable def o869 (p : Params) : Obj := .mk (y "function") none (.func (fI 47 "BadRun.__init__" 3 [] .none .none .none (s "neverhalf.errors" 187) none (r 874) .none 0)) #[]
noncomputable def o870 (p : Params) : Obj := .mk (y "tuple") none (.seq #[(s "run" 1325)] 0) #[]
noncomputable def o871 (p : Params) : Obj := .mk (y "dict") none (.dict #[(e p "__module__" 1312 (s "neverhalf.errors" 187)), (e p "__firstlineno__" 1316 (n 178 1315)), (e p "__init__" 1324 (r 875)), (e p "__static_attributes__" 1326 (r 876)), (e p "__doc__" 1327 .none)] 2) #[]
noncomputable def o872 (p : Params) : Obj := .mk (y "type") none (.cls (ClassData.mk "BadRun" [(r 24)] [(r 878), (r 24), (y "ValueError"), (y "Exception"), (y "BaseException"), (y "object")] 877 "BadRun" true [] [] false none false)) #[(some (r 862)), none, (some (s "BadRun" 1305)), (some (s "BadRun" 1313)), (some (u "ValueError.__new__")), (some (.bool true))]
noncomputable def o873 (p : Params) : Obj := .mk (y "super") none (.fields #[(r 878), (r 878), (r 878)]) #[]
noncomputable def o874 (p : Params) : Obj := .mk (y "builtin_function_or_method") none (.fields #[(u "object.__init_subclass__"), (r 878)]) #[]
noncomputable def o875 (p : Params) : Obj := .mk (y "tuple") none (.seq #[(r 24)] 0) #[]
noncomputable def o876 (p : Params) : Obj := .mk (y "builtin_function_or_method") none (.fields #[(u "type.__prepare__"), (y "type")]) #[]
noncomputable def o877 (p : Params) : Obj := .mk (y "dict") none (.dict #[(e p "__module__" 1337 (s "neverhalf.errors" 187)), (e p "__qualname__" 1339 (s "BadGiven" 1338)), (e p "__firstlineno__" 1341 (n 182 1340)), (e p "__init__" 1349 (r 894)), (e p "__static_attributes__" 1351 (r 895))] 5) #[]
noncomputable def o878 (p : Params) : Obj := .mk (y "tuple") none (.seq #[] 0) #[]
noncomputable def o879 (p : Params) : Obj := .mk .none none (.fields #[(n 184 0), (n 4 0), (r 893)]) #[]
noncomputable def o880 (p : Params) : Obj := .mk (y "code") none (.fields #[(s "BadGiven" 1332), (s "BadGiven" 1333), (s "/claim/cut.py" 1334), (n 182 0), (n 0 0), (n 0 0), (n 0 0), (n 0 0), (r 884), (.bool false), (n 181 0), (r 885), .none, .none, .none, .none, (n 1335 0), (n 182 0), (s "/claim/cut.py" 1336)]) #[]
noncomputable def o881 (p : Params) : Obj := .mk (y "frame") none .plain #[(some (r 886)), (some (r 3)), (some (r 883)), none, (some (s "neverhalf.errors" 187)), none, (some (r 0))]
noncomputable def o882 (p : Params) : Obj := .mk (y "tuple") none (.seq #[] 0) #[]
noncomputable def o883 (p : Params) : Obj := .mk .none none (.fields #[]) #[]
noncomputable def o884 (p : Params) : Obj := .mk (y "tuple") none (.seq #[(s "self" 1345), (s "given" 1346)] 0) #[]
noncomputable def o885 (p : Params) : Obj := .mk (y "tuple") none (.seq #[] 0) #[]
noncomputable def o886 (p : Params) : Obj := .mk .none none (.func (fI 48 "BadGiven.__init__" 0 [] .none .none .none .none none .none .none 0)) #[]
noncomputable def o887 (p : Params) : Obj := .mk (y "code") none (.fields #[(s "__init__" 1342), (s "BadGiven.__init__" 1343), (s "/claim/cut.py" 1344), (n 184 0), (n 2 0), (n 0 0), (n 0 0), (n 3 0), (r 888), (.bool true), (n 181 0), (r 889), .none, (r 890), (r 891), (r 892), (n 1347 0), (n 184 0), (s "/claim/cut.py" 1348)]) #[]
noncomputable def o888 (p : Params) : Obj := .mk (y "function") none (.func (fI 48 "BadGiven.__init__" 3 [] .none .none .none (s "neverhalf.errors" 187) none (r 893) .none 0)) #[]
noncomputable def o889 (p : Params) : Obj := .mk (y "tuple") none (.seq #[(s "given" 1350)] 0) #[]
noncomputable def o890 (p : Params) : Obj := .mk (y "dict") none (.dict #[(e p "__module__" 1337 (s "neverhalf.errors" 187)), (e p "__firstlineno__" 1341 (n 182 1340)), (e p "__init__" 1349 (r 894)), (e p "__static_attributes__" 1351 (r 895)), (e p "__doc__" 1352 .none)] 2) #[]
noncomputable def o891 (p : Params) : Obj := .mk (y "type") none (.cls (ClassData.mk "BadGiven" [(r 24)] [(r 897), (r 24), (y "ValueError"), (y "Exception"), (y "BaseException"), (y "object")] 896 "BadGiven" true [] [] false none false)) #[(some (r 881)), none, (some (s "BadGiven" 1330)), (some (s "BadGiven" 1338)), (some (u "ValueError.__new__")), (some (.bool true))]
noncomputable def o892 (p : Params) : Obj := .mk (y "super") none (.fields #[(r 897), (r 897), (r 897)]) #[]
noncomputable def o893 (p : Params) : Obj := .mk (y "builtin_function_or_method") none (.fields #[(u "object.__init_subclass__"), (r 897)]) #[]
noncomputable def o894 (p : Params) : Obj := .mk (y "tuple") none (.seq #[(r 24)] 0) #[]
noncomputable def o895 (p : Params) : Obj := .mk (y "builtin_function_or_method") none (.fields #[(u "type.__prepare__"), (y "type")]) #[]
noncomputable def o896 (p : Params) : Obj := .mk (y "dict") none (.dict #[(e p "__module__" 1362 (s "neverhalf.errors" 187)), (e p "__qualname__" 1364 (s "NotRun" 1363)), (e p "__firstlineno__" 1366 (n 186 1365)), (e p "__static_attributes__" 1367 (r 907))] 4) #[]
noncomputable def o897 (p : Params) : Obj := .mk (y "tuple") none (.seq #[] 0) #[]
noncomputable def o898 (p : Params) : Obj := .mk .none none (.fields #[]) #[]
noncomputable def o899 (p : Params) : Obj := .mk (y "code") none (.fields #[(s "NotRun" 1357), (s "NotRun" 1358), (s "/claim/cut.py" 1359), (n 186 0), (n 0 0), (n 0 0), (n 0 0), (n 0 0), (r 903), (.bool false), (n 181 0), (r 904), .none, .none, .none, .none, (n 1360 0), (n 186 0), (s "/claim/cut.py" 1361)]) #[]
noncomputable def o900 (p : Params) : Obj := .mk (y "frame") none .plain #[(some (r 905)), (some (r 3)), (some (r 902)), none, (some (s "neverhalf.errors" 187)), none, (some (r 0))]
noncomputable def o901 (p : Params) : Obj := .mk (y "tuple") none (.seq #[] 0) #[]
noncomputable def o902 (p : Params) : Obj := .mk (y "dict") none (.dict #[(e p "__module__" 1362 (s "neverhalf.errors" 187)), (e p "__firstlineno__" 1366 (n 186 1365)), (e p "__static_attributes__" 1367 (r 907)), (e p "__doc__" 1368 .none)] 2) #[]
noncomputable def o903 (p : Params) : Obj := .mk (y "type") none (.cls (ClassData.mk "NotRun" [(r 24)] [(r 909), (r 24), (y "ValueError"), (y "Exception"), (y "BaseException"), (y "object")] 908 "NotRun" true [] [] false none false)) #[(some (r 900)), none, (some (s "NotRun" 1355)), (some (s "NotRun" 1363)), (some (u "ValueError.__new__")), (some (.bool true))]
noncomputable def o904 (p : Params) : Obj := .mk (y "super") none (.fields #[(r 909), (r 909), (r 909)]) #[]
noncomputable def o905 (p : Params) : Obj := .mk (y "builtin_function_or_method") none (.fields #[(u "object.__init_subclass__"), (r 909)]) #[]
noncomputable def o906 (p : Params) : Obj := .mk (y "tuple") none (.seq #[(r 24)] 0) #[]
noncomputable def o907 (p : Params) : Obj := .mk (y "builtin_function_or_method") none (.fields #[(u "type.__prepare__"), (y "type")]) #[]
noncomputable def o908 (p : Params) : Obj := .mk (y "dict") none (.dict #[(e p "__module__" 1378 (s "neverhalf.errors" 187)), (e p "__qualname__" 1380 (s "NotMade" 1379)), (e p "__firstlineno__" 1382 (n 188 1381)), (e p "__init__" 1390 (r 925)), (e p "__static_attributes__" 1392 (r 926))] 5) #[]
noncomputable def o909 (p : Params) : Obj := .mk (y "tuple") none (.seq #[] 0) #[]
noncomputable def o910 (p : Params) : Obj := .mk .none none (.fields #[(n 190 0), (n 4 0), (r 924)]) #[]
noncomputable def o911 (p : Params) : Obj := .mk (y "code") none (.fields #[(s "NotMade" 1373), (s "NotMade" 1374), (s "/claim/cut.py" 1375), (n 188 0), (n 0 0), (n 0 0), (n 0 0), (n 0 0), (r 915), (.bool false), (n 181 0), (r 916), .none, .none, .none, .none, (n 1376 0), (n 188 0), (s "/claim/cut.py" 1377)]) #[]
noncomputable def o912 (p : Params) : Obj := .mk (y "frame") none .plain #[(some (r 917)), (some (r 3)), (some (r 914)), none, (some (s "neverhalf.errors" 187)), none, (some (r 0))]
noncomputable def o913 (p : Params) : Obj := .mk (y "tuple") none (.seq #[] 0) #[]
noncomputable def o914 (p : Params) : Obj := .mk .none none (.fields #[]) #[]
noncomputable def o915 (p : Params) : Obj := .mk (y "tuple") none (.seq #[(s "self" 1386), (s "why" 1387)] 0) #[]
noncomputable def o916 (p : Params) : Obj := .mk (y "tuple") none (.seq #[] 0) #[]
noncomputable def o917 (p : Params) : Obj := .mk .none none (.func (fI 50 "NotMade.__init__" 0 [] .none .none .none .none none .none .none 0)) #[]
noncomputable def o918 (p : Params) : Obj := .mk (y "code") none (.fields #[(s "__init__" 1383), (s "NotMade.__init__" 1384), (s "/claim/cut.py" 1385), (n 190 0), (n 2 0), (n 0 0), (n 0 0), (n 3 0), (r 919), (.bool true), (n 181 0), (r 920), .none, (r 921), (r 922), (r 923), (n 1388 0), (n 190 0), (s "/claim/cut.py" 1389)]) #[]
noncomputable def o919 (p : Params) : Obj := .mk (y "function") none (.func (fI 50 "NotMade.__init__" 3 [] .none .none .none (s "neverhalf.errors" 187) none (r 924) .none 0)) #[]
noncomputable def o920 (p : Params) : Obj := .mk (y "tuple") none (.seq #[(s "why" 1391)] 0) #[]
noncomputable def o921 (p : Params) : Obj := .mk (y "dict") none (.dict #[(e p "__module__" 1378 (s "neverhalf.errors" 187)), (e p "__firstlineno__" 1382 (n 188 1381)), (e p "__init__" 1390 (r 925)), (e p "__static_attributes__" 1392 (r 926)), (e p "__doc__" 1393 .none)] 2) #[]
noncomputable def o922 (p : Params) : Obj := .mk (y "type") none (.cls (ClassData.mk "NotMade" [(r 24)] [(r 928), (r 24), (y "ValueError"), (y "Exception"), (y "BaseException"), (y "object")] 927 "NotMade" true [] [] false none false)) #[(some (r 912)), none, (some (s "NotMade" 1371)), (some (s "NotMade" 1379)), (some (u "ValueError.__new__")), (some (.bool true))]
noncomputable def o923 (p : Params) : Obj := .mk (y "super") none (.fields #[(r 928), (r 928), (r 928)]) #[]
noncomputable def o924 (p : Params) : Obj := .mk (y "builtin_function_or_method") none (.fields #[(u "object.__init_subclass__"), (r 928)]) #[]
noncomputable def o925 (p : Params) : Obj := .mk (y "tuple") none (.seq #[(r 24)] 0) #[]
noncomputable def o926 (p : Params) : Obj := .mk (y "builtin_function_or_method") none (.fields #[(u "type.__prepare__"), (y "type")]) #[]
noncomputable def o927 (p : Params) : Obj := .mk (y "dict") none (.dict #[(e p "__module__" 1403 (s "neverhalf.errors" 187)), (e p "__qualname__" 1405 (s "BadCut" 1404)), (e p "__firstlineno__" 1407 (n 192 1406)), (e p "__init__" 1415 (r 944)), (e p "__static_attributes__" 1417 (r 945))] 5) #[]
noncomputable def o928 (p : Params) : Obj := .mk (y "tuple") none (.seq #[] 0) #[]
noncomputable def o929 (p : Params) : Obj := .mk .none none (.fields #[(n 194 0), (n 4 0), (r 943)]) #[]
noncomputable def o930 (p : Params) : Obj := .mk (y "code") none (.fields #[(s "BadCut" 1398), (s "BadCut" 1399), (s "/claim/cut.py" 1400), (n 192 0), (n 0 0), (n 0 0), (n 0 0), (n 0 0), (r 934), (.bool false), (n 181 0), (r 935), .none, .none, .none, .none, (n 1401 0), (n 192 0), (s "/claim/cut.py" 1402)]) #[]
noncomputable def o931 (p : Params) : Obj := .mk (y "frame") none .plain #[(some (r 936)), (some (r 3)), (some (r 933)), none, (some (s "neverhalf.errors" 187)), none, (some (r 0))]
noncomputable def o932 (p : Params) : Obj := .mk (y "tuple") none (.seq #[] 0) #[]
noncomputable def o933 (p : Params) : Obj := .mk .none none (.fields #[]) #[]
noncomputable def o934 (p : Params) : Obj := .mk (y "tuple") none (.seq #[(s "self" 1411), (s "cut" 1412)] 0) #[]
noncomputable def o935 (p : Params) : Obj := .mk (y "tuple") none (.seq #[] 0) #[]
noncomputable def o936 (p : Params) : Obj := .mk .none none (.func (fI 51 "BadCut.__init__" 0 [] .none .none .none .none none .none .none 0)) #[]
noncomputable def o937 (p : Params) : Obj := .mk (y "code") none (.fields #[(s "__init__" 1408), (s "BadCut.__init__" 1409), (s "/claim/cut.py" 1410), (n 194 0), (n 2 0), (n 0 0), (n 0 0), (n 3 0), (r 938), (.bool true), (n 181 0), (r 939), .none, (r 940), (r 941), (r 942), (n 1413 0), (n 194 0), (s "/claim/cut.py" 1414)]) #[]
noncomputable def o938 (p : Params) : Obj := .mk (y "function") none (.func (fI 51 "BadCut.__init__" 3 [] .none .none .none (s "neverhalf.errors" 187) none (r 943) .none 0)) #[]
noncomputable def o939 (p : Params) : Obj := .mk (y "tuple") none (.seq #[(s "cut" 1416)] 0) #[]
noncomputable def o940 (p : Params) : Obj := .mk (y "dict") none (.dict #[(e p "__module__" 1403 (s "neverhalf.errors" 187)), (e p "__firstlineno__" 1407 (n 192 1406)), (e p "__init__" 1415 (r 944)), (e p "__static_attributes__" 1417 (r 945)), (e p "__doc__" 1418 .none)] 2) #[]
noncomputable def o941 (p : Params) : Obj := .mk (y "type") none (.cls (ClassData.mk "BadCut" [(r 24)] [(r 947), (r 24), (y "ValueError"), (y "Exception"), (y "BaseException"), (y "object")] 946 "BadCut" true [] [] false none false)) #[(some (r 931)), none, (some (s "BadCut" 1396)), (some (s "BadCut" 1404)), (some (u "ValueError.__new__")), (some (.bool true))]
noncomputable def o942 (p : Params) : Obj := .mk (y "super") none (.fields #[(r 947), (r 947), (r 947)]) #[]
noncomputable def o943 (p : Params) : Obj := .mk (y "builtin_function_or_method") none (.fields #[(u "object.__init_subclass__"), (r 947)]) #[]
noncomputable def o944 (p : Params) : Obj := .mk (y "tuple") none (.seq #[(r 24)] 0) #[]
noncomputable def o945 (p : Params) : Obj := .mk (y "builtin_function_or_method") none (.fields #[(u "type.__prepare__"), (y "type")]) #[]
noncomputable def o946 (p : Params) : Obj := .mk (y "dict") none (.dict #[(e p "__module__" 1428 (s "neverhalf.errors" 187)), (e p "__qualname__" 1430 (s "OnTrial" 1429)), (e p "__firstlineno__" 1432 (n 196 1431)), (e p "__static_attributes__" 1433 (r 957))] 4) #[]
noncomputable def o947 (p : Params) : Obj := .mk (y "tuple") none (.seq #[] 0) #[]
noncomputable def o948 (p : Params) : Obj := .mk .none none (.fields #[]) #[]
noncomputable def o949 (p : Params) : Obj := .mk (y "code") none (.fields #[(s "OnTrial" 1423), (s "OnTrial" 1424), (s "/claim/cut.py" 1425), (n 196 0), (n 0 0), (n 0 0), (n 0 0), (n 0 0), (r 953), (.bool false), (n 181 0), (r 954), .none, .none, .none, .none, (n 1426 0), (n 196 0), (s "/claim/cut.py" 1427)]) #[]
noncomputable def o950 (p : Params) : Obj := .mk (y "frame") none .plain #[(some (r 955)), (some (r 3)), (some (r 952)), none, (some (s "neverhalf.errors" 187)), none, (some (r 0))]
noncomputable def o951 (p : Params) : Obj := .mk (y "tuple") none (.seq #[] 0) #[]
noncomputable def o952 (p : Params) : Obj := .mk (y "dict") none (.dict #[(e p "__module__" 1428 (s "neverhalf.errors" 187)), (e p "__firstlineno__" 1432 (n 196 1431)), (e p "__static_attributes__" 1433 (r 957)), (e p "__doc__" 1434 .none)] 2) #[]
noncomputable def o953 (p : Params) : Obj := .mk (y "type") none (.cls (ClassData.mk "OnTrial" [(r 24)] [(r 959), (r 24), (y "ValueError"), (y "Exception"), (y "BaseException"), (y "object")] 958 "OnTrial" true [] [] false none false)) #[(some (r 950)), none, (some (s "OnTrial" 1421)), (some (s "OnTrial" 1429)), (some (u "ValueError.__new__")), (some (.bool true))]
noncomputable def o954 (p : Params) : Obj := .mk (y "super") none (.fields #[(r 959), (r 959), (r 959)]) #[]
noncomputable def o955 (p : Params) : Obj := .mk (y "builtin_function_or_method") none (.fields #[(u "object.__init_subclass__"), (r 959)]) #[]
noncomputable def o956 (p : Params) : Obj := .mk (y "tuple") none (.seq #[(r 24)] 0) #[]
noncomputable def o957 (p : Params) : Obj := .mk (y "builtin_function_or_method") none (.fields #[(u "type.__prepare__"), (y "type")]) #[]
noncomputable def o958 (p : Params) : Obj := .mk (y "dict") none (.dict #[(e p "__module__" 1444 (s "neverhalf.errors" 187)), (e p "__qualname__" 1446 (s "OldVersion" 1445)), (e p "__firstlineno__" 1448 (n 198 1447)), (e p "__static_attributes__" 1449 (r 969))] 4) #[]
noncomputable def o959 (p : Params) : Obj := .mk (y "tuple") none (.seq #[] 0) #[]
noncomputable def o960 (p : Params) : Obj := .mk .none none (.fields #[]) #[]
noncomputable def o961 (p : Params) : Obj := .mk (y "code") none (.fields #[(s "OldVersion" 1439), (s "OldVersion" 1440), (s "/claim/cut.py" 1441), (n 198 0), (n 0 0), (n 0 0), (n 0 0), (n 0 0), (r 965), (.bool false), (n 181 0), (r 966), .none, .none, .none, .none, (n 1442 0), (n 198 0), (s "/claim/cut.py" 1443)]) #[]
noncomputable def o962 (p : Params) : Obj := .mk (y "frame") none .plain #[(some (r 967)), (some (r 3)), (some (r 964)), none, (some (s "neverhalf.errors" 187)), none, (some (r 0))]
noncomputable def o963 (p : Params) : Obj := .mk (y "tuple") none (.seq #[] 0) #[]
noncomputable def o964 (p : Params) : Obj := .mk (y "dict") none (.dict #[(e p "__module__" 1444 (s "neverhalf.errors" 187)), (e p "__firstlineno__" 1448 (n 198 1447)), (e p "__static_attributes__" 1449 (r 969)), (e p "__doc__" 1450 .none)] 2) #[]
noncomputable def o965 (p : Params) : Obj := .mk (y "type") none (.cls (ClassData.mk "OldVersion" [(r 24)] [(r 971), (r 24), (y "ValueError"), (y "Exception"), (y "BaseException"), (y "object")] 970 "OldVersion" true [] [] false none false)) #[(some (r 962)), none, (some (s "OldVersion" 1437)), (some (s "OldVersion" 1445)), (some (u "ValueError.__new__")), (some (.bool true))]
noncomputable def o966 (p : Params) : Obj := .mk (y "super") none (.fields #[(r 971), (r 971), (r 971)]) #[]
noncomputable def o967 (p : Params) : Obj := .mk (y "builtin_function_or_method") none (.fields #[(u "object.__init_subclass__"), (r 971)]) #[]
noncomputable def o968 (p : Params) : Obj := .mk (y "tuple") none (.seq #[(r 24)] 0) #[]
noncomputable def o969 (p : Params) : Obj := .mk (y "builtin_function_or_method") none (.fields #[(u "type.__prepare__"), (y "type")]) #[]
noncomputable def o970 (p : Params) : Obj := .mk (y "dict") none (.dict #[(e p "__module__" 1460 (s "neverhalf.errors" 187)), (e p "__qualname__" 1462 (s "BadSetting" 1461)), (e p "__firstlineno__" 1464 (n 200 1463)), (e p "__init__" 1472 (r 987)), (e p "__static_attributes__" 1474 (r 988))] 5) #[]
noncomputable def o971 (p : Params) : Obj := .mk (y "tuple") none (.seq #[] 0) #[]
noncomputable def o972 (p : Params) : Obj := .mk .none none (.fields #[(n 202 0), (n 4 0), (r 986)]) #[]
noncomputable def o973 (p : Params) : Obj := .mk (y "code") none (.fields #[(s "BadSetting" 1455), (s "BadSetting" 1456), (s "/claim/cut.py" 1457), (n 200 0), (n 0 0), (n 0 0), (n 0 0), (n 0 0), (r 977), (.bool false), (n 181 0), (r 978), .none, .none, .none, .none, (n 1458 0), (n 200 0), (s "/claim/cut.py" 1459)]) #[]
noncomputable def o974 (p : Params) : Obj := .mk (y "frame") none .plain #[(some (r 979)), (some (r 3)), (some (r 976)), none, (some (s "neverhalf.errors" 187)), none, (some (r 0))]
noncomputable def o975 (p : Params) : Obj := .mk (y "tuple") none (.seq #[] 0) #[]
noncomputable def o976 (p : Params) : Obj := .mk .none none (.fields #[]) #[]
noncomputable def o977 (p : Params) : Obj := .mk (y "tuple") none (.seq #[(s "self" 1468), (s "setting" 1469)] 0) #[]
noncomputable def o978 (p : Params) : Obj := .mk (y "tuple") none (.seq #[] 0) #[]
noncomputable def o979 (p : Params) : Obj := .mk .none none (.func (fI 54 "BadSetting.__init__" 0 [] .none .none .none .none none .none .none 0)) #[]
noncomputable def o980 (p : Params) : Obj := .mk (y "code") none (.fields #[(s "__init__" 1465), (s "BadSetting.__init__" 1466), (s "/claim/cut.py" 1467), (n 202 0), (n 2 0), (n 0 0), (n 0 0), (n 3 0), (r 981), (.bool true), (n 181 0), (r 982), .none, (r 983), (r 984), (r 985), (n 1470 0), (n 202 0), (s "/claim/cut.py" 1471)]) #[]
noncomputable def o981 (p : Params) : Obj := .mk (y "function") none (.func (fI 54 "BadSetting.__init__" 3 [] .none .none .none (s "neverhalf.errors" 187) none (r 986) .none 0)) #[]
noncomputable def o982 (p : Params) : Obj := .mk (y "tuple") none (.seq #[(s "setting" 1473)] 0) #[]
noncomputable def o983 (p : Params) : Obj := .mk (y "dict") none (.dict #[(e p "__module__" 1460 (s "neverhalf.errors" 187)), (e p "__firstlineno__" 1464 (n 200 1463)), (e p "__init__" 1472 (r 987)), (e p "__static_attributes__" 1474 (r 988)), (e p "__doc__" 1475 .none)] 2) #[]
noncomputable def o984 (p : Params) : Obj := .mk (y "type") none (.cls (ClassData.mk "BadSetting" [(r 24)] [(r 990), (r 24), (y "ValueError"), (y "Exception"), (y "BaseException"), (y "object")] 989 "BadSetting" true [] [] false none false)) #[(some (r 974)), none, (some (s "BadSetting" 1453)), (some (s "BadSetting" 1461)), (some (u "ValueError.__new__")), (some (.bool true))]
noncomputable def o985 (p : Params) : Obj := .mk (y "super") none (.fields #[(r 990), (r 990), (r 990)]) #[]
noncomputable def o986 (p : Params) : Obj := .mk (y "builtin_function_or_method") none (.fields #[(u "object.__init_subclass__"), (r 990)]) #[]
noncomputable def o987 (p : Params) : Obj := .mk (y "tuple") none (.seq #[(r 24)] 0) #[]
noncomputable def o988 (p : Params) : Obj := .mk (y "builtin_function_or_method") none (.fields #[(u "type.__prepare__"), (y "type")]) #[]
noncomputable def o989 (p : Params) : Obj := .mk (y "dict") none (.dict #[(e p "__module__" 1485 (s "neverhalf.errors" 187)), (e p "__qualname__" 1487 (s "BadProtocol" 1486)), (e p "__firstlineno__" 1489 (n 204 1488)), (e p "__init__" 1497 (r 1006)), (e p "__static_attributes__" 1499 (r 1007))] 5) #[]
noncomputable def o990 (p : Params) : Obj := .mk (y "tuple") none (.seq #[] 0) #[]
noncomputable def o991 (p : Params) : Obj := .mk .none none (.fields #[(n 206 0), (n 4 0), (r 1005)]) #[]
noncomputable def o992 (p : Params) : Obj := .mk (y "code") none (.fields #[(s "BadProtocol" 1480), (s "BadProtocol" 1481), (s "/claim/cut.py" 1482), (n 204 0), (n 0 0), (n 0 0), (n 0 0), (n 0 0), (r 996), (.bool false), (n 181 0), (r 997), .none, .none, .none, .none, (n 1483 0), (n 204 0), (s "/claim/cut.py" 1484)]) #[]
noncomputable def o993 (p : Params) : Obj := .mk (y "frame") none .plain #[(some (r 998)), (some (r 3)), (some (r 995)), none, (some (s "neverhalf.errors" 187)), none, (some (r 0))]
noncomputable def o994 (p : Params) : Obj := .mk (y "tuple") none (.seq #[] 0) #[]
noncomputable def o995 (p : Params) : Obj := .mk .none none (.fields #[]) #[]
noncomputable def o996 (p : Params) : Obj := .mk (y "tuple") none (.seq #[(s "self" 1493), (s "protocol" 1494)] 0) #[]
noncomputable def o997 (p : Params) : Obj := .mk (y "tuple") none (.seq #[] 0) #[]
noncomputable def o998 (p : Params) : Obj := .mk .none none (.func (fI 55 "BadProtocol.__init__" 0 [] .none .none .none .none none .none .none 0)) #[]
noncomputable def o999 (p : Params) : Obj := .mk (y "code") none (.fields #[(s "__init__" 1490), (s "BadProtocol.__init__" 1491), (s "/claim/cut.py" 1492), (n 206 0), (n 2 0), (n 0 0), (n 0 0), (n 3 0), (r 1000), (.bool true), (n 181 0), (r 1001), .none, (r 1002), (r 1003), (r 1004), (n 1495 0), (n 206 0), (s "/claim/cut.py" 1496)]) #[]
noncomputable def o1000 (p : Params) : Obj := .mk (y "function") none (.func (fI 55 "BadProtocol.__init__" 3 [] .none .none .none (s "neverhalf.errors" 187) none (r 1005) .none 0)) #[]
noncomputable def o1001 (p : Params) : Obj := .mk (y "tuple") none (.seq #[(s "protocol" 1498)] 0) #[]
noncomputable def o1002 (p : Params) : Obj := .mk (y "dict") none (.dict #[(e p "__module__" 1485 (s "neverhalf.errors" 187)), (e p "__firstlineno__" 1489 (n 204 1488)), (e p "__init__" 1497 (r 1006)), (e p "__static_attributes__" 1499 (r 1007)), (e p "__doc__" 1500 .none)] 2) #[]
noncomputable def o1003 (p : Params) : Obj := .mk (y "type") none (.cls (ClassData.mk "BadProtocol" [(r 24)] [(r 1009), (r 24), (y "ValueError"), (y "Exception"), (y "BaseException"), (y "object")] 1008 "BadProtocol" true [] [] false none false)) #[(some (r 993)), none, (some (s "BadProtocol" 1478)), (some (s "BadProtocol" 1486)), (some (u "ValueError.__new__")), (some (.bool true))]
noncomputable def o1004 (p : Params) : Obj := .mk (y "super") none (.fields #[(r 1009), (r 1009), (r 1009)]) #[]
noncomputable def o1005 (p : Params) : Obj := .mk (y "builtin_function_or_method") none (.fields #[(u "object.__init_subclass__"), (r 1009)]) #[]
noncomputable def o1006 (p : Params) : Obj := .mk (y "tuple") none (.seq #[(r 24)] 0) #[]
noncomputable def o1007 (p : Params) : Obj := .mk (y "builtin_function_or_method") none (.fields #[(u "type.__prepare__"), (y "type")]) #[]
noncomputable def o1008 (p : Params) : Obj := .mk (y "dict") none (.dict #[(e p "__module__" 1512 (s "neverhalf.refusals" 1503)), (e p "__qualname__" 1514 (s "BadRule" 1513)), (e p "__firstlineno__" 1516 (n 209 1515)), (e p "__init__" 1524 (r 1025)), (e p "__static_attributes__" 1526 (r 1026))] 5) #[]
noncomputable def o1009 (p : Params) : Obj := .mk (y "tuple") none (.seq #[] 0) #[]
noncomputable def o1010 (p : Params) : Obj := .mk .none none (.fields #[(n 211 0), (n 4 0), (r 1024)]) #[]
noncomputable def o1011 (p : Params) : Obj := .mk (y "code") none (.fields #[(s "BadRule" 1507), (s "BadRule" 1508), (s "/claim/cut.py" 1509), (n 209 0), (n 0 0), (n 0 0), (n 0 0), (n 0 0), (r 1015), (.bool false), (n 181 0), (r 1016), .none, .none, .none, .none, (n 1510 0), (n 209 0), (s "/claim/cut.py" 1511)]) #[]
noncomputable def o1012 (p : Params) : Obj := .mk (y "frame") none .plain #[(some (r 1017)), (some (r 3)), (some (r 1014)), none, (some (s "neverhalf.refusals" 1503)), none, (some (r 0))]
noncomputable def o1013 (p : Params) : Obj := .mk (y "tuple") none (.seq #[] 0) #[]
noncomputable def o1014 (p : Params) : Obj := .mk .none none (.fields #[]) #[]
noncomputable def o1015 (p : Params) : Obj := .mk (y "tuple") none (.seq #[(s "self" 1520), (s "rule" 1521)] 0) #[]
noncomputable def o1016 (p : Params) : Obj := .mk (y "tuple") none (.seq #[] 0) #[]
noncomputable def o1017 (p : Params) : Obj := .mk .none none (.func (fI 57 "BadRule.__init__" 0 [] .none .none .none .none none .none .none 0)) #[]
noncomputable def o1018 (p : Params) : Obj := .mk (y "code") none (.fields #[(s "__init__" 1517), (s "BadRule.__init__" 1518), (s "/claim/cut.py" 1519), (n 211 0), (n 2 0), (n 0 0), (n 0 0), (n 3 0), (r 1019), (.bool true), (n 181 0), (r 1020), .none, (r 1021), (r 1022), (r 1023), (n 1522 0), (n 211 0), (s "/claim/cut.py" 1523)]) #[]
noncomputable def o1019 (p : Params) : Obj := .mk (y "function") none (.func (fI 57 "BadRule.__init__" 3 [] .none .none .none (s "neverhalf.refusals" 1503) none (r 1024) .none 0)) #[]
noncomputable def o1020 (p : Params) : Obj := .mk (y "tuple") none (.seq #[(s "rule" 1525)] 0) #[]
noncomputable def o1021 (p : Params) : Obj := .mk (y "dict") none (.dict #[(e p "__module__" 1512 (s "neverhalf.refusals" 1503)), (e p "__firstlineno__" 1516 (n 209 1515)), (e p "__init__" 1524 (r 1025)), (e p "__static_attributes__" 1526 (r 1026)), (e p "__doc__" 1527 .none)] 2) #[]
noncomputable def o1022 (p : Params) : Obj := .mk (y "type") none (.cls (ClassData.mk "BadRule" [(r 24)] [(r 1028), (r 24), (y "ValueError"), (y "Exception"), (y "BaseException"), (y "object")] 1027 "BadRule" true [] [] false none false)) #[(some (r 1012)), none, (some (s "BadRule" 1505)), (some (s "BadRule" 1513)), (some (u "ValueError.__new__")), (some (.bool true))]
noncomputable def o1023 (p : Params) : Obj := .mk (y "super") none (.fields #[(r 1028), (r 1028), (r 1028)]) #[]
noncomputable def o1024 (p : Params) : Obj := .mk (y "builtin_function_or_method") none (.fields #[(u "object.__init_subclass__"), (r 1028)]) #[]
noncomputable def o1025 (p : Params) : Obj := .mk (y "tuple") none (.seq #[(r 24)] 0) #[]
noncomputable def o1026 (p : Params) : Obj := .mk (y "builtin_function_or_method") none (.fields #[(u "type.__prepare__"), (y "type")]) #[]
noncomputable def o1027 (p : Params) : Obj := .mk (y "dict") none (.dict #[(e p "__module__" 1537 (s "neverhalf.refusals" 1503)), (e p "__qualname__" 1539 (s "BadCuts" 1538)), (e p "__firstlineno__" 1541 (n 213 1540)), (e p "__init__" 1549 (r 1044)), (e p "__static_attributes__" 1551 (r 1045))] 5) #[]
noncomputable def o1028 (p : Params) : Obj := .mk (y "tuple") none (.seq #[] 0) #[]
noncomputable def o1029 (p : Params) : Obj := .mk .none none (.fields #[(n 215 0), (n 4 0), (r 1043)]) #[]
noncomputable def o1030 (p : Params) : Obj := .mk (y "code") none (.fields #[(s "BadCuts" 1532), (s "BadCuts" 1533), (s "/claim/cut.py" 1534), (n 213 0), (n 0 0), (n 0 0), (n 0 0), (n 0 0), (r 1034), (.bool false), (n 181 0), (r 1035), .none, .none, .none, .none, (n 1535 0), (n 213 0), (s "/claim/cut.py" 1536)]) #[]
noncomputable def o1031 (p : Params) : Obj := .mk (y "frame") none .plain #[(some (r 1036)), (some (r 3)), (some (r 1033)), none, (some (s "neverhalf.refusals" 1503)), none, (some (r 0))]
noncomputable def o1032 (p : Params) : Obj := .mk (y "tuple") none (.seq #[] 0) #[]
noncomputable def o1033 (p : Params) : Obj := .mk .none none (.fields #[]) #[]
noncomputable def o1034 (p : Params) : Obj := .mk (y "tuple") none (.seq #[(s "self" 1545), (s "index" 1546)] 0) #[]
noncomputable def o1035 (p : Params) : Obj := .mk (y "tuple") none (.seq #[] 0) #[]
noncomputable def o1036 (p : Params) : Obj := .mk .none none (.func (fI 58 "BadCuts.__init__" 0 [] .none .none .none .none none .none .none 0)) #[]
noncomputable def o1037 (p : Params) : Obj := .mk (y "code") none (.fields #[(s "__init__" 1542), (s "BadCuts.__init__" 1543), (s "/claim/cut.py" 1544), (n 215 0), (n 2 0), (n 0 0), (n 0 0), (n 3 0), (r 1038), (.bool true), (n 181 0), (r 1039), .none, (r 1040), (r 1041), (r 1042), (n 1547 0), (n 215 0), (s "/claim/cut.py" 1548)]) #[]
noncomputable def o1038 (p : Params) : Obj := .mk (y "function") none (.func (fI 58 "BadCuts.__init__" 3 [] .none .none .none (s "neverhalf.refusals" 1503) none (r 1043) .none 0)) #[]
noncomputable def o1039 (p : Params) : Obj := .mk (y "tuple") none (.seq #[(s "index" 1550)] 0) #[]
noncomputable def o1040 (p : Params) : Obj := .mk (y "dict") none (.dict #[(e p "__module__" 1537 (s "neverhalf.refusals" 1503)), (e p "__firstlineno__" 1541 (n 213 1540)), (e p "__init__" 1549 (r 1044)), (e p "__static_attributes__" 1551 (r 1045)), (e p "__doc__" 1552 .none)] 2) #[]
noncomputable def o1041 (p : Params) : Obj := .mk (y "type") none (.cls (ClassData.mk "BadCuts" [(r 24)] [(r 1047), (r 24), (y "ValueError"), (y "Exception"), (y "BaseException"), (y "object")] 1046 "BadCuts" true [] [] false none false)) #[(some (r 1031)), none, (some (s "BadCuts" 1530)), (some (s "BadCuts" 1538)), (some (u "ValueError.__new__")), (some (.bool true))]
noncomputable def o1042 (p : Params) : Obj := .mk (y "super") none (.fields #[(r 1047), (r 1047), (r 1047)]) #[]
noncomputable def o1043 (p : Params) : Obj := .mk (y "builtin_function_or_method") none (.fields #[(u "object.__init_subclass__"), (r 1047)]) #[]
noncomputable def o1044 (p : Params) : Obj := .mk (y "tuple") none (.seq #[(r 24)] 0) #[]
noncomputable def o1045 (p : Params) : Obj := .mk (y "builtin_function_or_method") none (.fields #[(u "type.__prepare__"), (y "type")]) #[]
noncomputable def o1046 (p : Params) : Obj := .mk (y "dict") none (.dict #[(e p "__module__" 1562 (s "neverhalf.refusals" 1503)), (e p "__qualname__" 1564 (s "BadDone" 1563)), (e p "__firstlineno__" 1566 (n 217 1565)), (e p "__init__" 1574 (r 1063)), (e p "__static_attributes__" 1576 (r 1064))] 5) #[]
noncomputable def o1047 (p : Params) : Obj := .mk (y "tuple") none (.seq #[] 0) #[]
noncomputable def o1048 (p : Params) : Obj := .mk .none none (.fields #[(n 219 0), (n 4 0), (r 1062)]) #[]
noncomputable def o1049 (p : Params) : Obj := .mk (y "code") none (.fields #[(s "BadDone" 1557), (s "BadDone" 1558), (s "/claim/cut.py" 1559), (n 217 0), (n 0 0), (n 0 0), (n 0 0), (n 0 0), (r 1053), (.bool false), (n 181 0), (r 1054), .none, .none, .none, .none, (n 1560 0), (n 217 0), (s "/claim/cut.py" 1561)]) #[]
noncomputable def o1050 (p : Params) : Obj := .mk (y "frame") none .plain #[(some (r 1055)), (some (r 3)), (some (r 1052)), none, (some (s "neverhalf.refusals" 1503)), none, (some (r 0))]
noncomputable def o1051 (p : Params) : Obj := .mk (y "tuple") none (.seq #[] 0) #[]
noncomputable def o1052 (p : Params) : Obj := .mk .none none (.fields #[]) #[]
noncomputable def o1053 (p : Params) : Obj := .mk (y "tuple") none (.seq #[(s "self" 1570), (s "done" 1571)] 0) #[]
noncomputable def o1054 (p : Params) : Obj := .mk (y "tuple") none (.seq #[] 0) #[]
noncomputable def o1055 (p : Params) : Obj := .mk .none none (.func (fI 59 "BadDone.__init__" 0 [] .none .none .none .none none .none .none 0)) #[]
noncomputable def o1056 (p : Params) : Obj := .mk (y "code") none (.fields #[(s "__init__" 1567), (s "BadDone.__init__" 1568), (s "/claim/cut.py" 1569), (n 219 0), (n 2 0), (n 0 0), (n 0 0), (n 3 0), (r 1057), (.bool true), (n 181 0), (r 1058), .none, (r 1059), (r 1060), (r 1061), (n 1572 0), (n 219 0), (s "/claim/cut.py" 1573)]) #[]
noncomputable def o1057 (p : Params) : Obj := .mk (y "function") none (.func (fI 59 "BadDone.__init__" 3 [] .none .none .none (s "neverhalf.refusals" 1503) none (r 1062) .none 0)) #[]
noncomputable def o1058 (p : Params) : Obj := .mk (y "tuple") none (.seq #[(s "done" 1575)] 0) #[]
noncomputable def o1059 (p : Params) : Obj := .mk (y "dict") none (.dict #[(e p "__module__" 1562 (s "neverhalf.refusals" 1503)), (e p "__firstlineno__" 1566 (n 217 1565)), (e p "__init__" 1574 (r 1063)), (e p "__static_attributes__" 1576 (r 1064)), (e p "__doc__" 1577 .none)] 2) #[]
noncomputable def o1060 (p : Params) : Obj := .mk (y "type") none (.cls (ClassData.mk "BadDone" [(r 24)] [(r 1066), (r 24), (y "ValueError"), (y "Exception"), (y "BaseException"), (y "object")] 1065 "BadDone" true [] [] false none false)) #[(some (r 1050)), none, (some (s "BadDone" 1555)), (some (s "BadDone" 1563)), (some (u "ValueError.__new__")), (some (.bool true))]
noncomputable def o1061 (p : Params) : Obj := .mk (y "super") none (.fields #[(r 1066), (r 1066), (r 1066)]) #[]
noncomputable def o1062 (p : Params) : Obj := .mk (y "builtin_function_or_method") none (.fields #[(u "object.__init_subclass__"), (r 1066)]) #[]
noncomputable def o1063 (p : Params) : Obj := .mk (y "tuple") none (.seq #[(r 24)] 0) #[]
noncomputable def o1064 (p : Params) : Obj := .mk (y "builtin_function_or_method") none (.fields #[(u "type.__prepare__"), (y "type")]) #[]
noncomputable def o1065 (p : Params) : Obj := .mk (y "dict") none (.dict #[(e p "__module__" 1587 (s "neverhalf.refusals" 1503)), (e p "__qualname__" 1589 (s "BadEvent" 1588)), (e p "__firstlineno__" 1591 (n 221 1590)), (e p "__init__" 1599 (r 1082)), (e p "__static_attributes__" 1601 (r 1083))] 5) #[]
noncomputable def o1066 (p : Params) : Obj := .mk (y "tuple") none (.seq #[] 0) #[]
noncomputable def o1067 (p : Params) : Obj := .mk .none none (.fields #[(n 223 0), (n 4 0), (r 1081)]) #[]
noncomputable def o1068 (p : Params) : Obj := .mk (y "code") none (.fields #[(s "BadEvent" 1582), (s "BadEvent" 1583), (s "/claim/cut.py" 1584), (n 221 0), (n 0 0), (n 0 0), (n 0 0), (n 0 0), (r 1072), (.bool false), (n 181 0), (r 1073), .none, .none, .none, .none, (n 1585 0), (n 221 0), (s "/claim/cut.py" 1586)]) #[]
noncomputable def o1069 (p : Params) : Obj := .mk (y "frame") none .plain #[(some (r 1074)), (some (r 3)), (some (r 1071)), none, (some (s "neverhalf.refusals" 1503)), none, (some (r 0))]
noncomputable def o1070 (p : Params) : Obj := .mk (y "tuple") none (.seq #[] 0) #[]
noncomputable def o1071 (p : Params) : Obj := .mk .none none (.fields #[]) #[]
noncomputable def o1072 (p : Params) : Obj := .mk (y "tuple") none (.seq #[(s "self" 1595), (s "event" 1596)] 0) #[]
noncomputable def o1073 (p : Params) : Obj := .mk (y "tuple") none (.seq #[] 0) #[]
noncomputable def o1074 (p : Params) : Obj := .mk .none none (.func (fI 60 "BadEvent.__init__" 0 [] .none .none .none .none none .none .none 0)) #[]
noncomputable def o1075 (p : Params) : Obj := .mk (y "code") none (.fields #[(s "__init__" 1592), (s "BadEvent.__init__" 1593), (s "/claim/cut.py" 1594), (n 223 0), (n 2 0), (n 0 0), (n 0 0), (n 3 0), (r 1076), (.bool true), (n 181 0), (r 1077), .none, (r 1078), (r 1079), (r 1080), (n 1597 0), (n 223 0), (s "/claim/cut.py" 1598)]) #[]
noncomputable def o1076 (p : Params) : Obj := .mk (y "function") none (.func (fI 60 "BadEvent.__init__" 3 [] .none .none .none (s "neverhalf.refusals" 1503) none (r 1081) .none 0)) #[]
noncomputable def o1077 (p : Params) : Obj := .mk (y "tuple") none (.seq #[(s "event" 1600)] 0) #[]
noncomputable def o1078 (p : Params) : Obj := .mk (y "dict") none (.dict #[(e p "__module__" 1587 (s "neverhalf.refusals" 1503)), (e p "__firstlineno__" 1591 (n 221 1590)), (e p "__init__" 1599 (r 1082)), (e p "__static_attributes__" 1601 (r 1083)), (e p "__doc__" 1602 .none)] 2) #[]
noncomputable def o1079 (p : Params) : Obj := .mk (y "type") none (.cls (ClassData.mk "BadEvent" [(r 24)] [(r 1085), (r 24), (y "ValueError"), (y "Exception"), (y "BaseException"), (y "object")] 1084 "BadEvent" true [] [] false none false)) #[(some (r 1069)), none, (some (s "BadEvent" 1580)), (some (s "BadEvent" 1588)), (some (u "ValueError.__new__")), (some (.bool true))]
noncomputable def o1080 (p : Params) : Obj := .mk (y "super") none (.fields #[(r 1085), (r 1085), (r 1085)]) #[]
noncomputable def o1081 (p : Params) : Obj := .mk (y "builtin_function_or_method") none (.fields #[(u "object.__init_subclass__"), (r 1085)]) #[]
noncomputable def o1082 (p : Params) : Obj := .mk (y "tuple") none (.seq #[(r 24)] 0) #[]
noncomputable def o1083 (p : Params) : Obj := .mk (y "builtin_function_or_method") none (.fields #[(u "type.__prepare__"), (y "type")]) #[]
noncomputable def o1084 (p : Params) : Obj := .mk (y "dict") none (.dict #[(e p "__module__" 1612 (s "neverhalf.refusals" 1503)), (e p "__qualname__" 1614 (s "BadEvents" 1613)), (e p "__firstlineno__" 1616 (n 225 1615)), (e p "__init__" 1624 (r 1101)), (e p "__static_attributes__" 1626 (r 1102))] 5) #[]
noncomputable def o1085 (p : Params) : Obj := .mk (y "tuple") none (.seq #[] 0) #[]
noncomputable def o1086 (p : Params) : Obj := .mk .none none (.fields #[(n 227 0), (n 4 0), (r 1100)]) #[]
noncomputable def o1087 (p : Params) : Obj := .mk (y "code") none (.fields #[(s "BadEvents" 1607), (s "BadEvents" 1608), (s "/claim/cut.py" 1609), (n 225 0), (n 0 0), (n 0 0), (n 0 0), (n 0 0), (r 1091), (.bool false), (n 181 0), (r 1092), .none, .none, .none, .none, (n 1610 0), (n 225 0), (s "/claim/cut.py" 1611)]) #[]
noncomputable def o1088 (p : Params) : Obj := .mk (y "frame") none .plain #[(some (r 1093)), (some (r 3)), (some (r 1090)), none, (some (s "neverhalf.refusals" 1503)), none, (some (r 0))]
noncomputable def o1089 (p : Params) : Obj := .mk (y "tuple") none (.seq #[] 0) #[]
noncomputable def o1090 (p : Params) : Obj := .mk .none none (.fields #[]) #[]
noncomputable def o1091 (p : Params) : Obj := .mk (y "tuple") none (.seq #[(s "self" 1620), (s "events" 1621)] 0) #[]
noncomputable def o1092 (p : Params) : Obj := .mk (y "tuple") none (.seq #[] 0) #[]
noncomputable def o1093 (p : Params) : Obj := .mk .none none (.func (fI 61 "BadEvents.__init__" 0 [] .none .none .none .none none .none .none 0)) #[]
noncomputable def o1094 (p : Params) : Obj := .mk (y "code") none (.fields #[(s "__init__" 1617), (s "BadEvents.__init__" 1618), (s "/claim/cut.py" 1619), (n 227 0), (n 2 0), (n 0 0), (n 0 0), (n 3 0), (r 1095), (.bool true), (n 181 0), (r 1096), .none, (r 1097), (r 1098), (r 1099), (n 1622 0), (n 227 0), (s "/claim/cut.py" 1623)]) #[]
noncomputable def o1095 (p : Params) : Obj := .mk (y "function") none (.func (fI 61 "BadEvents.__init__" 3 [] .none .none .none (s "neverhalf.refusals" 1503) none (r 1100) .none 0)) #[]
noncomputable def o1096 (p : Params) : Obj := .mk (y "tuple") none (.seq #[(s "events" 1625)] 0) #[]
noncomputable def o1097 (p : Params) : Obj := .mk (y "dict") none (.dict #[(e p "__module__" 1612 (s "neverhalf.refusals" 1503)), (e p "__firstlineno__" 1616 (n 225 1615)), (e p "__init__" 1624 (r 1101)), (e p "__static_attributes__" 1626 (r 1102)), (e p "__doc__" 1627 .none)] 2) #[]
noncomputable def o1098 (p : Params) : Obj := .mk (y "type") none (.cls (ClassData.mk "BadEvents" [(r 24)] [(r 1104), (r 24), (y "ValueError"), (y "Exception"), (y "BaseException"), (y "object")] 1103 "BadEvents" true [] [] false none false)) #[(some (r 1088)), none, (some (s "BadEvents" 1605)), (some (s "BadEvents" 1613)), (some (u "ValueError.__new__")), (some (.bool true))]
noncomputable def o1099 (p : Params) : Obj := .mk (y "super") none (.fields #[(r 1104), (r 1104), (r 1104)]) #[]
noncomputable def o1100 (p : Params) : Obj := .mk (y "builtin_function_or_method") none (.fields #[(u "object.__init_subclass__"), (r 1104)]) #[]
noncomputable def o1101 (p : Params) : Obj := .mk (y "tuple") none (.seq #[(r 24)] 0) #[]
noncomputable def o1102 (p : Params) : Obj := .mk (y "builtin_function_or_method") none (.fields #[(u "type.__prepare__"), (y "type")]) #[]
noncomputable def o1103 (p : Params) : Obj := .mk (y "dict") none (.dict #[(e p "__module__" 1637 (s "neverhalf.refusals" 1503)), (e p "__qualname__" 1639 (s "NotOf" 1638)), (e p "__firstlineno__" 1641 (n 229 1640)), (e p "__static_attributes__" 1642 (r 1114))] 4) #[]
noncomputable def o1104 (p : Params) : Obj := .mk (y "tuple") none (.seq #[] 0) #[]
noncomputable def o1105 (p : Params) : Obj := .mk .none none (.fields #[]) #[]
noncomputable def o1106 (p : Params) : Obj := .mk (y "code") none (.fields #[(s "NotOf" 1632), (s "NotOf" 1633), (s "/claim/cut.py" 1634), (n 229 0), (n 0 0), (n 0 0), (n 0 0), (n 0 0), (r 1110), (.bool false), (n 181 0), (r 1111), .none, .none, .none, .none, (n 1635 0), (n 229 0), (s "/claim/cut.py" 1636)]) #[]
noncomputable def o1107 (p : Params) : Obj := .mk (y "frame") none .plain #[(some (r 1112)), (some (r 3)), (some (r 1109)), none, (some (s "neverhalf.refusals" 1503)), none, (some (r 0))]
noncomputable def o1108 (p : Params) : Obj := .mk (y "tuple") none (.seq #[] 0) #[]
noncomputable def o1109 (p : Params) : Obj := .mk (y "dict") none (.dict #[(e p "__module__" 1637 (s "neverhalf.refusals" 1503)), (e p "__firstlineno__" 1641 (n 229 1640)), (e p "__static_attributes__" 1642 (r 1114)), (e p "__doc__" 1643 .none)] 2) #[]
noncomputable def o1110 (p : Params) : Obj := .mk (y "type") none (.cls (ClassData.mk "NotOf" [(r 24)] [(r 1116), (r 24), (y "ValueError"), (y "Exception"), (y "BaseException"), (y "object")] 1115 "NotOf" true [] [] false none false)) #[(some (r 1107)), none, (some (s "NotOf" 1630)), (some (s "NotOf" 1638)), (some (u "ValueError.__new__")), (some (.bool true))]
noncomputable def o1111 (p : Params) : Obj := .mk (y "super") none (.fields #[(r 1116), (r 1116), (r 1116)]) #[]
noncomputable def o1112 (p : Params) : Obj := .mk (y "builtin_function_or_method") none (.fields #[(u "object.__init_subclass__"), (r 1116)]) #[]
noncomputable def o1113 (p : Params) : Obj := .mk (y "tuple") none (.seq #[(r 24)] 0) #[]
noncomputable def o1114 (p : Params) : Obj := .mk (y "builtin_function_or_method") none (.fields #[(u "type.__prepare__"), (y "type")]) #[]
noncomputable def o1115 (p : Params) : Obj := .mk (y "dict") none (.dict #[(e p "__module__" 1653 (s "neverhalf.refusals" 1503)), (e p "__qualname__" 1655 (s "BadCount" 1654)), (e p "__firstlineno__" 1657 (n 231 1656)), (e p "__init__" 1665 (r 1132)), (e p "__static_attributes__" 1667 (r 1133))] 5) #[]
noncomputable def o1116 (p : Params) : Obj := .mk (y "tuple") none (.seq #[] 0) #[]
noncomputable def o1117 (p : Params) : Obj := .mk .none none (.fields #[(n 233 0), (n 4 0), (r 1131)]) #[]
noncomputable def o1118 (p : Params) : Obj := .mk (y "code") none (.fields #[(s "BadCount" 1648), (s "BadCount" 1649), (s "/claim/cut.py" 1650), (n 231 0), (n 0 0), (n 0 0), (n 0 0), (n 0 0), (r 1122), (.bool false), (n 181 0), (r 1123), .none, .none, .none, .none, (n 1651 0), (n 231 0), (s "/claim/cut.py" 1652)]) #[]
noncomputable def o1119 (p : Params) : Obj := .mk (y "frame") none .plain #[(some (r 1124)), (some (r 3)), (some (r 1121)), none, (some (s "neverhalf.refusals" 1503)), none, (some (r 0))]
noncomputable def o1120 (p : Params) : Obj := .mk (y "tuple") none (.seq #[] 0) #[]
noncomputable def o1121 (p : Params) : Obj := .mk .none none (.fields #[]) #[]
noncomputable def o1122 (p : Params) : Obj := .mk (y "tuple") none (.seq #[(s "self" 1661), (s "count" 1662)] 0) #[]
noncomputable def o1123 (p : Params) : Obj := .mk (y "tuple") none (.seq #[] 0) #[]
noncomputable def o1124 (p : Params) : Obj := .mk .none none (.func (fI 63 "BadCount.__init__" 0 [] .none .none .none .none none .none .none 0)) #[]
noncomputable def o1125 (p : Params) : Obj := .mk (y "code") none (.fields #[(s "__init__" 1658), (s "BadCount.__init__" 1659), (s "/claim/cut.py" 1660), (n 233 0), (n 2 0), (n 0 0), (n 0 0), (n 3 0), (r 1126), (.bool true), (n 181 0), (r 1127), .none, (r 1128), (r 1129), (r 1130), (n 1663 0), (n 233 0), (s "/claim/cut.py" 1664)]) #[]
noncomputable def o1126 (p : Params) : Obj := .mk (y "function") none (.func (fI 63 "BadCount.__init__" 3 [] .none .none .none (s "neverhalf.refusals" 1503) none (r 1131) .none 0)) #[]
noncomputable def o1127 (p : Params) : Obj := .mk (y "tuple") none (.seq #[(s "count" 1666)] 0) #[]
noncomputable def o1128 (p : Params) : Obj := .mk (y "dict") none (.dict #[(e p "__module__" 1653 (s "neverhalf.refusals" 1503)), (e p "__firstlineno__" 1657 (n 231 1656)), (e p "__init__" 1665 (r 1132)), (e p "__static_attributes__" 1667 (r 1133)), (e p "__doc__" 1668 .none)] 2) #[]
noncomputable def o1129 (p : Params) : Obj := .mk (y "type") none (.cls (ClassData.mk "BadCount" [(r 24)] [(r 1135), (r 24), (y "ValueError"), (y "Exception"), (y "BaseException"), (y "object")] 1134 "BadCount" true [] [] false none false)) #[(some (r 1119)), none, (some (s "BadCount" 1646)), (some (s "BadCount" 1654)), (some (u "ValueError.__new__")), (some (.bool true))]
noncomputable def o1130 (p : Params) : Obj := .mk (y "super") none (.fields #[(r 1135), (r 1135), (r 1135)]) #[]
noncomputable def o1131 (p : Params) : Obj := .mk (y "builtin_function_or_method") none (.fields #[(u "object.__init_subclass__"), (r 1135)]) #[]
noncomputable def o1132 (p : Params) : Obj := .mk (y "tuple") none (.seq #[(r 24)] 0) #[]
noncomputable def o1133 (p : Params) : Obj := .mk (y "builtin_function_or_method") none (.fields #[(u "type.__prepare__"), (y "type")]) #[]
noncomputable def o1134 (p : Params) : Obj := .mk (y "dict") none (.dict #[(e p "__module__" 1678 (s "neverhalf.refusals" 1503)), (e p "__qualname__" 1680 (s "BadPlace" 1679)), (e p "__firstlineno__" 1682 (n 235 1681)), (e p "__init__" 1690 (r 1151)), (e p "__static_attributes__" 1692 (r 1152))] 5) #[]
noncomputable def o1135 (p : Params) : Obj := .mk (y "tuple") none (.seq #[] 0) #[]
noncomputable def o1136 (p : Params) : Obj := .mk .none none (.fields #[(n 237 0), (n 4 0), (r 1150)]) #[]
noncomputable def o1137 (p : Params) : Obj := .mk (y "code") none (.fields #[(s "BadPlace" 1673), (s "BadPlace" 1674), (s "/claim/cut.py" 1675), (n 235 0), (n 0 0), (n 0 0), (n 0 0), (n 0 0), (r 1141), (.bool false), (n 181 0), (r 1142), .none, .none, .none, .none, (n 1676 0), (n 235 0), (s "/claim/cut.py" 1677)]) #[]
noncomputable def o1138 (p : Params) : Obj := .mk (y "frame") none .plain #[(some (r 1143)), (some (r 3)), (some (r 1140)), none, (some (s "neverhalf.refusals" 1503)), none, (some (r 0))]
noncomputable def o1139 (p : Params) : Obj := .mk (y "tuple") none (.seq #[] 0) #[]
noncomputable def o1140 (p : Params) : Obj := .mk .none none (.fields #[]) #[]
noncomputable def o1141 (p : Params) : Obj := .mk (y "tuple") none (.seq #[(s "self" 1686), (s "place" 1687)] 0) #[]
noncomputable def o1142 (p : Params) : Obj := .mk (y "tuple") none (.seq #[] 0) #[]
noncomputable def o1143 (p : Params) : Obj := .mk .none none (.func (fI 64 "BadPlace.__init__" 0 [] .none .none .none .none none .none .none 0)) #[]
noncomputable def o1144 (p : Params) : Obj := .mk (y "code") none (.fields #[(s "__init__" 1683), (s "BadPlace.__init__" 1684), (s "/claim/cut.py" 1685), (n 237 0), (n 2 0), (n 0 0), (n 0 0), (n 3 0), (r 1145), (.bool true), (n 181 0), (r 1146), .none, (r 1147), (r 1148), (r 1149), (n 1688 0), (n 237 0), (s "/claim/cut.py" 1689)]) #[]
noncomputable def o1145 (p : Params) : Obj := .mk (y "function") none (.func (fI 64 "BadPlace.__init__" 3 [] .none .none .none (s "neverhalf.refusals" 1503) none (r 1150) .none 0)) #[]
noncomputable def o1146 (p : Params) : Obj := .mk (y "tuple") none (.seq #[(s "place" 1691)] 0) #[]
noncomputable def o1147 (p : Params) : Obj := .mk (y "dict") none (.dict #[(e p "__module__" 1678 (s "neverhalf.refusals" 1503)), (e p "__firstlineno__" 1682 (n 235 1681)), (e p "__init__" 1690 (r 1151)), (e p "__static_attributes__" 1692 (r 1152)), (e p "__doc__" 1693 .none)] 2) #[]
noncomputable def o1148 (p : Params) : Obj := .mk (y "type") none (.cls (ClassData.mk "BadPlace" [(r 24)] [(r 1154), (r 24), (y "ValueError"), (y "Exception"), (y "BaseException"), (y "object")] 1153 "BadPlace" true [] [] false none false)) #[(some (r 1138)), none, (some (s "BadPlace" 1671)), (some (s "BadPlace" 1679)), (some (u "ValueError.__new__")), (some (.bool true))]
noncomputable def o1149 (p : Params) : Obj := .mk (y "super") none (.fields #[(r 1154), (r 1154), (r 1154)]) #[]
noncomputable def o1150 (p : Params) : Obj := .mk (y "builtin_function_or_method") none (.fields #[(u "object.__init_subclass__"), (r 1154)]) #[]
noncomputable def o1151 (p : Params) : Obj := .mk (y "tuple") none (.seq #[(r 24)] 0) #[]
noncomputable def o1152 (p : Params) : Obj := .mk (y "builtin_function_or_method") none (.fields #[(u "type.__prepare__"), (y "type")]) #[]
noncomputable def o1153 (p : Params) : Obj := .mk (y "dict") none (.dict #[(e p "__module__" 1703 (s "neverhalf.refusals" 1503)), (e p "__qualname__" 1705 (s "BadTower" 1704)), (e p "__firstlineno__" 1707 (n 239 1706)), (e p "__init__" 1715 (r 1170)), (e p "__static_attributes__" 1717 (r 1171))] 5) #[]
noncomputable def o1154 (p : Params) : Obj := .mk (y "tuple") none (.seq #[] 0) #[]
noncomputable def o1155 (p : Params) : Obj := .mk .none none (.fields #[(n 241 0), (n 4 0), (r 1169)]) #[]
noncomputable def o1156 (p : Params) : Obj := .mk (y "code") none (.fields #[(s "BadTower" 1698), (s "BadTower" 1699), (s "/claim/cut.py" 1700), (n 239 0), (n 0 0), (n 0 0), (n 0 0), (n 0 0), (r 1160), (.bool false), (n 181 0), (r 1161), .none, .none, .none, .none, (n 1701 0), (n 239 0), (s "/claim/cut.py" 1702)]) #[]
noncomputable def o1157 (p : Params) : Obj := .mk (y "frame") none .plain #[(some (r 1162)), (some (r 3)), (some (r 1159)), none, (some (s "neverhalf.refusals" 1503)), none, (some (r 0))]
noncomputable def o1158 (p : Params) : Obj := .mk (y "tuple") none (.seq #[] 0) #[]
noncomputable def o1159 (p : Params) : Obj := .mk .none none (.fields #[]) #[]
noncomputable def o1160 (p : Params) : Obj := .mk (y "tuple") none (.seq #[(s "self" 1711), (s "tower" 1712)] 0) #[]
noncomputable def o1161 (p : Params) : Obj := .mk (y "tuple") none (.seq #[] 0) #[]
noncomputable def o1162 (p : Params) : Obj := .mk .none none (.func (fI 65 "BadTower.__init__" 0 [] .none .none .none .none none .none .none 0)) #[]
noncomputable def o1163 (p : Params) : Obj := .mk (y "code") none (.fields #[(s "__init__" 1708), (s "BadTower.__init__" 1709), (s "/claim/cut.py" 1710), (n 241 0), (n 2 0), (n 0 0), (n 0 0), (n 3 0), (r 1164), (.bool true), (n 181 0), (r 1165), .none, (r 1166), (r 1167), (r 1168), (n 1713 0), (n 241 0), (s "/claim/cut.py" 1714)]) #[]
noncomputable def o1164 (p : Params) : Obj := .mk (y "function") none (.func (fI 65 "BadTower.__init__" 3 [] .none .none .none (s "neverhalf.refusals" 1503) none (r 1169) .none 0)) #[]
noncomputable def o1165 (p : Params) : Obj := .mk (y "tuple") none (.seq #[(s "tower" 1716)] 0) #[]
noncomputable def o1166 (p : Params) : Obj := .mk (y "dict") none (.dict #[(e p "__module__" 1703 (s "neverhalf.refusals" 1503)), (e p "__firstlineno__" 1707 (n 239 1706)), (e p "__init__" 1715 (r 1170)), (e p "__static_attributes__" 1717 (r 1171)), (e p "__doc__" 1718 .none)] 2) #[]
noncomputable def o1167 (p : Params) : Obj := .mk (y "type") none (.cls (ClassData.mk "BadTower" [(r 24)] [(r 1173), (r 24), (y "ValueError"), (y "Exception"), (y "BaseException"), (y "object")] 1172 "BadTower" true [] [] false none false)) #[(some (r 1157)), none, (some (s "BadTower" 1696)), (some (s "BadTower" 1704)), (some (u "ValueError.__new__")), (some (.bool true))]
noncomputable def o1168 (p : Params) : Obj := .mk (y "super") none (.fields #[(r 1173), (r 1173), (r 1173)]) #[]
noncomputable def o1169 (p : Params) : Obj := .mk (y "builtin_function_or_method") none (.fields #[(u "object.__init_subclass__"), (r 1173)]) #[]
noncomputable def o1170 (p : Params) : Obj := .mk (y "tuple") none (.seq #[(r 24)] 0) #[]
noncomputable def o1171 (p : Params) : Obj := .mk (y "builtin_function_or_method") none (.fields #[(u "type.__prepare__"), (y "type")]) #[]
noncomputable def o1172 (p : Params) : Obj := .mk (y "dict") none (.dict #[(e p "__module__" 1728 (s "neverhalf.refusals" 1503)), (e p "__qualname__" 1730 (s "BadStory" 1729)), (e p "__firstlineno__" 1732 (n 243 1731)), (e p "__init__" 1740 (r 1189)), (e p "__static_attributes__" 1742 (r 1190))] 5) #[]
noncomputable def o1173 (p : Params) : Obj := .mk (y "tuple") none (.seq #[] 0) #[]
noncomputable def o1174 (p : Params) : Obj := .mk .none none (.fields #[(n 245 0), (n 4 0), (r 1188)]) #[]
noncomputable def o1175 (p : Params) : Obj := .mk (y "code") none (.fields #[(s "BadStory" 1723), (s "BadStory" 1724), (s "/claim/cut.py" 1725), (n 243 0), (n 0 0), (n 0 0), (n 0 0), (n 0 0), (r 1179), (.bool false), (n 181 0), (r 1180), .none, .none, .none, .none, (n 1726 0), (n 243 0), (s "/claim/cut.py" 1727)]) #[]
noncomputable def o1176 (p : Params) : Obj := .mk (y "frame") none .plain #[(some (r 1181)), (some (r 3)), (some (r 1178)), none, (some (s "neverhalf.refusals" 1503)), none, (some (r 0))]
noncomputable def o1177 (p : Params) : Obj := .mk (y "tuple") none (.seq #[] 0) #[]
noncomputable def o1178 (p : Params) : Obj := .mk .none none (.fields #[]) #[]
noncomputable def o1179 (p : Params) : Obj := .mk (y "tuple") none (.seq #[(s "self" 1736), (s "story" 1737)] 0) #[]
noncomputable def o1180 (p : Params) : Obj := .mk (y "tuple") none (.seq #[] 0) #[]
noncomputable def o1181 (p : Params) : Obj := .mk .none none (.func (fI 66 "BadStory.__init__" 0 [] .none .none .none .none none .none .none 0)) #[]
noncomputable def o1182 (p : Params) : Obj := .mk (y "code") none (.fields #[(s "__init__" 1733), (s "BadStory.__init__" 1734), (s "/claim/cut.py" 1735), (n 245 0), (n 2 0), (n 0 0), (n 0 0), (n 3 0), (r 1183), (.bool true), (n 181 0), (r 1184), .none, (r 1185), (r 1186), (r 1187), (n 1738 0), (n 245 0), (s "/claim/cut.py" 1739)]) #[]
noncomputable def o1183 (p : Params) : Obj := .mk (y "function") none (.func (fI 66 "BadStory.__init__" 3 [] .none .none .none (s "neverhalf.refusals" 1503) none (r 1188) .none 0)) #[]
noncomputable def o1184 (p : Params) : Obj := .mk (y "tuple") none (.seq #[(s "story" 1741)] 0) #[]
noncomputable def o1185 (p : Params) : Obj := .mk (y "dict") none (.dict #[(e p "__module__" 1728 (s "neverhalf.refusals" 1503)), (e p "__firstlineno__" 1732 (n 243 1731)), (e p "__init__" 1740 (r 1189)), (e p "__static_attributes__" 1742 (r 1190)), (e p "__doc__" 1743 .none)] 2) #[]
noncomputable def o1186 (p : Params) : Obj := .mk (y "type") none (.cls (ClassData.mk "BadStory" [(r 24)] [(r 1192), (r 24), (y "ValueError"), (y "Exception"), (y "BaseException"), (y "object")] 1191 "BadStory" true [] [] false none false)) #[(some (r 1176)), none, (some (s "BadStory" 1721)), (some (s "BadStory" 1729)), (some (u "ValueError.__new__")), (some (.bool true))]
noncomputable def o1187 (p : Params) : Obj := .mk (y "super") none (.fields #[(r 1192), (r 1192), (r 1192)]) #[]
noncomputable def o1188 (p : Params) : Obj := .mk (y "builtin_function_or_method") none (.fields #[(u "object.__init_subclass__"), (r 1192)]) #[]
noncomputable def o1189 (p : Params) : Obj := .mk (y "tuple") none (.seq #[(r 24)] 0) #[]
noncomputable def o1190 (p : Params) : Obj := .mk (y "builtin_function_or_method") none (.fields #[(u "type.__prepare__"), (y "type")]) #[]
noncomputable def o1191 (p : Params) : Obj := .mk (y "dict") none (.dict #[(e p "__module__" 1753 (s "neverhalf.refusals" 1503)), (e p "__qualname__" 1755 (s "BadThing" 1754)), (e p "__firstlineno__" 1757 (n 247 1756)), (e p "__init__" 1765 (r 1208)), (e p "__static_attributes__" 1767 (r 1209))] 5) #[]
noncomputable def o1192 (p : Params) : Obj := .mk (y "tuple") none (.seq #[] 0) #[]
noncomputable def o1193 (p : Params) : Obj := .mk .none none (.fields #[(n 249 0), (n 4 0), (r 1207)]) #[]
noncomputable def o1194 (p : Params) : Obj := .mk (y "code") none (.fields #[(s "BadThing" 1748), (s "BadThing" 1749), (s "/claim/cut.py" 1750), (n 247 0), (n 0 0), (n 0 0), (n 0 0), (n 0 0), (r 1198), (.bool false), (n 181 0), (r 1199), .none, .none, .none, .none, (n 1751 0), (n 247 0), (s "/claim/cut.py" 1752)]) #[]
noncomputable def o1195 (p : Params) : Obj := .mk (y "frame") none .plain #[(some (r 1200)), (some (r 3)), (some (r 1197)), none, (some (s "neverhalf.refusals" 1503)), none, (some (r 0))]
noncomputable def o1196 (p : Params) : Obj := .mk (y "tuple") none (.seq #[] 0) #[]
noncomputable def o1197 (p : Params) : Obj := .mk .none none (.fields #[]) #[]
noncomputable def o1198 (p : Params) : Obj := .mk (y "tuple") none (.seq #[(s "self" 1761), (s "thing" 1762)] 0) #[]
noncomputable def o1199 (p : Params) : Obj := .mk (y "tuple") none (.seq #[] 0) #[]
noncomputable def o1200 (p : Params) : Obj := .mk .none none (.func (fI 67 "BadThing.__init__" 0 [] .none .none .none .none none .none .none 0)) #[]
noncomputable def o1201 (p : Params) : Obj := .mk (y "code") none (.fields #[(s "__init__" 1758), (s "BadThing.__init__" 1759), (s "/claim/cut.py" 1760), (n 249 0), (n 2 0), (n 0 0), (n 0 0), (n 3 0), (r 1202), (.bool true), (n 181 0), (r 1203), .none, (r 1204), (r 1205), (r 1206), (n 1763 0), (n 249 0), (s "/claim/cut.py" 1764)]) #[]
noncomputable def o1202 (p : Params) : Obj := .mk (y "function") none (.func (fI 67 "BadThing.__init__" 3 [] .none .none .none (s "neverhalf.refusals" 1503) none (r 1207) .none 0)) #[]
noncomputable def o1203 (p : Params) : Obj := .mk (y "tuple") none (.seq #[(s "thing" 1766)] 0) #[]
noncomputable def o1204 (p : Params) : Obj := .mk (y "dict") none (.dict #[(e p "__module__" 1753 (s "neverhalf.refusals" 1503)), (e p "__firstlineno__" 1757 (n 247 1756)), (e p "__init__" 1765 (r 1208)), (e p "__static_attributes__" 1767 (r 1209)), (e p "__doc__" 1768 .none)] 2) #[]
noncomputable def o1205 (p : Params) : Obj := .mk (y "type") none (.cls (ClassData.mk "BadThing" [(r 24)] [(r 1211), (r 24), (y "ValueError"), (y "Exception"), (y "BaseException"), (y "object")] 1210 "BadThing" true [] [] false none false)) #[(some (r 1195)), none, (some (s "BadThing" 1746)), (some (s "BadThing" 1754)), (some (u "ValueError.__new__")), (some (.bool true))]
noncomputable def o1206 (p : Params) : Obj := .mk (y "super") none (.fields #[(r 1211), (r 1211), (r 1211)]) #[]
noncomputable def o1207 (p : Params) : Obj := .mk (y "builtin_function_or_method") none (.fields #[(u "object.__init_subclass__"), (r 1211)]) #[]
noncomputable def o1208 (p : Params) : Obj := .mk (y "tuple") none (.seq #[(r 24)] 0) #[]
noncomputable def o1209 (p : Params) : Obj := .mk (y "builtin_function_or_method") none (.fields #[(u "type.__prepare__"), (y "type")]) #[]
noncomputable def o1210 (p : Params) : Obj := .mk (y "dict") none (.dict #[(e p "__module__" 1778 (s "neverhalf.refusals" 1503)), (e p "__qualname__" 1780 (s "NoName" 1779)), (e p "__firstlineno__" 1782 (n 251 1781)), (e p "__init__" 1790 (r 1227)), (e p "__static_attributes__" 1792 (r 1228))] 5) #[]
noncomputable def o1211 (p : Params) : Obj := .mk (y "tuple") none (.seq #[] 0) #[]
noncomputable def o1212 (p : Params) : Obj := .mk .none none (.fields #[(n 253 0), (n 4 0), (r 1226)]) #[]
noncomputable def o1213 (p : Params) : Obj := .mk (y "code") none (.fields #[(s "NoName" 1773), (s "NoName" 1774), (s "/claim/cut.py" 1775), (n 251 0), (n 0 0), (n 0 0), (n 0 0), (n 0 0), (r 1217), (.bool false), (n 181 0), (r 1218), .none, .none, .none, .none, (n 1776 0), (n 251 0), (s "/claim/cut.py" 1777)]) #[]
noncomputable def o1214 (p : Params) : Obj := .mk (y "frame") none .plain #[(some (r 1219)), (some (r 3)), (some (r 1216)), none, (some (s "neverhalf.refusals" 1503)), none, (some (r 0))]
noncomputable def o1215 (p : Params) : Obj := .mk (y "tuple") none (.seq #[] 0) #[]
noncomputable def o1216 (p : Params) : Obj := .mk .none none (.fields #[]) #[]
noncomputable def o1217 (p : Params) : Obj := .mk (y "tuple") none (.seq #[(s "self" 1786), (s "name" 1787)] 0) #[]
noncomputable def o1218 (p : Params) : Obj := .mk (y "tuple") none (.seq #[] 0) #[]
noncomputable def o1219 (p : Params) : Obj := .mk .none none (.func (fI 68 "NoName.__init__" 0 [] .none .none .none .none none .none .none 0)) #[]
noncomputable def o1220 (p : Params) : Obj := .mk (y "code") none (.fields #[(s "__init__" 1783), (s "NoName.__init__" 1784), (s "/claim/cut.py" 1785), (n 253 0), (n 2 0), (n 0 0), (n 0 0), (n 3 0), (r 1221), (.bool true), (n 181 0), (r 1222), .none, (r 1223), (r 1224), (r 1225), (n 1788 0), (n 253 0), (s "/claim/cut.py" 1789)]) #[]
noncomputable def o1221 (p : Params) : Obj := .mk (y "function") none (.func (fI 68 "NoName.__init__" 3 [] .none .none .none (s "neverhalf.refusals" 1503) none (r 1226) .none 0)) #[]
noncomputable def o1222 (p : Params) : Obj := .mk (y "tuple") none (.seq #[(s "name" 1791)] 0) #[]
noncomputable def o1223 (p : Params) : Obj := .mk (y "dict") none (.dict #[(e p "__module__" 1778 (s "neverhalf.refusals" 1503)), (e p "__firstlineno__" 1782 (n 251 1781)), (e p "__init__" 1790 (r 1227)), (e p "__static_attributes__" 1792 (r 1228)), (e p "__doc__" 1793 .none)] 2) #[]
noncomputable def o1224 (p : Params) : Obj := .mk (y "type") none (.cls (ClassData.mk "NoName" [(r 24)] [(r 1230), (r 24), (y "ValueError"), (y "Exception"), (y "BaseException"), (y "object")] 1229 "NoName" true [] [] false none false)) #[(some (r 1214)), none, (some (s "NoName" 1771)), (some (s "NoName" 1779)), (some (u "ValueError.__new__")), (some (.bool true))]
noncomputable def o1225 (p : Params) : Obj := .mk (y "super") none (.fields #[(r 1230), (r 1230), (r 1230)]) #[]
noncomputable def o1226 (p : Params) : Obj := .mk (y "builtin_function_or_method") none (.fields #[(u "object.__init_subclass__"), (r 1230)]) #[]
noncomputable def o1227 (p : Params) : Obj := .mk (y "tuple") none (.seq #[(r 24)] 0) #[]
noncomputable def o1228 (p : Params) : Obj := .mk (y "builtin_function_or_method") none (.fields #[(u "type.__prepare__"), (y "type")]) #[]
noncomputable def o1229 (p : Params) : Obj := .mk (y "dict") none (.dict #[(e p "__module__" 1803 (s "neverhalf.refusals" 1503)), (e p "__qualname__" 1805 (s "InRing" 1804)), (e p "__firstlineno__" 1807 (n 255 1806)), (e p "__init__" 1815 (r 1246)), (e p "__static_attributes__" 1817 (r 1247))] 5) #[]
noncomputable def o1230 (p : Params) : Obj := .mk (y "tuple") none (.seq #[] 0) #[]
noncomputable def o1231 (p : Params) : Obj := .mk .none none (.fields #[(n 257 0), (n 4 0), (r 1245)]) #[]
noncomputable def o1232 (p : Params) : Obj := .mk (y "code") none (.fields #[(s "InRing" 1798), (s "InRing" 1799), (s "/claim/cut.py" 1800), (n 255 0), (n 0 0), (n 0 0), (n 0 0), (n 0 0), (r 1236), (.bool false), (n 181 0), (r 1237), .none, .none, .none, .none, (n 1801 0), (n 255 0), (s "/claim/cut.py" 1802)]) #[]
noncomputable def o1233 (p : Params) : Obj := .mk (y "frame") none .plain #[(some (r 1238)), (some (r 3)), (some (r 1235)), none, (some (s "neverhalf.refusals" 1503)), none, (some (r 0))]
noncomputable def o1234 (p : Params) : Obj := .mk (y "tuple") none (.seq #[] 0) #[]
noncomputable def o1235 (p : Params) : Obj := .mk .none none (.fields #[]) #[]
noncomputable def o1236 (p : Params) : Obj := .mk (y "tuple") none (.seq #[(s "self" 1811), (s "name" 1812)] 0) #[]
noncomputable def o1237 (p : Params) : Obj := .mk (y "tuple") none (.seq #[] 0) #[]
noncomputable def o1238 (p : Params) : Obj := .mk .none none (.func (fI 69 "InRing.__init__" 0 [] .none .none .none .none none .none .none 0)) #[]
noncomputable def o1239 (p : Params) : Obj := .mk (y "code") none (.fields #[(s "__init__" 1808), (s "InRing.__init__" 1809), (s "/claim/cut.py" 1810), (n 257 0), (n 2 0), (n 0 0), (n 0 0), (n 3 0), (r 1240), (.bool true), (n 181 0), (r 1241), .none, (r 1242), (r 1243), (r 1244), (n 1813 0), (n 257 0), (s "/claim/cut.py" 1814)]) #[]
noncomputable def o1240 (p : Params) : Obj := .mk (y "function") none (.func (fI 69 "InRing.__init__" 3 [] .none .none .none (s "neverhalf.refusals" 1503) none (r 1245) .none 0)) #[]
noncomputable def o1241 (p : Params) : Obj := .mk (y "tuple") none (.seq #[(s "name" 1816)] 0) #[]
noncomputable def o1242 (p : Params) : Obj := .mk (y "dict") none (.dict #[(e p "__module__" 1803 (s "neverhalf.refusals" 1503)), (e p "__firstlineno__" 1807 (n 255 1806)), (e p "__init__" 1815 (r 1246)), (e p "__static_attributes__" 1817 (r 1247)), (e p "__doc__" 1818 .none)] 2) #[]
noncomputable def o1243 (p : Params) : Obj := .mk (y "type") none (.cls (ClassData.mk "InRing" [(r 24)] [(r 1249), (r 24), (y "ValueError"), (y "Exception"), (y "BaseException"), (y "object")] 1248 "InRing" true [] [] false none false)) #[(some (r 1233)), none, (some (s "InRing" 1796)), (some (s "InRing" 1804)), (some (u "ValueError.__new__")), (some (.bool true))]
noncomputable def o1244 (p : Params) : Obj := .mk (y "super") none (.fields #[(r 1249), (r 1249), (r 1249)]) #[]
noncomputable def o1245 (p : Params) : Obj := .mk (y "builtin_function_or_method") none (.fields #[(u "object.__init_subclass__"), (r 1249)]) #[]
noncomputable def o1246 (p : Params) : Obj := .mk (y "tuple") none (.seq #[(r 24)] 0) #[]
noncomputable def o1247 (p : Params) : Obj := .mk (y "builtin_function_or_method") none (.fields #[(u "type.__prepare__"), (y "type")]) #[]
noncomputable def o1248 (p : Params) : Obj := .mk (y "dict") none (.dict #[(e p "__module__" 1828 (s "neverhalf.refusals" 1503)), (e p "__qualname__" 1830 (s "InUse" 1829)), (e p "__firstlineno__" 1832 (n 259 1831)), (e p "__init__" 1840 (r 1265)), (e p "__static_attributes__" 1842 (r 1266))] 5) #[]
noncomputable def o1249 (p : Params) : Obj := .mk (y "tuple") none (.seq #[] 0) #[]
noncomputable def o1250 (p : Params) : Obj := .mk .none none (.fields #[(n 261 0), (n 4 0), (r 1264)]) #[]
noncomputable def o1251 (p : Params) : Obj := .mk (y "code") none (.fields #[(s "InUse" 1823), (s "InUse" 1824), (s "/claim/cut.py" 1825), (n 259 0), (n 0 0), (n 0 0), (n 0 0), (n 0 0), (r 1255), (.bool false), (n 181 0), (r 1256), .none, .none, .none, .none, (n 1826 0), (n 259 0), (s "/claim/cut.py" 1827)]) #[]
noncomputable def o1252 (p : Params) : Obj := .mk (y "frame") none .plain #[(some (r 1257)), (some (r 3)), (some (r 1254)), none, (some (s "neverhalf.refusals" 1503)), none, (some (r 0))]
noncomputable def o1253 (p : Params) : Obj := .mk (y "tuple") none (.seq #[] 0) #[]
noncomputable def o1254 (p : Params) : Obj := .mk .none none (.fields #[]) #[]
noncomputable def o1255 (p : Params) : Obj := .mk (y "tuple") none (.seq #[(s "self" 1836), (s "user" 1837)] 0) #[]
noncomputable def o1256 (p : Params) : Obj := .mk (y "tuple") none (.seq #[] 0) #[]
noncomputable def o1257 (p : Params) : Obj := .mk .none none (.func (fI 70 "InUse.__init__" 0 [] .none .none .none .none none .none .none 0)) #[]
noncomputable def o1258 (p : Params) : Obj := .mk (y "code") none (.fields #[(s "__init__" 1833), (s "InUse.__init__" 1834), (s "/claim/cut.py" 1835), (n 261 0), (n 2 0), (n 0 0), (n 0 0), (n 3 0), (r 1259), (.bool true), (n 181 0), (r 1260), .none, (r 1261), (r 1262), (r 1263), (n 1838 0), (n 261 0), (s "/claim/cut.py" 1839)]) #[]
noncomputable def o1259 (p : Params) : Obj := .mk (y "function") none (.func (fI 70 "InUse.__init__" 3 [] .none .none .none (s "neverhalf.refusals" 1503) none (r 1264) .none 0)) #[]
noncomputable def o1260 (p : Params) : Obj := .mk (y "tuple") none (.seq #[(s "user" 1841)] 0) #[]
noncomputable def o1261 (p : Params) : Obj := .mk (y "dict") none (.dict #[(e p "__module__" 1828 (s "neverhalf.refusals" 1503)), (e p "__firstlineno__" 1832 (n 259 1831)), (e p "__init__" 1840 (r 1265)), (e p "__static_attributes__" 1842 (r 1266)), (e p "__doc__" 1843 .none)] 2) #[]
noncomputable def o1262 (p : Params) : Obj := .mk (y "type") none (.cls (ClassData.mk "InUse" [(r 24)] [(r 1268), (r 24), (y "ValueError"), (y "Exception"), (y "BaseException"), (y "object")] 1267 "InUse" true [] [] false none false)) #[(some (r 1252)), none, (some (s "InUse" 1821)), (some (s "InUse" 1829)), (some (u "ValueError.__new__")), (some (.bool true))]
noncomputable def o1263 (p : Params) : Obj := .mk (y "super") none (.fields #[(r 1268), (r 1268), (r 1268)]) #[]
noncomputable def o1264 (p : Params) : Obj := .mk (y "builtin_function_or_method") none (.fields #[(u "object.__init_subclass__"), (r 1268)]) #[]
noncomputable def o1265 (p : Params) : Obj := .mk (y "tuple") none (.seq #[(r 24)] 0) #[]
noncomputable def o1266 (p : Params) : Obj := .mk (y "builtin_function_or_method") none (.fields #[(u "type.__prepare__"), (y "type")]) #[]
noncomputable def o1267 (p : Params) : Obj := .mk (y "dict") none (.dict #[(e p "__module__" 1853 (s "neverhalf.refusals" 1503)), (e p "__qualname__" 1855 (s "NoThing" 1854)), (e p "__firstlineno__" 1857 (n 263 1856)), (e p "__init__" 1865 (r 1284)), (e p "__static_attributes__" 1867 (r 1285))] 5) #[]
noncomputable def o1268 (p : Params) : Obj := .mk (y "tuple") none (.seq #[] 0) #[]
noncomputable def o1269 (p : Params) : Obj := .mk .none none (.fields #[(n 265 0), (n 4 0), (r 1283)]) #[]
noncomputable def o1270 (p : Params) : Obj := .mk (y "code") none (.fields #[(s "NoThing" 1848), (s "NoThing" 1849), (s "/claim/cut.py" 1850), (n 263 0), (n 0 0), (n 0 0), (n 0 0), (n 0 0), (r 1274), (.bool false), (n 181 0), (r 1275), .none, .none, .none, .none, (n 1851 0), (n 263 0), (s "/claim/cut.py" 1852)]) #[]
noncomputable def o1271 (p : Params) : Obj := .mk (y "frame") none .plain #[(some (r 1276)), (some (r 3)), (some (r 1273)), none, (some (s "neverhalf.refusals" 1503)), none, (some (r 0))]
noncomputable def o1272 (p : Params) : Obj := .mk (y "tuple") none (.seq #[] 0) #[]
noncomputable def o1273 (p : Params) : Obj := .mk .none none (.fields #[]) #[]
noncomputable def o1274 (p : Params) : Obj := .mk (y "tuple") none (.seq #[(s "self" 1861), (s "name" 1862)] 0) #[]
noncomputable def o1275 (p : Params) : Obj := .mk (y "tuple") none (.seq #[] 0) #[]
noncomputable def o1276 (p : Params) : Obj := .mk .none none (.func (fI 71 "NoThing.__init__" 0 [] .none .none .none .none none .none .none 0)) #[]
noncomputable def o1277 (p : Params) : Obj := .mk (y "code") none (.fields #[(s "__init__" 1858), (s "NoThing.__init__" 1859), (s "/claim/cut.py" 1860), (n 265 0), (n 2 0), (n 0 0), (n 0 0), (n 3 0), (r 1278), (.bool true), (n 181 0), (r 1279), .none, (r 1280), (r 1281), (r 1282), (n 1863 0), (n 265 0), (s "/claim/cut.py" 1864)]) #[]
noncomputable def o1278 (p : Params) : Obj := .mk (y "function") none (.func (fI 71 "NoThing.__init__" 3 [] .none .none .none (s "neverhalf.refusals" 1503) none (r 1283) .none 0)) #[]
noncomputable def o1279 (p : Params) : Obj := .mk (y "tuple") none (.seq #[(s "name" 1866)] 0) #[]
noncomputable def o1280 (p : Params) : Obj := .mk (y "dict") none (.dict #[(e p "__module__" 1853 (s "neverhalf.refusals" 1503)), (e p "__firstlineno__" 1857 (n 263 1856)), (e p "__init__" 1865 (r 1284)), (e p "__static_attributes__" 1867 (r 1285)), (e p "__doc__" 1868 .none)] 2) #[]
noncomputable def o1281 (p : Params) : Obj := .mk (y "type") none (.cls (ClassData.mk "NoThing" [(r 24)] [(r 1287), (r 24), (y "ValueError"), (y "Exception"), (y "BaseException"), (y "object")] 1286 "NoThing" true [] [] false none false)) #[(some (r 1271)), none, (some (s "NoThing" 1846)), (some (s "NoThing" 1854)), (some (u "ValueError.__new__")), (some (.bool true))]
noncomputable def o1282 (p : Params) : Obj := .mk (y "super") none (.fields #[(r 1287), (r 1287), (r 1287)]) #[]
noncomputable def o1283 (p : Params) : Obj := .mk (y "builtin_function_or_method") none (.fields #[(u "object.__init_subclass__"), (r 1287)]) #[]
noncomputable def o1284 (p : Params) : Obj := .mk (y "tuple") none (.seq #[(r 24)] 0) #[]
noncomputable def o1285 (p : Params) : Obj := .mk (y "builtin_function_or_method") none (.fields #[(u "type.__prepare__"), (y "type")]) #[]
noncomputable def o1286 (p : Params) : Obj := .mk (y "dict") none (.dict #[(e p "__module__" 1878 (s "neverhalf.refusals" 1503)), (e p "__qualname__" 1880 (s "BadVow" 1879)), (e p "__firstlineno__" 1882 (n 267 1881)), (e p "__init__" 1890 (r 1303)), (e p "__static_attributes__" 1892 (r 1304))] 5) #[]
noncomputable def o1287 (p : Params) : Obj := .mk (y "tuple") none (.seq #[] 0) #[]
noncomputable def o1288 (p : Params) : Obj := .mk .none none (.fields #[(n 269 0), (n 4 0), (r 1302)]) #[]
noncomputable def o1289 (p : Params) : Obj := .mk (y "code") none (.fields #[(s "BadVow" 1873), (s "BadVow" 1874), (s "/claim/cut.py" 1875), (n 267 0), (n 0 0), (n 0 0), (n 0 0), (n 0 0), (r 1293), (.bool false), (n 181 0), (r 1294), .none, .none, .none, .none, (n 1876 0), (n 267 0), (s "/claim/cut.py" 1877)]) #[]
noncomputable def o1290 (p : Params) : Obj := .mk (y "frame") none .plain #[(some (r 1295)), (some (r 3)), (some (r 1292)), none, (some (s "neverhalf.refusals" 1503)), none, (some (r 0))]
noncomputable def o1291 (p : Params) : Obj := .mk (y "tuple") none (.seq #[] 0) #[]
noncomputable def o1292 (p : Params) : Obj := .mk .none none (.fields #[]) #[]
noncomputable def o1293 (p : Params) : Obj := .mk (y "tuple") none (.seq #[(s "self" 1886), (s "vow" 1887)] 0) #[]
noncomputable def o1294 (p : Params) : Obj := .mk (y "tuple") none (.seq #[] 0) #[]
noncomputable def o1295 (p : Params) : Obj := .mk .none none (.func (fI 72 "BadVow.__init__" 0 [] .none .none .none .none none .none .none 0)) #[]
noncomputable def o1296 (p : Params) : Obj := .mk (y "code") none (.fields #[(s "__init__" 1883), (s "BadVow.__init__" 1884), (s "/claim/cut.py" 1885), (n 269 0), (n 2 0), (n 0 0), (n 0 0), (n 3 0), (r 1297), (.bool true), (n 181 0), (r 1298), .none, (r 1299), (r 1300), (r 1301), (n 1888 0), (n 269 0), (s "/claim/cut.py" 1889)]) #[]
noncomputable def o1297 (p : Params) : Obj := .mk (y "function") none (.func (fI 72 "BadVow.__init__" 3 [] .none .none .none (s "neverhalf.refusals" 1503) none (r 1302) .none 0)) #[]
noncomputable def o1298 (p : Params) : Obj := .mk (y "tuple") none (.seq #[(s "vow" 1891)] 0) #[]
noncomputable def o1299 (p : Params) : Obj := .mk (y "dict") none (.dict #[(e p "__module__" 1878 (s "neverhalf.refusals" 1503)), (e p "__firstlineno__" 1882 (n 267 1881)), (e p "__init__" 1890 (r 1303)), (e p "__static_attributes__" 1892 (r 1304)), (e p "__doc__" 1893 .none)] 2) #[]
noncomputable def o1300 (p : Params) : Obj := .mk (y "type") none (.cls (ClassData.mk "BadVow" [(r 24)] [(r 1306), (r 24), (y "ValueError"), (y "Exception"), (y "BaseException"), (y "object")] 1305 "BadVow" true [] [] false none false)) #[(some (r 1290)), none, (some (s "BadVow" 1871)), (some (s "BadVow" 1879)), (some (u "ValueError.__new__")), (some (.bool true))]
noncomputable def o1301 (p : Params) : Obj := .mk (y "super") none (.fields #[(r 1306), (r 1306), (r 1306)]) #[]
noncomputable def o1302 (p : Params) : Obj := .mk (y "builtin_function_or_method") none (.fields #[(u "object.__init_subclass__"), (r 1306)]) #[]
noncomputable def o1303 (p : Params) : Obj := .mk (y "tuple") none (.seq #[(r 24)] 0) #[]
noncomputable def o1304 (p : Params) : Obj := .mk (y "builtin_function_or_method") none (.fields #[(u "type.__prepare__"), (y "type")]) #[]
noncomputable def o1305 (p : Params) : Obj := .mk (y "dict") none (.dict #[(e p "__module__" 1903 (s "neverhalf.refusals" 1503)), (e p "__qualname__" 1905 (s "Watched" 1904)), (e p "__firstlineno__" 1907 (n 271 1906)), (e p "__init__" 1915 (r 1322)), (e p "__static_attributes__" 1917 (r 1323))] 5) #[]
noncomputable def o1306 (p : Params) : Obj := .mk (y "tuple") none (.seq #[] 0) #[]
noncomputable def o1307 (p : Params) : Obj := .mk .none none (.fields #[(n 273 0), (n 4 0), (r 1321)]) #[]
noncomputable def o1308 (p : Params) : Obj := .mk (y "code") none (.fields #[(s "Watched" 1898), (s "Watched" 1899), (s "/claim/cut.py" 1900), (n 271 0), (n 0 0), (n 0 0), (n 0 0), (n 0 0), (r 1312), (.bool false), (n 181 0), (r 1313), .none, .none, .none, .none, (n 1901 0), (n 271 0), (s "/claim/cut.py" 1902)]) #[]
noncomputable def o1309 (p : Params) : Obj := .mk (y "frame") none .plain #[(some (r 1314)), (some (r 3)), (some (r 1311)), none, (some (s "neverhalf.refusals" 1503)), none, (some (r 0))]
noncomputable def o1310 (p : Params) : Obj := .mk (y "tuple") none (.seq #[] 0) #[]
noncomputable def o1311 (p : Params) : Obj := .mk .none none (.fields #[]) #[]
noncomputable def o1312 (p : Params) : Obj := .mk (y "tuple") none (.seq #[(s "self" 1911), (s "vow" 1912)] 0) #[]
noncomputable def o1313 (p : Params) : Obj := .mk (y "tuple") none (.seq #[] 0) #[]
noncomputable def o1314 (p : Params) : Obj := .mk .none none (.func (fI 73 "Watched.__init__" 0 [] .none .none .none .none none .none .none 0)) #[]
noncomputable def o1315 (p : Params) : Obj := .mk (y "code") none (.fields #[(s "__init__" 1908), (s "Watched.__init__" 1909), (s "/claim/cut.py" 1910), (n 273 0), (n 2 0), (n 0 0), (n 0 0), (n 3 0), (r 1316), (.bool true), (n 181 0), (r 1317), .none, (r 1318), (r 1319), (r 1320), (n 1913 0), (n 273 0), (s "/claim/cut.py" 1914)]) #[]
noncomputable def o1316 (p : Params) : Obj := .mk (y "function") none (.func (fI 73 "Watched.__init__" 3 [] .none .none .none (s "neverhalf.refusals" 1503) none (r 1321) .none 0)) #[]
noncomputable def o1317 (p : Params) : Obj := .mk (y "tuple") none (.seq #[(s "vow" 1916)] 0) #[]
noncomputable def o1318 (p : Params) : Obj := .mk (y "dict") none (.dict #[(e p "__module__" 1903 (s "neverhalf.refusals" 1503)), (e p "__firstlineno__" 1907 (n 271 1906)), (e p "__init__" 1915 (r 1322)), (e p "__static_attributes__" 1917 (r 1323)), (e p "__doc__" 1918 .none)] 2) #[]
noncomputable def o1319 (p : Params) : Obj := .mk (y "type") none (.cls (ClassData.mk "Watched" [(r 24)] [(r 1325), (r 24), (y "ValueError"), (y "Exception"), (y "BaseException"), (y "object")] 1324 "Watched" true [] [] false none false)) #[(some (r 1309)), none, (some (s "Watched" 1896)), (some (s "Watched" 1904)), (some (u "ValueError.__new__")), (some (.bool true))]
noncomputable def o1320 (p : Params) : Obj := .mk (y "super") none (.fields #[(r 1325), (r 1325), (r 1325)]) #[]
noncomputable def o1321 (p : Params) : Obj := .mk (y "builtin_function_or_method") none (.fields #[(u "object.__init_subclass__"), (r 1325)]) #[]
noncomputable def o1322 (p : Params) : Obj := .mk (y "tuple") none (.seq #[(r 24)] 0) #[]
noncomputable def o1323 (p : Params) : Obj := .mk (y "builtin_function_or_method") none (.fields #[(u "type.__prepare__"), (y "type")]) #[]
noncomputable def o1324 (p : Params) : Obj := .mk (y "dict") none (.dict #[(e p "__module__" 1928 (s "neverhalf.refusals" 1503)), (e p "__qualname__" 1930 (s "NotHeldNow" 1929)), (e p "__firstlineno__" 1932 (n 275 1931)), (e p "__init__" 1940 (r 1341)), (e p "__static_attributes__" 1942 (r 1342))] 5) #[]
noncomputable def o1325 (p : Params) : Obj := .mk (y "tuple") none (.seq #[] 0) #[]
noncomputable def o1326 (p : Params) : Obj := .mk .none none (.fields #[(n 277 0), (n 4 0), (r 1340)]) #[]
noncomputable def o1327 (p : Params) : Obj := .mk (y "code") none (.fields #[(s "NotHeldNow" 1923), (s "NotHeldNow" 1924), (s "/claim/cut.py" 1925), (n 275 0), (n 0 0), (n 0 0), (n 0 0), (n 0 0), (r 1331), (.bool false), (n 181 0), (r 1332), .none, .none, .none, .none, (n 1926 0), (n 275 0), (s "/claim/cut.py" 1927)]) #[]
noncomputable def o1328 (p : Params) : Obj := .mk (y "frame") none .plain #[(some (r 1333)), (some (r 3)), (some (r 1330)), none, (some (s "neverhalf.refusals" 1503)), none, (some (r 0))]
noncomputable def o1329 (p : Params) : Obj := .mk (y "tuple") none (.seq #[] 0) #[]
noncomputable def o1330 (p : Params) : Obj := .mk .none none (.fields #[]) #[]
noncomputable def o1331 (p : Params) : Obj := .mk (y "tuple") none (.seq #[(s "self" 1936), (s "vow" 1937)] 0) #[]
noncomputable def o1332 (p : Params) : Obj := .mk (y "tuple") none (.seq #[] 0) #[]
noncomputable def o1333 (p : Params) : Obj := .mk .none none (.func (fI 74 "NotHeldNow.__init__" 0 [] .none .none .none .none none .none .none 0)) #[]
noncomputable def o1334 (p : Params) : Obj := .mk (y "code") none (.fields #[(s "__init__" 1933), (s "NotHeldNow.__init__" 1934), (s "/claim/cut.py" 1935), (n 277 0), (n 2 0), (n 0 0), (n 0 0), (n 3 0), (r 1335), (.bool true), (n 181 0), (r 1336), .none, (r 1337), (r 1338), (r 1339), (n 1938 0), (n 277 0), (s "/claim/cut.py" 1939)]) #[]
noncomputable def o1335 (p : Params) : Obj := .mk (y "function") none (.func (fI 74 "NotHeldNow.__init__" 3 [] .none .none .none (s "neverhalf.refusals" 1503) none (r 1340) .none 0)) #[]
noncomputable def o1336 (p : Params) : Obj := .mk (y "tuple") none (.seq #[(s "vow" 1941)] 0) #[]
noncomputable def o1337 (p : Params) : Obj := .mk (y "dict") none (.dict #[(e p "__module__" 1928 (s "neverhalf.refusals" 1503)), (e p "__firstlineno__" 1932 (n 275 1931)), (e p "__init__" 1940 (r 1341)), (e p "__static_attributes__" 1942 (r 1342)), (e p "__doc__" 1943 .none)] 2) #[]
noncomputable def o1338 (p : Params) : Obj := .mk (y "type") none (.cls (ClassData.mk "NotHeldNow" [(r 24)] [(r 1344), (r 24), (y "ValueError"), (y "Exception"), (y "BaseException"), (y "object")] 1343 "NotHeldNow" true [] [] false none false)) #[(some (r 1328)), none, (some (s "NotHeldNow" 1921)), (some (s "NotHeldNow" 1929)), (some (u "ValueError.__new__")), (some (.bool true))]
noncomputable def o1339 (p : Params) : Obj := .mk (y "super") none (.fields #[(r 1344), (r 1344), (r 1344)]) #[]
noncomputable def o1340 (p : Params) : Obj := .mk (y "builtin_function_or_method") none (.fields #[(u "object.__init_subclass__"), (r 1344)]) #[]
noncomputable def T_d (p : Params) : BT := (.node (boot_o_0 p) (.node (boot_o_1 p) (.node (o682 p) (.node (boot_o_7 p) (.node (o6 p) (.node (o22 p) (.node (o54 p) (.node (o118 p) (.node (o246 p) (.node (o502 p) (.node (o1017 p) .nil .nil) .nil) (.node (o761 p) (.node (o1273 p) .nil .nil) .nil)) (.node (o374 p) (.node (o630 p) (.node (o1145 p) .nil .nil) .nil) (.node (o889 p) .nil .nil))) (.node (o182 p) (.node (o310 p) (.node (o566 p) (.node (o1081 p) .nil .nil) .nil) (.node (o825 p) (.node (o1337 p) .nil .nil) .nil)) (.node (o438 p) (.node (o697 p) (.node (o1209 p) .nil .nil) .nil) (.node (o953 p) .nil .nil)))) (.node (o86 p) (.node (o150 p) (.node (o278 p) (.node (o534 p) (.node (o1049 p) .nil .nil) .nil) (.node (o793 p) (.node (o1305 p) .nil .nil) .nil)) (.node (o406 p) (.node (o662 p) (.node (o1177 p) .nil .nil) .nil) (.node (o921 p) .nil .nil))) (.node (o214 p) (.node (o342 p) (.node (o598 p) (.node (o1113 p) .nil .nil) .nil) (.node (o857 p) .nil .nil)) (.node (o470 p) (.node (o729 p) (.node (o1241 p) .nil .nil) .nil) (.node (o985 p) .nil .nil))))) (.node (o38 p) (.node (o70 p) (.node (o134 p) (.node (o262 p) (.node (o518 p) (.node (o1033 p) .nil .nil) .nil) (.node (o777 p) (.node (o1289 p) .nil .nil) .nil)) (.node (o390 p) (.node (o646 p) (.node (o1161 p) .nil .nil) .nil) (.node (o905 p) .nil .nil))) (.node (o198 p) (.node (o326 p) (.node (o582 p) (.node (o1097 p) .nil .nil) .nil) (.node (o841 p) .nil .nil)) (.node (o454 p) (.node (o713 p) (.node (o1225 p) .nil .nil) .nil) (.node (o969 p) .nil .nil)))) (.node (o102 p) (.node (o166 p) (.node (o294 p) (.node (o550 p) (.node (o1065 p) .nil .nil) .nil) (.node (o809 p) (.node (o1321 p) .nil .nil) .nil)) (.node (o422 p) (.node (o678 p) (.node (o1193 p) .nil .nil) .nil) (.node (o937 p) .nil .nil))) (.node (o230 p) (.node (o358 p) (.node (o614 p) (.node (o1129 p) .nil .nil) .nil) (.node (o873 p) .nil .nil)) (.node (o486 p) (.node (o745 p) (.node (o1257 p) .nil .nil) .nil) (.node (o1001 p) .nil .nil)))))) (.node (o14 p) (.node (o30 p) (.node (o62 p) (.node (o126 p) (.node (o254 p) (.node (o510 p) (.node (o1025 p) .nil .nil) .nil) (.node (o769 p) (.node (o1281 p) .nil .nil) .nil)) (.node (o382 p) (.node (o638 p) (.node (o1153 p) .nil .nil) .nil) (.node (o897 p) .nil .nil))) (.node (o190 p) (.node (o318 p) (.node (o574 p) (.node (o1089 p) .nil .nil) .nil) (.node (o833 p) .nil .nil)) (.node (o446 p) (.node (o705 p) (.node (o1217 p) .nil .nil) .nil) (.node (o961 p) .nil .nil)))) (.node (o94 p) (.node (o158 p) (.node (o286 p) (.node (o542 p) (.node (o1057 p) .nil .nil) .nil) (.node (o801 p) (.node (o1313 p) .nil .nil) .nil)) (.node (o414 p) (.node (o670 p) (.node (o1185 p) .nil .nil) .nil) (.node (o929 p) .nil .nil))) (.node (o222 p) (.node (o350 p) (.node (o606 p) (.node (o1121 p) .nil .nil) .nil) (.node (o865 p) .nil .nil)) (.node (o478 p) (.node (o737 p) (.node (o1249 p) .nil .nil) .nil) (.node (o993 p) .nil .nil))))) (.node (o46 p) (.node (o78 p) (.node (o142 p) (.node (o270 p) (.node (o526 p) (.node (o1041 p) .nil .nil) .nil) (.node (o785 p) (.node (o1297 p) .nil .nil) .nil)) (.node (o398 p) (.node (o654 p) (.node (o1169 p) .nil .nil) .nil) (.node (o913 p) .nil .nil))) (.node (o206 p) (.node (o334 p) (.node (o590 p) (.node (o1105 p) .nil .nil) .nil) (.node (o849 p) .nil .nil)) (.node (o462 p) (.node (o721 p) (.node (o1233 p) .nil .nil) .nil) (.node (o977 p) .nil .nil)))) (.node (o110 p) (.node (o174 p) (.node (o302 p) (.node (o558 p) (.node (o1073 p) .nil .nil) .nil) (.node (o817 p) (.node (o1329 p) .nil .nil) .nil)) (.node (o430 p) (.node (o689 p) (.node (o1201 p) .nil .nil) .nil) (.node (o945 p) .nil .nil))) (.node (o238 p) (.node (o366 p) (.node (o622 p) (.node (o1137 p) .nil .nil) .nil) (.node (o881 p) .nil .nil)) (.node (o494 p) (.node (o753 p) (.node (o1265 p) .nil .nil) .nil) (.node (o1009 p) .nil .nil))))))) (.node (o0 p) (.node (o10 p) (.node (o26 p) (.node (o58 p) (.node (o122 p) (.node (o250 p) (.node (o506 p) (.node (o1021 p) .nil .nil) .nil) (.node (o765 p) (.node (o1277 p) .nil .nil) .nil)) (.node (o378 p) (.node (o634 p) (.node (o1149 p) .nil .nil) .nil) (.node (o893 p) .nil .nil))) (.node (o186 p) (.node (o314 p) (.node (o570 p) (.node (o1085 p) .nil .nil) .nil) (.node (o829 p) .nil .nil)) (.node (o442 p) (.node (o701 p) (.node (o1213 p) .nil .nil) .nil) (.node (o957 p) .nil .nil)))) (.node (o90 p) (.node (o154 p) (.node (o282 p) (.node (o538 p) (.node (o1053 p) .nil .nil) .nil) (.node (o797 p) (.node (o1309 p) .nil .nil) .nil)) (.node (o410 p) (.node (o666 p) (.node (o1181 p) .nil .nil) .nil) (.node (o925 p) .nil .nil))) (.node (o218 p) (.node (o346 p) (.node (o602 p) (.node (o1117 p) .nil .nil) .nil) (.node (o861 p) .nil .nil)) (.node (o474 p) (.node (o733 p) (.node (o1245 p) .nil .nil) .nil) (.node (o989 p) .nil .nil))))) (.node (o42 p) (.node (o74 p) (.node (o138 p) (.node (o266 p) (.node (o522 p) (.node (o1037 p) .nil .nil) .nil) (.node (o781 p) (.node (o1293 p) .nil .nil) .nil)) (.node (o394 p) (.node (o650 p) (.node (o1165 p) .nil .nil) .nil) (.node (o909 p) .nil .nil))) (.node (o202 p) (.node (o330 p) (.node (o586 p) (.node (o1101 p) .nil .nil) .nil) (.node (o845 p) .nil .nil)) (.node (o458 p) (.node (o717 p) (.node (o1229 p) .nil .nil) .nil) (.node (o973 p) .nil .nil)))) (.node (o106 p) (.node (o170 p) (.node (o298 p) (.node (o554 p) (.node (o1069 p) .nil .nil) .nil) (.node (o813 p) (.node (o1325 p) .nil .nil) .nil)) (.node (o426 p) (.node (o685 p) (.node (o1197 p) .nil .nil) .nil) (.node (o941 p) .nil .nil))) (.node (o234 p) (.node (o362 p) (.node (o618 p) (.node (o1133 p) .nil .nil) .nil) (.node (o877 p) .nil .nil)) (.node (o490 p) (.node (o749 p) (.node (o1261 p) .nil .nil) .nil) (.node (o1005 p) .nil .nil)))))) (.node (o18 p) (.node (o34 p) (.node (o66 p) (.node (o130 p) (.node (o258 p) (.node (o514 p) (.node (o1029 p) .nil .nil) .nil) (.node (o773 p) (.node (o1285 p) .nil .nil) .nil)) (.node (o386 p) (.node (o642 p) (.node (o1157 p) .nil .nil) .nil) (.node (o901 p) .nil .nil))) (.node (o194 p) (.node (o322 p) (.node (o578 p) (.node (o1093 p) .nil .nil) .nil) (.node (o837 p) .nil .nil)) (.node (o450 p) (.node (o709 p) (.node (o1221 p) .nil .nil) .nil) (.node (o965 p) .nil .nil)))) (.node (o98 p) (.node (o162 p) (.node (o290 p) (.node (o546 p) (.node (o1061 p) .nil .nil) .nil) (.node (o805 p) (.node (o1317 p) .nil .nil) .nil)) (.node (o418 p) (.node (o674 p) (.node (o1189 p) .nil .nil) .nil) (.node (o933 p) .nil .nil))) (.node (o226 p) (.node (o354 p) (.node (o610 p) (.node (o1125 p) .nil .nil) .nil) (.node (o869 p) .nil .nil)) (.node (o482 p) (.node (o741 p) (.node (o1253 p) .nil .nil) .nil) (.node (o997 p) .nil .nil))))) (.node (o50 p) (.node (o82 p) (.node (o146 p) (.node (o274 p) (.node (o530 p) (.node (o1045 p) .nil .nil) .nil) (.node (o789 p) (.node (o1301 p) .nil .nil) .nil)) (.node (o402 p) (.node (o658 p) (.node (o1173 p) .nil .nil) .nil) (.node (o917 p) .nil .nil))) (.node (o210 p) (.node (o338 p) (.node (o594 p) (.node (o1109 p) .nil .nil) .nil) (.node (o853 p) .nil .nil)) (.node (o466 p) (.node (o725 p) (.node (o1237 p) .nil .nil) .nil) (.node (o981 p) .nil .nil)))) (.node (o114 p) (.node (o178 p) (.node (o306 p) (.node (o562 p) (.node (o1077 p) .nil .nil) .nil) (.node (o821 p) (.node (o1333 p) .nil .nil) .nil)) (.node (o434 p) (.node (o693 p) (.node (o1205 p) .nil .nil) .nil) (.node (o949 p) .nil .nil))) (.node (o242 p) (.node (o370 p) (.node (o626 p) (.node (o1141 p) .nil .nil) .nil) (.node (o885 p) .nil .nil)) (.node (o498 p) (.node (o757 p) (.node (o1269 p) .nil .nil) .nil) (.node (o1013 p) .nil .nil)))))))) (.node (boot_o_5 p) (.node (boot_o_9 p) (.node (o8 p) (.node (o24 p) (.node (o56 p) (.node (o120 p) (.node (o248 p) (.node (o504 p) (.node (o1019 p) .nil .nil) .nil) (.node (o763 p) (.node (o1275 p) .nil .nil) .nil)) (.node (o376 p) (.node (o632 p) (.node (o1147 p) .nil .nil) .nil) (.node (o891 p) .nil .nil))) (.node (o184 p) (.node (o312 p) (.node (o568 p) (.node (o1083 p) .nil .nil) .nil) (.node (o827 p) (.node (o1339 p) .nil .nil) .nil)) (.node (o440 p) (.node (o699 p) (.node (o1211 p) .nil .nil) .nil) (.node (o955 p) .nil .nil)))) (.node (o88 p) (.node (o152 p) (.node (o280 p) (.node (o536 p) (.node (o1051 p) .nil .nil) .nil) (.node (o795 p) (.node (o1307 p) .nil .nil) .nil)) (.node (o408 p) (.node (o664 p) (.node (o1179 p) .nil .nil) .nil) (.node (o923 p) .nil .nil))) (.node (o216 p) (.node (o344 p) (.node (o600 p) (.node (o1115 p) .nil .nil) .nil) (.node (o859 p) .nil .nil)) (.node (o472 p) (.node (o731 p) (.node (o1243 p) .nil .nil) .nil) (.node (o987 p) .nil .nil))))) (.node (o40 p) (.node (o72 p) (.node (o136 p) (.node (o264 p) (.node (o520 p) (.node (o1035 p) .nil .nil) .nil) (.node (o779 p) (.node (o1291 p) .nil .nil) .nil)) (.node (o392 p) (.node (o648 p) (.node (o1163 p) .nil .nil) .nil) (.node (o907 p) .nil .nil))) (.node (o200 p) (.node (o328 p) (.node (o584 p) (.node (o1099 p) .nil .nil) .nil) (.node (o843 p) .nil .nil)) (.node (o456 p) (.node (o715 p) (.node (o1227 p) .nil .nil) .nil) (.node (o971 p) .nil .nil)))) (.node (o104 p) (.node (o168 p) (.node (o296 p) (.node (o552 p) (.node (o1067 p) .nil .nil) .nil) (.node (o811 p) (.node (o1323 p) .nil .nil) .nil)) (.node (o424 p) (.node (o680 p) (.node (o1195 p) .nil .nil) .nil) (.node (o939 p) .nil .nil))) (.node (o232 p) (.node (o360 p) (.node (o616 p) (.node (o1131 p) .nil .nil) .nil) (.node (o875 p) .nil .nil)) (.node (o488 p) (.node (o747 p) (.node (o1259 p) .nil .nil) .nil) (.node (o1003 p) .nil .nil)))))) (.node (o16 p) (.node (o32 p) (.node (o64 p) (.node (o128 p) (.node (o256 p) (.node (o512 p) (.node (o1027 p) .nil .nil) .nil) (.node (o771 p) (.node (o1283 p) .nil .nil) .nil)) (.node (o384 p) (.node (o640 p) (.node (o1155 p) .nil .nil) .nil) (.node (o899 p) .nil .nil))) (.node (o192 p) (.node (o320 p) (.node (o576 p) (.node (o1091 p) .nil .nil) .nil) (.node (o835 p) .nil .nil)) (.node (o448 p) (.node (o707 p) (.node (o1219 p) .nil .nil) .nil) (.node (o963 p) .nil .nil)))) (.node (o96 p) (.node (o160 p) (.node (o288 p) (.node (o544 p) (.node (o1059 p) .nil .nil) .nil) (.node (o803 p) (.node (o1315 p) .nil .nil) .nil)) (.node (o416 p) (.node (o672 p) (.node (o1187 p) .nil .nil) .nil) (.node (o931 p) .nil .nil))) (.node (o224 p) (.node (o352 p) (.node (o608 p) (.node (o1123 p) .nil .nil) .nil) (.node (o867 p) .nil .nil)) (.node (o480 p) (.node (o739 p) (.node (o1251 p) .nil .nil) .nil) (.node (o995 p) .nil .nil))))) (.node (o48 p) (.node (o80 p) (.node (o144 p) (.node (o272 p) (.node (o528 p) (.node (o1043 p) .nil .nil) .nil) (.node (o787 p) (.node (o1299 p) .nil .nil) .nil)) (.node (o400 p) (.node (o656 p) (.node (o1171 p) .nil .nil) .nil) (.node (o915 p) .nil .nil))) (.node (o208 p) (.node (o336 p) (.node (o592 p) (.node (o1107 p) .nil .nil) .nil) (.node (o851 p) .nil .nil)) (.node (o464 p) (.node (o723 p) (.node (o1235 p) .nil .nil) .nil) (.node (o979 p) .nil .nil)))) (.node (o112 p) (.node (o176 p) (.node (o304 p) (.node (o560 p) (.node (o1075 p) .nil .nil) .nil) (.node (o819 p) (.node (o1331 p) .nil .nil) .nil)) (.node (o432 p) (.node (o691 p) (.node (o1203 p) .nil .nil) .nil) (.node (o947 p) .nil .nil))) (.node (o240 p) (.node (o368 p) (.node (o624 p) (.node (o1139 p) .nil .nil) .nil) (.node (o883 p) .nil .nil)) (.node (o496 p) (.node (o755 p) (.node (o1267 p) .nil .nil) .nil) (.node (o1011 p) .nil .nil))))))) (.node (o2 p) (.node (o12 p) (.node (o28 p) (.node (o60 p) (.node (o124 p) (.node (o252 p) (.node (o508 p) (.node (o1023 p) .nil .nil) .nil) (.node (o767 p) (.node (o1279 p) .nil .nil) .nil)) (.node (o380 p) (.node (o636 p) (.node (o1151 p) .nil .nil) .nil) (.node (o895 p) .nil .nil))) (.node (o188 p) (.node (o316 p) (.node (o572 p) (.node (o1087 p) .nil .nil) .nil) (.node (o831 p) .nil .nil)) (.node (o444 p) (.node (o703 p) (.node (o1215 p) .nil .nil) .nil) (.node (o959 p) .nil .nil)))) (.node (o92 p) (.node (o156 p) (.node (o284 p) (.node (o540 p) (.node (o1055 p) .nil .nil) .nil) (.node (o799 p) (.node (o1311 p) .nil .nil) .nil)) (.node (o412 p) (.node (o668 p) (.node (o1183 p) .nil .nil) .nil) (.node (o927 p) .nil .nil))) (.node (o220 p) (.node (o348 p) (.node (o604 p) (.node (o1119 p) .nil .nil) .nil) (.node (o863 p) .nil .nil)) (.node (o476 p) (.node (o735 p) (.node (o1247 p) .nil .nil) .nil) (.node (o991 p) .nil .nil))))) (.node (o44 p) (.node (o76 p) (.node (o140 p) (.node (o268 p) (.node (o524 p) (.node (o1039 p) .nil .nil) .nil) (.node (o783 p) (.node (o1295 p) .nil .nil) .nil)) (.node (o396 p) (.node (o652 p) (.node (o1167 p) .nil .nil) .nil) (.node (o911 p) .nil .nil))) (.node (o204 p) (.node (o332 p) (.node (o588 p) (.node (o1103 p) .nil .nil) .nil) (.node (o847 p) .nil .nil)) (.node (o460 p) (.node (o719 p) (.node (o1231 p) .nil .nil) .nil) (.node (o975 p) .nil .nil)))) (.node (o108 p) (.node (o172 p) (.node (o300 p) (.node (o556 p) (.node (o1071 p) .nil .nil) .nil) (.node (o815 p) (.node (o1327 p) .nil .nil) .nil)) (.node (o428 p) (.node (o687 p) (.node (o1199 p) .nil .nil) .nil) (.node (o943 p) .nil .nil))) (.node (o236 p) (.node (o364 p) (.node (o620 p) (.node (o1135 p) .nil .nil) .nil) (.node (o879 p) .nil .nil)) (.node (o492 p) (.node (o751 p) (.node (o1263 p) .nil .nil) .nil) (.node (o1007 p) .nil .nil)))))) (.node (o20 p) (.node (o36 p) (.node (o68 p) (.node (o132 p) (.node (o260 p) (.node (o516 p) (.node (o1031 p) .nil .nil) .nil) (.node (o775 p) (.node (o1287 p) .nil .nil) .nil)) (.node (o388 p) (.node (o644 p) (.node (o1159 p) .nil .nil) .nil) (.node (o903 p) .nil .nil))) (.node (o196 p) (.node (o324 p) (.node (o580 p) (.node (o1095 p) .nil .nil) .nil) (.node (o839 p) .nil .nil)) (.node (o452 p) (.node (o711 p) (.node (o1223 p) .nil .nil) .nil) (.node (o967 p) .nil .nil)))) (.node (o100 p) (.node (o164 p) (.node (o292 p) (.node (o548 p) (.node (o1063 p) .nil .nil) .nil) (.node (o807 p) (.node (o1319 p) .nil .nil) .nil)) (.node (o420 p) (.node (o676 p) (.node (o1191 p) .nil .nil) .nil) (.node (o935 p) .nil .nil))) (.node (o228 p) (.node (o356 p) (.node (o612 p) (.node (o1127 p) .nil .nil) .nil) (.node (o871 p) .nil .nil)) (.node (o484 p) (.node (o743 p) (.node (o1255 p) .nil .nil) .nil) (.node (o999 p) .nil .nil))))) (.node (o52 p) (.node (o84 p) (.node (o148 p) (.node (o276 p) (.node (o532 p) (.node (o1047 p) .nil .nil) .nil) (.node (o791 p) (.node (o1303 p) .nil .nil) .nil)) (.node (o404 p) (.node (o660 p) (.node (o1175 p) .nil .nil) .nil) (.node (o919 p) .nil .nil))) (.node (o212 p) (.node (o340 p) (.node (o596 p) (.node (o1111 p) .nil .nil) .nil) (.node (o855 p) .nil .nil)) (.node (o468 p) (.node (o727 p) (.node (o1239 p) .nil .nil) .nil) (.node (o983 p) .nil .nil)))) (.node (o116 p) (.node (o180 p) (.node (o308 p) (.node (o564 p) (.node (o1079 p) .nil .nil) .nil) (.node (o823 p) (.node (o1335 p) .nil .nil) .nil)) (.node (o436 p) (.node (o695 p) (.node (o1207 p) .nil .nil) .nil) (.node (o951 p) .nil .nil))) (.node (o244 p) (.node (o372 p) (.node (o628 p) (.node (o1143 p) .nil .nil) .nil) (.node (o887 p) .nil .nil)) (.node (o500 p) (.node (o759 p) (.node (o1271 p) .nil .nil) .nil) (.node (o1015 p) .nil .nil))))))))) (.node (boot_o_2 p) (.node (boot_o_4 p) (.node (boot_o_8 p) (.node (o7 p) (.node (o23 p) (.node (o55 p) (.node (o119 p) (.node (o247 p) (.node (o503 p) (.node (o1018 p) .nil .nil) .nil) (.node (o762 p) (.node (o1274 p) .nil .nil) .nil)) (.node (o375 p) (.node (o631 p) (.node (o1146 p) .nil .nil) .nil) (.node (o890 p) .nil .nil))) (.node (o183 p) (.node (o311 p) (.node (o567 p) (.node (o1082 p) .nil .nil) .nil) (.node (o826 p) (.node (o1338 p) .nil .nil) .nil)) (.node (o439 p) (.node (o698 p) (.node (o1210 p) .nil .nil) .nil) (.node (o954 p) .nil .nil)))) (.node (o87 p) (.node (o151 p) (.node (o279 p) (.node (o535 p) (.node (o1050 p) .nil .nil) .nil) (.node (o794 p) (.node (o1306 p) .nil .nil) .nil)) (.node (o407 p) (.node (o663 p) (.node (o1178 p) .nil .nil) .nil) (.node (o922 p) .nil .nil))) (.node (o215 p) (.node (o343 p) (.node (o599 p) (.node (o1114 p) .nil .nil) .nil) (.node (o858 p) .nil .nil)) (.node (o471 p) (.node (o730 p) (.node (o1242 p) .nil .nil) .nil) (.node (o986 p) .nil .nil))))) (.node (o39 p) (.node (o71 p) (.node (o135 p) (.node (o263 p) (.node (o519 p) (.node (o1034 p) .nil .nil) .nil) (.node (o778 p) (.node (o1290 p) .nil .nil) .nil)) (.node (o391 p) (.node (o647 p) (.node (o1162 p) .nil .nil) .nil) (.node (o906 p) .nil .nil))) (.node (o199 p) (.node (o327 p) (.node (o583 p) (.node (o1098 p) .nil .nil) .nil) (.node (o842 p) .nil .nil)) (.node (o455 p) (.node (o714 p) (.node (o1226 p) .nil .nil) .nil) (.node (o970 p) .nil .nil)))) (.node (o103 p) (.node (o167 p) (.node (o295 p) (.node (o551 p) (.node (o1066 p) .nil .nil) .nil) (.node (o810 p) (.node (o1322 p) .nil .nil) .nil)) (.node (o423 p) (.node (o679 p) (.node (o1194 p) .nil .nil) .nil) (.node (o938 p) .nil .nil))) (.node (o231 p) (.node (o359 p) (.node (o615 p) (.node (o1130 p) .nil .nil) .nil) (.node (o874 p) .nil .nil)) (.node (o487 p) (.node (o746 p) (.node (o1258 p) .nil .nil) .nil) (.node (o1002 p) .nil .nil)))))) (.node (o684 p) (.node (o31 p) (.node (o63 p) (.node (o127 p) (.node (o255 p) (.node (o511 p) (.node (o1026 p) .nil .nil) .nil) (.node (o770 p) (.node (o1282 p) .nil .nil) .nil)) (.node (o383 p) (.node (o639 p) (.node (o1154 p) .nil .nil) .nil) (.node (o898 p) .nil .nil))) (.node (o191 p) (.node (o319 p) (.node (o575 p) (.node (o1090 p) .nil .nil) .nil) (.node (o834 p) .nil .nil)) (.node (o447 p) (.node (o706 p) (.node (o1218 p) .nil .nil) .nil) (.node (o962 p) .nil .nil)))) (.node (o95 p) (.node (o159 p) (.node (o287 p) (.node (o543 p) (.node (o1058 p) .nil .nil) .nil) (.node (o802 p) (.node (o1314 p) .nil .nil) .nil)) (.node (o415 p) (.node (o671 p) (.node (o1186 p) .nil .nil) .nil) (.node (o930 p) .nil .nil))) (.node (o223 p) (.node (o351 p) (.node (o607 p) (.node (o1122 p) .nil .nil) .nil) (.node (o866 p) .nil .nil)) (.node (o479 p) (.node (o738 p) (.node (o1250 p) .nil .nil) .nil) (.node (o994 p) .nil .nil))))) (.node (o47 p) (.node (o79 p) (.node (o143 p) (.node (o271 p) (.node (o527 p) (.node (o1042 p) .nil .nil) .nil) (.node (o786 p) (.node (o1298 p) .nil .nil) .nil)) (.node (o399 p) (.node (o655 p) (.node (o1170 p) .nil .nil) .nil) (.node (o914 p) .nil .nil))) (.node (o207 p) (.node (o335 p) (.node (o591 p) (.node (o1106 p) .nil .nil) .nil) (.node (o850 p) .nil .nil)) (.node (o463 p) (.node (o722 p) (.node (o1234 p) .nil .nil) .nil) (.node (o978 p) .nil .nil)))) (.node (o111 p) (.node (o175 p) (.node (o303 p) (.node (o559 p) (.node (o1074 p) .nil .nil) .nil) (.node (o818 p) (.node (o1330 p) .nil .nil) .nil)) (.node (o431 p) (.node (o690 p) (.node (o1202 p) .nil .nil) .nil) (.node (o946 p) .nil .nil))) (.node (o239 p) (.node (o367 p) (.node (o623 p) (.node (o1138 p) .nil .nil) .nil) (.node (o882 p) .nil .nil)) (.node (o495 p) (.node (o754 p) (.node (o1266 p) .nil .nil) .nil) (.node (o1010 p) .nil .nil))))))) (.node (o683 p) (.node (o11 p) (.node (o27 p) (.node (o59 p) (.node (o123 p) (.node (o251 p) (.node (o507 p) (.node (o1022 p) .nil .nil) .nil) (.node (o766 p) (.node (o1278 p) .nil .nil) .nil)) (.node (o379 p) (.node (o635 p) (.node (o1150 p) .nil .nil) .nil) (.node (o894 p) .nil .nil))) (.node (o187 p) (.node (o315 p) (.node (o571 p) (.node (o1086 p) .nil .nil) .nil) (.node (o830 p) .nil .nil)) (.node (o443 p) (.node (o702 p) (.node (o1214 p) .nil .nil) .nil) (.node (o958 p) .nil .nil)))) (.node (o91 p) (.node (o155 p) (.node (o283 p) (.node (o539 p) (.node (o1054 p) .nil .nil) .nil) (.node (o798 p) (.node (o1310 p) .nil .nil) .nil)) (.node (o411 p) (.node (o667 p) (.node (o1182 p) .nil .nil) .nil) (.node (o926 p) .nil .nil))) (.node (o219 p) (.node (o347 p) (.node (o603 p) (.node (o1118 p) .nil .nil) .nil) (.node (o862 p) .nil .nil)) (.node (o475 p) (.node (o734 p) (.node (o1246 p) .nil .nil) .nil) (.node (o990 p) .nil .nil))))) (.node (o43 p) (.node (o75 p) (.node (o139 p) (.node (o267 p) (.node (o523 p) (.node (o1038 p) .nil .nil) .nil) (.node (o782 p) (.node (o1294 p) .nil .nil) .nil)) (.node (o395 p) (.node (o651 p) (.node (o1166 p) .nil .nil) .nil) (.node (o910 p) .nil .nil))) (.node (o203 p) (.node (o331 p) (.node (o587 p) (.node (o1102 p) .nil .nil) .nil) (.node (o846 p) .nil .nil)) (.node (o459 p) (.node (o718 p) (.node (o1230 p) .nil .nil) .nil) (.node (o974 p) .nil .nil)))) (.node (o107 p) (.node (o171 p) (.node (o299 p) (.node (o555 p) (.node (o1070 p) .nil .nil) .nil) (.node (o814 p) (.node (o1326 p) .nil .nil) .nil)) (.node (o427 p) (.node (o686 p) (.node (o1198 p) .nil .nil) .nil) (.node (o942 p) .nil .nil))) (.node (o235 p) (.node (o363 p) (.node (o619 p) (.node (o1134 p) .nil .nil) .nil) (.node (o878 p) .nil .nil)) (.node (o491 p) (.node (o750 p) (.node (o1262 p) .nil .nil) .nil) (.node (o1006 p) .nil .nil)))))) (.node (o19 p) (.node (o35 p) (.node (o67 p) (.node (o131 p) (.node (o259 p) (.node (o515 p) (.node (o1030 p) .nil .nil) .nil) (.node (o774 p) (.node (o1286 p) .nil .nil) .nil)) (.node (o387 p) (.node (o643 p) (.node (o1158 p) .nil .nil) .nil) (.node (o902 p) .nil .nil))) (.node (o195 p) (.node (o323 p) (.node (o579 p) (.node (o1094 p) .nil .nil) .nil) (.node (o838 p) .nil .nil)) (.node (o451 p) (.node (o710 p) (.node (o1222 p) .nil .nil) .nil) (.node (o966 p) .nil .nil)))) (.node (o99 p) (.node (o163 p) (.node (o291 p) (.node (o547 p) (.node (o1062 p) .nil .nil) .nil) (.node (o806 p) (.node (o1318 p) .nil .nil) .nil)) (.node (o419 p) (.node (o675 p) (.node (o1190 p) .nil .nil) .nil) (.node (o934 p) .nil .nil))) (.node (o227 p) (.node (o355 p) (.node (o611 p) (.node (o1126 p) .nil .nil) .nil) (.node (o870 p) .nil .nil)) (.node (o483 p) (.node (o742 p) (.node (o1254 p) .nil .nil) .nil) (.node (o998 p) .nil .nil))))) (.node (o51 p) (.node (o83 p) (.node (o147 p) (.node (o275 p) (.node (o531 p) (.node (o1046 p) .nil .nil) .nil) (.node (o790 p) (.node (o1302 p) .nil .nil) .nil)) (.node (o403 p) (.node (o659 p) (.node (o1174 p) .nil .nil) .nil) (.node (o918 p) .nil .nil))) (.node (o211 p) (.node (o339 p) (.node (o595 p) (.node (o1110 p) .nil .nil) .nil) (.node (o854 p) .nil .nil)) (.node (o467 p) (.node (o726 p) (.node (o1238 p) .nil .nil) .nil) (.node (o982 p) .nil .nil)))) (.node (o115 p) (.node (o179 p) (.node (o307 p) (.node (o563 p) (.node (o1078 p) .nil .nil) .nil) (.node (o822 p) (.node (o1334 p) .nil .nil) .nil)) (.node (o435 p) (.node (o694 p) (.node (o1206 p) .nil .nil) .nil) (.node (o950 p) .nil .nil))) (.node (o243 p) (.node (o371 p) (.node (o627 p) (.node (o1142 p) .nil .nil) .nil) (.node (o886 p) .nil .nil)) (.node (o499 p) (.node (o758 p) (.node (o1270 p) .nil .nil) .nil) (.node (o1014 p) .nil .nil)))))))) (.node (boot_o_6 p) (.node (boot_o_10 p) (.node (o9 p) (.node (o25 p) (.node (o57 p) (.node (o121 p) (.node (o249 p) (.node (o505 p) (.node (o1020 p) .nil .nil) .nil) (.node (o764 p) (.node (o1276 p) .nil .nil) .nil)) (.node (o377 p) (.node (o633 p) (.node (o1148 p) .nil .nil) .nil) (.node (o892 p) .nil .nil))) (.node (o185 p) (.node (o313 p) (.node (o569 p) (.node (o1084 p) .nil .nil) .nil) (.node (o828 p) (.node (o1340 p) .nil .nil) .nil)) (.node (o441 p) (.node (o700 p) (.node (o1212 p) .nil .nil) .nil) (.node (o956 p) .nil .nil)))) (.node (o89 p) (.node (o153 p) (.node (o281 p) (.node (o537 p) (.node (o1052 p) .nil .nil) .nil) (.node (o796 p) (.node (o1308 p) .nil .nil) .nil)) (.node (o409 p) (.node (o665 p) (.node (o1180 p) .nil .nil) .nil) (.node (o924 p) .nil .nil))) (.node (o217 p) (.node (o345 p) (.node (o601 p) (.node (o1116 p) .nil .nil) .nil) (.node (o860 p) .nil .nil)) (.node (o473 p) (.node (o732 p) (.node (o1244 p) .nil .nil) .nil) (.node (o988 p) .nil .nil))))) (.node (o41 p) (.node (o73 p) (.node (o137 p) (.node (o265 p) (.node (o521 p) (.node (o1036 p) .nil .nil) .nil) (.node (o780 p) (.node (o1292 p) .nil .nil) .nil)) (.node (o393 p) (.node (o649 p) (.node (o1164 p) .nil .nil) .nil) (.node (o908 p) .nil .nil))) (.node (o201 p) (.node (o329 p) (.node (o585 p) (.node (o1100 p) .nil .nil) .nil) (.node (o844 p) .nil .nil)) (.node (o457 p) (.node (o716 p) (.node (o1228 p) .nil .nil) .nil) (.node (o972 p) .nil .nil)))) (.node (o105 p) (.node (o169 p) (.node (o297 p) (.node (o553 p) (.node (o1068 p) .nil .nil) .nil) (.node (o812 p) (.node (o1324 p) .nil .nil) .nil)) (.node (o425 p) (.node (o681 p) (.node (o1196 p) .nil .nil) .nil) (.node (o940 p) .nil .nil))) (.node (o233 p) (.node (o361 p) (.node (o617 p) (.node (o1132 p) .nil .nil) .nil) (.node (o876 p) .nil .nil)) (.node (o489 p) (.node (o748 p) (.node (o1260 p) .nil .nil) .nil) (.node (o1004 p) .nil .nil)))))) (.node (o17 p) (.node (o33 p) (.node (o65 p) (.node (o129 p) (.node (o257 p) (.node (o513 p) (.node (o1028 p) .nil .nil) .nil) (.node (o772 p) (.node (o1284 p) .nil .nil) .nil)) (.node (o385 p) (.node (o641 p) (.node (o1156 p) .nil .nil) .nil) (.node (o900 p) .nil .nil))) (.node (o193 p) (.node (o321 p) (.node (o577 p) (.node (o1092 p) .nil .nil) .nil) (.node (o836 p) .nil .nil)) (.node (o449 p) (.node (o708 p) (.node (o1220 p) .nil .nil) .nil) (.node (o964 p) .nil .nil)))) (.node (o97 p) (.node (o161 p) (.node (o289 p) (.node (o545 p) (.node (o1060 p) .nil .nil) .nil) (.node (o804 p) (.node (o1316 p) .nil .nil) .nil)) (.node (o417 p) (.node (o673 p) (.node (o1188 p) .nil .nil) .nil) (.node (o932 p) .nil .nil))) (.node (o225 p) (.node (o353 p) (.node (o609 p) (.node (o1124 p) .nil .nil) .nil) (.node (o868 p) .nil .nil)) (.node (o481 p) (.node (o740 p) (.node (o1252 p) .nil .nil) .nil) (.node (o996 p) .nil .nil))))) (.node (o49 p) (.node (o81 p) (.node (o145 p) (.node (o273 p) (.node (o529 p) (.node (o1044 p) .nil .nil) .nil) (.node (o788 p) (.node (o1300 p) .nil .nil) .nil)) (.node (o401 p) (.node (o657 p) (.node (o1172 p) .nil .nil) .nil) (.node (o916 p) .nil .nil))) (.node (o209 p) (.node (o337 p) (.node (o593 p) (.node (o1108 p) .nil .nil) .nil) (.node (o852 p) .nil .nil)) (.node (o465 p) (.node (o724 p) (.node (o1236 p) .nil .nil) .nil) (.node (o980 p) .nil .nil)))) (.node (o113 p) (.node (o177 p) (.node (o305 p) (.node (o561 p) (.node (o1076 p) .nil .nil) .nil) (.node (o820 p) (.node (o1332 p) .nil .nil) .nil)) (.node (o433 p) (.node (o692 p) (.node (o1204 p) .nil .nil) .nil) (.node (o948 p) .nil .nil))) (.node (o241 p) (.node (o369 p) (.node (o625 p) (.node (o1140 p) .nil .nil) .nil) (.node (o884 p) .nil .nil)) (.node (o497 p) (.node (o756 p) (.node (o1268 p) .nil .nil) .nil) (.node (o1012 p) .nil .nil))))))) (.node (o3 p) (.node (o13 p) (.node (o29 p) (.node (o61 p) (.node (o125 p) (.node (o253 p) (.node (o509 p) (.node (o1024 p) .nil .nil) .nil) (.node (o768 p) (.node (o1280 p) .nil .nil) .nil)) (.node (o381 p) (.node (o637 p) (.node (o1152 p) .nil .nil) .nil) (.node (o896 p) .nil .nil))) (.node (o189 p) (.node (o317 p) (.node (o573 p) (.node (o1088 p) .nil .nil) .nil) (.node (o832 p) .nil .nil)) (.node (o445 p) (.node (o704 p) (.node (o1216 p) .nil .nil) .nil) (.node (o960 p) .nil .nil)))) (.node (o93 p) (.node (o157 p) (.node (o285 p) (.node (o541 p) (.node (o1056 p) .nil .nil) .nil) (.node (o800 p) (.node (o1312 p) .nil .nil) .nil)) (.node (o413 p) (.node (o669 p) (.node (o1184 p) .nil .nil) .nil) (.node (o928 p) .nil .nil))) (.node (o221 p) (.node (o349 p) (.node (o605 p) (.node (o1120 p) .nil .nil) .nil) (.node (o864 p) .nil .nil)) (.node (o477 p) (.node (o736 p) (.node (o1248 p) .nil .nil) .nil) (.node (o992 p) .nil .nil))))) (.node (o45 p) (.node (o77 p) (.node (o141 p) (.node (o269 p) (.node (o525 p) (.node (o1040 p) .nil .nil) .nil) (.node (o784 p) (.node (o1296 p) .nil .nil) .nil)) (.node (o397 p) (.node (o653 p) (.node (o1168 p) .nil .nil) .nil) (.node (o912 p) .nil .nil))) (.node (o205 p) (.node (o333 p) (.node (o589 p) (.node (o1104 p) .nil .nil) .nil) (.node (o848 p) .nil .nil)) (.node (o461 p) (.node (o720 p) (.node (o1232 p) .nil .nil) .nil) (.node (o976 p) .nil .nil)))) (.node (o109 p) (.node (o173 p) (.node (o301 p) (.node (o557 p) (.node (o1072 p) .nil .nil) .nil) (.node (o816 p) (.node (o1328 p) .nil .nil) .nil)) (.node (o429 p) (.node (o688 p) (.node (o1200 p) .nil .nil) .nil) (.node (o944 p) .nil .nil))) (.node (o237 p) (.node (o365 p) (.node (o621 p) (.node (o1136 p) .nil .nil) .nil) (.node (o880 p) .nil .nil)) (.node (o493 p) (.node (o752 p) (.node (o1264 p) .nil .nil) .nil) (.node (o1008 p) .nil .nil)))))) (.node (o21 p) (.node (o37 p) (.node (o69 p) (.node (o133 p) (.node (o261 p) (.node (o517 p) (.node (o1032 p) .nil .nil) .nil) (.node (o776 p) (.node (o1288 p) .nil .nil) .nil)) (.node (o389 p) (.node (o645 p) (.node (o1160 p) .nil .nil) .nil) (.node (o904 p) .nil .nil))) (.node (o197 p) (.node (o325 p) (.node (o581 p) (.node (o1096 p) .nil .nil) .nil) (.node (o840 p) .nil .nil)) (.node (o453 p) (.node (o712 p) (.node (o1224 p) .nil .nil) .nil) (.node (o968 p) .nil .nil)))) (.node (o101 p) (.node (o165 p) (.node (o293 p) (.node (o549 p) (.node (o1064 p) .nil .nil) .nil) (.node (o808 p) (.node (o1320 p) .nil .nil) .nil)) (.node (o421 p) (.node (o677 p) (.node (o1192 p) .nil .nil) .nil) (.node (o936 p) .nil .nil))) (.node (o229 p) (.node (o357 p) (.node (o613 p) (.node (o1128 p) .nil .nil) .nil) (.node (o872 p) .nil .nil)) (.node (o485 p) (.node (o744 p) (.node (o1256 p) .nil .nil) .nil) (.node (o1000 p) .nil .nil))))) (.node (o53 p) (.node (o85 p) (.node (o149 p) (.node (o277 p) (.node (o533 p) (.node (o1048 p) .nil .nil) .nil) (.node (o792 p) (.node (o1304 p) .nil .nil) .nil)) (.node (o405 p) (.node (o661 p) (.node (o1176 p) .nil .nil) .nil) (.node (o920 p) .nil .nil))) (.node (o213 p) (.node (o341 p) (.node (o597 p) (.node (o1112 p) .nil .nil) .nil) (.node (o856 p) .nil .nil)) (.node (o469 p) (.node (o728 p) (.node (o1240 p) .nil .nil) .nil) (.node (o984 p) .nil .nil)))) (.node (o117 p) (.node (o181 p) (.node (o309 p) (.node (o565 p) (.node (o1080 p) .nil .nil) .nil) (.node (o824 p) (.node (o1336 p) .nil .nil) .nil)) (.node (o437 p) (.node (o696 p) (.node (o1208 p) .nil .nil) .nil) (.node (o952 p) .nil .nil))) (.node (o245 p) (.node (o373 p) (.node (o629 p) (.node (o1144 p) .nil .nil) .nil) (.node (o888 p) .nil .nil)) (.node (o501 p) (.node (o760 p) (.node (o1272 p) .nil .nil) .nil) (.node (o1016 p) .nil .nil))))))))))
noncomputable def o1341 (p : Params) : Obj := .mk (y "dict") none (.dict #[(e p "__name__" 165 (s "law_neverhalf_k00_errors_made" 2819)), (e p "__doc__" 166 .none), (e p "__package__" 167 .none), (e p "__loader__" 168 (u "__main__.__loader__#opaque")), (e p "__spec__" 169 .none), (e p "__annotations__" 170 (r 6)), (e p "__builtins__" 171 (r 4)), (e p "__file__" 173 (s "/claim/cut.py" 172)), (e p "__cached__" 174 .none), (e p "WholeError" 206 (r 24)), (e p "BadText" 231 (r 44)), (e p "BadSource" 256 (r 63)), (e p "BadIndex" 281 (r 82)), (e p "NotChecked" 297 (r 94)), (e p "BadName" 322 (r 113)), (e p "BadInputs" 347 (r 132)), (e p "BadMost" 372 (r 151)), (e p "BadObject" 397 (r 170)), (e p "BadForm" 422 (r 189)), (e p "BadObjects" 447 (r 208)), (e p "NotLinked" 463 (r 220)), (e p "BadLinked" 488 (r 239)), (e p "BadKeeps" 513 (r 258)), (e p "BadValue" 538 (r 277)), (e p "BadState" 563 (r 296)), (e p "BadWord" 588 (r 315)), (e p "BadPasses" 613 (r 334)), (e p "BadRow" 638 (r 353)), (e p "BadField" 663 (r 372)), (e p "BadLengths" 688 (r 391)), (e p "BadCounts" 713 (r 410)), (e p "BadMany" 738 (r 429)), (e p "BadKinds" 763 (r 448)), (e p "BadClasses" 788 (r 467)), (e p "BadBits" 813 (r 486)), (e p "BadWidth" 838 (r 505)), (e p "BadWords" 863 (r 524)), (e p "BadVersion" 888 (r 543)), (e p "BadImage" 913 (r 562)), (e p "BadOne" 938 (r 581)), (e p "BadOther" 963 (r 600)), (e p "TooLong" 979 (r 612)), (e p "NotCode" 1004 (r 631)), (e p "BadBase" 1029 (r 650)), (e p "BadPatch" 1054 (r 669)), (e p "BadTarget" 1079 (r 688)), (e p "BadStore" 1104 (r 707)), (e p "BadOps" 1129 (r 726)), (e p "BadOp" 1154 (r 745)), (e p "BadTorn" 1179 (r 764)), (e p "BadBox" 1204 (r 783)), (e p "BadSlot" 1229 (r 802)), (e p "NoRoom" 1254 (r 821)), (e p "BadBlock" 1279 (r 840)), (e p "BadBlocks" 1304 (r 859)), (e p "BadRun" 1329 (r 878)), (e p "BadGiven" 1354 (r 897)), (e p "NotRun" 1370 (r 909)), (e p "NotMade" 1395 (r 928)), (e p "BadCut" 1420 (r 947)), (e p "OnTrial" 1436 (r 959)), (e p "OldVersion" 1452 (r 971)), (e p "BadSetting" 1477 (r 990)), (e p "BadProtocol" 1502 (r 1009)), (e p "BadRule" 1529 (r 1028)), (e p "BadCuts" 1554 (r 1047)), (e p "BadDone" 1579 (r 1066)), (e p "BadEvent" 1604 (r 1085)), (e p "BadEvents" 1629 (r 1104)), (e p "NotOf" 1645 (r 1116)), (e p "BadCount" 1670 (r 1135)), (e p "BadPlace" 1695 (r 1154)), (e p "BadTower" 1720 (r 1173)), (e p "BadStory" 1745 (r 1192)), (e p "BadThing" 1770 (r 1211)), (e p "NoName" 1795 (r 1230)), (e p "InRing" 1820 (r 1249)), (e p "InUse" 1845 (r 1268)), (e p "NoThing" 1870 (r 1287)), (e p "BadVow" 1895 (r 1306)), (e p "Watched" 1920 (r 1325)), (e p "NotHeldNow" 1945 (r 1344)), (e p "NotWatched" 1970 (r 1363)), (e p "Broken" 1995 (r 1382)), (e p "BadImages" 2020 (r 1401)), (e p "BadThings" 2045 (r 1420)), (e p "BadWay" 2070 (r 1439)), (e p "TooMany" 2086 (r 1451)), (e p "BadRing" 2111 (r 1470)), (e p "BadWorn" 2136 (r 1489)), (e p "BadRoom" 2161 (r 1508)), (e p "BadSpots" 2186 (r 1527)), (e p "NoMarks" 2211 (r 1546)), (e p "NoWord" 2236 (r 1565)), (e p "NoHead" 2261 (r 1584)), (e p "BadTest" 2286 (r 1603)), (e p "BadTests" 2311 (r 1622)), (e p "BadNumber" 2336 (r 1641)), (e p "BadValues" 2361 (r 1660)), (e p "NoNumber" 2377 (r 1672)), (e p "BadNames" 2402 (r 1691)), (e p "BadOthers" 2427 (r 1710)), (e p "BadFirsts" 2452 (r 1729)), (e p "BadSources" 2477 (r 1748)), (e p "BadSteps" 2502 (r 1767)), (e p "BadFleet" 2527 (r 1786)), (e p "BadParts" 2552 (r 1805)), (e p "BadPresent" 2577 (r 1824)), (e p "BadBroadcast" 2602 (r 1843)), (e p "BadPlan" 2627 (r 1862)), (e p "BadBreaks" 2652 (r 1881)), (e p "BadFunction" 2677 (r 1900)), (e p "NotPlain" 2693 (r 1912)), (e p "BadShelf" 2718 (r 1931)), (e p "NotListing" 2743 (r 1950)), (e p "BadLog" 2768 (r 1969)), (e p "BadEntry" 2793 (r 1988)), (e p "BadTexts" 2818 (r 2007))] 118) #[]
noncomputable def o1342 (p : Params) : Obj := .mk .none none (.fields #[(n 2 0), (n 0 0), (r 20), (n 4 0), (n 0 0), (r 33), (n 8 0), (n 0 0), (r 52), (n 12 0), (n 0 0), (r 71), (n 16 0), (n 0 0), (r 90), (n 18 0), (n 0 0), (r 102), (n 22 0), (n 0 0), (r 121), (n 26 0), (n 0 0), (r 140), (n 30 0), (n 0 0), (r 159), (n 34 0), (n 0 0), (r 178), (n 38 0), (n 0 0), (r 197), (n 42 0), (n 0 0), (r 216), (n 44 0), (n 0 0), (r 228), (n 48 0), (n 0 0), (r 247), (n 52 0), (n 0 0), (r 266), (n 56 0), (n 0 0), (r 285), (n 60 0), (n 0 0), (r 304), (n 64 0), (n 0 0), (r 323), (n 68 0), (n 0 0), (r 342), (n 72 0), (n 0 0), (r 361), (n 76 0), (n 0 0), (r 380), (n 80 0), (n 0 0), (r 399), (n 84 0), (n 0 0), (r 418), (n 88 0), (n 0 0), (r 437), (n 92 0), (n 0 0), (r 456), (n 96 0), (n 0 0), (r 475), (n 100 0), (n 0 0), (r 494), (n 104 0), (n 0 0), (r 513), (n 108 0), (n 0 0), (r 532), (n 112 0), (n 0 0), (r 551), (n 116 0), (n 0 0), (r 570), (n 120 0), (n 0 0), (r 589), (n 124 0), (n 0 0), (r 608), (n 126 0), (n 0 0), (r 620), (n 130 0), (n 0 0), (r 639), (n 134 0), (n 0 0), (r 658), (n 138 0), (n 0 0), (r 677), (n 142 0), (n 0 0), (r 696), (n 146 0), (n 0 0), (r 715), (n 150 0), (n 0 0), (r 734), (n 154 0), (n 0 0), (r 753), (n 158 0), (n 0 0), (r 772), (n 162 0), (n 0 0), (r 791), (n 166 0), (n 0 0), (r 810), (n 170 0), (n 0 0), (r 829), (n 174 0), (n 0 0), (r 848), (n 178 0), (n 0 0), (r 867), (n 182 0), (n 0 0), (r 886), (n 186 0), (n 0 0), (r 905), (n 188 0), (n 0 0), (r 917), (n 192 0), (n 0 0), (r 936), (n 196 0), (n 0 0), (r 955), (n 198 0), (n 0 0), (r 967), (n 200 0), (n 0 0), (r 979), (n 204 0), (n 0 0), (r 998), (n 209 0), (n 0 0), (r 1017), (n 213 0), (n 0 0), (r 1036), (n 217 0), (n 0 0), (r 1055), (n 221 0), (n 0 0), (r 1074), (n 225 0), (n 0 0), (r 1093), (n 229 0), (n 0 0), (r 1112), (n 231 0), (n 0 0), (r 1124), (n 235 0), (n 0 0), (r 1143), (n 239 0), (n 0 0), (r 1162), (n 243 0), (n 0 0), (r 1181), (n 247 0), (n 0 0), (r 1200), (n 251 0), (n 0 0), (r 1219), (n 255 0), (n 0 0), (r 1238), (n 259 0), (n 0 0), (r 1257), (n 263 0), (n 0 0), (r 1276), (n 267 0), (n 0 0), (r 1295), (n 271 0), (n 0 0), (r 1314), (n 275 0), (n 0 0), (r 1333), (n 279 0), (n 0 0), (r 1352), (n 283 0), (n 0 0), (r 1371), (n 287 0), (n 0 0), (r 1390), (n 291 0), (n 0 0), (r 1409), (n 295 0), (n 0 0), (r 1428), (n 299 0), (n 0 0), (r 1447), (n 301 0), (n 0 0), (r 1459), (n 305 0), (n 0 0), (r 1478), (n 309 0), (n 0 0), (r 1497), (n 313 0), (n 0 0), (r 1516), (n 317 0), (n 0 0), (r 1535), (n 321 0), (n 0 0), (r 1554), (n 325 0), (n 0 0), (r 1573), (n 329 0), (n 0 0), (r 1592), (n 333 0), (n 0 0), (r 1611), (n 337 0), (n 0 0), (r 1630), (n 341 0), (n 0 0), (r 1649), (n 345 0), (n 0 0), (r 1668), (n 347 0), (n 0 0), (r 1680), (n 351 0), (n 0 0), (r 1699), (n 355 0), (n 0 0), (r 1718), (n 359 0), (n 0 0), (r 1737), (n 363 0), (n 0 0), (r 1756), (n 367 0), (n 0 0), (r 1775), (n 371 0), (n 0 0), (r 1794), (n 375 0), (n 0 0), (r 1813), (n 379 0), (n 0 0), (r 1832), (n 383 0), (n 0 0), (r 1851), (n 387 0), (n 0 0), (r 1870), (n 391 0), (n 0 0), (r 1889), (n 395 0), (n 0 0), (r 1908), (n 397 0), (n 0 0), (r 1920), (n 401 0), (n 0 0), (r 1939), (n 405 0), (n 0 0), (r 1958), (n 409 0), (n 0 0), (r 1977), (n 413 0), (n 0 0), (r 1996)]) #[]
noncomputable def o1343 (p : Params) : Obj := .mk (y "type") none (.cls (ClassData.mk "WholeError" [(y "ValueError")] [(r 24), (y "ValueError"), (y "Exception"), (y "BaseException"), (y "object")] 23 "WholeError" true [] [(r 44), (r 63), (r 82), (r 94), (r 113), (r 132), (r 151), (r 170), (r 189), (r 208), (r 220), (r 239), (r 258), (r 277), (r 296), (r 315), (r 334), (r 353), (r 372), (r 391), (r 410), (r 429), (r 448), (r 467), (r 486), (r 505), (r 524), (r 543), (r 562), (r 581), (r 600), (r 612), (r 631), (r 650), (r 669), (r 688), (r 707), (r 726), (r 745), (r 764), (r 783), (r 802), (r 821), (r 840), (r 859), (r 878), (r 897), (r 909), (r 928), (r 947), (r 959), (r 971), (r 990), (r 1009), (r 1028), (r 1047), (r 1066), (r 1085), (r 1104), (r 1116), (r 1135), (r 1154), (r 1173), (r 1192), (r 1211), (r 1230), (r 1249), (r 1268), (r 1287), (r 1306), (r 1325), (r 1344), (r 1363), (r 1382), (r 1401), (r 1420), (r 1439), (r 1451), (r 1470), (r 1489), (r 1508), (r 1527), (r 1546), (r 1565), (r 1584), (r 1603), (r 1622), (r 1641), (r 1660), (r 1672), (r 1691), (r 1710), (r 1729), (r 1748), (r 1767), (r 1786), (r 1805), (r 1824), (r 1843), (r 1862), (r 1881), (r 1900), (r 1912), (r 1931), (r 1950), (r 1969), (r 1988), (r 2007)] false none false)) #[(some (r 15)), none, (some (s "WholeError" 189)), (some (s "WholeError" 197)), (some (u "ValueError.__new__")), (some (.bool true))]
noncomputable def o1344 (p : Params) : Obj := .mk (y "tuple") none (.seq #[(r 24)] 0) #[]
noncomputable def o1345 (p : Params) : Obj := .mk (y "builtin_function_or_method") none (.fields #[(u "type.__prepare__"), (y "type")]) #[]
noncomputable def o1346 (p : Params) : Obj := .mk (y "dict") none (.dict #[(e p "__module__" 1953 (s "neverhalf.refusals" 1503)), (e p "__qualname__" 1955 (s "NotWatched" 1954)), (e p "__firstlineno__" 1957 (n 279 1956)), (e p "__init__" 1965 (r 1360)), (e p "__static_attributes__" 1967 (r 1361))] 5) #[]
noncomputable def o1347 (p : Params) : Obj := .mk (y "tuple") none (.seq #[] 0) #[]
noncomputable def o1348 (p : Params) : Obj := .mk .none none (.fields #[(n 281 0), (n 4 0), (r 1359)]) #[]
noncomputable def o1349 (p : Params) : Obj := .mk (y "code") none (.fields #[(s "NotWatched" 1948), (s "NotWatched" 1949), (s "/claim/cut.py" 1950), (n 279 0), (n 0 0), (n 0 0), (n 0 0), (n 0 0), (r 1350), (.bool false), (n 181 0), (r 1351), .none, .none, .none, .none, (n 1951 0), (n 279 0), (s "/claim/cut.py" 1952)]) #[]
noncomputable def o1350 (p : Params) : Obj := .mk (y "frame") none .plain #[(some (r 1352)), (some (r 3)), (some (r 1349)), none, (some (s "neverhalf.refusals" 1503)), none, (some (r 0))]
noncomputable def o1351 (p : Params) : Obj := .mk (y "tuple") none (.seq #[] 0) #[]
noncomputable def o1352 (p : Params) : Obj := .mk .none none (.fields #[]) #[]
noncomputable def o1353 (p : Params) : Obj := .mk (y "tuple") none (.seq #[(s "self" 1961), (s "vow" 1962)] 0) #[]
noncomputable def o1354 (p : Params) : Obj := .mk (y "tuple") none (.seq #[] 0) #[]
noncomputable def o1355 (p : Params) : Obj := .mk .none none (.func (fI 75 "NotWatched.__init__" 0 [] .none .none .none .none none .none .none 0)) #[]
noncomputable def o1356 (p : Params) : Obj := .mk (y "code") none (.fields #[(s "__init__" 1958), (s "NotWatched.__init__" 1959), (s "/claim/cut.py" 1960), (n 281 0), (n 2 0), (n 0 0), (n 0 0), (n 3 0), (r 1354), (.bool true), (n 181 0), (r 1355), .none, (r 1356), (r 1357), (r 1358), (n 1963 0), (n 281 0), (s "/claim/cut.py" 1964)]) #[]
noncomputable def o1357 (p : Params) : Obj := .mk (y "function") none (.func (fI 75 "NotWatched.__init__" 3 [] .none .none .none (s "neverhalf.refusals" 1503) none (r 1359) .none 0)) #[]
noncomputable def o1358 (p : Params) : Obj := .mk (y "tuple") none (.seq #[(s "vow" 1966)] 0) #[]
noncomputable def o1359 (p : Params) : Obj := .mk (y "dict") none (.dict #[(e p "__module__" 1953 (s "neverhalf.refusals" 1503)), (e p "__firstlineno__" 1957 (n 279 1956)), (e p "__init__" 1965 (r 1360)), (e p "__static_attributes__" 1967 (r 1361)), (e p "__doc__" 1968 .none)] 2) #[]
noncomputable def o1360 (p : Params) : Obj := .mk (y "type") none (.cls (ClassData.mk "NotWatched" [(r 24)] [(r 1363), (r 24), (y "ValueError"), (y "Exception"), (y "BaseException"), (y "object")] 1362 "NotWatched" true [] [] false none false)) #[(some (r 1347)), none, (some (s "NotWatched" 1946)), (some (s "NotWatched" 1954)), (some (u "ValueError.__new__")), (some (.bool true))]
noncomputable def o1361 (p : Params) : Obj := .mk (y "super") none (.fields #[(r 1363), (r 1363), (r 1363)]) #[]
noncomputable def o1362 (p : Params) : Obj := .mk (y "builtin_function_or_method") none (.fields #[(u "object.__init_subclass__"), (r 1363)]) #[]
noncomputable def o1363 (p : Params) : Obj := .mk (y "tuple") none (.seq #[(r 24)] 0) #[]
noncomputable def o1364 (p : Params) : Obj := .mk (y "builtin_function_or_method") none (.fields #[(u "type.__prepare__"), (y "type")]) #[]
noncomputable def o1365 (p : Params) : Obj := .mk (y "dict") none (.dict #[(e p "__module__" 1978 (s "neverhalf.refusals" 1503)), (e p "__qualname__" 1980 (s "Broken" 1979)), (e p "__firstlineno__" 1982 (n 283 1981)), (e p "__init__" 1990 (r 1379)), (e p "__static_attributes__" 1992 (r 1380))] 5) #[]
noncomputable def o1366 (p : Params) : Obj := .mk (y "tuple") none (.seq #[] 0) #[]
noncomputable def o1367 (p : Params) : Obj := .mk .none none (.fields #[(n 285 0), (n 4 0), (r 1378)]) #[]
noncomputable def o1368 (p : Params) : Obj := .mk (y "code") none (.fields #[(s "Broken" 1973), (s "Broken" 1974), (s "/claim/cut.py" 1975), (n 283 0), (n 0 0), (n 0 0), (n 0 0), (n 0 0), (r 1369), (.bool false), (n 181 0), (r 1370), .none, .none, .none, .none, (n 1976 0), (n 283 0), (s "/claim/cut.py" 1977)]) #[]
noncomputable def o1369 (p : Params) : Obj := .mk (y "frame") none .plain #[(some (r 1371)), (some (r 3)), (some (r 1368)), none, (some (s "neverhalf.refusals" 1503)), none, (some (r 0))]
noncomputable def o1370 (p : Params) : Obj := .mk (y "tuple") none (.seq #[] 0) #[]
noncomputable def o1371 (p : Params) : Obj := .mk .none none (.fields #[]) #[]
noncomputable def o1372 (p : Params) : Obj := .mk (y "tuple") none (.seq #[(s "self" 1986), (s "vow" 1987)] 0) #[]
noncomputable def o1373 (p : Params) : Obj := .mk (y "tuple") none (.seq #[] 0) #[]
noncomputable def o1374 (p : Params) : Obj := .mk .none none (.func (fI 76 "Broken.__init__" 0 [] .none .none .none .none none .none .none 0)) #[]
noncomputable def o1375 (p : Params) : Obj := .mk (y "code") none (.fields #[(s "__init__" 1983), (s "Broken.__init__" 1984), (s "/claim/cut.py" 1985), (n 285 0), (n 2 0), (n 0 0), (n 0 0), (n 3 0), (r 1373), (.bool true), (n 181 0), (r 1374), .none, (r 1375), (r 1376), (r 1377), (n 1988 0), (n 285 0), (s "/claim/cut.py" 1989)]) #[]
noncomputable def o1376 (p : Params) : Obj := .mk (y "function") none (.func (fI 76 "Broken.__init__" 3 [] .none .none .none (s "neverhalf.refusals" 1503) none (r 1378) .none 0)) #[]
noncomputable def o1377 (p : Params) : Obj := .mk (y "tuple") none (.seq #[(s "vow" 1991)] 0) #[]
noncomputable def o1378 (p : Params) : Obj := .mk (y "dict") none (.dict #[(e p "__module__" 1978 (s "neverhalf.refusals" 1503)), (e p "__firstlineno__" 1982 (n 283 1981)), (e p "__init__" 1990 (r 1379)), (e p "__static_attributes__" 1992 (r 1380)), (e p "__doc__" 1993 .none)] 2) #[]
noncomputable def o1379 (p : Params) : Obj := .mk (y "type") none (.cls (ClassData.mk "Broken" [(r 24)] [(r 1382), (r 24), (y "ValueError"), (y "Exception"), (y "BaseException"), (y "object")] 1381 "Broken" true [] [] false none false)) #[(some (r 1366)), none, (some (s "Broken" 1971)), (some (s "Broken" 1979)), (some (u "ValueError.__new__")), (some (.bool true))]
noncomputable def o1380 (p : Params) : Obj := .mk (y "super") none (.fields #[(r 1382), (r 1382), (r 1382)]) #[]
noncomputable def o1381 (p : Params) : Obj := .mk (y "builtin_function_or_method") none (.fields #[(u "object.__init_subclass__"), (r 1382)]) #[]
noncomputable def o1382 (p : Params) : Obj := .mk (y "tuple") none (.seq #[(r 24)] 0) #[]
noncomputable def o1383 (p : Params) : Obj := .mk (y "builtin_function_or_method") none (.fields #[(u "type.__prepare__"), (y "type")]) #[]
noncomputable def o1384 (p : Params) : Obj := .mk (y "dict") none (.dict #[(e p "__module__" 2003 (s "neverhalf.refusals" 1503)), (e p "__qualname__" 2005 (s "BadImages" 2004)), (e p "__firstlineno__" 2007 (n 287 2006)), (e p "__init__" 2015 (r 1398)), (e p "__static_attributes__" 2017 (r 1399))] 5) #[]
noncomputable def o1385 (p : Params) : Obj := .mk (y "tuple") none (.seq #[] 0) #[]
noncomputable def o1386 (p : Params) : Obj := .mk .none none (.fields #[(n 289 0), (n 4 0), (r 1397)]) #[]
noncomputable def o1387 (p : Params) : Obj := .mk (y "code") none (.fields #[(s "BadImages" 1998), (s "BadImages" 1999), (s "/claim/cut.py" 2000), (n 287 0), (n 0 0), (n 0 0), (n 0 0), (n 0 0), (r 1388), (.bool false), (n 181 0), (r 1389), .none, .none, .none, .none, (n 2001 0), (n 287 0), (s "/claim/cut.py" 2002)]) #[]
noncomputable def o1388 (p : Params) : Obj := .mk (y "frame") none .plain #[(some (r 1390)), (some (r 3)), (some (r 1387)), none, (some (s "neverhalf.refusals" 1503)), none, (some (r 0))]
noncomputable def o1389 (p : Params) : Obj := .mk (y "tuple") none (.seq #[] 0) #[]
noncomputable def o1390 (p : Params) : Obj := .mk .none none (.fields #[]) #[]
noncomputable def o1391 (p : Params) : Obj := .mk (y "tuple") none (.seq #[(s "self" 2011), (s "images" 2012)] 0) #[]
noncomputable def o1392 (p : Params) : Obj := .mk (y "tuple") none (.seq #[] 0) #[]
noncomputable def o1393 (p : Params) : Obj := .mk .none none (.func (fI 77 "BadImages.__init__" 0 [] .none .none .none .none none .none .none 0)) #[]
noncomputable def o1394 (p : Params) : Obj := .mk (y "code") none (.fields #[(s "__init__" 2008), (s "BadImages.__init__" 2009), (s "/claim/cut.py" 2010), (n 289 0), (n 2 0), (n 0 0), (n 0 0), (n 3 0), (r 1392), (.bool true), (n 181 0), (r 1393), .none, (r 1394), (r 1395), (r 1396), (n 2013 0), (n 289 0), (s "/claim/cut.py" 2014)]) #[]
noncomputable def o1395 (p : Params) : Obj := .mk (y "function") none (.func (fI 77 "BadImages.__init__" 3 [] .none .none .none (s "neverhalf.refusals" 1503) none (r 1397) .none 0)) #[]
noncomputable def o1396 (p : Params) : Obj := .mk (y "tuple") none (.seq #[(s "images" 2016)] 0) #[]
noncomputable def o1397 (p : Params) : Obj := .mk (y "dict") none (.dict #[(e p "__module__" 2003 (s "neverhalf.refusals" 1503)), (e p "__firstlineno__" 2007 (n 287 2006)), (e p "__init__" 2015 (r 1398)), (e p "__static_attributes__" 2017 (r 1399)), (e p "__doc__" 2018 .none)] 2) #[]
noncomputable def o1398 (p : Params) : Obj := .mk (y "type") none (.cls (ClassData.mk "BadImages" [(r 24)] [(r 1401), (r 24), (y "ValueError"), (y "Exception"), (y "BaseException"), (y "object")] 1400 "BadImages" true [] [] false none false)) #[(some (r 1385)), none, (some (s "BadImages" 1996)), (some (s "BadImages" 2004)), (some (u "ValueError.__new__")), (some (.bool true))]
noncomputable def o1399 (p : Params) : Obj := .mk (y "super") none (.fields #[(r 1401), (r 1401), (r 1401)]) #[]
noncomputable def o1400 (p : Params) : Obj := .mk (y "builtin_function_or_method") none (.fields #[(u "object.__init_subclass__"), (r 1401)]) #[]
noncomputable def o1401 (p : Params) : Obj := .mk (y "tuple") none (.seq #[(r 24)] 0) #[]
noncomputable def o1402 (p : Params) : Obj := .mk (y "builtin_function_or_method") none (.fields #[(u "type.__prepare__"), (y "type")]) #[]
noncomputable def o1403 (p : Params) : Obj := .mk (y "dict") none (.dict #[(e p "__module__" 2028 (s "neverhalf.refusals" 1503)), (e p "__qualname__" 2030 (s "BadThings" 2029)), (e p "__firstlineno__" 2032 (n 291 2031)), (e p "__init__" 2040 (r 1417)), (e p "__static_attributes__" 2042 (r 1418))] 5) #[]
noncomputable def o1404 (p : Params) : Obj := .mk (y "tuple") none (.seq #[] 0) #[]
noncomputable def o1405 (p : Params) : Obj := .mk .none none (.fields #[(n 293 0), (n 4 0), (r 1416)]) #[]
noncomputable def o1406 (p : Params) : Obj := .mk (y "code") none (.fields #[(s "BadThings" 2023), (s "BadThings" 2024), (s "/claim/cut.py" 2025), (n 291 0), (n 0 0), (n 0 0), (n 0 0), (n 0 0), (r 1407), (.bool false), (n 181 0), (r 1408), .none, .none, .none, .none, (n 2026 0), (n 291 0), (s "/claim/cut.py" 2027)]) #[]
noncomputable def o1407 (p : Params) : Obj := .mk (y "frame") none .plain #[(some (r 1409)), (some (r 3)), (some (r 1406)), none, (some (s "neverhalf.refusals" 1503)), none, (some (r 0))]
noncomputable def o1408 (p : Params) : Obj := .mk (y "tuple") none (.seq #[] 0) #[]
noncomputable def o1409 (p : Params) : Obj := .mk .none none (.fields #[]) #[]
noncomputable def o1410 (p : Params) : Obj := .mk (y "tuple") none (.seq #[(s "self" 2036), (s "things" 2037)] 0) #[]
noncomputable def o1411 (p : Params) : Obj := .mk (y "tuple") none (.seq #[] 0) #[]
noncomputable def o1412 (p : Params) : Obj := .mk .none none (.func (fI 78 "BadThings.__init__" 0 [] .none .none .none .none none .none .none 0)) #[]
noncomputable def o1413 (p : Params) : Obj := .mk (y "code") none (.fields #[(s "__init__" 2033), (s "BadThings.__init__" 2034), (s "/claim/cut.py" 2035), (n 293 0), (n 2 0), (n 0 0), (n 0 0), (n 3 0), (r 1411), (.bool true), (n 181 0), (r 1412), .none, (r 1413), (r 1414), (r 1415), (n 2038 0), (n 293 0), (s "/claim/cut.py" 2039)]) #[]
noncomputable def o1414 (p : Params) : Obj := .mk (y "function") none (.func (fI 78 "BadThings.__init__" 3 [] .none .none .none (s "neverhalf.refusals" 1503) none (r 1416) .none 0)) #[]
noncomputable def o1415 (p : Params) : Obj := .mk (y "tuple") none (.seq #[(s "things" 2041)] 0) #[]
noncomputable def o1416 (p : Params) : Obj := .mk (y "dict") none (.dict #[(e p "__module__" 2028 (s "neverhalf.refusals" 1503)), (e p "__firstlineno__" 2032 (n 291 2031)), (e p "__init__" 2040 (r 1417)), (e p "__static_attributes__" 2042 (r 1418)), (e p "__doc__" 2043 .none)] 2) #[]
noncomputable def o1417 (p : Params) : Obj := .mk (y "type") none (.cls (ClassData.mk "BadThings" [(r 24)] [(r 1420), (r 24), (y "ValueError"), (y "Exception"), (y "BaseException"), (y "object")] 1419 "BadThings" true [] [] false none false)) #[(some (r 1404)), none, (some (s "BadThings" 2021)), (some (s "BadThings" 2029)), (some (u "ValueError.__new__")), (some (.bool true))]
noncomputable def o1418 (p : Params) : Obj := .mk (y "super") none (.fields #[(r 1420), (r 1420), (r 1420)]) #[]
noncomputable def o1419 (p : Params) : Obj := .mk (y "builtin_function_or_method") none (.fields #[(u "object.__init_subclass__"), (r 1420)]) #[]
noncomputable def o1420 (p : Params) : Obj := .mk (y "tuple") none (.seq #[(r 24)] 0) #[]
noncomputable def o1421 (p : Params) : Obj := .mk (y "builtin_function_or_method") none (.fields #[(u "type.__prepare__"), (y "type")]) #[]
noncomputable def o1422 (p : Params) : Obj := .mk (y "dict") none (.dict #[(e p "__module__" 2053 (s "neverhalf.refusals" 1503)), (e p "__qualname__" 2055 (s "BadWay" 2054)), (e p "__firstlineno__" 2057 (n 295 2056)), (e p "__init__" 2065 (r 1436)), (e p "__static_attributes__" 2067 (r 1437))] 5) #[]
noncomputable def o1423 (p : Params) : Obj := .mk (y "tuple") none (.seq #[] 0) #[]
noncomputable def o1424 (p : Params) : Obj := .mk .none none (.fields #[(n 297 0), (n 4 0), (r 1435)]) #[]
noncomputable def o1425 (p : Params) : Obj := .mk (y "code") none (.fields #[(s "BadWay" 2048), (s "BadWay" 2049), (s "/claim/cut.py" 2050), (n 295 0), (n 0 0), (n 0 0), (n 0 0), (n 0 0), (r 1426), (.bool false), (n 181 0), (r 1427), .none, .none, .none, .none, (n 2051 0), (n 295 0), (s "/claim/cut.py" 2052)]) #[]
noncomputable def o1426 (p : Params) : Obj := .mk (y "frame") none .plain #[(some (r 1428)), (some (r 3)), (some (r 1425)), none, (some (s "neverhalf.refusals" 1503)), none, (some (r 0))]
noncomputable def o1427 (p : Params) : Obj := .mk (y "tuple") none (.seq #[] 0) #[]
noncomputable def o1428 (p : Params) : Obj := .mk .none none (.fields #[]) #[]
noncomputable def o1429 (p : Params) : Obj := .mk (y "tuple") none (.seq #[(s "self" 2061), (s "way" 2062)] 0) #[]
noncomputable def o1430 (p : Params) : Obj := .mk (y "tuple") none (.seq #[] 0) #[]
noncomputable def o1431 (p : Params) : Obj := .mk .none none (.func (fI 79 "BadWay.__init__" 0 [] .none .none .none .none none .none .none 0)) #[]
noncomputable def o1432 (p : Params) : Obj := .mk (y "code") none (.fields #[(s "__init__" 2058), (s "BadWay.__init__" 2059), (s "/claim/cut.py" 2060), (n 297 0), (n 2 0), (n 0 0), (n 0 0), (n 3 0), (r 1430), (.bool true), (n 181 0), (r 1431), .none, (r 1432), (r 1433), (r 1434), (n 2063 0), (n 297 0), (s "/claim/cut.py" 2064)]) #[]
noncomputable def o1433 (p : Params) : Obj := .mk (y "function") none (.func (fI 79 "BadWay.__init__" 3 [] .none .none .none (s "neverhalf.refusals" 1503) none (r 1435) .none 0)) #[]
noncomputable def o1434 (p : Params) : Obj := .mk (y "tuple") none (.seq #[(s "way" 2066)] 0) #[]
noncomputable def o1435 (p : Params) : Obj := .mk (y "dict") none (.dict #[(e p "__module__" 2053 (s "neverhalf.refusals" 1503)), (e p "__firstlineno__" 2057 (n 295 2056)), (e p "__init__" 2065 (r 1436)), (e p "__static_attributes__" 2067 (r 1437)), (e p "__doc__" 2068 .none)] 2) #[]
noncomputable def o1436 (p : Params) : Obj := .mk (y "type") none (.cls (ClassData.mk "BadWay" [(r 24)] [(r 1439), (r 24), (y "ValueError"), (y "Exception"), (y "BaseException"), (y "object")] 1438 "BadWay" true [] [] false none false)) #[(some (r 1423)), none, (some (s "BadWay" 2046)), (some (s "BadWay" 2054)), (some (u "ValueError.__new__")), (some (.bool true))]
noncomputable def o1437 (p : Params) : Obj := .mk (y "super") none (.fields #[(r 1439), (r 1439), (r 1439)]) #[]
noncomputable def o1438 (p : Params) : Obj := .mk (y "builtin_function_or_method") none (.fields #[(u "object.__init_subclass__"), (r 1439)]) #[]
noncomputable def o1439 (p : Params) : Obj := .mk (y "tuple") none (.seq #[(r 24)] 0) #[]
noncomputable def o1440 (p : Params) : Obj := .mk (y "builtin_function_or_method") none (.fields #[(u "type.__prepare__"), (y "type")]) #[]
noncomputable def o1441 (p : Params) : Obj := .mk (y "dict") none (.dict #[(e p "__module__" 2078 (s "neverhalf.refusals" 1503)), (e p "__qualname__" 2080 (s "TooMany" 2079)), (e p "__firstlineno__" 2082 (n 299 2081)), (e p "__static_attributes__" 2083 (r 1449))] 4) #[]
noncomputable def o1442 (p : Params) : Obj := .mk (y "tuple") none (.seq #[] 0) #[]
noncomputable def o1443 (p : Params) : Obj := .mk .none none (.fields #[]) #[]
noncomputable def o1444 (p : Params) : Obj := .mk (y "code") none (.fields #[(s "TooMany" 2073), (s "TooMany" 2074), (s "/claim/cut.py" 2075), (n 299 0), (n 0 0), (n 0 0), (n 0 0), (n 0 0), (r 1445), (.bool false), (n 181 0), (r 1446), .none, .none, .none, .none, (n 2076 0), (n 299 0), (s "/claim/cut.py" 2077)]) #[]
noncomputable def o1445 (p : Params) : Obj := .mk (y "frame") none .plain #[(some (r 1447)), (some (r 3)), (some (r 1444)), none, (some (s "neverhalf.refusals" 1503)), none, (some (r 0))]
noncomputable def o1446 (p : Params) : Obj := .mk (y "tuple") none (.seq #[] 0) #[]
noncomputable def o1447 (p : Params) : Obj := .mk (y "dict") none (.dict #[(e p "__module__" 2078 (s "neverhalf.refusals" 1503)), (e p "__firstlineno__" 2082 (n 299 2081)), (e p "__static_attributes__" 2083 (r 1449)), (e p "__doc__" 2084 .none)] 2) #[]
noncomputable def o1448 (p : Params) : Obj := .mk (y "type") none (.cls (ClassData.mk "TooMany" [(r 24)] [(r 1451), (r 24), (y "ValueError"), (y "Exception"), (y "BaseException"), (y "object")] 1450 "TooMany" true [] [] false none false)) #[(some (r 1442)), none, (some (s "TooMany" 2071)), (some (s "TooMany" 2079)), (some (u "ValueError.__new__")), (some (.bool true))]
noncomputable def o1449 (p : Params) : Obj := .mk (y "super") none (.fields #[(r 1451), (r 1451), (r 1451)]) #[]
noncomputable def o1450 (p : Params) : Obj := .mk (y "builtin_function_or_method") none (.fields #[(u "object.__init_subclass__"), (r 1451)]) #[]
noncomputable def o1451 (p : Params) : Obj := .mk (y "tuple") none (.seq #[(r 24)] 0) #[]
noncomputable def o1452 (p : Params) : Obj := .mk (y "builtin_function_or_method") none (.fields #[(u "type.__prepare__"), (y "type")]) #[]
noncomputable def o1453 (p : Params) : Obj := .mk (y "dict") none (.dict #[(e p "__module__" 2094 (s "neverhalf.refusals" 1503)), (e p "__qualname__" 2096 (s "BadRing" 2095)), (e p "__firstlineno__" 2098 (n 301 2097)), (e p "__init__" 2106 (r 1467)), (e p "__static_attributes__" 2108 (r 1468))] 5) #[]
noncomputable def o1454 (p : Params) : Obj := .mk (y "tuple") none (.seq #[] 0) #[]
noncomputable def o1455 (p : Params) : Obj := .mk .none none (.fields #[(n 303 0), (n 4 0), (r 1466)]) #[]
noncomputable def o1456 (p : Params) : Obj := .mk (y "code") none (.fields #[(s "BadRing" 2089), (s "BadRing" 2090), (s "/claim/cut.py" 2091), (n 301 0), (n 0 0), (n 0 0), (n 0 0), (n 0 0), (r 1457), (.bool false), (n 181 0), (r 1458), .none, .none, .none, .none, (n 2092 0), (n 301 0), (s "/claim/cut.py" 2093)]) #[]
noncomputable def o1457 (p : Params) : Obj := .mk (y "frame") none .plain #[(some (r 1459)), (some (r 3)), (some (r 1456)), none, (some (s "neverhalf.refusals" 1503)), none, (some (r 0))]
noncomputable def o1458 (p : Params) : Obj := .mk (y "tuple") none (.seq #[] 0) #[]
noncomputable def o1459 (p : Params) : Obj := .mk .none none (.fields #[]) #[]
noncomputable def o1460 (p : Params) : Obj := .mk (y "tuple") none (.seq #[(s "self" 2102), (s "ring" 2103)] 0) #[]
noncomputable def o1461 (p : Params) : Obj := .mk (y "tuple") none (.seq #[] 0) #[]
noncomputable def o1462 (p : Params) : Obj := .mk .none none (.func (fI 81 "BadRing.__init__" 0 [] .none .none .none .none none .none .none 0)) #[]
noncomputable def o1463 (p : Params) : Obj := .mk (y "code") none (.fields #[(s "__init__" 2099), (s "BadRing.__init__" 2100), (s "/claim/cut.py" 2101), (n 303 0), (n 2 0), (n 0 0), (n 0 0), (n 3 0), (r 1461), (.bool true), (n 181 0), (r 1462), .none, (r 1463), (r 1464), (r 1465), (n 2104 0), (n 303 0), (s "/claim/cut.py" 2105)]) #[]
noncomputable def o1464 (p : Params) : Obj := .mk (y "function") none (.func (fI 81 "BadRing.__init__" 3 [] .none .none .none (s "neverhalf.refusals" 1503) none (r 1466) .none 0)) #[]
noncomputable def o1465 (p : Params) : Obj := .mk (y "tuple") none (.seq #[(s "ring" 2107)] 0) #[]
noncomputable def o1466 (p : Params) : Obj := .mk (y "dict") none (.dict #[(e p "__module__" 2094 (s "neverhalf.refusals" 1503)), (e p "__firstlineno__" 2098 (n 301 2097)), (e p "__init__" 2106 (r 1467)), (e p "__static_attributes__" 2108 (r 1468)), (e p "__doc__" 2109 .none)] 2) #[]
noncomputable def o1467 (p : Params) : Obj := .mk (y "type") none (.cls (ClassData.mk "BadRing" [(r 24)] [(r 1470), (r 24), (y "ValueError"), (y "Exception"), (y "BaseException"), (y "object")] 1469 "BadRing" true [] [] false none false)) #[(some (r 1454)), none, (some (s "BadRing" 2087)), (some (s "BadRing" 2095)), (some (u "ValueError.__new__")), (some (.bool true))]
noncomputable def o1468 (p : Params) : Obj := .mk (y "super") none (.fields #[(r 1470), (r 1470), (r 1470)]) #[]
noncomputable def o1469 (p : Params) : Obj := .mk (y "builtin_function_or_method") none (.fields #[(u "object.__init_subclass__"), (r 1470)]) #[]
noncomputable def o1470 (p : Params) : Obj := .mk (y "tuple") none (.seq #[(r 24)] 0) #[]
noncomputable def o1471 (p : Params) : Obj := .mk (y "builtin_function_or_method") none (.fields #[(u "type.__prepare__"), (y "type")]) #[]
noncomputable def o1472 (p : Params) : Obj := .mk (y "dict") none (.dict #[(e p "__module__" 2119 (s "neverhalf.refusals" 1503)), (e p "__qualname__" 2121 (s "BadWorn" 2120)), (e p "__firstlineno__" 2123 (n 305 2122)), (e p "__init__" 2131 (r 1486)), (e p "__static_attributes__" 2133 (r 1487))] 5) #[]
noncomputable def o1473 (p : Params) : Obj := .mk (y "tuple") none (.seq #[] 0) #[]
noncomputable def o1474 (p : Params) : Obj := .mk .none none (.fields #[(n 307 0), (n 4 0), (r 1485)]) #[]
noncomputable def o1475 (p : Params) : Obj := .mk (y "code") none (.fields #[(s "BadWorn" 2114), (s "BadWorn" 2115), (s "/claim/cut.py" 2116), (n 305 0), (n 0 0), (n 0 0), (n 0 0), (n 0 0), (r 1476), (.bool false), (n 181 0), (r 1477), .none, .none, .none, .none, (n 2117 0), (n 305 0), (s "/claim/cut.py" 2118)]) #[]
noncomputable def o1476 (p : Params) : Obj := .mk (y "frame") none .plain #[(some (r 1478)), (some (r 3)), (some (r 1475)), none, (some (s "neverhalf.refusals" 1503)), none, (some (r 0))]
noncomputable def o1477 (p : Params) : Obj := .mk (y "tuple") none (.seq #[] 0) #[]
noncomputable def o1478 (p : Params) : Obj := .mk .none none (.fields #[]) #[]
noncomputable def o1479 (p : Params) : Obj := .mk (y "tuple") none (.seq #[(s "self" 2127), (s "given" 2128)] 0) #[]
noncomputable def o1480 (p : Params) : Obj := .mk (y "tuple") none (.seq #[] 0) #[]
noncomputable def o1481 (p : Params) : Obj := .mk .none none (.func (fI 82 "BadWorn.__init__" 0 [] .none .none .none .none none .none .none 0)) #[]
noncomputable def o1482 (p : Params) : Obj := .mk (y "code") none (.fields #[(s "__init__" 2124), (s "BadWorn.__init__" 2125), (s "/claim/cut.py" 2126), (n 307 0), (n 2 0), (n 0 0), (n 0 0), (n 3 0), (r 1480), (.bool true), (n 181 0), (r 1481), .none, (r 1482), (r 1483), (r 1484), (n 2129 0), (n 307 0), (s "/claim/cut.py" 2130)]) #[]
noncomputable def o1483 (p : Params) : Obj := .mk (y "function") none (.func (fI 82 "BadWorn.__init__" 3 [] .none .none .none (s "neverhalf.refusals" 1503) none (r 1485) .none 0)) #[]
noncomputable def o1484 (p : Params) : Obj := .mk (y "tuple") none (.seq #[(s "given" 2132)] 0) #[]
noncomputable def o1485 (p : Params) : Obj := .mk (y "dict") none (.dict #[(e p "__module__" 2119 (s "neverhalf.refusals" 1503)), (e p "__firstlineno__" 2123 (n 305 2122)), (e p "__init__" 2131 (r 1486)), (e p "__static_attributes__" 2133 (r 1487)), (e p "__doc__" 2134 .none)] 2) #[]
noncomputable def o1486 (p : Params) : Obj := .mk (y "type") none (.cls (ClassData.mk "BadWorn" [(r 24)] [(r 1489), (r 24), (y "ValueError"), (y "Exception"), (y "BaseException"), (y "object")] 1488 "BadWorn" true [] [] false none false)) #[(some (r 1473)), none, (some (s "BadWorn" 2112)), (some (s "BadWorn" 2120)), (some (u "ValueError.__new__")), (some (.bool true))]
noncomputable def o1487 (p : Params) : Obj := .mk (y "super") none (.fields #[(r 1489), (r 1489), (r 1489)]) #[]
noncomputable def o1488 (p : Params) : Obj := .mk (y "builtin_function_or_method") none (.fields #[(u "object.__init_subclass__"), (r 1489)]) #[]
noncomputable def o1489 (p : Params) : Obj := .mk (y "tuple") none (.seq #[(r 24)] 0) #[]
noncomputable def o1490 (p : Params) : Obj := .mk (y "builtin_function_or_method") none (.fields #[(u "type.__prepare__"), (y "type")]) #[]
noncomputable def o1491 (p : Params) : Obj := .mk (y "dict") none (.dict #[(e p "__module__" 2144 (s "neverhalf.refusals" 1503)), (e p "__qualname__" 2146 (s "BadRoom" 2145)), (e p "__firstlineno__" 2148 (n 309 2147)), (e p "__init__" 2156 (r 1505)), (e p "__static_attributes__" 2158 (r 1506))] 5) #[]
noncomputable def o1492 (p : Params) : Obj := .mk (y "tuple") none (.seq #[] 0) #[]
noncomputable def o1493 (p : Params) : Obj := .mk .none none (.fields #[(n 311 0), (n 4 0), (r 1504)]) #[]
noncomputable def o1494 (p : Params) : Obj := .mk (y "code") none (.fields #[(s "BadRoom" 2139), (s "BadRoom" 2140), (s "/claim/cut.py" 2141), (n 309 0), (n 0 0), (n 0 0), (n 0 0), (n 0 0), (r 1495), (.bool false), (n 181 0), (r 1496), .none, .none, .none, .none, (n 2142 0), (n 309 0), (s "/claim/cut.py" 2143)]) #[]
noncomputable def o1495 (p : Params) : Obj := .mk (y "frame") none .plain #[(some (r 1497)), (some (r 3)), (some (r 1494)), none, (some (s "neverhalf.refusals" 1503)), none, (some (r 0))]
noncomputable def o1496 (p : Params) : Obj := .mk (y "tuple") none (.seq #[] 0) #[]
noncomputable def o1497 (p : Params) : Obj := .mk .none none (.fields #[]) #[]
noncomputable def o1498 (p : Params) : Obj := .mk (y "tuple") none (.seq #[(s "self" 2152), (s "room" 2153)] 0) #[]
noncomputable def o1499 (p : Params) : Obj := .mk (y "tuple") none (.seq #[] 0) #[]
noncomputable def o1500 (p : Params) : Obj := .mk .none none (.func (fI 83 "BadRoom.__init__" 0 [] .none .none .none .none none .none .none 0)) #[]
noncomputable def o1501 (p : Params) : Obj := .mk (y "code") none (.fields #[(s "__init__" 2149), (s "BadRoom.__init__" 2150), (s "/claim/cut.py" 2151), (n 311 0), (n 2 0), (n 0 0), (n 0 0), (n 3 0), (r 1499), (.bool true), (n 181 0), (r 1500), .none, (r 1501), (r 1502), (r 1503), (n 2154 0), (n 311 0), (s "/claim/cut.py" 2155)]) #[]
noncomputable def o1502 (p : Params) : Obj := .mk (y "function") none (.func (fI 83 "BadRoom.__init__" 3 [] .none .none .none (s "neverhalf.refusals" 1503) none (r 1504) .none 0)) #[]
noncomputable def o1503 (p : Params) : Obj := .mk (y "tuple") none (.seq #[(s "room" 2157)] 0) #[]
noncomputable def o1504 (p : Params) : Obj := .mk (y "dict") none (.dict #[(e p "__module__" 2144 (s "neverhalf.refusals" 1503)), (e p "__firstlineno__" 2148 (n 309 2147)), (e p "__init__" 2156 (r 1505)), (e p "__static_attributes__" 2158 (r 1506)), (e p "__doc__" 2159 .none)] 2) #[]
noncomputable def o1505 (p : Params) : Obj := .mk (y "type") none (.cls (ClassData.mk "BadRoom" [(r 24)] [(r 1508), (r 24), (y "ValueError"), (y "Exception"), (y "BaseException"), (y "object")] 1507 "BadRoom" true [] [] false none false)) #[(some (r 1492)), none, (some (s "BadRoom" 2137)), (some (s "BadRoom" 2145)), (some (u "ValueError.__new__")), (some (.bool true))]
noncomputable def o1506 (p : Params) : Obj := .mk (y "super") none (.fields #[(r 1508), (r 1508), (r 1508)]) #[]
noncomputable def o1507 (p : Params) : Obj := .mk (y "builtin_function_or_method") none (.fields #[(u "object.__init_subclass__"), (r 1508)]) #[]
noncomputable def o1508 (p : Params) : Obj := .mk (y "tuple") none (.seq #[(r 24)] 0) #[]
noncomputable def o1509 (p : Params) : Obj := .mk (y "builtin_function_or_method") none (.fields #[(u "type.__prepare__"), (y "type")]) #[]
noncomputable def o1510 (p : Params) : Obj := .mk (y "dict") none (.dict #[(e p "__module__" 2169 (s "neverhalf.refusals" 1503)), (e p "__qualname__" 2171 (s "BadSpots" 2170)), (e p "__firstlineno__" 2173 (n 313 2172)), (e p "__init__" 2181 (r 1524)), (e p "__static_attributes__" 2183 (r 1525))] 5) #[]
noncomputable def o1511 (p : Params) : Obj := .mk (y "tuple") none (.seq #[] 0) #[]
noncomputable def o1512 (p : Params) : Obj := .mk .none none (.fields #[(n 315 0), (n 4 0), (r 1523)]) #[]
noncomputable def o1513 (p : Params) : Obj := .mk (y "code") none (.fields #[(s "BadSpots" 2164), (s "BadSpots" 2165), (s "/claim/cut.py" 2166), (n 313 0), (n 0 0), (n 0 0), (n 0 0), (n 0 0), (r 1514), (.bool false), (n 181 0), (r 1515), .none, .none, .none, .none, (n 2167 0), (n 313 0), (s "/claim/cut.py" 2168)]) #[]
noncomputable def o1514 (p : Params) : Obj := .mk (y "frame") none .plain #[(some (r 1516)), (some (r 3)), (some (r 1513)), none, (some (s "neverhalf.refusals" 1503)), none, (some (r 0))]
noncomputable def o1515 (p : Params) : Obj := .mk (y "tuple") none (.seq #[] 0) #[]
noncomputable def o1516 (p : Params) : Obj := .mk .none none (.fields #[]) #[]
noncomputable def o1517 (p : Params) : Obj := .mk (y "tuple") none (.seq #[(s "self" 2177), (s "spots" 2178)] 0) #[]
noncomputable def o1518 (p : Params) : Obj := .mk (y "tuple") none (.seq #[] 0) #[]
noncomputable def o1519 (p : Params) : Obj := .mk .none none (.func (fI 84 "BadSpots.__init__" 0 [] .none .none .none .none none .none .none 0)) #[]
noncomputable def o1520 (p : Params) : Obj := .mk (y "code") none (.fields #[(s "__init__" 2174), (s "BadSpots.__init__" 2175), (s "/claim/cut.py" 2176), (n 315 0), (n 2 0), (n 0 0), (n 0 0), (n 3 0), (r 1518), (.bool true), (n 181 0), (r 1519), .none, (r 1520), (r 1521), (r 1522), (n 2179 0), (n 315 0), (s "/claim/cut.py" 2180)]) #[]
noncomputable def o1521 (p : Params) : Obj := .mk (y "function") none (.func (fI 84 "BadSpots.__init__" 3 [] .none .none .none (s "neverhalf.refusals" 1503) none (r 1523) .none 0)) #[]
noncomputable def o1522 (p : Params) : Obj := .mk (y "tuple") none (.seq #[(s "spots" 2182)] 0) #[]
noncomputable def o1523 (p : Params) : Obj := .mk (y "dict") none (.dict #[(e p "__module__" 2169 (s "neverhalf.refusals" 1503)), (e p "__firstlineno__" 2173 (n 313 2172)), (e p "__init__" 2181 (r 1524)), (e p "__static_attributes__" 2183 (r 1525)), (e p "__doc__" 2184 .none)] 2) #[]
noncomputable def o1524 (p : Params) : Obj := .mk (y "type") none (.cls (ClassData.mk "BadSpots" [(r 24)] [(r 1527), (r 24), (y "ValueError"), (y "Exception"), (y "BaseException"), (y "object")] 1526 "BadSpots" true [] [] false none false)) #[(some (r 1511)), none, (some (s "BadSpots" 2162)), (some (s "BadSpots" 2170)), (some (u "ValueError.__new__")), (some (.bool true))]
noncomputable def o1525 (p : Params) : Obj := .mk (y "super") none (.fields #[(r 1527), (r 1527), (r 1527)]) #[]
noncomputable def o1526 (p : Params) : Obj := .mk (y "builtin_function_or_method") none (.fields #[(u "object.__init_subclass__"), (r 1527)]) #[]
noncomputable def o1527 (p : Params) : Obj := .mk (y "tuple") none (.seq #[(r 24)] 0) #[]
noncomputable def o1528 (p : Params) : Obj := .mk (y "builtin_function_or_method") none (.fields #[(u "type.__prepare__"), (y "type")]) #[]
noncomputable def o1529 (p : Params) : Obj := .mk (y "dict") none (.dict #[(e p "__module__" 2194 (s "neverhalf.refusals" 1503)), (e p "__qualname__" 2196 (s "NoMarks" 2195)), (e p "__firstlineno__" 2198 (n 317 2197)), (e p "__init__" 2206 (r 1543)), (e p "__static_attributes__" 2208 (r 1544))] 5) #[]
noncomputable def o1530 (p : Params) : Obj := .mk (y "tuple") none (.seq #[] 0) #[]
noncomputable def o1531 (p : Params) : Obj := .mk .none none (.fields #[(n 319 0), (n 4 0), (r 1542)]) #[]
noncomputable def o1532 (p : Params) : Obj := .mk (y "code") none (.fields #[(s "NoMarks" 2189), (s "NoMarks" 2190), (s "/claim/cut.py" 2191), (n 317 0), (n 0 0), (n 0 0), (n 0 0), (n 0 0), (r 1533), (.bool false), (n 181 0), (r 1534), .none, .none, .none, .none, (n 2192 0), (n 317 0), (s "/claim/cut.py" 2193)]) #[]
noncomputable def o1533 (p : Params) : Obj := .mk (y "frame") none .plain #[(some (r 1535)), (some (r 3)), (some (r 1532)), none, (some (s "neverhalf.refusals" 1503)), none, (some (r 0))]
noncomputable def o1534 (p : Params) : Obj := .mk (y "tuple") none (.seq #[] 0) #[]
noncomputable def o1535 (p : Params) : Obj := .mk .none none (.fields #[]) #[]
noncomputable def o1536 (p : Params) : Obj := .mk (y "tuple") none (.seq #[(s "self" 2202), (s "address" 2203)] 0) #[]
noncomputable def o1537 (p : Params) : Obj := .mk (y "tuple") none (.seq #[] 0) #[]
noncomputable def o1538 (p : Params) : Obj := .mk .none none (.func (fI 85 "NoMarks.__init__" 0 [] .none .none .none .none none .none .none 0)) #[]
noncomputable def o1539 (p : Params) : Obj := .mk (y "code") none (.fields #[(s "__init__" 2199), (s "NoMarks.__init__" 2200), (s "/claim/cut.py" 2201), (n 319 0), (n 2 0), (n 0 0), (n 0 0), (n 3 0), (r 1537), (.bool true), (n 181 0), (r 1538), .none, (r 1539), (r 1540), (r 1541), (n 2204 0), (n 319 0), (s "/claim/cut.py" 2205)]) #[]
noncomputable def o1540 (p : Params) : Obj := .mk (y "function") none (.func (fI 85 "NoMarks.__init__" 3 [] .none .none .none (s "neverhalf.refusals" 1503) none (r 1542) .none 0)) #[]
noncomputable def o1541 (p : Params) : Obj := .mk (y "tuple") none (.seq #[(s "address" 2207)] 0) #[]
noncomputable def o1542 (p : Params) : Obj := .mk (y "dict") none (.dict #[(e p "__module__" 2194 (s "neverhalf.refusals" 1503)), (e p "__firstlineno__" 2198 (n 317 2197)), (e p "__init__" 2206 (r 1543)), (e p "__static_attributes__" 2208 (r 1544)), (e p "__doc__" 2209 .none)] 2) #[]
noncomputable def o1543 (p : Params) : Obj := .mk (y "type") none (.cls (ClassData.mk "NoMarks" [(r 24)] [(r 1546), (r 24), (y "ValueError"), (y "Exception"), (y "BaseException"), (y "object")] 1545 "NoMarks" true [] [] false none false)) #[(some (r 1530)), none, (some (s "NoMarks" 2187)), (some (s "NoMarks" 2195)), (some (u "ValueError.__new__")), (some (.bool true))]
noncomputable def o1544 (p : Params) : Obj := .mk (y "super") none (.fields #[(r 1546), (r 1546), (r 1546)]) #[]
noncomputable def o1545 (p : Params) : Obj := .mk (y "builtin_function_or_method") none (.fields #[(u "object.__init_subclass__"), (r 1546)]) #[]
noncomputable def o1546 (p : Params) : Obj := .mk (y "tuple") none (.seq #[(r 24)] 0) #[]
noncomputable def o1547 (p : Params) : Obj := .mk (y "builtin_function_or_method") none (.fields #[(u "type.__prepare__"), (y "type")]) #[]
noncomputable def o1548 (p : Params) : Obj := .mk (y "dict") none (.dict #[(e p "__module__" 2219 (s "neverhalf.refusals" 1503)), (e p "__qualname__" 2221 (s "NoWord" 2220)), (e p "__firstlineno__" 2223 (n 321 2222)), (e p "__init__" 2231 (r 1562)), (e p "__static_attributes__" 2233 (r 1563))] 5) #[]
noncomputable def o1549 (p : Params) : Obj := .mk (y "tuple") none (.seq #[] 0) #[]
noncomputable def o1550 (p : Params) : Obj := .mk .none none (.fields #[(n 323 0), (n 4 0), (r 1561)]) #[]
noncomputable def o1551 (p : Params) : Obj := .mk (y "code") none (.fields #[(s "NoWord" 2214), (s "NoWord" 2215), (s "/claim/cut.py" 2216), (n 321 0), (n 0 0), (n 0 0), (n 0 0), (n 0 0), (r 1552), (.bool false), (n 181 0), (r 1553), .none, .none, .none, .none, (n 2217 0), (n 321 0), (s "/claim/cut.py" 2218)]) #[]
noncomputable def o1552 (p : Params) : Obj := .mk (y "frame") none .plain #[(some (r 1554)), (some (r 3)), (some (r 1551)), none, (some (s "neverhalf.refusals" 1503)), none, (some (r 0))]
noncomputable def o1553 (p : Params) : Obj := .mk (y "tuple") none (.seq #[] 0) #[]
noncomputable def o1554 (p : Params) : Obj := .mk .none none (.fields #[]) #[]
noncomputable def o1555 (p : Params) : Obj := .mk (y "tuple") none (.seq #[(s "self" 2227), (s "spot" 2228)] 0) #[]
noncomputable def o1556 (p : Params) : Obj := .mk (y "tuple") none (.seq #[] 0) #[]
noncomputable def o1557 (p : Params) : Obj := .mk .none none (.func (fI 86 "NoWord.__init__" 0 [] .none .none .none .none none .none .none 0)) #[]
noncomputable def o1558 (p : Params) : Obj := .mk (y "code") none (.fields #[(s "__init__" 2224), (s "NoWord.__init__" 2225), (s "/claim/cut.py" 2226), (n 323 0), (n 2 0), (n 0 0), (n 0 0), (n 3 0), (r 1556), (.bool true), (n 181 0), (r 1557), .none, (r 1558), (r 1559), (r 1560), (n 2229 0), (n 323 0), (s "/claim/cut.py" 2230)]) #[]
noncomputable def o1559 (p : Params) : Obj := .mk (y "function") none (.func (fI 86 "NoWord.__init__" 3 [] .none .none .none (s "neverhalf.refusals" 1503) none (r 1561) .none 0)) #[]
noncomputable def o1560 (p : Params) : Obj := .mk (y "tuple") none (.seq #[(s "spot" 2232)] 0) #[]
noncomputable def o1561 (p : Params) : Obj := .mk (y "dict") none (.dict #[(e p "__module__" 2219 (s "neverhalf.refusals" 1503)), (e p "__firstlineno__" 2223 (n 321 2222)), (e p "__init__" 2231 (r 1562)), (e p "__static_attributes__" 2233 (r 1563)), (e p "__doc__" 2234 .none)] 2) #[]
noncomputable def o1562 (p : Params) : Obj := .mk (y "type") none (.cls (ClassData.mk "NoWord" [(r 24)] [(r 1565), (r 24), (y "ValueError"), (y "Exception"), (y "BaseException"), (y "object")] 1564 "NoWord" true [] [] false none false)) #[(some (r 1549)), none, (some (s "NoWord" 2212)), (some (s "NoWord" 2220)), (some (u "ValueError.__new__")), (some (.bool true))]
noncomputable def o1563 (p : Params) : Obj := .mk (y "super") none (.fields #[(r 1565), (r 1565), (r 1565)]) #[]
noncomputable def o1564 (p : Params) : Obj := .mk (y "builtin_function_or_method") none (.fields #[(u "object.__init_subclass__"), (r 1565)]) #[]
noncomputable def o1565 (p : Params) : Obj := .mk (y "tuple") none (.seq #[(r 24)] 0) #[]
noncomputable def o1566 (p : Params) : Obj := .mk (y "builtin_function_or_method") none (.fields #[(u "type.__prepare__"), (y "type")]) #[]
noncomputable def o1567 (p : Params) : Obj := .mk (y "dict") none (.dict #[(e p "__module__" 2244 (s "neverhalf.refusals" 1503)), (e p "__qualname__" 2246 (s "NoHead" 2245)), (e p "__firstlineno__" 2248 (n 325 2247)), (e p "__init__" 2256 (r 1581)), (e p "__static_attributes__" 2258 (r 1582))] 5) #[]
noncomputable def o1568 (p : Params) : Obj := .mk (y "tuple") none (.seq #[] 0) #[]
noncomputable def o1569 (p : Params) : Obj := .mk .none none (.fields #[(n 327 0), (n 4 0), (r 1580)]) #[]
noncomputable def o1570 (p : Params) : Obj := .mk (y "code") none (.fields #[(s "NoHead" 2239), (s "NoHead" 2240), (s "/claim/cut.py" 2241), (n 325 0), (n 0 0), (n 0 0), (n 0 0), (n 0 0), (r 1571), (.bool false), (n 181 0), (r 1572), .none, .none, .none, .none, (n 2242 0), (n 325 0), (s "/claim/cut.py" 2243)]) #[]
noncomputable def o1571 (p : Params) : Obj := .mk (y "frame") none .plain #[(some (r 1573)), (some (r 3)), (some (r 1570)), none, (some (s "neverhalf.refusals" 1503)), none, (some (r 0))]
noncomputable def o1572 (p : Params) : Obj := .mk (y "tuple") none (.seq #[] 0) #[]
noncomputable def o1573 (p : Params) : Obj := .mk .none none (.fields #[]) #[]
noncomputable def o1574 (p : Params) : Obj := .mk (y "tuple") none (.seq #[(s "self" 2252), (s "spot" 2253)] 0) #[]
noncomputable def o1575 (p : Params) : Obj := .mk (y "tuple") none (.seq #[] 0) #[]
noncomputable def o1576 (p : Params) : Obj := .mk .none none (.func (fI 87 "NoHead.__init__" 0 [] .none .none .none .none none .none .none 0)) #[]
noncomputable def o1577 (p : Params) : Obj := .mk (y "code") none (.fields #[(s "__init__" 2249), (s "NoHead.__init__" 2250), (s "/claim/cut.py" 2251), (n 327 0), (n 2 0), (n 0 0), (n 0 0), (n 3 0), (r 1575), (.bool true), (n 181 0), (r 1576), .none, (r 1577), (r 1578), (r 1579), (n 2254 0), (n 327 0), (s "/claim/cut.py" 2255)]) #[]
noncomputable def o1578 (p : Params) : Obj := .mk (y "function") none (.func (fI 87 "NoHead.__init__" 3 [] .none .none .none (s "neverhalf.refusals" 1503) none (r 1580) .none 0)) #[]
noncomputable def o1579 (p : Params) : Obj := .mk (y "tuple") none (.seq #[(s "spot" 2257)] 0) #[]
noncomputable def o1580 (p : Params) : Obj := .mk (y "dict") none (.dict #[(e p "__module__" 2244 (s "neverhalf.refusals" 1503)), (e p "__firstlineno__" 2248 (n 325 2247)), (e p "__init__" 2256 (r 1581)), (e p "__static_attributes__" 2258 (r 1582)), (e p "__doc__" 2259 .none)] 2) #[]
noncomputable def o1581 (p : Params) : Obj := .mk (y "type") none (.cls (ClassData.mk "NoHead" [(r 24)] [(r 1584), (r 24), (y "ValueError"), (y "Exception"), (y "BaseException"), (y "object")] 1583 "NoHead" true [] [] false none false)) #[(some (r 1568)), none, (some (s "NoHead" 2237)), (some (s "NoHead" 2245)), (some (u "ValueError.__new__")), (some (.bool true))]
noncomputable def o1582 (p : Params) : Obj := .mk (y "super") none (.fields #[(r 1584), (r 1584), (r 1584)]) #[]
noncomputable def o1583 (p : Params) : Obj := .mk (y "builtin_function_or_method") none (.fields #[(u "object.__init_subclass__"), (r 1584)]) #[]
noncomputable def o1584 (p : Params) : Obj := .mk (y "tuple") none (.seq #[(r 24)] 0) #[]
noncomputable def o1585 (p : Params) : Obj := .mk (y "builtin_function_or_method") none (.fields #[(u "type.__prepare__"), (y "type")]) #[]
noncomputable def o1586 (p : Params) : Obj := .mk (y "dict") none (.dict #[(e p "__module__" 2269 (s "neverhalf.refusals" 1503)), (e p "__qualname__" 2271 (s "BadTest" 2270)), (e p "__firstlineno__" 2273 (n 329 2272)), (e p "__init__" 2281 (r 1600)), (e p "__static_attributes__" 2283 (r 1601))] 5) #[]
noncomputable def o1587 (p : Params) : Obj := .mk (y "tuple") none (.seq #[] 0) #[]
noncomputable def o1588 (p : Params) : Obj := .mk .none none (.fields #[(n 331 0), (n 4 0), (r 1599)]) #[]
noncomputable def o1589 (p : Params) : Obj := .mk (y "code") none (.fields #[(s "BadTest" 2264), (s "BadTest" 2265), (s "/claim/cut.py" 2266), (n 329 0), (n 0 0), (n 0 0), (n 0 0), (n 0 0), (r 1590), (.bool false), (n 181 0), (r 1591), .none, .none, .none, .none, (n 2267 0), (n 329 0), (s "/claim/cut.py" 2268)]) #[]
noncomputable def o1590 (p : Params) : Obj := .mk (y "frame") none .plain #[(some (r 1592)), (some (r 3)), (some (r 1589)), none, (some (s "neverhalf.refusals" 1503)), none, (some (r 0))]
noncomputable def o1591 (p : Params) : Obj := .mk (y "tuple") none (.seq #[] 0) #[]
noncomputable def o1592 (p : Params) : Obj := .mk .none none (.fields #[]) #[]
noncomputable def o1593 (p : Params) : Obj := .mk (y "tuple") none (.seq #[(s "self" 2277), (s "test" 2278)] 0) #[]
noncomputable def o1594 (p : Params) : Obj := .mk (y "tuple") none (.seq #[] 0) #[]
noncomputable def o1595 (p : Params) : Obj := .mk .none none (.func (fI 88 "BadTest.__init__" 0 [] .none .none .none .none none .none .none 0)) #[]
noncomputable def o1596 (p : Params) : Obj := .mk (y "code") none (.fields #[(s "__init__" 2274), (s "BadTest.__init__" 2275), (s "/claim/cut.py" 2276), (n 331 0), (n 2 0), (n 0 0), (n 0 0), (n 3 0), (r 1594), (.bool true), (n 181 0), (r 1595), .none, (r 1596), (r 1597), (r 1598), (n 2279 0), (n 331 0), (s "/claim/cut.py" 2280)]) #[]
noncomputable def o1597 (p : Params) : Obj := .mk (y "function") none (.func (fI 88 "BadTest.__init__" 3 [] .none .none .none (s "neverhalf.refusals" 1503) none (r 1599) .none 0)) #[]
noncomputable def o1598 (p : Params) : Obj := .mk (y "tuple") none (.seq #[(s "test" 2282)] 0) #[]
noncomputable def o1599 (p : Params) : Obj := .mk (y "dict") none (.dict #[(e p "__module__" 2269 (s "neverhalf.refusals" 1503)), (e p "__firstlineno__" 2273 (n 329 2272)), (e p "__init__" 2281 (r 1600)), (e p "__static_attributes__" 2283 (r 1601)), (e p "__doc__" 2284 .none)] 2) #[]
noncomputable def o1600 (p : Params) : Obj := .mk (y "type") none (.cls (ClassData.mk "BadTest" [(r 24)] [(r 1603), (r 24), (y "ValueError"), (y "Exception"), (y "BaseException"), (y "object")] 1602 "BadTest" true [] [] false none false)) #[(some (r 1587)), none, (some (s "BadTest" 2262)), (some (s "BadTest" 2270)), (some (u "ValueError.__new__")), (some (.bool true))]
noncomputable def o1601 (p : Params) : Obj := .mk (y "super") none (.fields #[(r 1603), (r 1603), (r 1603)]) #[]
noncomputable def o1602 (p : Params) : Obj := .mk (y "builtin_function_or_method") none (.fields #[(u "object.__init_subclass__"), (r 1603)]) #[]
noncomputable def o1603 (p : Params) : Obj := .mk (y "tuple") none (.seq #[(r 24)] 0) #[]
noncomputable def o1604 (p : Params) : Obj := .mk (y "builtin_function_or_method") none (.fields #[(u "type.__prepare__"), (y "type")]) #[]
noncomputable def o1605 (p : Params) : Obj := .mk (y "dict") none (.dict #[(e p "__module__" 2294 (s "neverhalf.refusals" 1503)), (e p "__qualname__" 2296 (s "BadTests" 2295)), (e p "__firstlineno__" 2298 (n 333 2297)), (e p "__init__" 2306 (r 1619)), (e p "__static_attributes__" 2308 (r 1620))] 5) #[]
noncomputable def o1606 (p : Params) : Obj := .mk (y "tuple") none (.seq #[] 0) #[]
noncomputable def o1607 (p : Params) : Obj := .mk .none none (.fields #[(n 335 0), (n 4 0), (r 1618)]) #[]
noncomputable def o1608 (p : Params) : Obj := .mk (y "code") none (.fields #[(s "BadTests" 2289), (s "BadTests" 2290), (s "/claim/cut.py" 2291), (n 333 0), (n 0 0), (n 0 0), (n 0 0), (n 0 0), (r 1609), (.bool false), (n 181 0), (r 1610), .none, .none, .none, .none, (n 2292 0), (n 333 0), (s "/claim/cut.py" 2293)]) #[]
noncomputable def o1609 (p : Params) : Obj := .mk (y "frame") none .plain #[(some (r 1611)), (some (r 3)), (some (r 1608)), none, (some (s "neverhalf.refusals" 1503)), none, (some (r 0))]
noncomputable def o1610 (p : Params) : Obj := .mk (y "tuple") none (.seq #[] 0) #[]
noncomputable def o1611 (p : Params) : Obj := .mk .none none (.fields #[]) #[]
noncomputable def o1612 (p : Params) : Obj := .mk (y "tuple") none (.seq #[(s "self" 2302), (s "tests" 2303)] 0) #[]
noncomputable def o1613 (p : Params) : Obj := .mk (y "tuple") none (.seq #[] 0) #[]
noncomputable def o1614 (p : Params) : Obj := .mk .none none (.func (fI 89 "BadTests.__init__" 0 [] .none .none .none .none none .none .none 0)) #[]
noncomputable def o1615 (p : Params) : Obj := .mk (y "code") none (.fields #[(s "__init__" 2299), (s "BadTests.__init__" 2300), (s "/claim/cut.py" 2301), (n 335 0), (n 2 0), (n 0 0), (n 0 0), (n 3 0), (r 1613), (.bool true), (n 181 0), (r 1614), .none, (r 1615), (r 1616), (r 1617), (n 2304 0), (n 335 0), (s "/claim/cut.py" 2305)]) #[]
noncomputable def o1616 (p : Params) : Obj := .mk (y "function") none (.func (fI 89 "BadTests.__init__" 3 [] .none .none .none (s "neverhalf.refusals" 1503) none (r 1618) .none 0)) #[]
noncomputable def o1617 (p : Params) : Obj := .mk (y "tuple") none (.seq #[(s "tests" 2307)] 0) #[]
noncomputable def o1618 (p : Params) : Obj := .mk (y "dict") none (.dict #[(e p "__module__" 2294 (s "neverhalf.refusals" 1503)), (e p "__firstlineno__" 2298 (n 333 2297)), (e p "__init__" 2306 (r 1619)), (e p "__static_attributes__" 2308 (r 1620)), (e p "__doc__" 2309 .none)] 2) #[]
noncomputable def o1619 (p : Params) : Obj := .mk (y "type") none (.cls (ClassData.mk "BadTests" [(r 24)] [(r 1622), (r 24), (y "ValueError"), (y "Exception"), (y "BaseException"), (y "object")] 1621 "BadTests" true [] [] false none false)) #[(some (r 1606)), none, (some (s "BadTests" 2287)), (some (s "BadTests" 2295)), (some (u "ValueError.__new__")), (some (.bool true))]
noncomputable def o1620 (p : Params) : Obj := .mk (y "super") none (.fields #[(r 1622), (r 1622), (r 1622)]) #[]
noncomputable def o1621 (p : Params) : Obj := .mk (y "builtin_function_or_method") none (.fields #[(u "object.__init_subclass__"), (r 1622)]) #[]
noncomputable def o1622 (p : Params) : Obj := .mk (y "tuple") none (.seq #[(r 24)] 0) #[]
noncomputable def o1623 (p : Params) : Obj := .mk (y "builtin_function_or_method") none (.fields #[(u "type.__prepare__"), (y "type")]) #[]
noncomputable def o1624 (p : Params) : Obj := .mk (y "dict") none (.dict #[(e p "__module__" 2319 (s "neverhalf.refusals" 1503)), (e p "__qualname__" 2321 (s "BadNumber" 2320)), (e p "__firstlineno__" 2323 (n 337 2322)), (e p "__init__" 2331 (r 1638)), (e p "__static_attributes__" 2333 (r 1639))] 5) #[]
noncomputable def o1625 (p : Params) : Obj := .mk (y "tuple") none (.seq #[] 0) #[]
noncomputable def o1626 (p : Params) : Obj := .mk .none none (.fields #[(n 339 0), (n 4 0), (r 1637)]) #[]
noncomputable def o1627 (p : Params) : Obj := .mk (y "code") none (.fields #[(s "BadNumber" 2314), (s "BadNumber" 2315), (s "/claim/cut.py" 2316), (n 337 0), (n 0 0), (n 0 0), (n 0 0), (n 0 0), (r 1628), (.bool false), (n 181 0), (r 1629), .none, .none, .none, .none, (n 2317 0), (n 337 0), (s "/claim/cut.py" 2318)]) #[]
noncomputable def o1628 (p : Params) : Obj := .mk (y "frame") none .plain #[(some (r 1630)), (some (r 3)), (some (r 1627)), none, (some (s "neverhalf.refusals" 1503)), none, (some (r 0))]
noncomputable def o1629 (p : Params) : Obj := .mk (y "tuple") none (.seq #[] 0) #[]
noncomputable def o1630 (p : Params) : Obj := .mk .none none (.fields #[]) #[]
noncomputable def o1631 (p : Params) : Obj := .mk (y "tuple") none (.seq #[(s "self" 2327), (s "number" 2328)] 0) #[]
noncomputable def o1632 (p : Params) : Obj := .mk (y "tuple") none (.seq #[] 0) #[]
noncomputable def o1633 (p : Params) : Obj := .mk .none none (.func (fI 90 "BadNumber.__init__" 0 [] .none .none .none .none none .none .none 0)) #[]
noncomputable def o1634 (p : Params) : Obj := .mk (y "code") none (.fields #[(s "__init__" 2324), (s "BadNumber.__init__" 2325), (s "/claim/cut.py" 2326), (n 339 0), (n 2 0), (n 0 0), (n 0 0), (n 3 0), (r 1632), (.bool true), (n 181 0), (r 1633), .none, (r 1634), (r 1635), (r 1636), (n 2329 0), (n 339 0), (s "/claim/cut.py" 2330)]) #[]
noncomputable def o1635 (p : Params) : Obj := .mk (y "function") none (.func (fI 90 "BadNumber.__init__" 3 [] .none .none .none (s "neverhalf.refusals" 1503) none (r 1637) .none 0)) #[]
noncomputable def o1636 (p : Params) : Obj := .mk (y "tuple") none (.seq #[(s "number" 2332)] 0) #[]
noncomputable def o1637 (p : Params) : Obj := .mk (y "dict") none (.dict #[(e p "__module__" 2319 (s "neverhalf.refusals" 1503)), (e p "__firstlineno__" 2323 (n 337 2322)), (e p "__init__" 2331 (r 1638)), (e p "__static_attributes__" 2333 (r 1639)), (e p "__doc__" 2334 .none)] 2) #[]
noncomputable def o1638 (p : Params) : Obj := .mk (y "type") none (.cls (ClassData.mk "BadNumber" [(r 24)] [(r 1641), (r 24), (y "ValueError"), (y "Exception"), (y "BaseException"), (y "object")] 1640 "BadNumber" true [] [] false none false)) #[(some (r 1625)), none, (some (s "BadNumber" 2312)), (some (s "BadNumber" 2320)), (some (u "ValueError.__new__")), (some (.bool true))]
noncomputable def o1639 (p : Params) : Obj := .mk (y "super") none (.fields #[(r 1641), (r 1641), (r 1641)]) #[]
noncomputable def o1640 (p : Params) : Obj := .mk (y "builtin_function_or_method") none (.fields #[(u "object.__init_subclass__"), (r 1641)]) #[]
noncomputable def o1641 (p : Params) : Obj := .mk (y "tuple") none (.seq #[(r 24)] 0) #[]
noncomputable def o1642 (p : Params) : Obj := .mk (y "builtin_function_or_method") none (.fields #[(u "type.__prepare__"), (y "type")]) #[]
noncomputable def o1643 (p : Params) : Obj := .mk (y "dict") none (.dict #[(e p "__module__" 2344 (s "neverhalf.refusals" 1503)), (e p "__qualname__" 2346 (s "BadValues" 2345)), (e p "__firstlineno__" 2348 (n 341 2347)), (e p "__init__" 2356 (r 1657)), (e p "__static_attributes__" 2358 (r 1658))] 5) #[]
noncomputable def o1644 (p : Params) : Obj := .mk (y "tuple") none (.seq #[] 0) #[]
noncomputable def o1645 (p : Params) : Obj := .mk .none none (.fields #[(n 343 0), (n 4 0), (r 1656)]) #[]
noncomputable def o1646 (p : Params) : Obj := .mk (y "code") none (.fields #[(s "BadValues" 2339), (s "BadValues" 2340), (s "/claim/cut.py" 2341), (n 341 0), (n 0 0), (n 0 0), (n 0 0), (n 0 0), (r 1647), (.bool false), (n 181 0), (r 1648), .none, .none, .none, .none, (n 2342 0), (n 341 0), (s "/claim/cut.py" 2343)]) #[]
noncomputable def o1647 (p : Params) : Obj := .mk (y "frame") none .plain #[(some (r 1649)), (some (r 3)), (some (r 1646)), none, (some (s "neverhalf.refusals" 1503)), none, (some (r 0))]
noncomputable def o1648 (p : Params) : Obj := .mk (y "tuple") none (.seq #[] 0) #[]
noncomputable def o1649 (p : Params) : Obj := .mk .none none (.fields #[]) #[]
noncomputable def o1650 (p : Params) : Obj := .mk (y "tuple") none (.seq #[(s "self" 2352), (s "listed" 2353)] 0) #[]
noncomputable def o1651 (p : Params) : Obj := .mk (y "tuple") none (.seq #[] 0) #[]
noncomputable def o1652 (p : Params) : Obj := .mk .none none (.func (fI 91 "BadValues.__init__" 0 [] .none .none .none .none none .none .none 0)) #[]
noncomputable def o1653 (p : Params) : Obj := .mk (y "code") none (.fields #[(s "__init__" 2349), (s "BadValues.__init__" 2350), (s "/claim/cut.py" 2351), (n 343 0), (n 2 0), (n 0 0), (n 0 0), (n 3 0), (r 1651), (.bool true), (n 181 0), (r 1652), .none, (r 1653), (r 1654), (r 1655), (n 2354 0), (n 343 0), (s "/claim/cut.py" 2355)]) #[]
noncomputable def o1654 (p : Params) : Obj := .mk (y "function") none (.func (fI 91 "BadValues.__init__" 3 [] .none .none .none (s "neverhalf.refusals" 1503) none (r 1656) .none 0)) #[]
noncomputable def o1655 (p : Params) : Obj := .mk (y "tuple") none (.seq #[(s "listed" 2357)] 0) #[]
noncomputable def o1656 (p : Params) : Obj := .mk (y "dict") none (.dict #[(e p "__module__" 2344 (s "neverhalf.refusals" 1503)), (e p "__firstlineno__" 2348 (n 341 2347)), (e p "__init__" 2356 (r 1657)), (e p "__static_attributes__" 2358 (r 1658)), (e p "__doc__" 2359 .none)] 2) #[]
noncomputable def o1657 (p : Params) : Obj := .mk (y "type") none (.cls (ClassData.mk "BadValues" [(r 24)] [(r 1660), (r 24), (y "ValueError"), (y "Exception"), (y "BaseException"), (y "object")] 1659 "BadValues" true [] [] false none false)) #[(some (r 1644)), none, (some (s "BadValues" 2337)), (some (s "BadValues" 2345)), (some (u "ValueError.__new__")), (some (.bool true))]
noncomputable def o1658 (p : Params) : Obj := .mk (y "super") none (.fields #[(r 1660), (r 1660), (r 1660)]) #[]
noncomputable def o1659 (p : Params) : Obj := .mk (y "builtin_function_or_method") none (.fields #[(u "object.__init_subclass__"), (r 1660)]) #[]
noncomputable def o1660 (p : Params) : Obj := .mk (y "tuple") none (.seq #[(r 24)] 0) #[]
noncomputable def o1661 (p : Params) : Obj := .mk (y "builtin_function_or_method") none (.fields #[(u "type.__prepare__"), (y "type")]) #[]
noncomputable def o1662 (p : Params) : Obj := .mk (y "dict") none (.dict #[(e p "__module__" 2369 (s "neverhalf.refusals" 1503)), (e p "__qualname__" 2371 (s "NoNumber" 2370)), (e p "__firstlineno__" 2373 (n 345 2372)), (e p "__static_attributes__" 2374 (r 1670))] 4) #[]
noncomputable def o1663 (p : Params) : Obj := .mk (y "tuple") none (.seq #[] 0) #[]
noncomputable def o1664 (p : Params) : Obj := .mk .none none (.fields #[]) #[]
noncomputable def o1665 (p : Params) : Obj := .mk (y "code") none (.fields #[(s "NoNumber" 2364), (s "NoNumber" 2365), (s "/claim/cut.py" 2366), (n 345 0), (n 0 0), (n 0 0), (n 0 0), (n 0 0), (r 1666), (.bool false), (n 181 0), (r 1667), .none, .none, .none, .none, (n 2367 0), (n 345 0), (s "/claim/cut.py" 2368)]) #[]
noncomputable def o1666 (p : Params) : Obj := .mk (y "frame") none .plain #[(some (r 1668)), (some (r 3)), (some (r 1665)), none, (some (s "neverhalf.refusals" 1503)), none, (some (r 0))]
noncomputable def o1667 (p : Params) : Obj := .mk (y "tuple") none (.seq #[] 0) #[]
noncomputable def o1668 (p : Params) : Obj := .mk (y "dict") none (.dict #[(e p "__module__" 2369 (s "neverhalf.refusals" 1503)), (e p "__firstlineno__" 2373 (n 345 2372)), (e p "__static_attributes__" 2374 (r 1670)), (e p "__doc__" 2375 .none)] 2) #[]
noncomputable def o1669 (p : Params) : Obj := .mk (y "type") none (.cls (ClassData.mk "NoNumber" [(r 24)] [(r 1672), (r 24), (y "ValueError"), (y "Exception"), (y "BaseException"), (y "object")] 1671 "NoNumber" true [] [] false none false)) #[(some (r 1663)), none, (some (s "NoNumber" 2362)), (some (s "NoNumber" 2370)), (some (u "ValueError.__new__")), (some (.bool true))]
noncomputable def o1670 (p : Params) : Obj := .mk (y "super") none (.fields #[(r 1672), (r 1672), (r 1672)]) #[]
noncomputable def o1671 (p : Params) : Obj := .mk (y "builtin_function_or_method") none (.fields #[(u "object.__init_subclass__"), (r 1672)]) #[]
noncomputable def o1672 (p : Params) : Obj := .mk (y "tuple") none (.seq #[(r 24)] 0) #[]
noncomputable def o1673 (p : Params) : Obj := .mk (y "builtin_function_or_method") none (.fields #[(u "type.__prepare__"), (y "type")]) #[]
noncomputable def o1674 (p : Params) : Obj := .mk (y "dict") none (.dict #[(e p "__module__" 2385 (s "neverhalf.refusals" 1503)), (e p "__qualname__" 2387 (s "BadNames" 2386)), (e p "__firstlineno__" 2389 (n 347 2388)), (e p "__init__" 2397 (r 1688)), (e p "__static_attributes__" 2399 (r 1689))] 5) #[]
noncomputable def o1675 (p : Params) : Obj := .mk (y "tuple") none (.seq #[] 0) #[]
noncomputable def o1676 (p : Params) : Obj := .mk .none none (.fields #[(n 349 0), (n 4 0), (r 1687)]) #[]
noncomputable def o1677 (p : Params) : Obj := .mk (y "code") none (.fields #[(s "BadNames" 2380), (s "BadNames" 2381), (s "/claim/cut.py" 2382), (n 347 0), (n 0 0), (n 0 0), (n 0 0), (n 0 0), (r 1678), (.bool false), (n 181 0), (r 1679), .none, .none, .none, .none, (n 2383 0), (n 347 0), (s "/claim/cut.py" 2384)]) #[]
noncomputable def o1678 (p : Params) : Obj := .mk (y "frame") none .plain #[(some (r 1680)), (some (r 3)), (some (r 1677)), none, (some (s "neverhalf.refusals" 1503)), none, (some (r 0))]
noncomputable def o1679 (p : Params) : Obj := .mk (y "tuple") none (.seq #[] 0) #[]
noncomputable def o1680 (p : Params) : Obj := .mk .none none (.fields #[]) #[]
noncomputable def o1681 (p : Params) : Obj := .mk (y "tuple") none (.seq #[(s "self" 2393), (s "names" 2394)] 0) #[]
noncomputable def o1682 (p : Params) : Obj := .mk (y "tuple") none (.seq #[] 0) #[]
noncomputable def o1683 (p : Params) : Obj := .mk .none none (.func (fI 93 "BadNames.__init__" 0 [] .none .none .none .none none .none .none 0)) #[]
noncomputable def o1684 (p : Params) : Obj := .mk (y "code") none (.fields #[(s "__init__" 2390), (s "BadNames.__init__" 2391), (s "/claim/cut.py" 2392), (n 349 0), (n 2 0), (n 0 0), (n 0 0), (n 3 0), (r 1682), (.bool true), (n 181 0), (r 1683), .none, (r 1684), (r 1685), (r 1686), (n 2395 0), (n 349 0), (s "/claim/cut.py" 2396)]) #[]
noncomputable def o1685 (p : Params) : Obj := .mk (y "function") none (.func (fI 93 "BadNames.__init__" 3 [] .none .none .none (s "neverhalf.refusals" 1503) none (r 1687) .none 0)) #[]
noncomputable def o1686 (p : Params) : Obj := .mk (y "tuple") none (.seq #[(s "names" 2398)] 0) #[]
noncomputable def o1687 (p : Params) : Obj := .mk (y "dict") none (.dict #[(e p "__module__" 2385 (s "neverhalf.refusals" 1503)), (e p "__firstlineno__" 2389 (n 347 2388)), (e p "__init__" 2397 (r 1688)), (e p "__static_attributes__" 2399 (r 1689)), (e p "__doc__" 2400 .none)] 2) #[]
noncomputable def o1688 (p : Params) : Obj := .mk (y "type") none (.cls (ClassData.mk "BadNames" [(r 24)] [(r 1691), (r 24), (y "ValueError"), (y "Exception"), (y "BaseException"), (y "object")] 1690 "BadNames" true [] [] false none false)) #[(some (r 1675)), none, (some (s "BadNames" 2378)), (some (s "BadNames" 2386)), (some (u "ValueError.__new__")), (some (.bool true))]
noncomputable def o1689 (p : Params) : Obj := .mk (y "super") none (.fields #[(r 1691), (r 1691), (r 1691)]) #[]
noncomputable def o1690 (p : Params) : Obj := .mk (y "builtin_function_or_method") none (.fields #[(u "object.__init_subclass__"), (r 1691)]) #[]
noncomputable def o1691 (p : Params) : Obj := .mk (y "tuple") none (.seq #[(r 24)] 0) #[]
noncomputable def o1692 (p : Params) : Obj := .mk (y "builtin_function_or_method") none (.fields #[(u "type.__prepare__"), (y "type")]) #[]
noncomputable def o1693 (p : Params) : Obj := .mk (y "dict") none (.dict #[(e p "__module__" 2410 (s "neverhalf.refusals" 1503)), (e p "__qualname__" 2412 (s "BadOthers" 2411)), (e p "__firstlineno__" 2414 (n 351 2413)), (e p "__init__" 2422 (r 1707)), (e p "__static_attributes__" 2424 (r 1708))] 5) #[]
noncomputable def o1694 (p : Params) : Obj := .mk (y "tuple") none (.seq #[] 0) #[]
noncomputable def o1695 (p : Params) : Obj := .mk .none none (.fields #[(n 353 0), (n 4 0), (r 1706)]) #[]
noncomputable def o1696 (p : Params) : Obj := .mk (y "code") none (.fields #[(s "BadOthers" 2405), (s "BadOthers" 2406), (s "/claim/cut.py" 2407), (n 351 0), (n 0 0), (n 0 0), (n 0 0), (n 0 0), (r 1697), (.bool false), (n 181 0), (r 1698), .none, .none, .none, .none, (n 2408 0), (n 351 0), (s "/claim/cut.py" 2409)]) #[]
noncomputable def o1697 (p : Params) : Obj := .mk (y "frame") none .plain #[(some (r 1699)), (some (r 3)), (some (r 1696)), none, (some (s "neverhalf.refusals" 1503)), none, (some (r 0))]
noncomputable def o1698 (p : Params) : Obj := .mk (y "tuple") none (.seq #[] 0) #[]
noncomputable def o1699 (p : Params) : Obj := .mk .none none (.fields #[]) #[]
noncomputable def o1700 (p : Params) : Obj := .mk (y "tuple") none (.seq #[(s "self" 2418), (s "others" 2419)] 0) #[]
noncomputable def o1701 (p : Params) : Obj := .mk (y "tuple") none (.seq #[] 0) #[]
noncomputable def o1702 (p : Params) : Obj := .mk .none none (.func (fI 94 "BadOthers.__init__" 0 [] .none .none .none .none none .none .none 0)) #[]
noncomputable def o1703 (p : Params) : Obj := .mk (y "code") none (.fields #[(s "__init__" 2415), (s "BadOthers.__init__" 2416), (s "/claim/cut.py" 2417), (n 353 0), (n 2 0), (n 0 0), (n 0 0), (n 3 0), (r 1701), (.bool true), (n 181 0), (r 1702), .none, (r 1703), (r 1704), (r 1705), (n 2420 0), (n 353 0), (s "/claim/cut.py" 2421)]) #[]
noncomputable def o1704 (p : Params) : Obj := .mk (y "function") none (.func (fI 94 "BadOthers.__init__" 3 [] .none .none .none (s "neverhalf.refusals" 1503) none (r 1706) .none 0)) #[]
noncomputable def o1705 (p : Params) : Obj := .mk (y "tuple") none (.seq #[(s "others" 2423)] 0) #[]
noncomputable def o1706 (p : Params) : Obj := .mk (y "dict") none (.dict #[(e p "__module__" 2410 (s "neverhalf.refusals" 1503)), (e p "__firstlineno__" 2414 (n 351 2413)), (e p "__init__" 2422 (r 1707)), (e p "__static_attributes__" 2424 (r 1708)), (e p "__doc__" 2425 .none)] 2) #[]
noncomputable def o1707 (p : Params) : Obj := .mk (y "type") none (.cls (ClassData.mk "BadOthers" [(r 24)] [(r 1710), (r 24), (y "ValueError"), (y "Exception"), (y "BaseException"), (y "object")] 1709 "BadOthers" true [] [] false none false)) #[(some (r 1694)), none, (some (s "BadOthers" 2403)), (some (s "BadOthers" 2411)), (some (u "ValueError.__new__")), (some (.bool true))]
noncomputable def o1708 (p : Params) : Obj := .mk (y "super") none (.fields #[(r 1710), (r 1710), (r 1710)]) #[]
noncomputable def o1709 (p : Params) : Obj := .mk (y "builtin_function_or_method") none (.fields #[(u "object.__init_subclass__"), (r 1710)]) #[]
noncomputable def o1710 (p : Params) : Obj := .mk (y "tuple") none (.seq #[(r 24)] 0) #[]
noncomputable def o1711 (p : Params) : Obj := .mk (y "builtin_function_or_method") none (.fields #[(u "type.__prepare__"), (y "type")]) #[]
noncomputable def o1712 (p : Params) : Obj := .mk (y "dict") none (.dict #[(e p "__module__" 2435 (s "neverhalf.refusals" 1503)), (e p "__qualname__" 2437 (s "BadFirsts" 2436)), (e p "__firstlineno__" 2439 (n 355 2438)), (e p "__init__" 2447 (r 1726)), (e p "__static_attributes__" 2449 (r 1727))] 5) #[]
noncomputable def o1713 (p : Params) : Obj := .mk (y "tuple") none (.seq #[] 0) #[]
noncomputable def o1714 (p : Params) : Obj := .mk .none none (.fields #[(n 357 0), (n 4 0), (r 1725)]) #[]
noncomputable def o1715 (p : Params) : Obj := .mk (y "code") none (.fields #[(s "BadFirsts" 2430), (s "BadFirsts" 2431), (s "/claim/cut.py" 2432), (n 355 0), (n 0 0), (n 0 0), (n 0 0), (n 0 0), (r 1716), (.bool false), (n 181 0), (r 1717), .none, .none, .none, .none, (n 2433 0), (n 355 0), (s "/claim/cut.py" 2434)]) #[]
noncomputable def o1716 (p : Params) : Obj := .mk (y "frame") none .plain #[(some (r 1718)), (some (r 3)), (some (r 1715)), none, (some (s "neverhalf.refusals" 1503)), none, (some (r 0))]
noncomputable def o1717 (p : Params) : Obj := .mk (y "tuple") none (.seq #[] 0) #[]
noncomputable def o1718 (p : Params) : Obj := .mk .none none (.fields #[]) #[]
noncomputable def o1719 (p : Params) : Obj := .mk (y "tuple") none (.seq #[(s "self" 2443), (s "firsts" 2444)] 0) #[]
noncomputable def o1720 (p : Params) : Obj := .mk (y "tuple") none (.seq #[] 0) #[]
noncomputable def o1721 (p : Params) : Obj := .mk .none none (.func (fI 95 "BadFirsts.__init__" 0 [] .none .none .none .none none .none .none 0)) #[]
noncomputable def o1722 (p : Params) : Obj := .mk (y "code") none (.fields #[(s "__init__" 2440), (s "BadFirsts.__init__" 2441), (s "/claim/cut.py" 2442), (n 357 0), (n 2 0), (n 0 0), (n 0 0), (n 3 0), (r 1720), (.bool true), (n 181 0), (r 1721), .none, (r 1722), (r 1723), (r 1724), (n 2445 0), (n 357 0), (s "/claim/cut.py" 2446)]) #[]
noncomputable def o1723 (p : Params) : Obj := .mk (y "function") none (.func (fI 95 "BadFirsts.__init__" 3 [] .none .none .none (s "neverhalf.refusals" 1503) none (r 1725) .none 0)) #[]
noncomputable def o1724 (p : Params) : Obj := .mk (y "tuple") none (.seq #[(s "firsts" 2448)] 0) #[]
noncomputable def o1725 (p : Params) : Obj := .mk (y "dict") none (.dict #[(e p "__module__" 2435 (s "neverhalf.refusals" 1503)), (e p "__firstlineno__" 2439 (n 355 2438)), (e p "__init__" 2447 (r 1726)), (e p "__static_attributes__" 2449 (r 1727)), (e p "__doc__" 2450 .none)] 2) #[]
noncomputable def o1726 (p : Params) : Obj := .mk (y "type") none (.cls (ClassData.mk "BadFirsts" [(r 24)] [(r 1729), (r 24), (y "ValueError"), (y "Exception"), (y "BaseException"), (y "object")] 1728 "BadFirsts" true [] [] false none false)) #[(some (r 1713)), none, (some (s "BadFirsts" 2428)), (some (s "BadFirsts" 2436)), (some (u "ValueError.__new__")), (some (.bool true))]
noncomputable def o1727 (p : Params) : Obj := .mk (y "super") none (.fields #[(r 1729), (r 1729), (r 1729)]) #[]
noncomputable def o1728 (p : Params) : Obj := .mk (y "builtin_function_or_method") none (.fields #[(u "object.__init_subclass__"), (r 1729)]) #[]
noncomputable def o1729 (p : Params) : Obj := .mk (y "tuple") none (.seq #[(r 24)] 0) #[]
noncomputable def o1730 (p : Params) : Obj := .mk (y "builtin_function_or_method") none (.fields #[(u "type.__prepare__"), (y "type")]) #[]
noncomputable def o1731 (p : Params) : Obj := .mk (y "dict") none (.dict #[(e p "__module__" 2460 (s "neverhalf.refusals" 1503)), (e p "__qualname__" 2462 (s "BadSources" 2461)), (e p "__firstlineno__" 2464 (n 359 2463)), (e p "__init__" 2472 (r 1745)), (e p "__static_attributes__" 2474 (r 1746))] 5) #[]
noncomputable def o1732 (p : Params) : Obj := .mk (y "tuple") none (.seq #[] 0) #[]
noncomputable def o1733 (p : Params) : Obj := .mk .none none (.fields #[(n 361 0), (n 4 0), (r 1744)]) #[]
noncomputable def o1734 (p : Params) : Obj := .mk (y "code") none (.fields #[(s "BadSources" 2455), (s "BadSources" 2456), (s "/claim/cut.py" 2457), (n 359 0), (n 0 0), (n 0 0), (n 0 0), (n 0 0), (r 1735), (.bool false), (n 181 0), (r 1736), .none, .none, .none, .none, (n 2458 0), (n 359 0), (s "/claim/cut.py" 2459)]) #[]
noncomputable def o1735 (p : Params) : Obj := .mk (y "frame") none .plain #[(some (r 1737)), (some (r 3)), (some (r 1734)), none, (some (s "neverhalf.refusals" 1503)), none, (some (r 0))]
noncomputable def o1736 (p : Params) : Obj := .mk (y "tuple") none (.seq #[] 0) #[]
noncomputable def o1737 (p : Params) : Obj := .mk .none none (.fields #[]) #[]
noncomputable def o1738 (p : Params) : Obj := .mk (y "tuple") none (.seq #[(s "self" 2468), (s "sources" 2469)] 0) #[]
noncomputable def o1739 (p : Params) : Obj := .mk (y "tuple") none (.seq #[] 0) #[]
noncomputable def o1740 (p : Params) : Obj := .mk .none none (.func (fI 96 "BadSources.__init__" 0 [] .none .none .none .none none .none .none 0)) #[]
noncomputable def o1741 (p : Params) : Obj := .mk (y "code") none (.fields #[(s "__init__" 2465), (s "BadSources.__init__" 2466), (s "/claim/cut.py" 2467), (n 361 0), (n 2 0), (n 0 0), (n 0 0), (n 3 0), (r 1739), (.bool true), (n 181 0), (r 1740), .none, (r 1741), (r 1742), (r 1743), (n 2470 0), (n 361 0), (s "/claim/cut.py" 2471)]) #[]
noncomputable def o1742 (p : Params) : Obj := .mk (y "function") none (.func (fI 96 "BadSources.__init__" 3 [] .none .none .none (s "neverhalf.refusals" 1503) none (r 1744) .none 0)) #[]
noncomputable def o1743 (p : Params) : Obj := .mk (y "tuple") none (.seq #[(s "sources" 2473)] 0) #[]
noncomputable def o1744 (p : Params) : Obj := .mk (y "dict") none (.dict #[(e p "__module__" 2460 (s "neverhalf.refusals" 1503)), (e p "__firstlineno__" 2464 (n 359 2463)), (e p "__init__" 2472 (r 1745)), (e p "__static_attributes__" 2474 (r 1746)), (e p "__doc__" 2475 .none)] 2) #[]
noncomputable def o1745 (p : Params) : Obj := .mk (y "type") none (.cls (ClassData.mk "BadSources" [(r 24)] [(r 1748), (r 24), (y "ValueError"), (y "Exception"), (y "BaseException"), (y "object")] 1747 "BadSources" true [] [] false none false)) #[(some (r 1732)), none, (some (s "BadSources" 2453)), (some (s "BadSources" 2461)), (some (u "ValueError.__new__")), (some (.bool true))]
noncomputable def o1746 (p : Params) : Obj := .mk (y "super") none (.fields #[(r 1748), (r 1748), (r 1748)]) #[]
noncomputable def o1747 (p : Params) : Obj := .mk (y "builtin_function_or_method") none (.fields #[(u "object.__init_subclass__"), (r 1748)]) #[]
noncomputable def o1748 (p : Params) : Obj := .mk (y "tuple") none (.seq #[(r 24)] 0) #[]
noncomputable def o1749 (p : Params) : Obj := .mk (y "builtin_function_or_method") none (.fields #[(u "type.__prepare__"), (y "type")]) #[]
noncomputable def o1750 (p : Params) : Obj := .mk (y "dict") none (.dict #[(e p "__module__" 2485 (s "neverhalf.refusals" 1503)), (e p "__qualname__" 2487 (s "BadSteps" 2486)), (e p "__firstlineno__" 2489 (n 363 2488)), (e p "__init__" 2497 (r 1764)), (e p "__static_attributes__" 2499 (r 1765))] 5) #[]
noncomputable def o1751 (p : Params) : Obj := .mk (y "tuple") none (.seq #[] 0) #[]
noncomputable def o1752 (p : Params) : Obj := .mk .none none (.fields #[(n 365 0), (n 4 0), (r 1763)]) #[]
noncomputable def o1753 (p : Params) : Obj := .mk (y "code") none (.fields #[(s "BadSteps" 2480), (s "BadSteps" 2481), (s "/claim/cut.py" 2482), (n 363 0), (n 0 0), (n 0 0), (n 0 0), (n 0 0), (r 1754), (.bool false), (n 181 0), (r 1755), .none, .none, .none, .none, (n 2483 0), (n 363 0), (s "/claim/cut.py" 2484)]) #[]
noncomputable def o1754 (p : Params) : Obj := .mk (y "frame") none .plain #[(some (r 1756)), (some (r 3)), (some (r 1753)), none, (some (s "neverhalf.refusals" 1503)), none, (some (r 0))]
noncomputable def o1755 (p : Params) : Obj := .mk (y "tuple") none (.seq #[] 0) #[]
noncomputable def o1756 (p : Params) : Obj := .mk .none none (.fields #[]) #[]
noncomputable def o1757 (p : Params) : Obj := .mk (y "tuple") none (.seq #[(s "self" 2493), (s "steps" 2494)] 0) #[]
noncomputable def o1758 (p : Params) : Obj := .mk (y "tuple") none (.seq #[] 0) #[]
noncomputable def o1759 (p : Params) : Obj := .mk .none none (.func (fI 97 "BadSteps.__init__" 0 [] .none .none .none .none none .none .none 0)) #[]
noncomputable def o1760 (p : Params) : Obj := .mk (y "code") none (.fields #[(s "__init__" 2490), (s "BadSteps.__init__" 2491), (s "/claim/cut.py" 2492), (n 365 0), (n 2 0), (n 0 0), (n 0 0), (n 3 0), (r 1758), (.bool true), (n 181 0), (r 1759), .none, (r 1760), (r 1761), (r 1762), (n 2495 0), (n 365 0), (s "/claim/cut.py" 2496)]) #[]
noncomputable def o1761 (p : Params) : Obj := .mk (y "function") none (.func (fI 97 "BadSteps.__init__" 3 [] .none .none .none (s "neverhalf.refusals" 1503) none (r 1763) .none 0)) #[]
noncomputable def o1762 (p : Params) : Obj := .mk (y "tuple") none (.seq #[(s "steps" 2498)] 0) #[]
noncomputable def o1763 (p : Params) : Obj := .mk (y "dict") none (.dict #[(e p "__module__" 2485 (s "neverhalf.refusals" 1503)), (e p "__firstlineno__" 2489 (n 363 2488)), (e p "__init__" 2497 (r 1764)), (e p "__static_attributes__" 2499 (r 1765)), (e p "__doc__" 2500 .none)] 2) #[]
noncomputable def o1764 (p : Params) : Obj := .mk (y "type") none (.cls (ClassData.mk "BadSteps" [(r 24)] [(r 1767), (r 24), (y "ValueError"), (y "Exception"), (y "BaseException"), (y "object")] 1766 "BadSteps" true [] [] false none false)) #[(some (r 1751)), none, (some (s "BadSteps" 2478)), (some (s "BadSteps" 2486)), (some (u "ValueError.__new__")), (some (.bool true))]
noncomputable def o1765 (p : Params) : Obj := .mk (y "super") none (.fields #[(r 1767), (r 1767), (r 1767)]) #[]
noncomputable def o1766 (p : Params) : Obj := .mk (y "builtin_function_or_method") none (.fields #[(u "object.__init_subclass__"), (r 1767)]) #[]
noncomputable def o1767 (p : Params) : Obj := .mk (y "tuple") none (.seq #[(r 24)] 0) #[]
noncomputable def o1768 (p : Params) : Obj := .mk (y "builtin_function_or_method") none (.fields #[(u "type.__prepare__"), (y "type")]) #[]
noncomputable def o1769 (p : Params) : Obj := .mk (y "dict") none (.dict #[(e p "__module__" 2510 (s "neverhalf.refusals" 1503)), (e p "__qualname__" 2512 (s "BadFleet" 2511)), (e p "__firstlineno__" 2514 (n 367 2513)), (e p "__init__" 2522 (r 1783)), (e p "__static_attributes__" 2524 (r 1784))] 5) #[]
noncomputable def o1770 (p : Params) : Obj := .mk (y "tuple") none (.seq #[] 0) #[]
noncomputable def o1771 (p : Params) : Obj := .mk .none none (.fields #[(n 369 0), (n 4 0), (r 1782)]) #[]
noncomputable def o1772 (p : Params) : Obj := .mk (y "code") none (.fields #[(s "BadFleet" 2505), (s "BadFleet" 2506), (s "/claim/cut.py" 2507), (n 367 0), (n 0 0), (n 0 0), (n 0 0), (n 0 0), (r 1773), (.bool false), (n 181 0), (r 1774), .none, .none, .none, .none, (n 2508 0), (n 367 0), (s "/claim/cut.py" 2509)]) #[]
noncomputable def o1773 (p : Params) : Obj := .mk (y "frame") none .plain #[(some (r 1775)), (some (r 3)), (some (r 1772)), none, (some (s "neverhalf.refusals" 1503)), none, (some (r 0))]
noncomputable def o1774 (p : Params) : Obj := .mk (y "tuple") none (.seq #[] 0) #[]
noncomputable def o1775 (p : Params) : Obj := .mk .none none (.fields #[]) #[]
noncomputable def o1776 (p : Params) : Obj := .mk (y "tuple") none (.seq #[(s "self" 2518), (s "fleet" 2519)] 0) #[]
noncomputable def o1777 (p : Params) : Obj := .mk (y "tuple") none (.seq #[] 0) #[]
noncomputable def o1778 (p : Params) : Obj := .mk .none none (.func (fI 98 "BadFleet.__init__" 0 [] .none .none .none .none none .none .none 0)) #[]
noncomputable def o1779 (p : Params) : Obj := .mk (y "code") none (.fields #[(s "__init__" 2515), (s "BadFleet.__init__" 2516), (s "/claim/cut.py" 2517), (n 369 0), (n 2 0), (n 0 0), (n 0 0), (n 3 0), (r 1777), (.bool true), (n 181 0), (r 1778), .none, (r 1779), (r 1780), (r 1781), (n 2520 0), (n 369 0), (s "/claim/cut.py" 2521)]) #[]
noncomputable def o1780 (p : Params) : Obj := .mk (y "function") none (.func (fI 98 "BadFleet.__init__" 3 [] .none .none .none (s "neverhalf.refusals" 1503) none (r 1782) .none 0)) #[]
noncomputable def o1781 (p : Params) : Obj := .mk (y "tuple") none (.seq #[(s "fleet" 2523)] 0) #[]
noncomputable def o1782 (p : Params) : Obj := .mk (y "dict") none (.dict #[(e p "__module__" 2510 (s "neverhalf.refusals" 1503)), (e p "__firstlineno__" 2514 (n 367 2513)), (e p "__init__" 2522 (r 1783)), (e p "__static_attributes__" 2524 (r 1784)), (e p "__doc__" 2525 .none)] 2) #[]
noncomputable def o1783 (p : Params) : Obj := .mk (y "type") none (.cls (ClassData.mk "BadFleet" [(r 24)] [(r 1786), (r 24), (y "ValueError"), (y "Exception"), (y "BaseException"), (y "object")] 1785 "BadFleet" true [] [] false none false)) #[(some (r 1770)), none, (some (s "BadFleet" 2503)), (some (s "BadFleet" 2511)), (some (u "ValueError.__new__")), (some (.bool true))]
noncomputable def o1784 (p : Params) : Obj := .mk (y "super") none (.fields #[(r 1786), (r 1786), (r 1786)]) #[]
noncomputable def o1785 (p : Params) : Obj := .mk (y "builtin_function_or_method") none (.fields #[(u "object.__init_subclass__"), (r 1786)]) #[]
noncomputable def o1786 (p : Params) : Obj := .mk (y "tuple") none (.seq #[(r 24)] 0) #[]
noncomputable def o1787 (p : Params) : Obj := .mk (y "builtin_function_or_method") none (.fields #[(u "type.__prepare__"), (y "type")]) #[]
noncomputable def o1788 (p : Params) : Obj := .mk (y "dict") none (.dict #[(e p "__module__" 2535 (s "neverhalf.refusals" 1503)), (e p "__qualname__" 2537 (s "BadParts" 2536)), (e p "__firstlineno__" 2539 (n 371 2538)), (e p "__init__" 2547 (r 1802)), (e p "__static_attributes__" 2549 (r 1803))] 5) #[]
noncomputable def o1789 (p : Params) : Obj := .mk (y "tuple") none (.seq #[] 0) #[]
noncomputable def o1790 (p : Params) : Obj := .mk .none none (.fields #[(n 373 0), (n 4 0), (r 1801)]) #[]
noncomputable def o1791 (p : Params) : Obj := .mk (y "code") none (.fields #[(s "BadParts" 2530), (s "BadParts" 2531), (s "/claim/cut.py" 2532), (n 371 0), (n 0 0), (n 0 0), (n 0 0), (n 0 0), (r 1792), (.bool false), (n 181 0), (r 1793), .none, .none, .none, .none, (n 2533 0), (n 371 0), (s "/claim/cut.py" 2534)]) #[]
noncomputable def o1792 (p : Params) : Obj := .mk (y "frame") none .plain #[(some (r 1794)), (some (r 3)), (some (r 1791)), none, (some (s "neverhalf.refusals" 1503)), none, (some (r 0))]
noncomputable def o1793 (p : Params) : Obj := .mk (y "tuple") none (.seq #[] 0) #[]
noncomputable def o1794 (p : Params) : Obj := .mk .none none (.fields #[]) #[]
noncomputable def o1795 (p : Params) : Obj := .mk (y "tuple") none (.seq #[(s "self" 2543), (s "parts" 2544)] 0) #[]
noncomputable def o1796 (p : Params) : Obj := .mk (y "tuple") none (.seq #[] 0) #[]
noncomputable def o1797 (p : Params) : Obj := .mk .none none (.func (fI 99 "BadParts.__init__" 0 [] .none .none .none .none none .none .none 0)) #[]
noncomputable def o1798 (p : Params) : Obj := .mk (y "code") none (.fields #[(s "__init__" 2540), (s "BadParts.__init__" 2541), (s "/claim/cut.py" 2542), (n 373 0), (n 2 0), (n 0 0), (n 0 0), (n 3 0), (r 1796), (.bool true), (n 181 0), (r 1797), .none, (r 1798), (r 1799), (r 1800), (n 2545 0), (n 373 0), (s "/claim/cut.py" 2546)]) #[]
noncomputable def o1799 (p : Params) : Obj := .mk (y "function") none (.func (fI 99 "BadParts.__init__" 3 [] .none .none .none (s "neverhalf.refusals" 1503) none (r 1801) .none 0)) #[]
noncomputable def o1800 (p : Params) : Obj := .mk (y "tuple") none (.seq #[(s "parts" 2548)] 0) #[]
noncomputable def o1801 (p : Params) : Obj := .mk (y "dict") none (.dict #[(e p "__module__" 2535 (s "neverhalf.refusals" 1503)), (e p "__firstlineno__" 2539 (n 371 2538)), (e p "__init__" 2547 (r 1802)), (e p "__static_attributes__" 2549 (r 1803)), (e p "__doc__" 2550 .none)] 2) #[]
noncomputable def o1802 (p : Params) : Obj := .mk (y "type") none (.cls (ClassData.mk "BadParts" [(r 24)] [(r 1805), (r 24), (y "ValueError"), (y "Exception"), (y "BaseException"), (y "object")] 1804 "BadParts" true [] [] false none false)) #[(some (r 1789)), none, (some (s "BadParts" 2528)), (some (s "BadParts" 2536)), (some (u "ValueError.__new__")), (some (.bool true))]
noncomputable def o1803 (p : Params) : Obj := .mk (y "super") none (.fields #[(r 1805), (r 1805), (r 1805)]) #[]
noncomputable def o1804 (p : Params) : Obj := .mk (y "builtin_function_or_method") none (.fields #[(u "object.__init_subclass__"), (r 1805)]) #[]
noncomputable def o1805 (p : Params) : Obj := .mk (y "tuple") none (.seq #[(r 24)] 0) #[]
noncomputable def o1806 (p : Params) : Obj := .mk (y "builtin_function_or_method") none (.fields #[(u "type.__prepare__"), (y "type")]) #[]
noncomputable def o1807 (p : Params) : Obj := .mk (y "dict") none (.dict #[(e p "__module__" 2560 (s "neverhalf.refusals" 1503)), (e p "__qualname__" 2562 (s "BadPresent" 2561)), (e p "__firstlineno__" 2564 (n 375 2563)), (e p "__init__" 2572 (r 1821)), (e p "__static_attributes__" 2574 (r 1822))] 5) #[]
noncomputable def o1808 (p : Params) : Obj := .mk (y "tuple") none (.seq #[] 0) #[]
noncomputable def o1809 (p : Params) : Obj := .mk .none none (.fields #[(n 377 0), (n 4 0), (r 1820)]) #[]
noncomputable def o1810 (p : Params) : Obj := .mk (y "code") none (.fields #[(s "BadPresent" 2555), (s "BadPresent" 2556), (s "/claim/cut.py" 2557), (n 375 0), (n 0 0), (n 0 0), (n 0 0), (n 0 0), (r 1811), (.bool false), (n 181 0), (r 1812), .none, .none, .none, .none, (n 2558 0), (n 375 0), (s "/claim/cut.py" 2559)]) #[]
noncomputable def o1811 (p : Params) : Obj := .mk (y "frame") none .plain #[(some (r 1813)), (some (r 3)), (some (r 1810)), none, (some (s "neverhalf.refusals" 1503)), none, (some (r 0))]
noncomputable def o1812 (p : Params) : Obj := .mk (y "tuple") none (.seq #[] 0) #[]
noncomputable def o1813 (p : Params) : Obj := .mk .none none (.fields #[]) #[]
noncomputable def o1814 (p : Params) : Obj := .mk (y "tuple") none (.seq #[(s "self" 2568), (s "present" 2569)] 0) #[]
noncomputable def o1815 (p : Params) : Obj := .mk (y "tuple") none (.seq #[] 0) #[]
noncomputable def o1816 (p : Params) : Obj := .mk .none none (.func (fI 100 "BadPresent.__init__" 0 [] .none .none .none .none none .none .none 0)) #[]
noncomputable def o1817 (p : Params) : Obj := .mk (y "code") none (.fields #[(s "__init__" 2565), (s "BadPresent.__init__" 2566), (s "/claim/cut.py" 2567), (n 377 0), (n 2 0), (n 0 0), (n 0 0), (n 3 0), (r 1815), (.bool true), (n 181 0), (r 1816), .none, (r 1817), (r 1818), (r 1819), (n 2570 0), (n 377 0), (s "/claim/cut.py" 2571)]) #[]
noncomputable def o1818 (p : Params) : Obj := .mk (y "function") none (.func (fI 100 "BadPresent.__init__" 3 [] .none .none .none (s "neverhalf.refusals" 1503) none (r 1820) .none 0)) #[]
noncomputable def o1819 (p : Params) : Obj := .mk (y "tuple") none (.seq #[(s "present" 2573)] 0) #[]
noncomputable def o1820 (p : Params) : Obj := .mk (y "dict") none (.dict #[(e p "__module__" 2560 (s "neverhalf.refusals" 1503)), (e p "__firstlineno__" 2564 (n 375 2563)), (e p "__init__" 2572 (r 1821)), (e p "__static_attributes__" 2574 (r 1822)), (e p "__doc__" 2575 .none)] 2) #[]
noncomputable def o1821 (p : Params) : Obj := .mk (y "type") none (.cls (ClassData.mk "BadPresent" [(r 24)] [(r 1824), (r 24), (y "ValueError"), (y "Exception"), (y "BaseException"), (y "object")] 1823 "BadPresent" true [] [] false none false)) #[(some (r 1808)), none, (some (s "BadPresent" 2553)), (some (s "BadPresent" 2561)), (some (u "ValueError.__new__")), (some (.bool true))]
noncomputable def o1822 (p : Params) : Obj := .mk (y "super") none (.fields #[(r 1824), (r 1824), (r 1824)]) #[]
noncomputable def o1823 (p : Params) : Obj := .mk (y "builtin_function_or_method") none (.fields #[(u "object.__init_subclass__"), (r 1824)]) #[]
noncomputable def o1824 (p : Params) : Obj := .mk (y "tuple") none (.seq #[(r 24)] 0) #[]
noncomputable def o1825 (p : Params) : Obj := .mk (y "builtin_function_or_method") none (.fields #[(u "type.__prepare__"), (y "type")]) #[]
noncomputable def o1826 (p : Params) : Obj := .mk (y "dict") none (.dict #[(e p "__module__" 2585 (s "neverhalf.refusals" 1503)), (e p "__qualname__" 2587 (s "BadBroadcast" 2586)), (e p "__firstlineno__" 2589 (n 379 2588)), (e p "__init__" 2597 (r 1840)), (e p "__static_attributes__" 2599 (r 1841))] 5) #[]
noncomputable def o1827 (p : Params) : Obj := .mk (y "tuple") none (.seq #[] 0) #[]
noncomputable def o1828 (p : Params) : Obj := .mk .none none (.fields #[(n 381 0), (n 4 0), (r 1839)]) #[]
noncomputable def o1829 (p : Params) : Obj := .mk (y "code") none (.fields #[(s "BadBroadcast" 2580), (s "BadBroadcast" 2581), (s "/claim/cut.py" 2582), (n 379 0), (n 0 0), (n 0 0), (n 0 0), (n 0 0), (r 1830), (.bool false), (n 181 0), (r 1831), .none, .none, .none, .none, (n 2583 0), (n 379 0), (s "/claim/cut.py" 2584)]) #[]
noncomputable def o1830 (p : Params) : Obj := .mk (y "frame") none .plain #[(some (r 1832)), (some (r 3)), (some (r 1829)), none, (some (s "neverhalf.refusals" 1503)), none, (some (r 0))]
noncomputable def o1831 (p : Params) : Obj := .mk (y "tuple") none (.seq #[] 0) #[]
noncomputable def o1832 (p : Params) : Obj := .mk .none none (.fields #[]) #[]
noncomputable def o1833 (p : Params) : Obj := .mk (y "tuple") none (.seq #[(s "self" 2593), (s "broadcast" 2594)] 0) #[]
noncomputable def o1834 (p : Params) : Obj := .mk (y "tuple") none (.seq #[] 0) #[]
noncomputable def o1835 (p : Params) : Obj := .mk .none none (.func (fI 101 "BadBroadcast.__init__" 0 [] .none .none .none .none none .none .none 0)) #[]
noncomputable def o1836 (p : Params) : Obj := .mk (y "code") none (.fields #[(s "__init__" 2590), (s "BadBroadcast.__init__" 2591), (s "/claim/cut.py" 2592), (n 381 0), (n 2 0), (n 0 0), (n 0 0), (n 3 0), (r 1834), (.bool true), (n 181 0), (r 1835), .none, (r 1836), (r 1837), (r 1838), (n 2595 0), (n 381 0), (s "/claim/cut.py" 2596)]) #[]
noncomputable def o1837 (p : Params) : Obj := .mk (y "function") none (.func (fI 101 "BadBroadcast.__init__" 3 [] .none .none .none (s "neverhalf.refusals" 1503) none (r 1839) .none 0)) #[]
noncomputable def o1838 (p : Params) : Obj := .mk (y "tuple") none (.seq #[(s "broadcast" 2598)] 0) #[]
noncomputable def o1839 (p : Params) : Obj := .mk (y "dict") none (.dict #[(e p "__module__" 2585 (s "neverhalf.refusals" 1503)), (e p "__firstlineno__" 2589 (n 379 2588)), (e p "__init__" 2597 (r 1840)), (e p "__static_attributes__" 2599 (r 1841)), (e p "__doc__" 2600 .none)] 2) #[]
noncomputable def o1840 (p : Params) : Obj := .mk (y "type") none (.cls (ClassData.mk "BadBroadcast" [(r 24)] [(r 1843), (r 24), (y "ValueError"), (y "Exception"), (y "BaseException"), (y "object")] 1842 "BadBroadcast" true [] [] false none false)) #[(some (r 1827)), none, (some (s "BadBroadcast" 2578)), (some (s "BadBroadcast" 2586)), (some (u "ValueError.__new__")), (some (.bool true))]
noncomputable def o1841 (p : Params) : Obj := .mk (y "super") none (.fields #[(r 1843), (r 1843), (r 1843)]) #[]
noncomputable def o1842 (p : Params) : Obj := .mk (y "builtin_function_or_method") none (.fields #[(u "object.__init_subclass__"), (r 1843)]) #[]
noncomputable def o1843 (p : Params) : Obj := .mk (y "tuple") none (.seq #[(r 24)] 0) #[]
noncomputable def o1844 (p : Params) : Obj := .mk (y "builtin_function_or_method") none (.fields #[(u "type.__prepare__"), (y "type")]) #[]
noncomputable def o1845 (p : Params) : Obj := .mk (y "dict") none (.dict #[(e p "__module__" 2610 (s "neverhalf.refusals" 1503)), (e p "__qualname__" 2612 (s "BadPlan" 2611)), (e p "__firstlineno__" 2614 (n 383 2613)), (e p "__init__" 2622 (r 1859)), (e p "__static_attributes__" 2624 (r 1860))] 5) #[]
noncomputable def o1846 (p : Params) : Obj := .mk (y "tuple") none (.seq #[] 0) #[]
noncomputable def o1847 (p : Params) : Obj := .mk .none none (.fields #[(n 385 0), (n 4 0), (r 1858)]) #[]
noncomputable def o1848 (p : Params) : Obj := .mk (y "code") none (.fields #[(s "BadPlan" 2605), (s "BadPlan" 2606), (s "/claim/cut.py" 2607), (n 383 0), (n 0 0), (n 0 0), (n 0 0), (n 0 0), (r 1849), (.bool false), (n 181 0), (r 1850), .none, .none, .none, .none, (n 2608 0), (n 383 0), (s "/claim/cut.py" 2609)]) #[]
noncomputable def o1849 (p : Params) : Obj := .mk (y "frame") none .plain #[(some (r 1851)), (some (r 3)), (some (r 1848)), none, (some (s "neverhalf.refusals" 1503)), none, (some (r 0))]
noncomputable def o1850 (p : Params) : Obj := .mk (y "tuple") none (.seq #[] 0) #[]
noncomputable def o1851 (p : Params) : Obj := .mk .none none (.fields #[]) #[]
noncomputable def o1852 (p : Params) : Obj := .mk (y "tuple") none (.seq #[(s "self" 2618), (s "plan" 2619)] 0) #[]
noncomputable def o1853 (p : Params) : Obj := .mk (y "tuple") none (.seq #[] 0) #[]
noncomputable def o1854 (p : Params) : Obj := .mk .none none (.func (fI 102 "BadPlan.__init__" 0 [] .none .none .none .none none .none .none 0)) #[]
noncomputable def o1855 (p : Params) : Obj := .mk (y "code") none (.fields #[(s "__init__" 2615), (s "BadPlan.__init__" 2616), (s "/claim/cut.py" 2617), (n 385 0), (n 2 0), (n 0 0), (n 0 0), (n 3 0), (r 1853), (.bool true), (n 181 0), (r 1854), .none, (r 1855), (r 1856), (r 1857), (n 2620 0), (n 385 0), (s "/claim/cut.py" 2621)]) #[]
noncomputable def o1856 (p : Params) : Obj := .mk (y "function") none (.func (fI 102 "BadPlan.__init__" 3 [] .none .none .none (s "neverhalf.refusals" 1503) none (r 1858) .none 0)) #[]
noncomputable def o1857 (p : Params) : Obj := .mk (y "tuple") none (.seq #[(s "plan" 2623)] 0) #[]
noncomputable def o1858 (p : Params) : Obj := .mk (y "dict") none (.dict #[(e p "__module__" 2610 (s "neverhalf.refusals" 1503)), (e p "__firstlineno__" 2614 (n 383 2613)), (e p "__init__" 2622 (r 1859)), (e p "__static_attributes__" 2624 (r 1860)), (e p "__doc__" 2625 .none)] 2) #[]
noncomputable def o1859 (p : Params) : Obj := .mk (y "type") none (.cls (ClassData.mk "BadPlan" [(r 24)] [(r 1862), (r 24), (y "ValueError"), (y "Exception"), (y "BaseException"), (y "object")] 1861 "BadPlan" true [] [] false none false)) #[(some (r 1846)), none, (some (s "BadPlan" 2603)), (some (s "BadPlan" 2611)), (some (u "ValueError.__new__")), (some (.bool true))]
noncomputable def o1860 (p : Params) : Obj := .mk (y "super") none (.fields #[(r 1862), (r 1862), (r 1862)]) #[]
noncomputable def o1861 (p : Params) : Obj := .mk (y "builtin_function_or_method") none (.fields #[(u "object.__init_subclass__"), (r 1862)]) #[]
noncomputable def o1862 (p : Params) : Obj := .mk (y "tuple") none (.seq #[(r 24)] 0) #[]
noncomputable def o1863 (p : Params) : Obj := .mk (y "builtin_function_or_method") none (.fields #[(u "type.__prepare__"), (y "type")]) #[]
noncomputable def o1864 (p : Params) : Obj := .mk (y "dict") none (.dict #[(e p "__module__" 2635 (s "neverhalf.refusals" 1503)), (e p "__qualname__" 2637 (s "BadBreaks" 2636)), (e p "__firstlineno__" 2639 (n 387 2638)), (e p "__init__" 2647 (r 1878)), (e p "__static_attributes__" 2649 (r 1879))] 5) #[]
noncomputable def o1865 (p : Params) : Obj := .mk (y "tuple") none (.seq #[] 0) #[]
noncomputable def o1866 (p : Params) : Obj := .mk .none none (.fields #[(n 389 0), (n 4 0), (r 1877)]) #[]
noncomputable def o1867 (p : Params) : Obj := .mk (y "code") none (.fields #[(s "BadBreaks" 2630), (s "BadBreaks" 2631), (s "/claim/cut.py" 2632), (n 387 0), (n 0 0), (n 0 0), (n 0 0), (n 0 0), (r 1868), (.bool false), (n 181 0), (r 1869), .none, .none, .none, .none, (n 2633 0), (n 387 0), (s "/claim/cut.py" 2634)]) #[]
noncomputable def o1868 (p : Params) : Obj := .mk (y "frame") none .plain #[(some (r 1870)), (some (r 3)), (some (r 1867)), none, (some (s "neverhalf.refusals" 1503)), none, (some (r 0))]
noncomputable def o1869 (p : Params) : Obj := .mk (y "tuple") none (.seq #[] 0) #[]
noncomputable def o1870 (p : Params) : Obj := .mk .none none (.fields #[]) #[]
noncomputable def o1871 (p : Params) : Obj := .mk (y "tuple") none (.seq #[(s "self" 2643), (s "breaks" 2644)] 0) #[]
noncomputable def o1872 (p : Params) : Obj := .mk (y "tuple") none (.seq #[] 0) #[]
noncomputable def o1873 (p : Params) : Obj := .mk .none none (.func (fI 103 "BadBreaks.__init__" 0 [] .none .none .none .none none .none .none 0)) #[]
noncomputable def o1874 (p : Params) : Obj := .mk (y "code") none (.fields #[(s "__init__" 2640), (s "BadBreaks.__init__" 2641), (s "/claim/cut.py" 2642), (n 389 0), (n 2 0), (n 0 0), (n 0 0), (n 3 0), (r 1872), (.bool true), (n 181 0), (r 1873), .none, (r 1874), (r 1875), (r 1876), (n 2645 0), (n 389 0), (s "/claim/cut.py" 2646)]) #[]
noncomputable def o1875 (p : Params) : Obj := .mk (y "function") none (.func (fI 103 "BadBreaks.__init__" 3 [] .none .none .none (s "neverhalf.refusals" 1503) none (r 1877) .none 0)) #[]
noncomputable def o1876 (p : Params) : Obj := .mk (y "tuple") none (.seq #[(s "breaks" 2648)] 0) #[]
noncomputable def o1877 (p : Params) : Obj := .mk (y "dict") none (.dict #[(e p "__module__" 2635 (s "neverhalf.refusals" 1503)), (e p "__firstlineno__" 2639 (n 387 2638)), (e p "__init__" 2647 (r 1878)), (e p "__static_attributes__" 2649 (r 1879)), (e p "__doc__" 2650 .none)] 2) #[]
noncomputable def o1878 (p : Params) : Obj := .mk (y "type") none (.cls (ClassData.mk "BadBreaks" [(r 24)] [(r 1881), (r 24), (y "ValueError"), (y "Exception"), (y "BaseException"), (y "object")] 1880 "BadBreaks" true [] [] false none false)) #[(some (r 1865)), none, (some (s "BadBreaks" 2628)), (some (s "BadBreaks" 2636)), (some (u "ValueError.__new__")), (some (.bool true))]
noncomputable def o1879 (p : Params) : Obj := .mk (y "super") none (.fields #[(r 1881), (r 1881), (r 1881)]) #[]
noncomputable def o1880 (p : Params) : Obj := .mk (y "builtin_function_or_method") none (.fields #[(u "object.__init_subclass__"), (r 1881)]) #[]
noncomputable def o1881 (p : Params) : Obj := .mk (y "tuple") none (.seq #[(r 24)] 0) #[]
noncomputable def o1882 (p : Params) : Obj := .mk (y "builtin_function_or_method") none (.fields #[(u "type.__prepare__"), (y "type")]) #[]
noncomputable def o1883 (p : Params) : Obj := .mk (y "dict") none (.dict #[(e p "__module__" 2660 (s "neverhalf.refusals" 1503)), (e p "__qualname__" 2662 (s "BadFunction" 2661)), (e p "__firstlineno__" 2664 (n 391 2663)), (e p "__init__" 2672 (r 1897)), (e p "__static_attributes__" 2674 (r 1898))] 5) #[]
noncomputable def o1884 (p : Params) : Obj := .mk (y "tuple") none (.seq #[] 0) #[]
noncomputable def o1885 (p : Params) : Obj := .mk .none none (.fields #[(n 393 0), (n 4 0), (r 1896)]) #[]
noncomputable def o1886 (p : Params) : Obj := .mk (y "code") none (.fields #[(s "BadFunction" 2655), (s "BadFunction" 2656), (s "/claim/cut.py" 2657), (n 391 0), (n 0 0), (n 0 0), (n 0 0), (n 0 0), (r 1887), (.bool false), (n 181 0), (r 1888), .none, .none, .none, .none, (n 2658 0), (n 391 0), (s "/claim/cut.py" 2659)]) #[]
noncomputable def o1887 (p : Params) : Obj := .mk (y "frame") none .plain #[(some (r 1889)), (some (r 3)), (some (r 1886)), none, (some (s "neverhalf.refusals" 1503)), none, (some (r 0))]
noncomputable def o1888 (p : Params) : Obj := .mk (y "tuple") none (.seq #[] 0) #[]
noncomputable def o1889 (p : Params) : Obj := .mk .none none (.fields #[]) #[]
noncomputable def o1890 (p : Params) : Obj := .mk (y "tuple") none (.seq #[(s "self" 2668), (s "function" 2669)] 0) #[]
noncomputable def o1891 (p : Params) : Obj := .mk (y "tuple") none (.seq #[] 0) #[]
noncomputable def o1892 (p : Params) : Obj := .mk .none none (.func (fI 104 "BadFunction.__init__" 0 [] .none .none .none .none none .none .none 0)) #[]
noncomputable def o1893 (p : Params) : Obj := .mk (y "code") none (.fields #[(s "__init__" 2665), (s "BadFunction.__init__" 2666), (s "/claim/cut.py" 2667), (n 393 0), (n 2 0), (n 0 0), (n 0 0), (n 3 0), (r 1891), (.bool true), (n 181 0), (r 1892), .none, (r 1893), (r 1894), (r 1895), (n 2670 0), (n 393 0), (s "/claim/cut.py" 2671)]) #[]
noncomputable def o1894 (p : Params) : Obj := .mk (y "function") none (.func (fI 104 "BadFunction.__init__" 3 [] .none .none .none (s "neverhalf.refusals" 1503) none (r 1896) .none 0)) #[]
noncomputable def o1895 (p : Params) : Obj := .mk (y "tuple") none (.seq #[(s "function" 2673)] 0) #[]
noncomputable def o1896 (p : Params) : Obj := .mk (y "dict") none (.dict #[(e p "__module__" 2660 (s "neverhalf.refusals" 1503)), (e p "__firstlineno__" 2664 (n 391 2663)), (e p "__init__" 2672 (r 1897)), (e p "__static_attributes__" 2674 (r 1898)), (e p "__doc__" 2675 .none)] 2) #[]
noncomputable def o1897 (p : Params) : Obj := .mk (y "type") none (.cls (ClassData.mk "BadFunction" [(r 24)] [(r 1900), (r 24), (y "ValueError"), (y "Exception"), (y "BaseException"), (y "object")] 1899 "BadFunction" true [] [] false none false)) #[(some (r 1884)), none, (some (s "BadFunction" 2653)), (some (s "BadFunction" 2661)), (some (u "ValueError.__new__")), (some (.bool true))]
noncomputable def o1898 (p : Params) : Obj := .mk (y "super") none (.fields #[(r 1900), (r 1900), (r 1900)]) #[]
noncomputable def o1899 (p : Params) : Obj := .mk (y "builtin_function_or_method") none (.fields #[(u "object.__init_subclass__"), (r 1900)]) #[]
noncomputable def o1900 (p : Params) : Obj := .mk (y "tuple") none (.seq #[(r 24)] 0) #[]
noncomputable def o1901 (p : Params) : Obj := .mk (y "builtin_function_or_method") none (.fields #[(u "type.__prepare__"), (y "type")]) #[]
noncomputable def o1902 (p : Params) : Obj := .mk (y "dict") none (.dict #[(e p "__module__" 2685 (s "neverhalf.refusals" 1503)), (e p "__qualname__" 2687 (s "NotPlain" 2686)), (e p "__firstlineno__" 2689 (n 395 2688)), (e p "__static_attributes__" 2690 (r 1910))] 4) #[]
noncomputable def o1903 (p : Params) : Obj := .mk (y "tuple") none (.seq #[] 0) #[]
noncomputable def o1904 (p : Params) : Obj := .mk .none none (.fields #[]) #[]
noncomputable def o1905 (p : Params) : Obj := .mk (y "code") none (.fields #[(s "NotPlain" 2680), (s "NotPlain" 2681), (s "/claim/cut.py" 2682), (n 395 0), (n 0 0), (n 0 0), (n 0 0), (n 0 0), (r 1906), (.bool false), (n 181 0), (r 1907), .none, .none, .none, .none, (n 2683 0), (n 395 0), (s "/claim/cut.py" 2684)]) #[]
noncomputable def o1906 (p : Params) : Obj := .mk (y "frame") none .plain #[(some (r 1908)), (some (r 3)), (some (r 1905)), none, (some (s "neverhalf.refusals" 1503)), none, (some (r 0))]
noncomputable def o1907 (p : Params) : Obj := .mk (y "tuple") none (.seq #[] 0) #[]
noncomputable def o1908 (p : Params) : Obj := .mk (y "dict") none (.dict #[(e p "__module__" 2685 (s "neverhalf.refusals" 1503)), (e p "__firstlineno__" 2689 (n 395 2688)), (e p "__static_attributes__" 2690 (r 1910)), (e p "__doc__" 2691 .none)] 2) #[]
noncomputable def o1909 (p : Params) : Obj := .mk (y "type") none (.cls (ClassData.mk "NotPlain" [(r 24)] [(r 1912), (r 24), (y "ValueError"), (y "Exception"), (y "BaseException"), (y "object")] 1911 "NotPlain" true [] [] false none false)) #[(some (r 1903)), none, (some (s "NotPlain" 2678)), (some (s "NotPlain" 2686)), (some (u "ValueError.__new__")), (some (.bool true))]
noncomputable def o1910 (p : Params) : Obj := .mk (y "super") none (.fields #[(r 1912), (r 1912), (r 1912)]) #[]
noncomputable def o1911 (p : Params) : Obj := .mk (y "builtin_function_or_method") none (.fields #[(u "object.__init_subclass__"), (r 1912)]) #[]
noncomputable def o1912 (p : Params) : Obj := .mk (y "tuple") none (.seq #[(r 24)] 0) #[]
noncomputable def o1913 (p : Params) : Obj := .mk (y "builtin_function_or_method") none (.fields #[(u "type.__prepare__"), (y "type")]) #[]
noncomputable def o1914 (p : Params) : Obj := .mk (y "dict") none (.dict #[(e p "__module__" 2701 (s "neverhalf.refusals" 1503)), (e p "__qualname__" 2703 (s "BadShelf" 2702)), (e p "__firstlineno__" 2705 (n 397 2704)), (e p "__init__" 2713 (r 1928)), (e p "__static_attributes__" 2715 (r 1929))] 5) #[]
noncomputable def o1915 (p : Params) : Obj := .mk (y "tuple") none (.seq #[] 0) #[]
noncomputable def o1916 (p : Params) : Obj := .mk .none none (.fields #[(n 399 0), (n 4 0), (r 1927)]) #[]
noncomputable def o1917 (p : Params) : Obj := .mk (y "code") none (.fields #[(s "BadShelf" 2696), (s "BadShelf" 2697), (s "/claim/cut.py" 2698), (n 397 0), (n 0 0), (n 0 0), (n 0 0), (n 0 0), (r 1918), (.bool false), (n 181 0), (r 1919), .none, .none, .none, .none, (n 2699 0), (n 397 0), (s "/claim/cut.py" 2700)]) #[]
noncomputable def o1918 (p : Params) : Obj := .mk (y "frame") none .plain #[(some (r 1920)), (some (r 3)), (some (r 1917)), none, (some (s "neverhalf.refusals" 1503)), none, (some (r 0))]
noncomputable def o1919 (p : Params) : Obj := .mk (y "tuple") none (.seq #[] 0) #[]
noncomputable def o1920 (p : Params) : Obj := .mk .none none (.fields #[]) #[]
noncomputable def o1921 (p : Params) : Obj := .mk (y "tuple") none (.seq #[(s "self" 2709), (s "shelf" 2710)] 0) #[]
noncomputable def o1922 (p : Params) : Obj := .mk (y "tuple") none (.seq #[] 0) #[]
noncomputable def o1923 (p : Params) : Obj := .mk .none none (.func (fI 106 "BadShelf.__init__" 0 [] .none .none .none .none none .none .none 0)) #[]
noncomputable def o1924 (p : Params) : Obj := .mk (y "code") none (.fields #[(s "__init__" 2706), (s "BadShelf.__init__" 2707), (s "/claim/cut.py" 2708), (n 399 0), (n 2 0), (n 0 0), (n 0 0), (n 3 0), (r 1922), (.bool true), (n 181 0), (r 1923), .none, (r 1924), (r 1925), (r 1926), (n 2711 0), (n 399 0), (s "/claim/cut.py" 2712)]) #[]
noncomputable def o1925 (p : Params) : Obj := .mk (y "function") none (.func (fI 106 "BadShelf.__init__" 3 [] .none .none .none (s "neverhalf.refusals" 1503) none (r 1927) .none 0)) #[]
noncomputable def o1926 (p : Params) : Obj := .mk (y "tuple") none (.seq #[(s "shelf" 2714)] 0) #[]
noncomputable def o1927 (p : Params) : Obj := .mk (y "dict") none (.dict #[(e p "__module__" 2701 (s "neverhalf.refusals" 1503)), (e p "__firstlineno__" 2705 (n 397 2704)), (e p "__init__" 2713 (r 1928)), (e p "__static_attributes__" 2715 (r 1929)), (e p "__doc__" 2716 .none)] 2) #[]
noncomputable def o1928 (p : Params) : Obj := .mk (y "type") none (.cls (ClassData.mk "BadShelf" [(r 24)] [(r 1931), (r 24), (y "ValueError"), (y "Exception"), (y "BaseException"), (y "object")] 1930 "BadShelf" true [] [] false none false)) #[(some (r 1915)), none, (some (s "BadShelf" 2694)), (some (s "BadShelf" 2702)), (some (u "ValueError.__new__")), (some (.bool true))]
noncomputable def o1929 (p : Params) : Obj := .mk (y "super") none (.fields #[(r 1931), (r 1931), (r 1931)]) #[]
noncomputable def o1930 (p : Params) : Obj := .mk (y "builtin_function_or_method") none (.fields #[(u "object.__init_subclass__"), (r 1931)]) #[]
noncomputable def o1931 (p : Params) : Obj := .mk (y "tuple") none (.seq #[(r 24)] 0) #[]
noncomputable def o1932 (p : Params) : Obj := .mk (y "builtin_function_or_method") none (.fields #[(u "type.__prepare__"), (y "type")]) #[]
noncomputable def o1933 (p : Params) : Obj := .mk (y "dict") none (.dict #[(e p "__module__" 2726 (s "neverhalf.refusals" 1503)), (e p "__qualname__" 2728 (s "NotListing" 2727)), (e p "__firstlineno__" 2730 (n 401 2729)), (e p "__init__" 2738 (r 1947)), (e p "__static_attributes__" 2740 (r 1948))] 5) #[]
noncomputable def o1934 (p : Params) : Obj := .mk (y "tuple") none (.seq #[] 0) #[]
noncomputable def o1935 (p : Params) : Obj := .mk .none none (.fields #[(n 403 0), (n 4 0), (r 1946)]) #[]
noncomputable def o1936 (p : Params) : Obj := .mk (y "code") none (.fields #[(s "NotListing" 2721), (s "NotListing" 2722), (s "/claim/cut.py" 2723), (n 401 0), (n 0 0), (n 0 0), (n 0 0), (n 0 0), (r 1937), (.bool false), (n 181 0), (r 1938), .none, .none, .none, .none, (n 2724 0), (n 401 0), (s "/claim/cut.py" 2725)]) #[]
noncomputable def o1937 (p : Params) : Obj := .mk (y "frame") none .plain #[(some (r 1939)), (some (r 3)), (some (r 1936)), none, (some (s "neverhalf.refusals" 1503)), none, (some (r 0))]
noncomputable def o1938 (p : Params) : Obj := .mk (y "tuple") none (.seq #[] 0) #[]
noncomputable def o1939 (p : Params) : Obj := .mk .none none (.fields #[]) #[]
noncomputable def o1940 (p : Params) : Obj := .mk (y "tuple") none (.seq #[(s "self" 2734), (s "why" 2735)] 0) #[]
noncomputable def o1941 (p : Params) : Obj := .mk (y "tuple") none (.seq #[] 0) #[]
noncomputable def o1942 (p : Params) : Obj := .mk .none none (.func (fI 107 "NotListing.__init__" 0 [] .none .none .none .none none .none .none 0)) #[]
noncomputable def o1943 (p : Params) : Obj := .mk (y "code") none (.fields #[(s "__init__" 2731), (s "NotListing.__init__" 2732), (s "/claim/cut.py" 2733), (n 403 0), (n 2 0), (n 0 0), (n 0 0), (n 3 0), (r 1941), (.bool true), (n 181 0), (r 1942), .none, (r 1943), (r 1944), (r 1945), (n 2736 0), (n 403 0), (s "/claim/cut.py" 2737)]) #[]
noncomputable def o1944 (p : Params) : Obj := .mk (y "function") none (.func (fI 107 "NotListing.__init__" 3 [] .none .none .none (s "neverhalf.refusals" 1503) none (r 1946) .none 0)) #[]
noncomputable def o1945 (p : Params) : Obj := .mk (y "tuple") none (.seq #[(s "why" 2739)] 0) #[]
noncomputable def o1946 (p : Params) : Obj := .mk (y "dict") none (.dict #[(e p "__module__" 2726 (s "neverhalf.refusals" 1503)), (e p "__firstlineno__" 2730 (n 401 2729)), (e p "__init__" 2738 (r 1947)), (e p "__static_attributes__" 2740 (r 1948)), (e p "__doc__" 2741 .none)] 2) #[]
noncomputable def o1947 (p : Params) : Obj := .mk (y "type") none (.cls (ClassData.mk "NotListing" [(r 24)] [(r 1950), (r 24), (y "ValueError"), (y "Exception"), (y "BaseException"), (y "object")] 1949 "NotListing" true [] [] false none false)) #[(some (r 1934)), none, (some (s "NotListing" 2719)), (some (s "NotListing" 2727)), (some (u "ValueError.__new__")), (some (.bool true))]
noncomputable def o1948 (p : Params) : Obj := .mk (y "super") none (.fields #[(r 1950), (r 1950), (r 1950)]) #[]
noncomputable def o1949 (p : Params) : Obj := .mk (y "builtin_function_or_method") none (.fields #[(u "object.__init_subclass__"), (r 1950)]) #[]
noncomputable def o1950 (p : Params) : Obj := .mk (y "tuple") none (.seq #[(r 24)] 0) #[]
noncomputable def o1951 (p : Params) : Obj := .mk (y "builtin_function_or_method") none (.fields #[(u "type.__prepare__"), (y "type")]) #[]
noncomputable def o1952 (p : Params) : Obj := .mk (y "dict") none (.dict #[(e p "__module__" 2751 (s "neverhalf.refusals" 1503)), (e p "__qualname__" 2753 (s "BadLog" 2752)), (e p "__firstlineno__" 2755 (n 405 2754)), (e p "__init__" 2763 (r 1966)), (e p "__static_attributes__" 2765 (r 1967))] 5) #[]
noncomputable def o1953 (p : Params) : Obj := .mk (y "tuple") none (.seq #[] 0) #[]
noncomputable def o1954 (p : Params) : Obj := .mk .none none (.fields #[(n 407 0), (n 4 0), (r 1965)]) #[]
noncomputable def o1955 (p : Params) : Obj := .mk (y "code") none (.fields #[(s "BadLog" 2746), (s "BadLog" 2747), (s "/claim/cut.py" 2748), (n 405 0), (n 0 0), (n 0 0), (n 0 0), (n 0 0), (r 1956), (.bool false), (n 181 0), (r 1957), .none, .none, .none, .none, (n 2749 0), (n 405 0), (s "/claim/cut.py" 2750)]) #[]
noncomputable def o1956 (p : Params) : Obj := .mk (y "frame") none .plain #[(some (r 1958)), (some (r 3)), (some (r 1955)), none, (some (s "neverhalf.refusals" 1503)), none, (some (r 0))]
noncomputable def o1957 (p : Params) : Obj := .mk (y "tuple") none (.seq #[] 0) #[]
noncomputable def o1958 (p : Params) : Obj := .mk .none none (.fields #[]) #[]
noncomputable def o1959 (p : Params) : Obj := .mk (y "tuple") none (.seq #[(s "self" 2759), (s "log" 2760)] 0) #[]
noncomputable def o1960 (p : Params) : Obj := .mk (y "tuple") none (.seq #[] 0) #[]
noncomputable def o1961 (p : Params) : Obj := .mk .none none (.func (fI 108 "BadLog.__init__" 0 [] .none .none .none .none none .none .none 0)) #[]
noncomputable def o1962 (p : Params) : Obj := .mk (y "code") none (.fields #[(s "__init__" 2756), (s "BadLog.__init__" 2757), (s "/claim/cut.py" 2758), (n 407 0), (n 2 0), (n 0 0), (n 0 0), (n 3 0), (r 1960), (.bool true), (n 181 0), (r 1961), .none, (r 1962), (r 1963), (r 1964), (n 2761 0), (n 407 0), (s "/claim/cut.py" 2762)]) #[]
noncomputable def o1963 (p : Params) : Obj := .mk (y "function") none (.func (fI 108 "BadLog.__init__" 3 [] .none .none .none (s "neverhalf.refusals" 1503) none (r 1965) .none 0)) #[]
noncomputable def o1964 (p : Params) : Obj := .mk (y "tuple") none (.seq #[(s "log" 2764)] 0) #[]
noncomputable def o1965 (p : Params) : Obj := .mk (y "dict") none (.dict #[(e p "__module__" 2751 (s "neverhalf.refusals" 1503)), (e p "__firstlineno__" 2755 (n 405 2754)), (e p "__init__" 2763 (r 1966)), (e p "__static_attributes__" 2765 (r 1967)), (e p "__doc__" 2766 .none)] 2) #[]
noncomputable def o1966 (p : Params) : Obj := .mk (y "type") none (.cls (ClassData.mk "BadLog" [(r 24)] [(r 1969), (r 24), (y "ValueError"), (y "Exception"), (y "BaseException"), (y "object")] 1968 "BadLog" true [] [] false none false)) #[(some (r 1953)), none, (some (s "BadLog" 2744)), (some (s "BadLog" 2752)), (some (u "ValueError.__new__")), (some (.bool true))]
noncomputable def o1967 (p : Params) : Obj := .mk (y "super") none (.fields #[(r 1969), (r 1969), (r 1969)]) #[]
noncomputable def o1968 (p : Params) : Obj := .mk (y "builtin_function_or_method") none (.fields #[(u "object.__init_subclass__"), (r 1969)]) #[]
noncomputable def o1969 (p : Params) : Obj := .mk (y "tuple") none (.seq #[(r 24)] 0) #[]
noncomputable def o1970 (p : Params) : Obj := .mk (y "builtin_function_or_method") none (.fields #[(u "type.__prepare__"), (y "type")]) #[]
noncomputable def o1971 (p : Params) : Obj := .mk (y "dict") none (.dict #[(e p "__module__" 2776 (s "neverhalf.refusals" 1503)), (e p "__qualname__" 2778 (s "BadEntry" 2777)), (e p "__firstlineno__" 2780 (n 409 2779)), (e p "__init__" 2788 (r 1985)), (e p "__static_attributes__" 2790 (r 1986))] 5) #[]
noncomputable def o1972 (p : Params) : Obj := .mk (y "tuple") none (.seq #[] 0) #[]
noncomputable def o1973 (p : Params) : Obj := .mk .none none (.fields #[(n 411 0), (n 4 0), (r 1984)]) #[]
noncomputable def o1974 (p : Params) : Obj := .mk (y "code") none (.fields #[(s "BadEntry" 2771), (s "BadEntry" 2772), (s "/claim/cut.py" 2773), (n 409 0), (n 0 0), (n 0 0), (n 0 0), (n 0 0), (r 1975), (.bool false), (n 181 0), (r 1976), .none, .none, .none, .none, (n 2774 0), (n 409 0), (s "/claim/cut.py" 2775)]) #[]
noncomputable def o1975 (p : Params) : Obj := .mk (y "frame") none .plain #[(some (r 1977)), (some (r 3)), (some (r 1974)), none, (some (s "neverhalf.refusals" 1503)), none, (some (r 0))]
noncomputable def o1976 (p : Params) : Obj := .mk (y "tuple") none (.seq #[] 0) #[]
noncomputable def o1977 (p : Params) : Obj := .mk .none none (.fields #[]) #[]
noncomputable def o1978 (p : Params) : Obj := .mk (y "tuple") none (.seq #[(s "self" 2784), (s "j" 2785)] 0) #[]
noncomputable def o1979 (p : Params) : Obj := .mk (y "tuple") none (.seq #[] 0) #[]
noncomputable def o1980 (p : Params) : Obj := .mk .none none (.func (fI 109 "BadEntry.__init__" 0 [] .none .none .none .none none .none .none 0)) #[]
noncomputable def o1981 (p : Params) : Obj := .mk (y "code") none (.fields #[(s "__init__" 2781), (s "BadEntry.__init__" 2782), (s "/claim/cut.py" 2783), (n 411 0), (n 2 0), (n 0 0), (n 0 0), (n 3 0), (r 1979), (.bool true), (n 181 0), (r 1980), .none, (r 1981), (r 1982), (r 1983), (n 2786 0), (n 411 0), (s "/claim/cut.py" 2787)]) #[]
noncomputable def o1982 (p : Params) : Obj := .mk (y "function") none (.func (fI 109 "BadEntry.__init__" 3 [] .none .none .none (s "neverhalf.refusals" 1503) none (r 1984) .none 0)) #[]
noncomputable def o1983 (p : Params) : Obj := .mk (y "tuple") none (.seq #[(s "j" 2789)] 0) #[]
noncomputable def o1984 (p : Params) : Obj := .mk (y "dict") none (.dict #[(e p "__module__" 2776 (s "neverhalf.refusals" 1503)), (e p "__firstlineno__" 2780 (n 409 2779)), (e p "__init__" 2788 (r 1985)), (e p "__static_attributes__" 2790 (r 1986)), (e p "__doc__" 2791 .none)] 2) #[]
noncomputable def o1985 (p : Params) : Obj := .mk (y "type") none (.cls (ClassData.mk "BadEntry" [(r 24)] [(r 1988), (r 24), (y "ValueError"), (y "Exception"), (y "BaseException"), (y "object")] 1987 "BadEntry" true [] [] false none false)) #[(some (r 1972)), none, (some (s "BadEntry" 2769)), (some (s "BadEntry" 2777)), (some (u "ValueError.__new__")), (some (.bool true))]
noncomputable def o1986 (p : Params) : Obj := .mk (y "super") none (.fields #[(r 1988), (r 1988), (r 1988)]) #[]
noncomputable def o1987 (p : Params) : Obj := .mk (y "builtin_function_or_method") none (.fields #[(u "object.__init_subclass__"), (r 1988)]) #[]
noncomputable def o1988 (p : Params) : Obj := .mk (y "tuple") none (.seq #[(r 24)] 0) #[]
noncomputable def o1989 (p : Params) : Obj := .mk (y "builtin_function_or_method") none (.fields #[(u "type.__prepare__"), (y "type")]) #[]
noncomputable def o1990 (p : Params) : Obj := .mk (y "dict") none (.dict #[(e p "__module__" 2801 (s "neverhalf.refusals" 1503)), (e p "__qualname__" 2803 (s "BadTexts" 2802)), (e p "__firstlineno__" 2805 (n 413 2804)), (e p "__init__" 2813 (r 2004)), (e p "__static_attributes__" 2815 (r 2005))] 5) #[]
noncomputable def o1991 (p : Params) : Obj := .mk (y "tuple") none (.seq #[] 0) #[]
noncomputable def o1992 (p : Params) : Obj := .mk .none none (.fields #[(n 415 0), (n 4 0), (r 2003)]) #[]
noncomputable def o1993 (p : Params) : Obj := .mk (y "code") none (.fields #[(s "BadTexts" 2796), (s "BadTexts" 2797), (s "/claim/cut.py" 2798), (n 413 0), (n 0 0), (n 0 0), (n 0 0), (n 0 0), (r 1994), (.bool false), (n 181 0), (r 1995), .none, .none, .none, .none, (n 2799 0), (n 413 0), (s "/claim/cut.py" 2800)]) #[]
noncomputable def o1994 (p : Params) : Obj := .mk (y "frame") none .plain #[(some (r 1996)), (some (r 3)), (some (r 1993)), none, (some (s "neverhalf.refusals" 1503)), none, (some (r 0))]
noncomputable def o1995 (p : Params) : Obj := .mk (y "tuple") none (.seq #[] 0) #[]
noncomputable def o1996 (p : Params) : Obj := .mk .none none (.fields #[]) #[]
noncomputable def o1997 (p : Params) : Obj := .mk (y "tuple") none (.seq #[(s "self" 2809), (s "texts" 2810)] 0) #[]
noncomputable def o1998 (p : Params) : Obj := .mk (y "tuple") none (.seq #[] 0) #[]
noncomputable def o1999 (p : Params) : Obj := .mk .none none (.func (fI 110 "BadTexts.__init__" 0 [] .none .none .none .none none .none .none 0)) #[]
noncomputable def o2000 (p : Params) : Obj := .mk (y "code") none (.fields #[(s "__init__" 2806), (s "BadTexts.__init__" 2807), (s "/claim/cut.py" 2808), (n 415 0), (n 2 0), (n 0 0), (n 0 0), (n 3 0), (r 1998), (.bool true), (n 181 0), (r 1999), .none, (r 2000), (r 2001), (r 2002), (n 2811 0), (n 415 0), (s "/claim/cut.py" 2812)]) #[]
noncomputable def o2001 (p : Params) : Obj := .mk (y "function") none (.func (fI 110 "BadTexts.__init__" 3 [] .none .none .none (s "neverhalf.refusals" 1503) none (r 2003) .none 0)) #[]
noncomputable def o2002 (p : Params) : Obj := .mk (y "tuple") none (.seq #[(s "texts" 2814)] 0) #[]
noncomputable def o2003 (p : Params) : Obj := .mk (y "dict") none (.dict #[(e p "__module__" 2801 (s "neverhalf.refusals" 1503)), (e p "__firstlineno__" 2805 (n 413 2804)), (e p "__init__" 2813 (r 2004)), (e p "__static_attributes__" 2815 (r 2005)), (e p "__doc__" 2816 .none)] 2) #[]
noncomputable def o2004 (p : Params) : Obj := .mk (y "type") none (.cls (ClassData.mk "BadTexts" [(r 24)] [(r 2007), (r 24), (y "ValueError"), (y "Exception"), (y "BaseException"), (y "object")] 2006 "BadTexts" true [] [] false none false)) #[(some (r 1991)), none, (some (s "BadTexts" 2794)), (some (s "BadTexts" 2802)), (some (u "ValueError.__new__")), (some (.bool true))]
noncomputable def o2005 (p : Params) : Obj := .mk (y "super") none (.fields #[(r 2007), (r 2007), (r 2007)]) #[]
noncomputable def o2006 (p : Params) : Obj := .mk (y "builtin_function_or_method") none (.fields #[(u "object.__init_subclass__"), (r 2007)]) #[]
noncomputable def T_f (p : Params) : BT := (.node (boot_o_0 p) (.node (boot_o_1 p) (.node (o1341 p) (.node (boot_o_7 p) (.node (o6 p) (.node (o22 p) (.node (o54 p) (.node (o118 p) (.node (o246 p) (.node (o502 p) (.node (o1017 p) .nil .nil) (.node (o1532 p) .nil .nil)) (.node (o761 p) (.node (o1273 p) .nil .nil) (.node (o1788 p) .nil .nil))) (.node (o374 p) (.node (o630 p) (.node (o1145 p) .nil .nil) (.node (o1660 p) .nil .nil)) (.node (o889 p) (.node (o1404 p) .nil .nil) (.node (o1916 p) .nil .nil)))) (.node (o182 p) (.node (o310 p) (.node (o566 p) (.node (o1081 p) .nil .nil) (.node (o1596 p) .nil .nil)) (.node (o825 p) (.node (o1337 p) .nil .nil) (.node (o1852 p) .nil .nil))) (.node (o438 p) (.node (o697 p) (.node (o1209 p) .nil .nil) (.node (o1724 p) .nil .nil)) (.node (o953 p) (.node (o1468 p) .nil .nil) (.node (o1980 p) .nil .nil))))) (.node (o86 p) (.node (o150 p) (.node (o278 p) (.node (o534 p) (.node (o1049 p) .nil .nil) (.node (o1564 p) .nil .nil)) (.node (o793 p) (.node (o1305 p) .nil .nil) (.node (o1820 p) .nil .nil))) (.node (o406 p) (.node (o662 p) (.node (o1177 p) .nil .nil) (.node (o1692 p) .nil .nil)) (.node (o921 p) (.node (o1436 p) .nil .nil) (.node (o1948 p) .nil .nil)))) (.node (o214 p) (.node (o342 p) (.node (o598 p) (.node (o1113 p) .nil .nil) (.node (o1628 p) .nil .nil)) (.node (o857 p) (.node (o1372 p) .nil .nil) (.node (o1884 p) .nil .nil))) (.node (o470 p) (.node (o729 p) (.node (o1241 p) .nil .nil) (.node (o1756 p) .nil .nil)) (.node (o985 p) (.node (o1500 p) .nil .nil) .nil))))) (.node (o38 p) (.node (o70 p) (.node (o134 p) (.node (o262 p) (.node (o518 p) (.node (o1033 p) .nil .nil) (.node (o1548 p) .nil .nil)) (.node (o777 p) (.node (o1289 p) .nil .nil) (.node (o1804 p) .nil .nil))) (.node (o390 p) (.node (o646 p) (.node (o1161 p) .nil .nil) (.node (o1676 p) .nil .nil)) (.node (o905 p) (.node (o1420 p) .nil .nil) (.node (o1932 p) .nil .nil)))) (.node (o198 p) (.node (o326 p) (.node (o582 p) (.node (o1097 p) .nil .nil) (.node (o1612 p) .nil .nil)) (.node (o841 p) (.node (o1356 p) .nil .nil) (.node (o1868 p) .nil .nil))) (.node (o454 p) (.node (o713 p) (.node (o1225 p) .nil .nil) (.node (o1740 p) .nil .nil)) (.node (o969 p) (.node (o1484 p) .nil .nil) (.node (o1996 p) .nil .nil))))) (.node (o102 p) (.node (o166 p) (.node (o294 p) (.node (o550 p) (.node (o1065 p) .nil .nil) (.node (o1580 p) .nil .nil)) (.node (o809 p) (.node (o1321 p) .nil .nil) (.node (o1836 p) .nil .nil))) (.node (o422 p) (.node (o678 p) (.node (o1193 p) .nil .nil) (.node (o1708 p) .nil .nil)) (.node (o937 p) (.node (o1452 p) .nil .nil) (.node (o1964 p) .nil .nil)))) (.node (o230 p) (.node (o358 p) (.node (o614 p) (.node (o1129 p) .nil .nil) (.node (o1644 p) .nil .nil)) (.node (o873 p) (.node (o1388 p) .nil .nil) (.node (o1900 p) .nil .nil))) (.node (o486 p) (.node (o745 p) (.node (o1257 p) .nil .nil) (.node (o1772 p) .nil .nil)) (.node (o1001 p) (.node (o1516 p) .nil .nil) .nil)))))) (.node (o14 p) (.node (o30 p) (.node (o62 p) (.node (o126 p) (.node (o254 p) (.node (o510 p) (.node (o1025 p) .nil .nil) (.node (o1540 p) .nil .nil)) (.node (o769 p) (.node (o1281 p) .nil .nil) (.node (o1796 p) .nil .nil))) (.node (o382 p) (.node (o638 p) (.node (o1153 p) .nil .nil) (.node (o1668 p) .nil .nil)) (.node (o897 p) (.node (o1412 p) .nil .nil) (.node (o1924 p) .nil .nil)))) (.node (o190 p) (.node (o318 p) (.node (o574 p) (.node (o1089 p) .nil .nil) (.node (o1604 p) .nil .nil)) (.node (o833 p) (.node (o1348 p) .nil .nil) (.node (o1860 p) .nil .nil))) (.node (o446 p) (.node (o705 p) (.node (o1217 p) .nil .nil) (.node (o1732 p) .nil .nil)) (.node (o961 p) (.node (o1476 p) .nil .nil) (.node (o1988 p) .nil .nil))))) (.node (o94 p) (.node (o158 p) (.node (o286 p) (.node (o542 p) (.node (o1057 p) .nil .nil) (.node (o1572 p) .nil .nil)) (.node (o801 p) (.node (o1313 p) .nil .nil) (.node (o1828 p) .nil .nil))) (.node (o414 p) (.node (o670 p) (.node (o1185 p) .nil .nil) (.node (o1700 p) .nil .nil)) (.node (o929 p) (.node (o1444 p) .nil .nil) (.node (o1956 p) .nil .nil)))) (.node (o222 p) (.node (o350 p) (.node (o606 p) (.node (o1121 p) .nil .nil) (.node (o1636 p) .nil .nil)) (.node (o865 p) (.node (o1380 p) .nil .nil) (.node (o1892 p) .nil .nil))) (.node (o478 p) (.node (o737 p) (.node (o1249 p) .nil .nil) (.node (o1764 p) .nil .nil)) (.node (o993 p) (.node (o1508 p) .nil .nil) .nil))))) (.node (o46 p) (.node (o78 p) (.node (o142 p) (.node (o270 p) (.node (o526 p) (.node (o1041 p) .nil .nil) (.node (o1556 p) .nil .nil)) (.node (o785 p) (.node (o1297 p) .nil .nil) (.node (o1812 p) .nil .nil))) (.node (o398 p) (.node (o654 p) (.node (o1169 p) .nil .nil) (.node (o1684 p) .nil .nil)) (.node (o913 p) (.node (o1428 p) .nil .nil) (.node (o1940 p) .nil .nil)))) (.node (o206 p) (.node (o334 p) (.node (o590 p) (.node (o1105 p) .nil .nil) (.node (o1620 p) .nil .nil)) (.node (o849 p) (.node (o1364 p) .nil .nil) (.node (o1876 p) .nil .nil))) (.node (o462 p) (.node (o721 p) (.node (o1233 p) .nil .nil) (.node (o1748 p) .nil .nil)) (.node (o977 p) (.node (o1492 p) .nil .nil) (.node (o2004 p) .nil .nil))))) (.node (o110 p) (.node (o174 p) (.node (o302 p) (.node (o558 p) (.node (o1073 p) .nil .nil) (.node (o1588 p) .nil .nil)) (.node (o817 p) (.node (o1329 p) .nil .nil) (.node (o1844 p) .nil .nil))) (.node (o430 p) (.node (o689 p) (.node (o1201 p) .nil .nil) (.node (o1716 p) .nil .nil)) (.node (o945 p) (.node (o1460 p) .nil .nil) (.node (o1972 p) .nil .nil)))) (.node (o238 p) (.node (o366 p) (.node (o622 p) (.node (o1137 p) .nil .nil) (.node (o1652 p) .nil .nil)) (.node (o881 p) (.node (o1396 p) .nil .nil) (.node (o1908 p) .nil .nil))) (.node (o494 p) (.node (o753 p) (.node (o1265 p) .nil .nil) (.node (o1780 p) .nil .nil)) (.node (o1009 p) (.node (o1524 p) .nil .nil) .nil))))))) (.node (o0 p) (.node (o10 p) (.node (o26 p) (.node (o58 p) (.node (o122 p) (.node (o250 p) (.node (o506 p) (.node (o1021 p) .nil .nil) (.node (o1536 p) .nil .nil)) (.node (o765 p) (.node (o1277 p) .nil .nil) (.node (o1792 p) .nil .nil))) (.node (o378 p) (.node (o634 p) (.node (o1149 p) .nil .nil) (.node (o1664 p) .nil .nil)) (.node (o893 p) (.node (o1408 p) .nil .nil) (.node (o1920 p) .nil .nil)))) (.node (o186 p) (.node (o314 p) (.node (o570 p) (.node (o1085 p) .nil .nil) (.node (o1600 p) .nil .nil)) (.node (o829 p) (.node (o1344 p) .nil .nil) (.node (o1856 p) .nil .nil))) (.node (o442 p) (.node (o701 p) (.node (o1213 p) .nil .nil) (.node (o1728 p) .nil .nil)) (.node (o957 p) (.node (o1472 p) .nil .nil) (.node (o1984 p) .nil .nil))))) (.node (o90 p) (.node (o154 p) (.node (o282 p) (.node (o538 p) (.node (o1053 p) .nil .nil) (.node (o1568 p) .nil .nil)) (.node (o797 p) (.node (o1309 p) .nil .nil) (.node (o1824 p) .nil .nil))) (.node (o410 p) (.node (o666 p) (.node (o1181 p) .nil .nil) (.node (o1696 p) .nil .nil)) (.node (o925 p) (.node (o1440 p) .nil .nil) (.node (o1952 p) .nil .nil)))) (.node (o218 p) (.node (o346 p) (.node (o602 p) (.node (o1117 p) .nil .nil) (.node (o1632 p) .nil .nil)) (.node (o861 p) (.node (o1376 p) .nil .nil) (.node (o1888 p) .nil .nil))) (.node (o474 p) (.node (o733 p) (.node (o1245 p) .nil .nil) (.node (o1760 p) .nil .nil)) (.node (o989 p) (.node (o1504 p) .nil .nil) .nil))))) (.node (o42 p) (.node (o74 p) (.node (o138 p) (.node (o266 p) (.node (o522 p) (.node (o1037 p) .nil .nil) (.node (o1552 p) .nil .nil)) (.node (o781 p) (.node (o1293 p) .nil .nil) (.node (o1808 p) .nil .nil))) (.node (o394 p) (.node (o650 p) (.node (o1165 p) .nil .nil) (.node (o1680 p) .nil .nil)) (.node (o909 p) (.node (o1424 p) .nil .nil) (.node (o1936 p) .nil .nil)))) (.node (o202 p) (.node (o330 p) (.node (o586 p) (.node (o1101 p) .nil .nil) (.node (o1616 p) .nil .nil)) (.node (o845 p) (.node (o1360 p) .nil .nil) (.node (o1872 p) .nil .nil))) (.node (o458 p) (.node (o717 p) (.node (o1229 p) .nil .nil) (.node (o1744 p) .nil .nil)) (.node (o973 p) (.node (o1488 p) .nil .nil) (.node (o2000 p) .nil .nil))))) (.node (o106 p) (.node (o170 p) (.node (o298 p) (.node (o554 p) (.node (o1069 p) .nil .nil) (.node (o1584 p) .nil .nil)) (.node (o813 p) (.node (o1325 p) .nil .nil) (.node (o1840 p) .nil .nil))) (.node (o426 p) (.node (o685 p) (.node (o1197 p) .nil .nil) (.node (o1712 p) .nil .nil)) (.node (o941 p) (.node (o1456 p) .nil .nil) (.node (o1968 p) .nil .nil)))) (.node (o234 p) (.node (o362 p) (.node (o618 p) (.node (o1133 p) .nil .nil) (.node (o1648 p) .nil .nil)) (.node (o877 p) (.node (o1392 p) .nil .nil) (.node (o1904 p) .nil .nil))) (.node (o490 p) (.node (o749 p) (.node (o1261 p) .nil .nil) (.node (o1776 p) .nil .nil)) (.node (o1005 p) (.node (o1520 p) .nil .nil) .nil)))))) (.node (o18 p) (.node (o34 p) (.node (o66 p) (.node (o130 p) (.node (o258 p) (.node (o514 p) (.node (o1029 p) .nil .nil) (.node (o1544 p) .nil .nil)) (.node (o773 p) (.node (o1285 p) .nil .nil) (.node (o1800 p) .nil .nil))) (.node (o386 p) (.node (o642 p) (.node (o1157 p) .nil .nil) (.node (o1672 p) .nil .nil)) (.node (o901 p) (.node (o1416 p) .nil .nil) (.node (o1928 p) .nil .nil)))) (.node (o194 p) (.node (o322 p) (.node (o578 p) (.node (o1093 p) .nil .nil) (.node (o1608 p) .nil .nil)) (.node (o837 p) (.node (o1352 p) .nil .nil) (.node (o1864 p) .nil .nil))) (.node (o450 p) (.node (o709 p) (.node (o1221 p) .nil .nil) (.node (o1736 p) .nil .nil)) (.node (o965 p) (.node (o1480 p) .nil .nil) (.node (o1992 p) .nil .nil))))) (.node (o98 p) (.node (o162 p) (.node (o290 p) (.node (o546 p) (.node (o1061 p) .nil .nil) (.node (o1576 p) .nil .nil)) (.node (o805 p) (.node (o1317 p) .nil .nil) (.node (o1832 p) .nil .nil))) (.node (o418 p) (.node (o674 p) (.node (o1189 p) .nil .nil) (.node (o1704 p) .nil .nil)) (.node (o933 p) (.node (o1448 p) .nil .nil) (.node (o1960 p) .nil .nil)))) (.node (o226 p) (.node (o354 p) (.node (o610 p) (.node (o1125 p) .nil .nil) (.node (o1640 p) .nil .nil)) (.node (o869 p) (.node (o1384 p) .nil .nil) (.node (o1896 p) .nil .nil))) (.node (o482 p) (.node (o741 p) (.node (o1253 p) .nil .nil) (.node (o1768 p) .nil .nil)) (.node (o997 p) (.node (o1512 p) .nil .nil) .nil))))) (.node (o50 p) (.node (o82 p) (.node (o146 p) (.node (o274 p) (.node (o530 p) (.node (o1045 p) .nil .nil) (.node (o1560 p) .nil .nil)) (.node (o789 p) (.node (o1301 p) .nil .nil) (.node (o1816 p) .nil .nil))) (.node (o402 p) (.node (o658 p) (.node (o1173 p) .nil .nil) (.node (o1688 p) .nil .nil)) (.node (o917 p) (.node (o1432 p) .nil .nil) (.node (o1944 p) .nil .nil)))) (.node (o210 p) (.node (o338 p) (.node (o594 p) (.node (o1109 p) .nil .nil) (.node (o1624 p) .nil .nil)) (.node (o853 p) (.node (o1368 p) .nil .nil) (.node (o1880 p) .nil .nil))) (.node (o466 p) (.node (o725 p) (.node (o1237 p) .nil .nil) (.node (o1752 p) .nil .nil)) (.node (o981 p) (.node (o1496 p) .nil .nil) .nil)))) (.node (o114 p) (.node (o178 p) (.node (o306 p) (.node (o562 p) (.node (o1077 p) .nil .nil) (.node (o1592 p) .nil .nil)) (.node (o821 p) (.node (o1333 p) .nil .nil) (.node (o1848 p) .nil .nil))) (.node (o434 p) (.node (o693 p) (.node (o1205 p) .nil .nil) (.node (o1720 p) .nil .nil)) (.node (o949 p) (.node (o1464 p) .nil .nil) (.node (o1976 p) .nil .nil)))) (.node (o242 p) (.node (o370 p) (.node (o626 p) (.node (o1141 p) .nil .nil) (.node (o1656 p) .nil .nil)) (.node (o885 p) (.node (o1400 p) .nil .nil) (.node (o1912 p) .nil .nil))) (.node (o498 p) (.node (o757 p) (.node (o1269 p) .nil .nil) (.node (o1784 p) .nil .nil)) (.node (o1013 p) (.node (o1528 p) .nil .nil) .nil)))))))) (.node (boot_o_5 p) (.node (boot_o_9 p) (.node (o8 p) (.node (o24 p) (.node (o56 p) (.node (o120 p) (.node (o248 p) (.node (o504 p) (.node (o1019 p) .nil .nil) (.node (o1534 p) .nil .nil)) (.node (o763 p) (.node (o1275 p) .nil .nil) (.node (o1790 p) .nil .nil))) (.node (o376 p) (.node (o632 p) (.node (o1147 p) .nil .nil) (.node (o1662 p) .nil .nil)) (.node (o891 p) (.node (o1406 p) .nil .nil) (.node (o1918 p) .nil .nil)))) (.node (o184 p) (.node (o312 p) (.node (o568 p) (.node (o1083 p) .nil .nil) (.node (o1598 p) .nil .nil)) (.node (o827 p) (.node (o1339 p) .nil .nil) (.node (o1854 p) .nil .nil))) (.node (o440 p) (.node (o699 p) (.node (o1211 p) .nil .nil) (.node (o1726 p) .nil .nil)) (.node (o955 p) (.node (o1470 p) .nil .nil) (.node (o1982 p) .nil .nil))))) (.node (o88 p) (.node (o152 p) (.node (o280 p) (.node (o536 p) (.node (o1051 p) .nil .nil) (.node (o1566 p) .nil .nil)) (.node (o795 p) (.node (o1307 p) .nil .nil) (.node (o1822 p) .nil .nil))) (.node (o408 p) (.node (o664 p) (.node (o1179 p) .nil .nil) (.node (o1694 p) .nil .nil)) (.node (o923 p) (.node (o1438 p) .nil .nil) (.node (o1950 p) .nil .nil)))) (.node (o216 p) (.node (o344 p) (.node (o600 p) (.node (o1115 p) .nil .nil) (.node (o1630 p) .nil .nil)) (.node (o859 p) (.node (o1374 p) .nil .nil) (.node (o1886 p) .nil .nil))) (.node (o472 p) (.node (o731 p) (.node (o1243 p) .nil .nil) (.node (o1758 p) .nil .nil)) (.node (o987 p) (.node (o1502 p) .nil .nil) .nil))))) (.node (o40 p) (.node (o72 p) (.node (o136 p) (.node (o264 p) (.node (o520 p) (.node (o1035 p) .nil .nil) (.node (o1550 p) .nil .nil)) (.node (o779 p) (.node (o1291 p) .nil .nil) (.node (o1806 p) .nil .nil))) (.node (o392 p) (.node (o648 p) (.node (o1163 p) .nil .nil) (.node (o1678 p) .nil .nil)) (.node (o907 p) (.node (o1422 p) .nil .nil) (.node (o1934 p) .nil .nil)))) (.node (o200 p) (.node (o328 p) (.node (o584 p) (.node (o1099 p) .nil .nil) (.node (o1614 p) .nil .nil)) (.node (o843 p) (.node (o1358 p) .nil .nil) (.node (o1870 p) .nil .nil))) (.node (o456 p) (.node (o715 p) (.node (o1227 p) .nil .nil) (.node (o1742 p) .nil .nil)) (.node (o971 p) (.node (o1486 p) .nil .nil) (.node (o1998 p) .nil .nil))))) (.node (o104 p) (.node (o168 p) (.node (o296 p) (.node (o552 p) (.node (o1067 p) .nil .nil) (.node (o1582 p) .nil .nil)) (.node (o811 p) (.node (o1323 p) .nil .nil) (.node (o1838 p) .nil .nil))) (.node (o424 p) (.node (o680 p) (.node (o1195 p) .nil .nil) (.node (o1710 p) .nil .nil)) (.node (o939 p) (.node (o1454 p) .nil .nil) (.node (o1966 p) .nil .nil)))) (.node (o232 p) (.node (o360 p) (.node (o616 p) (.node (o1131 p) .nil .nil) (.node (o1646 p) .nil .nil)) (.node (o875 p) (.node (o1390 p) .nil .nil) (.node (o1902 p) .nil .nil))) (.node (o488 p) (.node (o747 p) (.node (o1259 p) .nil .nil) (.node (o1774 p) .nil .nil)) (.node (o1003 p) (.node (o1518 p) .nil .nil) .nil)))))) (.node (o16 p) (.node (o32 p) (.node (o64 p) (.node (o128 p) (.node (o256 p) (.node (o512 p) (.node (o1027 p) .nil .nil) (.node (o1542 p) .nil .nil)) (.node (o771 p) (.node (o1283 p) .nil .nil) (.node (o1798 p) .nil .nil))) (.node (o384 p) (.node (o640 p) (.node (o1155 p) .nil .nil) (.node (o1670 p) .nil .nil)) (.node (o899 p) (.node (o1414 p) .nil .nil) (.node (o1926 p) .nil .nil)))) (.node (o192 p) (.node (o320 p) (.node (o576 p) (.node (o1091 p) .nil .nil) (.node (o1606 p) .nil .nil)) (.node (o835 p) (.node (o1350 p) .nil .nil) (.node (o1862 p) .nil .nil))) (.node (o448 p) (.node (o707 p) (.node (o1219 p) .nil .nil) (.node (o1734 p) .nil .nil)) (.node (o963 p) (.node (o1478 p) .nil .nil) (.node (o1990 p) .nil .nil))))) (.node (o96 p) (.node (o160 p) (.node (o288 p) (.node (o544 p) (.node (o1059 p) .nil .nil) (.node (o1574 p) .nil .nil)) (.node (o803 p) (.node (o1315 p) .nil .nil) (.node (o1830 p) .nil .nil))) (.node (o416 p) (.node (o672 p) (.node (o1187 p) .nil .nil) (.node (o1702 p) .nil .nil)) (.node (o931 p) (.node (o1446 p) .nil .nil) (.node (o1958 p) .nil .nil)))) (.node (o224 p) (.node (o352 p) (.node (o608 p) (.node (o1123 p) .nil .nil) (.node (o1638 p) .nil .nil)) (.node (o867 p) (.node (o1382 p) .nil .nil) (.node (o1894 p) .nil .nil))) (.node (o480 p) (.node (o739 p) (.node (o1251 p) .nil .nil) (.node (o1766 p) .nil .nil)) (.node (o995 p) (.node (o1510 p) .nil .nil) .nil))))) (.node (o48 p) (.node (o80 p) (.node (o144 p) (.node (o272 p) (.node (o528 p) (.node (o1043 p) .nil .nil) (.node (o1558 p) .nil .nil)) (.node (o787 p) (.node (o1299 p) .nil .nil) (.node (o1814 p) .nil .nil))) (.node (o400 p) (.node (o656 p) (.node (o1171 p) .nil .nil) (.node (o1686 p) .nil .nil)) (.node (o915 p) (.node (o1430 p) .nil .nil) (.node (o1942 p) .nil .nil)))) (.node (o208 p) (.node (o336 p) (.node (o592 p) (.node (o1107 p) .nil .nil) (.node (o1622 p) .nil .nil)) (.node (o851 p) (.node (o1366 p) .nil .nil) (.node (o1878 p) .nil .nil))) (.node (o464 p) (.node (o723 p) (.node (o1235 p) .nil .nil) (.node (o1750 p) .nil .nil)) (.node (o979 p) (.node (o1494 p) .nil .nil) (.node (o2006 p) .nil .nil))))) (.node (o112 p) (.node (o176 p) (.node (o304 p) (.node (o560 p) (.node (o1075 p) .nil .nil) (.node (o1590 p) .nil .nil)) (.node (o819 p) (.node (o1331 p) .nil .nil) (.node (o1846 p) .nil .nil))) (.node (o432 p) (.node (o691 p) (.node (o1203 p) .nil .nil) (.node (o1718 p) .nil .nil)) (.node (o947 p) (.node (o1462 p) .nil .nil) (.node (o1974 p) .nil .nil)))) (.node (o240 p) (.node (o368 p) (.node (o624 p) (.node (o1139 p) .nil .nil) (.node (o1654 p) .nil .nil)) (.node (o883 p) (.node (o1398 p) .nil .nil) (.node (o1910 p) .nil .nil))) (.node (o496 p) (.node (o755 p) (.node (o1267 p) .nil .nil) (.node (o1782 p) .nil .nil)) (.node (o1011 p) (.node (o1526 p) .nil .nil) .nil))))))) (.node (o2 p) (.node (o12 p) (.node (o28 p) (.node (o60 p) (.node (o124 p) (.node (o252 p) (.node (o508 p) (.node (o1023 p) .nil .nil) (.node (o1538 p) .nil .nil)) (.node (o767 p) (.node (o1279 p) .nil .nil) (.node (o1794 p) .nil .nil))) (.node (o380 p) (.node (o636 p) (.node (o1151 p) .nil .nil) (.node (o1666 p) .nil .nil)) (.node (o895 p) (.node (o1410 p) .nil .nil) (.node (o1922 p) .nil .nil)))) (.node (o188 p) (.node (o316 p) (.node (o572 p) (.node (o1087 p) .nil .nil) (.node (o1602 p) .nil .nil)) (.node (o831 p) (.node (o1346 p) .nil .nil) (.node (o1858 p) .nil .nil))) (.node (o444 p) (.node (o703 p) (.node (o1215 p) .nil .nil) (.node (o1730 p) .nil .nil)) (.node (o959 p) (.node (o1474 p) .nil .nil) (.node (o1986 p) .nil .nil))))) (.node (o92 p) (.node (o156 p) (.node (o284 p) (.node (o540 p) (.node (o1055 p) .nil .nil) (.node (o1570 p) .nil .nil)) (.node (o799 p) (.node (o1311 p) .nil .nil) (.node (o1826 p) .nil .nil))) (.node (o412 p) (.node (o668 p) (.node (o1183 p) .nil .nil) (.node (o1698 p) .nil .nil)) (.node (o927 p) (.node (o1442 p) .nil .nil) (.node (o1954 p) .nil .nil)))) (.node (o220 p) (.node (o348 p) (.node (o604 p) (.node (o1119 p) .nil .nil) (.node (o1634 p) .nil .nil)) (.node (o863 p) (.node (o1378 p) .nil .nil) (.node (o1890 p) .nil .nil))) (.node (o476 p) (.node (o735 p) (.node (o1247 p) .nil .nil) (.node (o1762 p) .nil .nil)) (.node (o991 p) (.node (o1506 p) .nil .nil) .nil))))) (.node (o44 p) (.node (o76 p) (.node (o140 p) (.node (o268 p) (.node (o524 p) (.node (o1039 p) .nil .nil) (.node (o1554 p) .nil .nil)) (.node (o783 p) (.node (o1295 p) .nil .nil) (.node (o1810 p) .nil .nil))) (.node (o396 p) (.node (o652 p) (.node (o1167 p) .nil .nil) (.node (o1682 p) .nil .nil)) (.node (o911 p) (.node (o1426 p) .nil .nil) (.node (o1938 p) .nil .nil)))) (.node (o204 p) (.node (o332 p) (.node (o588 p) (.node (o1103 p) .nil .nil) (.node (o1618 p) .nil .nil)) (.node (o847 p) (.node (o1362 p) .nil .nil) (.node (o1874 p) .nil .nil))) (.node (o460 p) (.node (o719 p) (.node (o1231 p) .nil .nil) (.node (o1746 p) .nil .nil)) (.node (o975 p) (.node (o1490 p) .nil .nil) (.node (o2002 p) .nil .nil))))) (.node (o108 p) (.node (o172 p) (.node (o300 p) (.node (o556 p) (.node (o1071 p) .nil .nil) (.node (o1586 p) .nil .nil)) (.node (o815 p) (.node (o1327 p) .nil .nil) (.node (o1842 p) .nil .nil))) (.node (o428 p) (.node (o687 p) (.node (o1199 p) .nil .nil) (.node (o1714 p) .nil .nil)) (.node (o943 p) (.node (o1458 p) .nil .nil) (.node (o1970 p) .nil .nil)))) (.node (o236 p) (.node (o364 p) (.node (o620 p) (.node (o1135 p) .nil .nil) (.node (o1650 p) .nil .nil)) (.node (o879 p) (.node (o1394 p) .nil .nil) (.node (o1906 p) .nil .nil))) (.node (o492 p) (.node (o751 p) (.node (o1263 p) .nil .nil) (.node (o1778 p) .nil .nil)) (.node (o1007 p) (.node (o1522 p) .nil .nil) .nil)))))) (.node (o20 p) (.node (o36 p) (.node (o68 p) (.node (o132 p) (.node (o260 p) (.node (o516 p) (.node (o1031 p) .nil .nil) (.node (o1546 p) .nil .nil)) (.node (o775 p) (.node (o1287 p) .nil .nil) (.node (o1802 p) .nil .nil))) (.node (o388 p) (.node (o644 p) (.node (o1159 p) .nil .nil) (.node (o1674 p) .nil .nil)) (.node (o903 p) (.node (o1418 p) .nil .nil) (.node (o1930 p) .nil .nil)))) (.node (o196 p) (.node (o324 p) (.node (o580 p) (.node (o1095 p) .nil .nil) (.node (o1610 p) .nil .nil)) (.node (o839 p) (.node (o1354 p) .nil .nil) (.node (o1866 p) .nil .nil))) (.node (o452 p) (.node (o711 p) (.node (o1223 p) .nil .nil) (.node (o1738 p) .nil .nil)) (.node (o967 p) (.node (o1482 p) .nil .nil) (.node (o1994 p) .nil .nil))))) (.node (o100 p) (.node (o164 p) (.node (o292 p) (.node (o548 p) (.node (o1063 p) .nil .nil) (.node (o1578 p) .nil .nil)) (.node (o807 p) (.node (o1319 p) .nil .nil) (.node (o1834 p) .nil .nil))) (.node (o420 p) (.node (o676 p) (.node (o1191 p) .nil .nil) (.node (o1706 p) .nil .nil)) (.node (o935 p) (.node (o1450 p) .nil .nil) (.node (o1962 p) .nil .nil)))) (.node (o228 p) (.node (o356 p) (.node (o612 p) (.node (o1127 p) .nil .nil) (.node (o1642 p) .nil .nil)) (.node (o871 p) (.node (o1386 p) .nil .nil) (.node (o1898 p) .nil .nil))) (.node (o484 p) (.node (o743 p) (.node (o1255 p) .nil .nil) (.node (o1770 p) .nil .nil)) (.node (o999 p) (.node (o1514 p) .nil .nil) .nil))))) (.node (o52 p) (.node (o84 p) (.node (o148 p) (.node (o276 p) (.node (o532 p) (.node (o1047 p) .nil .nil) (.node (o1562 p) .nil .nil)) (.node (o791 p) (.node (o1303 p) .nil .nil) (.node (o1818 p) .nil .nil))) (.node (o404 p) (.node (o660 p) (.node (o1175 p) .nil .nil) (.node (o1690 p) .nil .nil)) (.node (o919 p) (.node (o1434 p) .nil .nil) (.node (o1946 p) .nil .nil)))) (.node (o212 p) (.node (o340 p) (.node (o596 p) (.node (o1111 p) .nil .nil) (.node (o1626 p) .nil .nil)) (.node (o855 p) (.node (o1370 p) .nil .nil) (.node (o1882 p) .nil .nil))) (.node (o468 p) (.node (o727 p) (.node (o1239 p) .nil .nil) (.node (o1754 p) .nil .nil)) (.node (o983 p) (.node (o1498 p) .nil .nil) .nil)))) (.node (o116 p) (.node (o180 p) (.node (o308 p) (.node (o564 p) (.node (o1079 p) .nil .nil) (.node (o1594 p) .nil .nil)) (.node (o823 p) (.node (o1335 p) .nil .nil) (.node (o1850 p) .nil .nil))) (.node (o436 p) (.node (o695 p) (.node (o1207 p) .nil .nil) (.node (o1722 p) .nil .nil)) (.node (o951 p) (.node (o1466 p) .nil .nil) (.node (o1978 p) .nil .nil)))) (.node (o244 p) (.node (o372 p) (.node (o628 p) (.node (o1143 p) .nil .nil) (.node (o1658 p) .nil .nil)) (.node (o887 p) (.node (o1402 p) .nil .nil) (.node (o1914 p) .nil .nil))) (.node (o500 p) (.node (o759 p) (.node (o1271 p) .nil .nil) (.node (o1786 p) .nil .nil)) (.node (o1015 p) (.node (o1530 p) .nil .nil) .nil))))))))) (.node (boot_o_2 p) (.node (boot_o_4 p) (.node (boot_o_8 p) (.node (o7 p) (.node (o23 p) (.node (o55 p) (.node (o119 p) (.node (o247 p) (.node (o503 p) (.node (o1018 p) .nil .nil) (.node (o1533 p) .nil .nil)) (.node (o762 p) (.node (o1274 p) .nil .nil) (.node (o1789 p) .nil .nil))) (.node (o375 p) (.node (o631 p) (.node (o1146 p) .nil .nil) (.node (o1661 p) .nil .nil)) (.node (o890 p) (.node (o1405 p) .nil .nil) (.node (o1917 p) .nil .nil)))) (.node (o183 p) (.node (o311 p) (.node (o567 p) (.node (o1082 p) .nil .nil) (.node (o1597 p) .nil .nil)) (.node (o826 p) (.node (o1338 p) .nil .nil) (.node (o1853 p) .nil .nil))) (.node (o439 p) (.node (o698 p) (.node (o1210 p) .nil .nil) (.node (o1725 p) .nil .nil)) (.node (o954 p) (.node (o1469 p) .nil .nil) (.node (o1981 p) .nil .nil))))) (.node (o87 p) (.node (o151 p) (.node (o279 p) (.node (o535 p) (.node (o1050 p) .nil .nil) (.node (o1565 p) .nil .nil)) (.node (o794 p) (.node (o1306 p) .nil .nil) (.node (o1821 p) .nil .nil))) (.node (o407 p) (.node (o663 p) (.node (o1178 p) .nil .nil) (.node (o1693 p) .nil .nil)) (.node (o922 p) (.node (o1437 p) .nil .nil) (.node (o1949 p) .nil .nil)))) (.node (o215 p) (.node (o343 p) (.node (o599 p) (.node (o1114 p) .nil .nil) (.node (o1629 p) .nil .nil)) (.node (o858 p) (.node (o1373 p) .nil .nil) (.node (o1885 p) .nil .nil))) (.node (o471 p) (.node (o730 p) (.node (o1242 p) .nil .nil) (.node (o1757 p) .nil .nil)) (.node (o986 p) (.node (o1501 p) .nil .nil) .nil))))) (.node (o39 p) (.node (o71 p) (.node (o135 p) (.node (o263 p) (.node (o519 p) (.node (o1034 p) .nil .nil) (.node (o1549 p) .nil .nil)) (.node (o778 p) (.node (o1290 p) .nil .nil) (.node (o1805 p) .nil .nil))) (.node (o391 p) (.node (o647 p) (.node (o1162 p) .nil .nil) (.node (o1677 p) .nil .nil)) (.node (o906 p) (.node (o1421 p) .nil .nil) (.node (o1933 p) .nil .nil)))) (.node (o199 p) (.node (o327 p) (.node (o583 p) (.node (o1098 p) .nil .nil) (.node (o1613 p) .nil .nil)) (.node (o842 p) (.node (o1357 p) .nil .nil) (.node (o1869 p) .nil .nil))) (.node (o455 p) (.node (o714 p) (.node (o1226 p) .nil .nil) (.node (o1741 p) .nil .nil)) (.node (o970 p) (.node (o1485 p) .nil .nil) (.node (o1997 p) .nil .nil))))) (.node (o103 p) (.node (o167 p) (.node (o295 p) (.node (o551 p) (.node (o1066 p) .nil .nil) (.node (o1581 p) .nil .nil)) (.node (o810 p) (.node (o1322 p) .nil .nil) (.node (o1837 p) .nil .nil))) (.node (o423 p) (.node (o679 p) (.node (o1194 p) .nil .nil) (.node (o1709 p) .nil .nil)) (.node (o938 p) (.node (o1453 p) .nil .nil) (.node (o1965 p) .nil .nil)))) (.node (o231 p) (.node (o359 p) (.node (o615 p) (.node (o1130 p) .nil .nil) (.node (o1645 p) .nil .nil)) (.node (o874 p) (.node (o1389 p) .nil .nil) (.node (o1901 p) .nil .nil))) (.node (o487 p) (.node (o746 p) (.node (o1258 p) .nil .nil) (.node (o1773 p) .nil .nil)) (.node (o1002 p) (.node (o1517 p) .nil .nil) .nil)))))) (.node (o1343 p) (.node (o31 p) (.node (o63 p) (.node (o127 p) (.node (o255 p) (.node (o511 p) (.node (o1026 p) .nil .nil) (.node (o1541 p) .nil .nil)) (.node (o770 p) (.node (o1282 p) .nil .nil) (.node (o1797 p) .nil .nil))) (.node (o383 p) (.node (o639 p) (.node (o1154 p) .nil .nil) (.node (o1669 p) .nil .nil)) (.node (o898 p) (.node (o1413 p) .nil .nil) (.node (o1925 p) .nil .nil)))) (.node (o191 p) (.node (o319 p) (.node (o575 p) (.node (o1090 p) .nil .nil) (.node (o1605 p) .nil .nil)) (.node (o834 p) (.node (o1349 p) .nil .nil) (.node (o1861 p) .nil .nil))) (.node (o447 p) (.node (o706 p) (.node (o1218 p) .nil .nil) (.node (o1733 p) .nil .nil)) (.node (o962 p) (.node (o1477 p) .nil .nil) (.node (o1989 p) .nil .nil))))) (.node (o95 p) (.node (o159 p) (.node (o287 p) (.node (o543 p) (.node (o1058 p) .nil .nil) (.node (o1573 p) .nil .nil)) (.node (o802 p) (.node (o1314 p) .nil .nil) (.node (o1829 p) .nil .nil))) (.node (o415 p) (.node (o671 p) (.node (o1186 p) .nil .nil) (.node (o1701 p) .nil .nil)) (.node (o930 p) (.node (o1445 p) .nil .nil) (.node (o1957 p) .nil .nil)))) (.node (o223 p) (.node (o351 p) (.node (o607 p) (.node (o1122 p) .nil .nil) (.node (o1637 p) .nil .nil)) (.node (o866 p) (.node (o1381 p) .nil .nil) (.node (o1893 p) .nil .nil))) (.node (o479 p) (.node (o738 p) (.node (o1250 p) .nil .nil) (.node (o1765 p) .nil .nil)) (.node (o994 p) (.node (o1509 p) .nil .nil) .nil))))) (.node (o47 p) (.node (o79 p) (.node (o143 p) (.node (o271 p) (.node (o527 p) (.node (o1042 p) .nil .nil) (.node (o1557 p) .nil .nil)) (.node (o786 p) (.node (o1298 p) .nil .nil) (.node (o1813 p) .nil .nil))) (.node (o399 p) (.node (o655 p) (.node (o1170 p) .nil .nil) (.node (o1685 p) .nil .nil)) (.node (o914 p) (.node (o1429 p) .nil .nil) (.node (o1941 p) .nil .nil)))) (.node (o207 p) (.node (o335 p) (.node (o591 p) (.node (o1106 p) .nil .nil) (.node (o1621 p) .nil .nil)) (.node (o850 p) (.node (o1365 p) .nil .nil) (.node (o1877 p) .nil .nil))) (.node (o463 p) (.node (o722 p) (.node (o1234 p) .nil .nil) (.node (o1749 p) .nil .nil)) (.node (o978 p) (.node (o1493 p) .nil .nil) (.node (o2005 p) .nil .nil))))) (.node (o111 p) (.node (o175 p) (.node (o303 p) (.node (o559 p) (.node (o1074 p) .nil .nil) (.node (o1589 p) .nil .nil)) (.node (o818 p) (.node (o1330 p) .nil .nil) (.node (o1845 p) .nil .nil))) (.node (o431 p) (.node (o690 p) (.node (o1202 p) .nil .nil) (.node (o1717 p) .nil .nil)) (.node (o946 p) (.node (o1461 p) .nil .nil) (.node (o1973 p) .nil .nil)))) (.node (o239 p) (.node (o367 p) (.node (o623 p) (.node (o1138 p) .nil .nil) (.node (o1653 p) .nil .nil)) (.node (o882 p) (.node (o1397 p) .nil .nil) (.node (o1909 p) .nil .nil))) (.node (o495 p) (.node (o754 p) (.node (o1266 p) .nil .nil) (.node (o1781 p) .nil .nil)) (.node (o1010 p) (.node (o1525 p) .nil .nil) .nil))))))) (.node (o1342 p) (.node (o11 p) (.node (o27 p) (.node (o59 p) (.node (o123 p) (.node (o251 p) (.node (o507 p) (.node (o1022 p) .nil .nil) (.node (o1537 p) .nil .nil)) (.node (o766 p) (.node (o1278 p) .nil .nil) (.node (o1793 p) .nil .nil))) (.node (o379 p) (.node (o635 p) (.node (o1150 p) .nil .nil) (.node (o1665 p) .nil .nil)) (.node (o894 p) (.node (o1409 p) .nil .nil) (.node (o1921 p) .nil .nil)))) (.node (o187 p) (.node (o315 p) (.node (o571 p) (.node (o1086 p) .nil .nil) (.node (o1601 p) .nil .nil)) (.node (o830 p) (.node (o1345 p) .nil .nil) (.node (o1857 p) .nil .nil))) (.node (o443 p) (.node (o702 p) (.node (o1214 p) .nil .nil) (.node (o1729 p) .nil .nil)) (.node (o958 p) (.node (o1473 p) .nil .nil) (.node (o1985 p) .nil .nil))))) (.node (o91 p) (.node (o155 p) (.node (o283 p) (.node (o539 p) (.node (o1054 p) .nil .nil) (.node (o1569 p) .nil .nil)) (.node (o798 p) (.node (o1310 p) .nil .nil) (.node (o1825 p) .nil .nil))) (.node (o411 p) (.node (o667 p) (.node (o1182 p) .nil .nil) (.node (o1697 p) .nil .nil)) (.node (o926 p) (.node (o1441 p) .nil .nil) (.node (o1953 p) .nil .nil)))) (.node (o219 p) (.node (o347 p) (.node (o603 p) (.node (o1118 p) .nil .nil) (.node (o1633 p) .nil .nil)) (.node (o862 p) (.node (o1377 p) .nil .nil) (.node (o1889 p) .nil .nil))) (.node (o475 p) (.node (o734 p) (.node (o1246 p) .nil .nil) (.node (o1761 p) .nil .nil)) (.node (o990 p) (.node (o1505 p) .nil .nil) .nil))))) (.node (o43 p) (.node (o75 p) (.node (o139 p) (.node (o267 p) (.node (o523 p) (.node (o1038 p) .nil .nil) (.node (o1553 p) .nil .nil)) (.node (o782 p) (.node (o1294 p) .nil .nil) (.node (o1809 p) .nil .nil))) (.node (o395 p) (.node (o651 p) (.node (o1166 p) .nil .nil) (.node (o1681 p) .nil .nil)) (.node (o910 p) (.node (o1425 p) .nil .nil) (.node (o1937 p) .nil .nil)))) (.node (o203 p) (.node (o331 p) (.node (o587 p) (.node (o1102 p) .nil .nil) (.node (o1617 p) .nil .nil)) (.node (o846 p) (.node (o1361 p) .nil .nil) (.node (o1873 p) .nil .nil))) (.node (o459 p) (.node (o718 p) (.node (o1230 p) .nil .nil) (.node (o1745 p) .nil .nil)) (.node (o974 p) (.node (o1489 p) .nil .nil) (.node (o2001 p) .nil .nil))))) (.node (o107 p) (.node (o171 p) (.node (o299 p) (.node (o555 p) (.node (o1070 p) .nil .nil) (.node (o1585 p) .nil .nil)) (.node (o814 p) (.node (o1326 p) .nil .nil) (.node (o1841 p) .nil .nil))) (.node (o427 p) (.node (o686 p) (.node (o1198 p) .nil .nil) (.node (o1713 p) .nil .nil)) (.node (o942 p) (.node (o1457 p) .nil .nil) (.node (o1969 p) .nil .nil)))) (.node (o235 p) (.node (o363 p) (.node (o619 p) (.node (o1134 p) .nil .nil) (.node (o1649 p) .nil .nil)) (.node (o878 p) (.node (o1393 p) .nil .nil) (.node (o1905 p) .nil .nil))) (.node (o491 p) (.node (o750 p) (.node (o1262 p) .nil .nil) (.node (o1777 p) .nil .nil)) (.node (o1006 p) (.node (o1521 p) .nil .nil) .nil)))))) (.node (o19 p) (.node (o35 p) (.node (o67 p) (.node (o131 p) (.node (o259 p) (.node (o515 p) (.node (o1030 p) .nil .nil) (.node (o1545 p) .nil .nil)) (.node (o774 p) (.node (o1286 p) .nil .nil) (.node (o1801 p) .nil .nil))) (.node (o387 p) (.node (o643 p) (.node (o1158 p) .nil .nil) (.node (o1673 p) .nil .nil)) (.node (o902 p) (.node (o1417 p) .nil .nil) (.node (o1929 p) .nil .nil)))) (.node (o195 p) (.node (o323 p) (.node (o579 p) (.node (o1094 p) .nil .nil) (.node (o1609 p) .nil .nil)) (.node (o838 p) (.node (o1353 p) .nil .nil) (.node (o1865 p) .nil .nil))) (.node (o451 p) (.node (o710 p) (.node (o1222 p) .nil .nil) (.node (o1737 p) .nil .nil)) (.node (o966 p) (.node (o1481 p) .nil .nil) (.node (o1993 p) .nil .nil))))) (.node (o99 p) (.node (o163 p) (.node (o291 p) (.node (o547 p) (.node (o1062 p) .nil .nil) (.node (o1577 p) .nil .nil)) (.node (o806 p) (.node (o1318 p) .nil .nil) (.node (o1833 p) .nil .nil))) (.node (o419 p) (.node (o675 p) (.node (o1190 p) .nil .nil) (.node (o1705 p) .nil .nil)) (.node (o934 p) (.node (o1449 p) .nil .nil) (.node (o1961 p) .nil .nil)))) (.node (o227 p) (.node (o355 p) (.node (o611 p) (.node (o1126 p) .nil .nil) (.node (o1641 p) .nil .nil)) (.node (o870 p) (.node (o1385 p) .nil .nil) (.node (o1897 p) .nil .nil))) (.node (o483 p) (.node (o742 p) (.node (o1254 p) .nil .nil) (.node (o1769 p) .nil .nil)) (.node (o998 p) (.node (o1513 p) .nil .nil) .nil))))) (.node (o51 p) (.node (o83 p) (.node (o147 p) (.node (o275 p) (.node (o531 p) (.node (o1046 p) .nil .nil) (.node (o1561 p) .nil .nil)) (.node (o790 p) (.node (o1302 p) .nil .nil) (.node (o1817 p) .nil .nil))) (.node (o403 p) (.node (o659 p) (.node (o1174 p) .nil .nil) (.node (o1689 p) .nil .nil)) (.node (o918 p) (.node (o1433 p) .nil .nil) (.node (o1945 p) .nil .nil)))) (.node (o211 p) (.node (o339 p) (.node (o595 p) (.node (o1110 p) .nil .nil) (.node (o1625 p) .nil .nil)) (.node (o854 p) (.node (o1369 p) .nil .nil) (.node (o1881 p) .nil .nil))) (.node (o467 p) (.node (o726 p) (.node (o1238 p) .nil .nil) (.node (o1753 p) .nil .nil)) (.node (o982 p) (.node (o1497 p) .nil .nil) .nil)))) (.node (o115 p) (.node (o179 p) (.node (o307 p) (.node (o563 p) (.node (o1078 p) .nil .nil) (.node (o1593 p) .nil .nil)) (.node (o822 p) (.node (o1334 p) .nil .nil) (.node (o1849 p) .nil .nil))) (.node (o435 p) (.node (o694 p) (.node (o1206 p) .nil .nil) (.node (o1721 p) .nil .nil)) (.node (o950 p) (.node (o1465 p) .nil .nil) (.node (o1977 p) .nil .nil)))) (.node (o243 p) (.node (o371 p) (.node (o627 p) (.node (o1142 p) .nil .nil) (.node (o1657 p) .nil .nil)) (.node (o886 p) (.node (o1401 p) .nil .nil) (.node (o1913 p) .nil .nil))) (.node (o499 p) (.node (o758 p) (.node (o1270 p) .nil .nil) (.node (o1785 p) .nil .nil)) (.node (o1014 p) (.node (o1529 p) .nil .nil) .nil)))))))) (.node (boot_o_6 p) (.node (boot_o_10 p) (.node (o9 p) (.node (o25 p) (.node (o57 p) (.node (o121 p) (.node (o249 p) (.node (o505 p) (.node (o1020 p) .nil .nil) (.node (o1535 p) .nil .nil)) (.node (o764 p) (.node (o1276 p) .nil .nil) (.node (o1791 p) .nil .nil))) (.node (o377 p) (.node (o633 p) (.node (o1148 p) .nil .nil) (.node (o1663 p) .nil .nil)) (.node (o892 p) (.node (o1407 p) .nil .nil) (.node (o1919 p) .nil .nil)))) (.node (o185 p) (.node (o313 p) (.node (o569 p) (.node (o1084 p) .nil .nil) (.node (o1599 p) .nil .nil)) (.node (o828 p) (.node (o1340 p) .nil .nil) (.node (o1855 p) .nil .nil))) (.node (o441 p) (.node (o700 p) (.node (o1212 p) .nil .nil) (.node (o1727 p) .nil .nil)) (.node (o956 p) (.node (o1471 p) .nil .nil) (.node (o1983 p) .nil .nil))))) (.node (o89 p) (.node (o153 p) (.node (o281 p) (.node (o537 p) (.node (o1052 p) .nil .nil) (.node (o1567 p) .nil .nil)) (.node (o796 p) (.node (o1308 p) .nil .nil) (.node (o1823 p) .nil .nil))) (.node (o409 p) (.node (o665 p) (.node (o1180 p) .nil .nil) (.node (o1695 p) .nil .nil)) (.node (o924 p) (.node (o1439 p) .nil .nil) (.node (o1951 p) .nil .nil)))) (.node (o217 p) (.node (o345 p) (.node (o601 p) (.node (o1116 p) .nil .nil) (.node (o1631 p) .nil .nil)) (.node (o860 p) (.node (o1375 p) .nil .nil) (.node (o1887 p) .nil .nil))) (.node (o473 p) (.node (o732 p) (.node (o1244 p) .nil .nil) (.node (o1759 p) .nil .nil)) (.node (o988 p) (.node (o1503 p) .nil .nil) .nil))))) (.node (o41 p) (.node (o73 p) (.node (o137 p) (.node (o265 p) (.node (o521 p) (.node (o1036 p) .nil .nil) (.node (o1551 p) .nil .nil)) (.node (o780 p) (.node (o1292 p) .nil .nil) (.node (o1807 p) .nil .nil))) (.node (o393 p) (.node (o649 p) (.node (o1164 p) .nil .nil) (.node (o1679 p) .nil .nil)) (.node (o908 p) (.node (o1423 p) .nil .nil) (.node (o1935 p) .nil .nil)))) (.node (o201 p) (.node (o329 p) (.node (o585 p) (.node (o1100 p) .nil .nil) (.node (o1615 p) .nil .nil)) (.node (o844 p) (.node (o1359 p) .nil .nil) (.node (o1871 p) .nil .nil))) (.node (o457 p) (.node (o716 p) (.node (o1228 p) .nil .nil) (.node (o1743 p) .nil .nil)) (.node (o972 p) (.node (o1487 p) .nil .nil) (.node (o1999 p) .nil .nil))))) (.node (o105 p) (.node (o169 p) (.node (o297 p) (.node (o553 p) (.node (o1068 p) .nil .nil) (.node (o1583 p) .nil .nil)) (.node (o812 p) (.node (o1324 p) .nil .nil) (.node (o1839 p) .nil .nil))) (.node (o425 p) (.node (o681 p) (.node (o1196 p) .nil .nil) (.node (o1711 p) .nil .nil)) (.node (o940 p) (.node (o1455 p) .nil .nil) (.node (o1967 p) .nil .nil)))) (.node (o233 p) (.node (o361 p) (.node (o617 p) (.node (o1132 p) .nil .nil) (.node (o1647 p) .nil .nil)) (.node (o876 p) (.node (o1391 p) .nil .nil) (.node (o1903 p) .nil .nil))) (.node (o489 p) (.node (o748 p) (.node (o1260 p) .nil .nil) (.node (o1775 p) .nil .nil)) (.node (o1004 p) (.node (o1519 p) .nil .nil) .nil)))))) (.node (o17 p) (.node (o33 p) (.node (o65 p) (.node (o129 p) (.node (o257 p) (.node (o513 p) (.node (o1028 p) .nil .nil) (.node (o1543 p) .nil .nil)) (.node (o772 p) (.node (o1284 p) .nil .nil) (.node (o1799 p) .nil .nil))) (.node (o385 p) (.node (o641 p) (.node (o1156 p) .nil .nil) (.node (o1671 p) .nil .nil)) (.node (o900 p) (.node (o1415 p) .nil .nil) (.node (o1927 p) .nil .nil)))) (.node (o193 p) (.node (o321 p) (.node (o577 p) (.node (o1092 p) .nil .nil) (.node (o1607 p) .nil .nil)) (.node (o836 p) (.node (o1351 p) .nil .nil) (.node (o1863 p) .nil .nil))) (.node (o449 p) (.node (o708 p) (.node (o1220 p) .nil .nil) (.node (o1735 p) .nil .nil)) (.node (o964 p) (.node (o1479 p) .nil .nil) (.node (o1991 p) .nil .nil))))) (.node (o97 p) (.node (o161 p) (.node (o289 p) (.node (o545 p) (.node (o1060 p) .nil .nil) (.node (o1575 p) .nil .nil)) (.node (o804 p) (.node (o1316 p) .nil .nil) (.node (o1831 p) .nil .nil))) (.node (o417 p) (.node (o673 p) (.node (o1188 p) .nil .nil) (.node (o1703 p) .nil .nil)) (.node (o932 p) (.node (o1447 p) .nil .nil) (.node (o1959 p) .nil .nil)))) (.node (o225 p) (.node (o353 p) (.node (o609 p) (.node (o1124 p) .nil .nil) (.node (o1639 p) .nil .nil)) (.node (o868 p) (.node (o1383 p) .nil .nil) (.node (o1895 p) .nil .nil))) (.node (o481 p) (.node (o740 p) (.node (o1252 p) .nil .nil) (.node (o1767 p) .nil .nil)) (.node (o996 p) (.node (o1511 p) .nil .nil) .nil))))) (.node (o49 p) (.node (o81 p) (.node (o145 p) (.node (o273 p) (.node (o529 p) (.node (o1044 p) .nil .nil) (.node (o1559 p) .nil .nil)) (.node (o788 p) (.node (o1300 p) .nil .nil) (.node (o1815 p) .nil .nil))) (.node (o401 p) (.node (o657 p) (.node (o1172 p) .nil .nil) (.node (o1687 p) .nil .nil)) (.node (o916 p) (.node (o1431 p) .nil .nil) (.node (o1943 p) .nil .nil)))) (.node (o209 p) (.node (o337 p) (.node (o593 p) (.node (o1108 p) .nil .nil) (.node (o1623 p) .nil .nil)) (.node (o852 p) (.node (o1367 p) .nil .nil) (.node (o1879 p) .nil .nil))) (.node (o465 p) (.node (o724 p) (.node (o1236 p) .nil .nil) (.node (o1751 p) .nil .nil)) (.node (o980 p) (.node (o1495 p) .nil .nil) .nil)))) (.node (o113 p) (.node (o177 p) (.node (o305 p) (.node (o561 p) (.node (o1076 p) .nil .nil) (.node (o1591 p) .nil .nil)) (.node (o820 p) (.node (o1332 p) .nil .nil) (.node (o1847 p) .nil .nil))) (.node (o433 p) (.node (o692 p) (.node (o1204 p) .nil .nil) (.node (o1719 p) .nil .nil)) (.node (o948 p) (.node (o1463 p) .nil .nil) (.node (o1975 p) .nil .nil)))) (.node (o241 p) (.node (o369 p) (.node (o625 p) (.node (o1140 p) .nil .nil) (.node (o1655 p) .nil .nil)) (.node (o884 p) (.node (o1399 p) .nil .nil) (.node (o1911 p) .nil .nil))) (.node (o497 p) (.node (o756 p) (.node (o1268 p) .nil .nil) (.node (o1783 p) .nil .nil)) (.node (o1012 p) (.node (o1527 p) .nil .nil) .nil))))))) (.node (o3 p) (.node (o13 p) (.node (o29 p) (.node (o61 p) (.node (o125 p) (.node (o253 p) (.node (o509 p) (.node (o1024 p) .nil .nil) (.node (o1539 p) .nil .nil)) (.node (o768 p) (.node (o1280 p) .nil .nil) (.node (o1795 p) .nil .nil))) (.node (o381 p) (.node (o637 p) (.node (o1152 p) .nil .nil) (.node (o1667 p) .nil .nil)) (.node (o896 p) (.node (o1411 p) .nil .nil) (.node (o1923 p) .nil .nil)))) (.node (o189 p) (.node (o317 p) (.node (o573 p) (.node (o1088 p) .nil .nil) (.node (o1603 p) .nil .nil)) (.node (o832 p) (.node (o1347 p) .nil .nil) (.node (o1859 p) .nil .nil))) (.node (o445 p) (.node (o704 p) (.node (o1216 p) .nil .nil) (.node (o1731 p) .nil .nil)) (.node (o960 p) (.node (o1475 p) .nil .nil) (.node (o1987 p) .nil .nil))))) (.node (o93 p) (.node (o157 p) (.node (o285 p) (.node (o541 p) (.node (o1056 p) .nil .nil) (.node (o1571 p) .nil .nil)) (.node (o800 p) (.node (o1312 p) .nil .nil) (.node (o1827 p) .nil .nil))) (.node (o413 p) (.node (o669 p) (.node (o1184 p) .nil .nil) (.node (o1699 p) .nil .nil)) (.node (o928 p) (.node (o1443 p) .nil .nil) (.node (o1955 p) .nil .nil)))) (.node (o221 p) (.node (o349 p) (.node (o605 p) (.node (o1120 p) .nil .nil) (.node (o1635 p) .nil .nil)) (.node (o864 p) (.node (o1379 p) .nil .nil) (.node (o1891 p) .nil .nil))) (.node (o477 p) (.node (o736 p) (.node (o1248 p) .nil .nil) (.node (o1763 p) .nil .nil)) (.node (o992 p) (.node (o1507 p) .nil .nil) .nil))))) (.node (o45 p) (.node (o77 p) (.node (o141 p) (.node (o269 p) (.node (o525 p) (.node (o1040 p) .nil .nil) (.node (o1555 p) .nil .nil)) (.node (o784 p) (.node (o1296 p) .nil .nil) (.node (o1811 p) .nil .nil))) (.node (o397 p) (.node (o653 p) (.node (o1168 p) .nil .nil) (.node (o1683 p) .nil .nil)) (.node (o912 p) (.node (o1427 p) .nil .nil) (.node (o1939 p) .nil .nil)))) (.node (o205 p) (.node (o333 p) (.node (o589 p) (.node (o1104 p) .nil .nil) (.node (o1619 p) .nil .nil)) (.node (o848 p) (.node (o1363 p) .nil .nil) (.node (o1875 p) .nil .nil))) (.node (o461 p) (.node (o720 p) (.node (o1232 p) .nil .nil) (.node (o1747 p) .nil .nil)) (.node (o976 p) (.node (o1491 p) .nil .nil) (.node (o2003 p) .nil .nil))))) (.node (o109 p) (.node (o173 p) (.node (o301 p) (.node (o557 p) (.node (o1072 p) .nil .nil) (.node (o1587 p) .nil .nil)) (.node (o816 p) (.node (o1328 p) .nil .nil) (.node (o1843 p) .nil .nil))) (.node (o429 p) (.node (o688 p) (.node (o1200 p) .nil .nil) (.node (o1715 p) .nil .nil)) (.node (o944 p) (.node (o1459 p) .nil .nil) (.node (o1971 p) .nil .nil)))) (.node (o237 p) (.node (o365 p) (.node (o621 p) (.node (o1136 p) .nil .nil) (.node (o1651 p) .nil .nil)) (.node (o880 p) (.node (o1395 p) .nil .nil) (.node (o1907 p) .nil .nil))) (.node (o493 p) (.node (o752 p) (.node (o1264 p) .nil .nil) (.node (o1779 p) .nil .nil)) (.node (o1008 p) (.node (o1523 p) .nil .nil) .nil)))))) (.node (o21 p) (.node (o37 p) (.node (o69 p) (.node (o133 p) (.node (o261 p) (.node (o517 p) (.node (o1032 p) .nil .nil) (.node (o1547 p) .nil .nil)) (.node (o776 p) (.node (o1288 p) .nil .nil) (.node (o1803 p) .nil .nil))) (.node (o389 p) (.node (o645 p) (.node (o1160 p) .nil .nil) (.node (o1675 p) .nil .nil)) (.node (o904 p) (.node (o1419 p) .nil .nil) (.node (o1931 p) .nil .nil)))) (.node (o197 p) (.node (o325 p) (.node (o581 p) (.node (o1096 p) .nil .nil) (.node (o1611 p) .nil .nil)) (.node (o840 p) (.node (o1355 p) .nil .nil) (.node (o1867 p) .nil .nil))) (.node (o453 p) (.node (o712 p) (.node (o1224 p) .nil .nil) (.node (o1739 p) .nil .nil)) (.node (o968 p) (.node (o1483 p) .nil .nil) (.node (o1995 p) .nil .nil))))) (.node (o101 p) (.node (o165 p) (.node (o293 p) (.node (o549 p) (.node (o1064 p) .nil .nil) (.node (o1579 p) .nil .nil)) (.node (o808 p) (.node (o1320 p) .nil .nil) (.node (o1835 p) .nil .nil))) (.node (o421 p) (.node (o677 p) (.node (o1192 p) .nil .nil) (.node (o1707 p) .nil .nil)) (.node (o936 p) (.node (o1451 p) .nil .nil) (.node (o1963 p) .nil .nil)))) (.node (o229 p) (.node (o357 p) (.node (o613 p) (.node (o1128 p) .nil .nil) (.node (o1643 p) .nil .nil)) (.node (o872 p) (.node (o1387 p) .nil .nil) (.node (o1899 p) .nil .nil))) (.node (o485 p) (.node (o744 p) (.node (o1256 p) .nil .nil) (.node (o1771 p) .nil .nil)) (.node (o1000 p) (.node (o1515 p) .nil .nil) .nil))))) (.node (o53 p) (.node (o85 p) (.node (o149 p) (.node (o277 p) (.node (o533 p) (.node (o1048 p) .nil .nil) (.node (o1563 p) .nil .nil)) (.node (o792 p) (.node (o1304 p) .nil .nil) (.node (o1819 p) .nil .nil))) (.node (o405 p) (.node (o661 p) (.node (o1176 p) .nil .nil) (.node (o1691 p) .nil .nil)) (.node (o920 p) (.node (o1435 p) .nil .nil) (.node (o1947 p) .nil .nil)))) (.node (o213 p) (.node (o341 p) (.node (o597 p) (.node (o1112 p) .nil .nil) (.node (o1627 p) .nil .nil)) (.node (o856 p) (.node (o1371 p) .nil .nil) (.node (o1883 p) .nil .nil))) (.node (o469 p) (.node (o728 p) (.node (o1240 p) .nil .nil) (.node (o1755 p) .nil .nil)) (.node (o984 p) (.node (o1499 p) .nil .nil) .nil)))) (.node (o117 p) (.node (o181 p) (.node (o309 p) (.node (o565 p) (.node (o1080 p) .nil .nil) (.node (o1595 p) .nil .nil)) (.node (o824 p) (.node (o1336 p) .nil .nil) (.node (o1851 p) .nil .nil))) (.node (o437 p) (.node (o696 p) (.node (o1208 p) .nil .nil) (.node (o1723 p) .nil .nil)) (.node (o952 p) (.node (o1467 p) .nil .nil) (.node (o1979 p) .nil .nil)))) (.node (o245 p) (.node (o373 p) (.node (o629 p) (.node (o1144 p) .nil .nil) (.node (o1659 p) .nil .nil)) (.node (o888 p) (.node (o1403 p) .nil .nil) (.node (o1915 p) .nil .nil))) (.node (o501 p) (.node (o760 p) (.node (o1272 p) .nil .nil) (.node (o1787 p) .nil .nil)) (.node (o1016 p) (.node (o1531 p) .nil .nil) .nil))))))))))
noncomputable def o2007 (p : Params) : Obj := .mk (y "dict") none (.dict #[(e p "__name__" 165 (s "law_neverhalf_k00_errors_made" 2819)), (e p "__doc__" 166 .none), (e p "__package__" 167 .none), (e p "__loader__" 168 (u "__main__.__loader__#opaque")), (e p "__spec__" 169 .none), (e p "__annotations__" 170 (r 6)), (e p "__builtins__" 171 (r 4)), (e p "__file__" 173 (s "/claim/cut.py" 172)), (e p "__cached__" 174 .none), (e p "WholeError" 206 (r 24)), (e p "BadText" 231 (r 44)), (e p "BadSource" 256 (r 63)), (e p "BadIndex" 281 (r 82)), (e p "NotChecked" 297 (r 94)), (e p "BadName" 322 (r 113)), (e p "BadInputs" 347 (r 132)), (e p "BadMost" 372 (r 151)), (e p "BadObject" 397 (r 170)), (e p "BadForm" 422 (r 189)), (e p "BadObjects" 447 (r 208)), (e p "NotLinked" 463 (r 220)), (e p "BadLinked" 488 (r 239)), (e p "BadKeeps" 513 (r 258)), (e p "BadValue" 538 (r 277)), (e p "BadState" 563 (r 296)), (e p "BadWord" 588 (r 315)), (e p "BadPasses" 613 (r 334)), (e p "BadRow" 638 (r 353)), (e p "BadField" 663 (r 372)), (e p "BadLengths" 688 (r 391)), (e p "BadCounts" 713 (r 410)), (e p "BadMany" 738 (r 429)), (e p "BadKinds" 763 (r 448)), (e p "BadClasses" 788 (r 467)), (e p "BadBits" 813 (r 486)), (e p "BadWidth" 838 (r 505)), (e p "BadWords" 863 (r 524)), (e p "BadVersion" 888 (r 543)), (e p "BadImage" 913 (r 562)), (e p "BadOne" 938 (r 581)), (e p "BadOther" 963 (r 600)), (e p "TooLong" 979 (r 612)), (e p "NotCode" 1004 (r 631)), (e p "BadBase" 1029 (r 650)), (e p "BadPatch" 1054 (r 669)), (e p "BadTarget" 1079 (r 688)), (e p "BadStore" 1104 (r 707)), (e p "BadOps" 1129 (r 726)), (e p "BadOp" 1154 (r 745)), (e p "BadTorn" 1179 (r 764)), (e p "BadBox" 1204 (r 783)), (e p "BadSlot" 1229 (r 802)), (e p "NoRoom" 1254 (r 821)), (e p "BadBlock" 1279 (r 840)), (e p "BadBlocks" 1304 (r 859)), (e p "BadRun" 1329 (r 878)), (e p "BadGiven" 1354 (r 897)), (e p "NotRun" 1370 (r 909)), (e p "NotMade" 1395 (r 928)), (e p "BadCut" 1420 (r 947)), (e p "OnTrial" 1436 (r 959)), (e p "OldVersion" 1452 (r 971)), (e p "BadSetting" 1477 (r 990)), (e p "BadProtocol" 1502 (r 1009)), (e p "BadRule" 1529 (r 1028)), (e p "BadCuts" 1554 (r 1047)), (e p "BadDone" 1579 (r 1066)), (e p "BadEvent" 1604 (r 1085)), (e p "BadEvents" 1629 (r 1104)), (e p "NotOf" 1645 (r 1116)), (e p "BadCount" 1670 (r 1135)), (e p "BadPlace" 1695 (r 1154)), (e p "BadTower" 1720 (r 1173)), (e p "BadStory" 1745 (r 1192)), (e p "BadThing" 1770 (r 1211)), (e p "NoName" 1795 (r 1230)), (e p "InRing" 1820 (r 1249)), (e p "InUse" 1845 (r 1268)), (e p "NoThing" 1870 (r 1287)), (e p "BadVow" 1895 (r 1306)), (e p "Watched" 1920 (r 1325)), (e p "NotHeldNow" 1945 (r 1344)), (e p "NotWatched" 1970 (r 1363)), (e p "Broken" 1995 (r 1382)), (e p "BadImages" 2020 (r 1401)), (e p "BadThings" 2045 (r 1420)), (e p "BadWay" 2070 (r 1439)), (e p "TooMany" 2086 (r 1451)), (e p "BadRing" 2111 (r 1470)), (e p "BadWorn" 2136 (r 1489)), (e p "BadRoom" 2161 (r 1508)), (e p "BadSpots" 2186 (r 1527)), (e p "NoMarks" 2211 (r 1546)), (e p "NoWord" 2236 (r 1565)), (e p "NoHead" 2261 (r 1584)), (e p "BadTest" 2286 (r 1603)), (e p "BadTests" 2311 (r 1622)), (e p "BadNumber" 2336 (r 1641)), (e p "BadValues" 2361 (r 1660)), (e p "NoNumber" 2377 (r 1672)), (e p "BadNames" 2402 (r 1691)), (e p "BadOthers" 2427 (r 1710)), (e p "BadFirsts" 2452 (r 1729)), (e p "BadSources" 2477 (r 1748)), (e p "BadSteps" 2502 (r 1767)), (e p "BadFleet" 2527 (r 1786)), (e p "BadParts" 2552 (r 1805)), (e p "BadPresent" 2577 (r 1824)), (e p "BadBroadcast" 2602 (r 1843)), (e p "BadPlan" 2627 (r 1862)), (e p "BadBreaks" 2652 (r 1881)), (e p "BadFunction" 2677 (r 1900)), (e p "NotPlain" 2693 (r 1912)), (e p "BadShelf" 2718 (r 1931)), (e p "NotListing" 2743 (r 1950)), (e p "BadLog" 2768 (r 1969)), (e p "BadEntry" 2793 (r 1988)), (e p "BadTexts" 2818 (r 2007)), (e p "_law_stream" 2827 (r 2016)), (e p "_law_draw" 2838 (r 2023)), (e p "_law_pick" 2846 (r 2030)), (e p "_law_same" 2852 (r 2035)), (e p "_law_made_a" 2860 (r 2042)), (e p "_law_made_b" 2868 (r 2049)), (e p "_law_kinds_a" 2876 (r 2056)), (e p "_law_kinds_b" 2884 (r 2063)), (e p "_law_is_own" 2890 (r 2068)), (e p "law" 2896 (r 2073))] 128) #[]
noncomputable def o2008 (p : Params) : Obj := .mk .none none (.fields #[(n 2 0), (n 0 0), (r 20), (n 4 0), (n 0 0), (r 33), (n 8 0), (n 0 0), (r 52), (n 12 0), (n 0 0), (r 71), (n 16 0), (n 0 0), (r 90), (n 18 0), (n 0 0), (r 102), (n 22 0), (n 0 0), (r 121), (n 26 0), (n 0 0), (r 140), (n 30 0), (n 0 0), (r 159), (n 34 0), (n 0 0), (r 178), (n 38 0), (n 0 0), (r 197), (n 42 0), (n 0 0), (r 216), (n 44 0), (n 0 0), (r 228), (n 48 0), (n 0 0), (r 247), (n 52 0), (n 0 0), (r 266), (n 56 0), (n 0 0), (r 285), (n 60 0), (n 0 0), (r 304), (n 64 0), (n 0 0), (r 323), (n 68 0), (n 0 0), (r 342), (n 72 0), (n 0 0), (r 361), (n 76 0), (n 0 0), (r 380), (n 80 0), (n 0 0), (r 399), (n 84 0), (n 0 0), (r 418), (n 88 0), (n 0 0), (r 437), (n 92 0), (n 0 0), (r 456), (n 96 0), (n 0 0), (r 475), (n 100 0), (n 0 0), (r 494), (n 104 0), (n 0 0), (r 513), (n 108 0), (n 0 0), (r 532), (n 112 0), (n 0 0), (r 551), (n 116 0), (n 0 0), (r 570), (n 120 0), (n 0 0), (r 589), (n 124 0), (n 0 0), (r 608), (n 126 0), (n 0 0), (r 620), (n 130 0), (n 0 0), (r 639), (n 134 0), (n 0 0), (r 658), (n 138 0), (n 0 0), (r 677), (n 142 0), (n 0 0), (r 696), (n 146 0), (n 0 0), (r 715), (n 150 0), (n 0 0), (r 734), (n 154 0), (n 0 0), (r 753), (n 158 0), (n 0 0), (r 772), (n 162 0), (n 0 0), (r 791), (n 166 0), (n 0 0), (r 810), (n 170 0), (n 0 0), (r 829), (n 174 0), (n 0 0), (r 848), (n 178 0), (n 0 0), (r 867), (n 182 0), (n 0 0), (r 886), (n 186 0), (n 0 0), (r 905), (n 188 0), (n 0 0), (r 917), (n 192 0), (n 0 0), (r 936), (n 196 0), (n 0 0), (r 955), (n 198 0), (n 0 0), (r 967), (n 200 0), (n 0 0), (r 979), (n 204 0), (n 0 0), (r 998), (n 209 0), (n 0 0), (r 1017), (n 213 0), (n 0 0), (r 1036), (n 217 0), (n 0 0), (r 1055), (n 221 0), (n 0 0), (r 1074), (n 225 0), (n 0 0), (r 1093), (n 229 0), (n 0 0), (r 1112), (n 231 0), (n 0 0), (r 1124), (n 235 0), (n 0 0), (r 1143), (n 239 0), (n 0 0), (r 1162), (n 243 0), (n 0 0), (r 1181), (n 247 0), (n 0 0), (r 1200), (n 251 0), (n 0 0), (r 1219), (n 255 0), (n 0 0), (r 1238), (n 259 0), (n 0 0), (r 1257), (n 263 0), (n 0 0), (r 1276), (n 267 0), (n 0 0), (r 1295), (n 271 0), (n 0 0), (r 1314), (n 275 0), (n 0 0), (r 1333), (n 279 0), (n 0 0), (r 1352), (n 283 0), (n 0 0), (r 1371), (n 287 0), (n 0 0), (r 1390), (n 291 0), (n 0 0), (r 1409), (n 295 0), (n 0 0), (r 1428), (n 299 0), (n 0 0), (r 1447), (n 301 0), (n 0 0), (r 1459), (n 305 0), (n 0 0), (r 1478), (n 309 0), (n 0 0), (r 1497), (n 313 0), (n 0 0), (r 1516), (n 317 0), (n 0 0), (r 1535), (n 321 0), (n 0 0), (r 1554), (n 325 0), (n 0 0), (r 1573), (n 329 0), (n 0 0), (r 1592), (n 333 0), (n 0 0), (r 1611), (n 337 0), (n 0 0), (r 1630), (n 341 0), (n 0 0), (r 1649), (n 345 0), (n 0 0), (r 1668), (n 347 0), (n 0 0), (r 1680), (n 351 0), (n 0 0), (r 1699), (n 355 0), (n 0 0), (r 1718), (n 359 0), (n 0 0), (r 1737), (n 363 0), (n 0 0), (r 1756), (n 367 0), (n 0 0), (r 1775), (n 371 0), (n 0 0), (r 1794), (n 375 0), (n 0 0), (r 1813), (n 379 0), (n 0 0), (r 1832), (n 383 0), (n 0 0), (r 1851), (n 387 0), (n 0 0), (r 1870), (n 391 0), (n 0 0), (r 1889), (n 395 0), (n 0 0), (r 1908), (n 397 0), (n 0 0), (r 1920), (n 401 0), (n 0 0), (r 1939), (n 405 0), (n 0 0), (r 1958), (n 409 0), (n 0 0), (r 1977), (n 413 0), (n 0 0), (r 1996), (n 418 0), (n 0 0), (r 2015), (n 420 0), (n 0 0), (r 2022), (n 432 0), (n 0 0), (r 2029), (n 434 0), (n 0 0), (r 2034), (n 448 0), (n 0 0), (r 2041), (n 505 0), (n 0 0), (r 2048), (n 562 0), (n 0 0), (r 2055), (n 583 0), (n 0 0), (r 2062), (n 604 0), (n 0 0), (r 2067), (n 610 0), (n 0 0), (r 2072)]) #[]
noncomputable def o2009 (p : Params) : Obj := .mk (y "tuple") none (.seq #[] 0) #[]
noncomputable def o2010 (p : Params) : Obj := .mk .none none (.fields #[]) #[]
noncomputable def o2011 (p : Params) : Obj := .mk (y "tuple") none (.seq #[(s "script" 2824)] 0) #[]
noncomputable def o2012 (p : Params) : Obj := .mk (y "tuple") none (.seq #[] 0) #[]
noncomputable def o2013 (p : Params) : Obj := .mk .none none (.func (fT 112 "_law_stream" 0 [] .none .none .none .none none .none .none 0)) #[]
noncomputable def o2014 (p : Params) : Obj := .mk (y "code") none (.fields #[(s "_law_stream" 2821), (s "_law_stream" 2822), (s "/claim/cut.py" 2823), (n 418 0), (n 1 0), (n 0 0), (n 0 0), (n 3 0), (r 2010), (.bool true), (n 181 0), (r 2011), .none, (r 2012), (r 2013), (r 2014), (n 2825 0), (n 418 0), (s "/claim/cut.py" 2826)]) #[]
noncomputable def o2015 (p : Params) : Obj := .mk (y "function") none (.func (fT 112 "_law_stream" 3 [] .none .none .none (s "law_neverhalf_k00_errors_made" 2819) none (r 2015) .none 0)) #[]
noncomputable def o2016 (p : Params) : Obj := .mk (y "tuple") none (.seq #[] 0) #[]
noncomputable def o2017 (p : Params) : Obj := .mk .none none (.fields #[]) #[]
noncomputable def o2018 (p : Params) : Obj := .mk (y "tuple") none (.seq #[(s "stream" 2831), (s "many" 2832), (s "cell" 2833), (s "digit" 2834), (s "mixed" 2835)] 0) #[]
noncomputable def o2019 (p : Params) : Obj := .mk (y "tuple") none (.seq #[] 0) #[]
noncomputable def o2020 (p : Params) : Obj := .mk .none none (.func (fT 113 "_law_draw" 0 [] .none .none .none .none none .none .none 0)) #[]
noncomputable def o2021 (p : Params) : Obj := .mk (y "code") none (.fields #[(s "_law_draw" 2828), (s "_law_draw" 2829), (s "/claim/cut.py" 2830), (n 420 0), (n 2 0), (n 0 0), (n 0 0), (n 3 0), (r 2017), (.bool true), (n 181 0), (r 2018), .none, (r 2019), (r 2020), (r 2021), (n 2836 0), (n 420 0), (s "/claim/cut.py" 2837)]) #[]
noncomputable def o2022 (p : Params) : Obj := .mk (y "function") none (.func (fT 113 "_law_draw" 3 [] .none .none .none (s "law_neverhalf_k00_errors_made" 2819) none (r 2022) .none 0)) #[]
noncomputable def o2023 (p : Params) : Obj := .mk (y "tuple") none (.seq #[] 0) #[]
noncomputable def o2024 (p : Params) : Obj := .mk .none none (.fields #[]) #[]
noncomputable def o2025 (p : Params) : Obj := .mk (y "tuple") none (.seq #[(s "stream" 2842), (s "things" 2843)] 0) #[]
noncomputable def o2026 (p : Params) : Obj := .mk (y "tuple") none (.seq #[] 0) #[]
noncomputable def o2027 (p : Params) : Obj := .mk .none none (.func (fT 114 "_law_pick" 0 [] .none .none .none .none none .none .none 0)) #[]
noncomputable def o2028 (p : Params) : Obj := .mk (y "code") none (.fields #[(s "_law_pick" 2839), (s "_law_pick" 2840), (s "/claim/cut.py" 2841), (n 432 0), (n 2 0), (n 0 0), (n 0 0), (n 3 0), (r 2024), (.bool true), (n 181 0), (r 2025), .none, (r 2026), (r 2027), (r 2028), (n 2844 0), (n 432 0), (s "/claim/cut.py" 2845)]) #[]
noncomputable def o2029 (p : Params) : Obj := .mk (y "function") none (.func (fT 114 "_law_pick" 3 [] .none .none .none (s "law_neverhalf_k00_errors_made" 2819) none (r 2029) .none 0)) #[]
noncomputable def o2030 (p : Params) : Obj := .mk (y "tuple") none (.seq #[] 0) #[]
noncomputable def o2031 (p : Params) : Obj := .mk .none none (.fields #[]) #[]
noncomputable def o2032 (p : Params) : Obj := .mk .none none (.func (fT 115 "_law_same" 0 [] .none .none .none .none none .none .none 0)) #[]
noncomputable def o2033 (p : Params) : Obj := .mk (y "code") none (.fields #[(s "_law_same" 2847), (s "_law_same" 2848), (s "/claim/cut.py" 2849), (n 434 0), (n 2 0), (n 0 0), (n 0 0), (n 3 0), (r 2031), (.bool true), (n 181 0), (r 2032), .none, .none, .none, (r 2033), (n 2850 0), (n 434 0), (s "/claim/cut.py" 2851)]) #[]
noncomputable def o2034 (p : Params) : Obj := .mk (y "function") none (.func (fT 115 "_law_same" 3 [] .none .none .none (s "law_neverhalf_k00_errors_made" 2819) none (r 2034) .none 0)) #[]
noncomputable def o2035 (p : Params) : Obj := .mk (y "tuple") none (.seq #[] 0) #[]
noncomputable def o2036 (p : Params) : Obj := .mk .none none (.fields #[]) #[]
noncomputable def o2037 (p : Params) : Obj := .mk (y "tuple") none (.seq #[(s "x" 2856), (s "found" 2857)] 0) #[]
noncomputable def o2038 (p : Params) : Obj := .mk (y "tuple") none (.seq #[] 0) #[]
noncomputable def o2039 (p : Params) : Obj := .mk .none none (.func (fT 116 "_law_made_a" 0 [] .none .none .none .none none .none .none 0)) #[]
noncomputable def o2040 (p : Params) : Obj := .mk (y "code") none (.fields #[(s "_law_made_a" 2853), (s "_law_made_a" 2854), (s "/claim/cut.py" 2855), (n 448 0), (n 1 0), (n 0 0), (n 0 0), (n 3 0), (r 2036), (.bool true), (n 181 0), (r 2037), .none, (r 2038), (r 2039), (r 2040), (n 2858 0), (n 448 0), (s "/claim/cut.py" 2859)]) #[]
noncomputable def o2041 (p : Params) : Obj := .mk (y "function") none (.func (fT 116 "_law_made_a" 3 [] .none .none .none (s "law_neverhalf_k00_errors_made" 2819) none (r 2041) .none 0)) #[]
noncomputable def o2042 (p : Params) : Obj := .mk (y "tuple") none (.seq #[] 0) #[]
noncomputable def o2043 (p : Params) : Obj := .mk .none none (.fields #[]) #[]
noncomputable def o2044 (p : Params) : Obj := .mk (y "tuple") none (.seq #[(s "x" 2864), (s "found" 2865)] 0) #[]
noncomputable def o2045 (p : Params) : Obj := .mk (y "tuple") none (.seq #[] 0) #[]
noncomputable def o2046 (p : Params) : Obj := .mk .none none (.func (fT 117 "_law_made_b" 0 [] .none .none .none .none none .none .none 0)) #[]
noncomputable def o2047 (p : Params) : Obj := .mk (y "code") none (.fields #[(s "_law_made_b" 2861), (s "_law_made_b" 2862), (s "/claim/cut.py" 2863), (n 505 0), (n 1 0), (n 0 0), (n 0 0), (n 3 0), (r 2043), (.bool true), (n 181 0), (r 2044), .none, (r 2045), (r 2046), (r 2047), (n 2866 0), (n 505 0), (s "/claim/cut.py" 2867)]) #[]
noncomputable def o2048 (p : Params) : Obj := .mk (y "function") none (.func (fT 117 "_law_made_b" 3 [] .none .none .none (s "law_neverhalf_k00_errors_made" 2819) none (r 2048) .none 0)) #[]
noncomputable def o2049 (p : Params) : Obj := .mk (y "tuple") none (.seq #[] 0) #[]
noncomputable def o2050 (p : Params) : Obj := .mk .none none (.fields #[]) #[]
noncomputable def o2051 (p : Params) : Obj := .mk (y "tuple") none (.seq #[(s "e" 2872), (s "found" 2873)] 0) #[]
noncomputable def o2052 (p : Params) : Obj := .mk (y "tuple") none (.seq #[] 0) #[]
noncomputable def o2053 (p : Params) : Obj := .mk .none none (.func (fT 118 "_law_kinds_a" 0 [] .none .none .none .none none .none .none 0)) #[]
noncomputable def o2054 (p : Params) : Obj := .mk (y "code") none (.fields #[(s "_law_kinds_a" 2869), (s "_law_kinds_a" 2870), (s "/claim/cut.py" 2871), (n 562 0), (n 1 0), (n 0 0), (n 0 0), (n 3 0), (r 2050), (.bool true), (n 181 0), (r 2051), .none, (r 2052), (r 2053), (r 2054), (n 2874 0), (n 562 0), (s "/claim/cut.py" 2875)]) #[]
noncomputable def o2055 (p : Params) : Obj := .mk (y "function") none (.func (fT 118 "_law_kinds_a" 3 [] .none .none .none (s "law_neverhalf_k00_errors_made" 2819) none (r 2055) .none 0)) #[]
noncomputable def o2056 (p : Params) : Obj := .mk (y "tuple") none (.seq #[] 0) #[]
noncomputable def o2057 (p : Params) : Obj := .mk .none none (.fields #[]) #[]
noncomputable def o2058 (p : Params) : Obj := .mk (y "tuple") none (.seq #[(s "e" 2880), (s "found" 2881)] 0) #[]
noncomputable def o2059 (p : Params) : Obj := .mk (y "tuple") none (.seq #[] 0) #[]
noncomputable def o2060 (p : Params) : Obj := .mk .none none (.func (fT 119 "_law_kinds_b" 0 [] .none .none .none .none none .none .none 0)) #[]
noncomputable def o2061 (p : Params) : Obj := .mk (y "code") none (.fields #[(s "_law_kinds_b" 2877), (s "_law_kinds_b" 2878), (s "/claim/cut.py" 2879), (n 583 0), (n 1 0), (n 0 0), (n 0 0), (n 3 0), (r 2057), (.bool true), (n 181 0), (r 2058), .none, (r 2059), (r 2060), (r 2061), (n 2882 0), (n 583 0), (s "/claim/cut.py" 2883)]) #[]
noncomputable def o2062 (p : Params) : Obj := .mk (y "function") none (.func (fT 119 "_law_kinds_b" 3 [] .none .none .none (s "law_neverhalf_k00_errors_made" 2819) none (r 2062) .none 0)) #[]
noncomputable def o2063 (p : Params) : Obj := .mk (y "tuple") none (.seq #[] 0) #[]
noncomputable def o2064 (p : Params) : Obj := .mk .none none (.fields #[]) #[]
noncomputable def o2065 (p : Params) : Obj := .mk .none none (.func (fT 120 "_law_is_own" 0 [] .none .none .none .none none .none .none 0)) #[]
noncomputable def o2066 (p : Params) : Obj := .mk (y "code") none (.fields #[(s "_law_is_own" 2885), (s "_law_is_own" 2886), (s "/claim/cut.py" 2887), (n 604 0), (n 2 0), (n 0 0), (n 0 0), (n 3 0), (r 2064), (.bool true), (n 181 0), (r 2065), .none, .none, .none, (r 2066), (n 2888 0), (n 604 0), (s "/claim/cut.py" 2889)]) #[]
noncomputable def o2067 (p : Params) : Obj := .mk (y "function") none (.func (fT 120 "_law_is_own" 3 [] .none .none .none (s "law_neverhalf_k00_errors_made" 2819) none (r 2067) .none 0)) #[]
noncomputable def o2068 (p : Params) : Obj := .mk (y "tuple") none (.seq #[] 0) #[]
noncomputable def o2069 (p : Params) : Obj := .mk .none none (.fields #[]) #[]
noncomputable def o2070 (p : Params) : Obj := .mk .none none (.func (fT 121 "law" 0 [] .none .none .none .none none .none .none 0)) #[]
noncomputable def o2071 (p : Params) : Obj := .mk (y "code") none (.fields #[(s "law" 2891), (s "law" 2892), (s "/claim/cut.py" 2893), (n 610 0), (n 1 0), (n 0 0), (n 0 0), (n 3 0), (r 2069), (.bool true), (n 181 0), (r 2070), .none, .none, .none, (r 2071), (n 2894 0), (n 610 0), (s "/claim/cut.py" 2895)]) #[]
noncomputable def o2072 (p : Params) : Obj := .mk (y "function") none (.func (fT 121 "law" 3 [] .none .none .none (s "law_neverhalf_k00_errors_made" 2819) none (r 2072) .none 0)) #[]
noncomputable def T_g (p : Params) : BT := (.node (boot_o_0 p) (.node (boot_o_1 p) (.node (o2007 p) (.node (boot_o_7 p) (.node (o6 p) (.node (o22 p) (.node (o54 p) (.node (o118 p) (.node (o246 p) (.node (o502 p) (.node (o1017 p) (.node (o2046 p) .nil .nil) .nil) (.node (o1532 p) .nil .nil)) (.node (o761 p) (.node (o1273 p) .nil .nil) (.node (o1788 p) .nil .nil))) (.node (o374 p) (.node (o630 p) (.node (o1145 p) .nil .nil) (.node (o1660 p) .nil .nil)) (.node (o889 p) (.node (o1404 p) .nil .nil) (.node (o1916 p) .nil .nil)))) (.node (o182 p) (.node (o310 p) (.node (o566 p) (.node (o1081 p) .nil .nil) (.node (o1596 p) .nil .nil)) (.node (o825 p) (.node (o1337 p) .nil .nil) (.node (o1852 p) .nil .nil))) (.node (o438 p) (.node (o697 p) (.node (o1209 p) .nil .nil) (.node (o1724 p) .nil .nil)) (.node (o953 p) (.node (o1468 p) .nil .nil) (.node (o1980 p) .nil .nil))))) (.node (o86 p) (.node (o150 p) (.node (o278 p) (.node (o534 p) (.node (o1049 p) .nil .nil) (.node (o1564 p) .nil .nil)) (.node (o793 p) (.node (o1305 p) .nil .nil) (.node (o1820 p) .nil .nil))) (.node (o406 p) (.node (o662 p) (.node (o1177 p) .nil .nil) (.node (o1692 p) .nil .nil)) (.node (o921 p) (.node (o1436 p) .nil .nil) (.node (o1948 p) .nil .nil)))) (.node (o214 p) (.node (o342 p) (.node (o598 p) (.node (o1113 p) .nil .nil) (.node (o1628 p) .nil .nil)) (.node (o857 p) (.node (o1372 p) .nil .nil) (.node (o1884 p) .nil .nil))) (.node (o470 p) (.node (o729 p) (.node (o1241 p) .nil .nil) (.node (o1756 p) .nil .nil)) (.node (o985 p) (.node (o1500 p) .nil .nil) (.node (o2014 p) .nil .nil)))))) (.node (o38 p) (.node (o70 p) (.node (o134 p) (.node (o262 p) (.node (o518 p) (.node (o1033 p) (.node (o2062 p) .nil .nil) .nil) (.node (o1548 p) .nil .nil)) (.node (o777 p) (.node (o1289 p) .nil .nil) (.node (o1804 p) .nil .nil))) (.node (o390 p) (.node (o646 p) (.node (o1161 p) .nil .nil) (.node (o1676 p) .nil .nil)) (.node (o905 p) (.node (o1420 p) .nil .nil) (.node (o1932 p) .nil .nil)))) (.node (o198 p) (.node (o326 p) (.node (o582 p) (.node (o1097 p) .nil .nil) (.node (o1612 p) .nil .nil)) (.node (o841 p) (.node (o1356 p) .nil .nil) (.node (o1868 p) .nil .nil))) (.node (o454 p) (.node (o713 p) (.node (o1225 p) .nil .nil) (.node (o1740 p) .nil .nil)) (.node (o969 p) (.node (o1484 p) .nil .nil) (.node (o1996 p) .nil .nil))))) (.node (o102 p) (.node (o166 p) (.node (o294 p) (.node (o550 p) (.node (o1065 p) .nil .nil) (.node (o1580 p) .nil .nil)) (.node (o809 p) (.node (o1321 p) .nil .nil) (.node (o1836 p) .nil .nil))) (.node (o422 p) (.node (o678 p) (.node (o1193 p) .nil .nil) (.node (o1708 p) .nil .nil)) (.node (o937 p) (.node (o1452 p) .nil .nil) (.node (o1964 p) .nil .nil)))) (.node (o230 p) (.node (o358 p) (.node (o614 p) (.node (o1129 p) .nil .nil) (.node (o1644 p) .nil .nil)) (.node (o873 p) (.node (o1388 p) .nil .nil) (.node (o1900 p) .nil .nil))) (.node (o486 p) (.node (o745 p) (.node (o1257 p) .nil .nil) (.node (o1772 p) .nil .nil)) (.node (o1001 p) (.node (o1516 p) .nil .nil) (.node (o2030 p) .nil .nil))))))) (.node (o14 p) (.node (o30 p) (.node (o62 p) (.node (o126 p) (.node (o254 p) (.node (o510 p) (.node (o1025 p) (.node (o2054 p) .nil .nil) .nil) (.node (o1540 p) .nil .nil)) (.node (o769 p) (.node (o1281 p) .nil .nil) (.node (o1796 p) .nil .nil))) (.node (o382 p) (.node (o638 p) (.node (o1153 p) .nil .nil) (.node (o1668 p) .nil .nil)) (.node (o897 p) (.node (o1412 p) .nil .nil) (.node (o1924 p) .nil .nil)))) (.node (o190 p) (.node (o318 p) (.node (o574 p) (.node (o1089 p) .nil .nil) (.node (o1604 p) .nil .nil)) (.node (o833 p) (.node (o1348 p) .nil .nil) (.node (o1860 p) .nil .nil))) (.node (o446 p) (.node (o705 p) (.node (o1217 p) .nil .nil) (.node (o1732 p) .nil .nil)) (.node (o961 p) (.node (o1476 p) .nil .nil) (.node (o1988 p) .nil .nil))))) (.node (o94 p) (.node (o158 p) (.node (o286 p) (.node (o542 p) (.node (o1057 p) .nil .nil) (.node (o1572 p) .nil .nil)) (.node (o801 p) (.node (o1313 p) .nil .nil) (.node (o1828 p) .nil .nil))) (.node (o414 p) (.node (o670 p) (.node (o1185 p) .nil .nil) (.node (o1700 p) .nil .nil)) (.node (o929 p) (.node (o1444 p) .nil .nil) (.node (o1956 p) .nil .nil)))) (.node (o222 p) (.node (o350 p) (.node (o606 p) (.node (o1121 p) .nil .nil) (.node (o1636 p) .nil .nil)) (.node (o865 p) (.node (o1380 p) .nil .nil) (.node (o1892 p) .nil .nil))) (.node (o478 p) (.node (o737 p) (.node (o1249 p) .nil .nil) (.node (o1764 p) .nil .nil)) (.node (o993 p) (.node (o1508 p) .nil .nil) (.node (o2022 p) .nil .nil)))))) (.node (o46 p) (.node (o78 p) (.node (o142 p) (.node (o270 p) (.node (o526 p) (.node (o1041 p) (.node (o2070 p) .nil .nil) .nil) (.node (o1556 p) .nil .nil)) (.node (o785 p) (.node (o1297 p) .nil .nil) (.node (o1812 p) .nil .nil))) (.node (o398 p) (.node (o654 p) (.node (o1169 p) .nil .nil) (.node (o1684 p) .nil .nil)) (.node (o913 p) (.node (o1428 p) .nil .nil) (.node (o1940 p) .nil .nil)))) (.node (o206 p) (.node (o334 p) (.node (o590 p) (.node (o1105 p) .nil .nil) (.node (o1620 p) .nil .nil)) (.node (o849 p) (.node (o1364 p) .nil .nil) (.node (o1876 p) .nil .nil))) (.node (o462 p) (.node (o721 p) (.node (o1233 p) .nil .nil) (.node (o1748 p) .nil .nil)) (.node (o977 p) (.node (o1492 p) .nil .nil) (.node (o2004 p) .nil .nil))))) (.node (o110 p) (.node (o174 p) (.node (o302 p) (.node (o558 p) (.node (o1073 p) .nil .nil) (.node (o1588 p) .nil .nil)) (.node (o817 p) (.node (o1329 p) .nil .nil) (.node (o1844 p) .nil .nil))) (.node (o430 p) (.node (o689 p) (.node (o1201 p) .nil .nil) (.node (o1716 p) .nil .nil)) (.node (o945 p) (.node (o1460 p) .nil .nil) (.node (o1972 p) .nil .nil)))) (.node (o238 p) (.node (o366 p) (.node (o622 p) (.node (o1137 p) .nil .nil) (.node (o1652 p) .nil .nil)) (.node (o881 p) (.node (o1396 p) .nil .nil) (.node (o1908 p) .nil .nil))) (.node (o494 p) (.node (o753 p) (.node (o1265 p) .nil .nil) (.node (o1780 p) .nil .nil)) (.node (o1009 p) (.node (o1524 p) .nil .nil) (.node (o2038 p) .nil .nil)))))))) (.node (o0 p) (.node (o10 p) (.node (o26 p) (.node (o58 p) (.node (o122 p) (.node (o250 p) (.node (o506 p) (.node (o1021 p) (.node (o2050 p) .nil .nil) .nil) (.node (o1536 p) .nil .nil)) (.node (o765 p) (.node (o1277 p) .nil .nil) (.node (o1792 p) .nil .nil))) (.node (o378 p) (.node (o634 p) (.node (o1149 p) .nil .nil) (.node (o1664 p) .nil .nil)) (.node (o893 p) (.node (o1408 p) .nil .nil) (.node (o1920 p) .nil .nil)))) (.node (o186 p) (.node (o314 p) (.node (o570 p) (.node (o1085 p) .nil .nil) (.node (o1600 p) .nil .nil)) (.node (o829 p) (.node (o1344 p) .nil .nil) (.node (o1856 p) .nil .nil))) (.node (o442 p) (.node (o701 p) (.node (o1213 p) .nil .nil) (.node (o1728 p) .nil .nil)) (.node (o957 p) (.node (o1472 p) .nil .nil) (.node (o1984 p) .nil .nil))))) (.node (o90 p) (.node (o154 p) (.node (o282 p) (.node (o538 p) (.node (o1053 p) .nil .nil) (.node (o1568 p) .nil .nil)) (.node (o797 p) (.node (o1309 p) .nil .nil) (.node (o1824 p) .nil .nil))) (.node (o410 p) (.node (o666 p) (.node (o1181 p) .nil .nil) (.node (o1696 p) .nil .nil)) (.node (o925 p) (.node (o1440 p) .nil .nil) (.node (o1952 p) .nil .nil)))) (.node (o218 p) (.node (o346 p) (.node (o602 p) (.node (o1117 p) .nil .nil) (.node (o1632 p) .nil .nil)) (.node (o861 p) (.node (o1376 p) .nil .nil) (.node (o1888 p) .nil .nil))) (.node (o474 p) (.node (o733 p) (.node (o1245 p) .nil .nil) (.node (o1760 p) .nil .nil)) (.node (o989 p) (.node (o1504 p) .nil .nil) (.node (o2018 p) .nil .nil)))))) (.node (o42 p) (.node (o74 p) (.node (o138 p) (.node (o266 p) (.node (o522 p) (.node (o1037 p) (.node (o2066 p) .nil .nil) .nil) (.node (o1552 p) .nil .nil)) (.node (o781 p) (.node (o1293 p) .nil .nil) (.node (o1808 p) .nil .nil))) (.node (o394 p) (.node (o650 p) (.node (o1165 p) .nil .nil) (.node (o1680 p) .nil .nil)) (.node (o909 p) (.node (o1424 p) .nil .nil) (.node (o1936 p) .nil .nil)))) (.node (o202 p) (.node (o330 p) (.node (o586 p) (.node (o1101 p) .nil .nil) (.node (o1616 p) .nil .nil)) (.node (o845 p) (.node (o1360 p) .nil .nil) (.node (o1872 p) .nil .nil))) (.node (o458 p) (.node (o717 p) (.node (o1229 p) .nil .nil) (.node (o1744 p) .nil .nil)) (.node (o973 p) (.node (o1488 p) .nil .nil) (.node (o2000 p) .nil .nil))))) (.node (o106 p) (.node (o170 p) (.node (o298 p) (.node (o554 p) (.node (o1069 p) .nil .nil) (.node (o1584 p) .nil .nil)) (.node (o813 p) (.node (o1325 p) .nil .nil) (.node (o1840 p) .nil .nil))) (.node (o426 p) (.node (o685 p) (.node (o1197 p) .nil .nil) (.node (o1712 p) .nil .nil)) (.node (o941 p) (.node (o1456 p) .nil .nil) (.node (o1968 p) .nil .nil)))) (.node (o234 p) (.node (o362 p) (.node (o618 p) (.node (o1133 p) .nil .nil) (.node (o1648 p) .nil .nil)) (.node (o877 p) (.node (o1392 p) .nil .nil) (.node (o1904 p) .nil .nil))) (.node (o490 p) (.node (o749 p) (.node (o1261 p) .nil .nil) (.node (o1776 p) .nil .nil)) (.node (o1005 p) (.node (o1520 p) .nil .nil) (.node (o2034 p) .nil .nil))))))) (.node (o18 p) (.node (o34 p) (.node (o66 p) (.node (o130 p) (.node (o258 p) (.node (o514 p) (.node (o1029 p) (.node (o2058 p) .nil .nil) .nil) (.node (o1544 p) .nil .nil)) (.node (o773 p) (.node (o1285 p) .nil .nil) (.node (o1800 p) .nil .nil))) (.node (o386 p) (.node (o642 p) (.node (o1157 p) .nil .nil) (.node (o1672 p) .nil .nil)) (.node (o901 p) (.node (o1416 p) .nil .nil) (.node (o1928 p) .nil .nil)))) (.node (o194 p) (.node (o322 p) (.node (o578 p) (.node (o1093 p) .nil .nil) (.node (o1608 p) .nil .nil)) (.node (o837 p) (.node (o1352 p) .nil .nil) (.node (o1864 p) .nil .nil))) (.node (o450 p) (.node (o709 p) (.node (o1221 p) .nil .nil) (.node (o1736 p) .nil .nil)) (.node (o965 p) (.node (o1480 p) .nil .nil) (.node (o1992 p) .nil .nil))))) (.node (o98 p) (.node (o162 p) (.node (o290 p) (.node (o546 p) (.node (o1061 p) .nil .nil) (.node (o1576 p) .nil .nil)) (.node (o805 p) (.node (o1317 p) .nil .nil) (.node (o1832 p) .nil .nil))) (.node (o418 p) (.node (o674 p) (.node (o1189 p) .nil .nil) (.node (o1704 p) .nil .nil)) (.node (o933 p) (.node (o1448 p) .nil .nil) (.node (o1960 p) .nil .nil)))) (.node (o226 p) (.node (o354 p) (.node (o610 p) (.node (o1125 p) .nil .nil) (.node (o1640 p) .nil .nil)) (.node (o869 p) (.node (o1384 p) .nil .nil) (.node (o1896 p) .nil .nil))) (.node (o482 p) (.node (o741 p) (.node (o1253 p) .nil .nil) (.node (o1768 p) .nil .nil)) (.node (o997 p) (.node (o1512 p) .nil .nil) (.node (o2026 p) .nil .nil)))))) (.node (o50 p) (.node (o82 p) (.node (o146 p) (.node (o274 p) (.node (o530 p) (.node (o1045 p) .nil .nil) (.node (o1560 p) .nil .nil)) (.node (o789 p) (.node (o1301 p) .nil .nil) (.node (o1816 p) .nil .nil))) (.node (o402 p) (.node (o658 p) (.node (o1173 p) .nil .nil) (.node (o1688 p) .nil .nil)) (.node (o917 p) (.node (o1432 p) .nil .nil) (.node (o1944 p) .nil .nil)))) (.node (o210 p) (.node (o338 p) (.node (o594 p) (.node (o1109 p) .nil .nil) (.node (o1624 p) .nil .nil)) (.node (o853 p) (.node (o1368 p) .nil .nil) (.node (o1880 p) .nil .nil))) (.node (o466 p) (.node (o725 p) (.node (o1237 p) .nil .nil) (.node (o1752 p) .nil .nil)) (.node (o981 p) (.node (o1496 p) .nil .nil) (.node (o2010 p) .nil .nil))))) (.node (o114 p) (.node (o178 p) (.node (o306 p) (.node (o562 p) (.node (o1077 p) .nil .nil) (.node (o1592 p) .nil .nil)) (.node (o821 p) (.node (o1333 p) .nil .nil) (.node (o1848 p) .nil .nil))) (.node (o434 p) (.node (o693 p) (.node (o1205 p) .nil .nil) (.node (o1720 p) .nil .nil)) (.node (o949 p) (.node (o1464 p) .nil .nil) (.node (o1976 p) .nil .nil)))) (.node (o242 p) (.node (o370 p) (.node (o626 p) (.node (o1141 p) .nil .nil) (.node (o1656 p) .nil .nil)) (.node (o885 p) (.node (o1400 p) .nil .nil) (.node (o1912 p) .nil .nil))) (.node (o498 p) (.node (o757 p) (.node (o1269 p) .nil .nil) (.node (o1784 p) .nil .nil)) (.node (o1013 p) (.node (o1528 p) .nil .nil) (.node (o2042 p) .nil .nil))))))))) (.node (boot_o_5 p) (.node (boot_o_9 p) (.node (o8 p) (.node (o24 p) (.node (o56 p) (.node (o120 p) (.node (o248 p) (.node (o504 p) (.node (o1019 p) (.node (o2048 p) .nil .nil) .nil) (.node (o1534 p) .nil .nil)) (.node (o763 p) (.node (o1275 p) .nil .nil) (.node (o1790 p) .nil .nil))) (.node (o376 p) (.node (o632 p) (.node (o1147 p) .nil .nil) (.node (o1662 p) .nil .nil)) (.node (o891 p) (.node (o1406 p) .nil .nil) (.node (o1918 p) .nil .nil)))) (.node (o184 p) (.node (o312 p) (.node (o568 p) (.node (o1083 p) .nil .nil) (.node (o1598 p) .nil .nil)) (.node (o827 p) (.node (o1339 p) .nil .nil) (.node (o1854 p) .nil .nil))) (.node (o440 p) (.node (o699 p) (.node (o1211 p) .nil .nil) (.node (o1726 p) .nil .nil)) (.node (o955 p) (.node (o1470 p) .nil .nil) (.node (o1982 p) .nil .nil))))) (.node (o88 p) (.node (o152 p) (.node (o280 p) (.node (o536 p) (.node (o1051 p) .nil .nil) (.node (o1566 p) .nil .nil)) (.node (o795 p) (.node (o1307 p) .nil .nil) (.node (o1822 p) .nil .nil))) (.node (o408 p) (.node (o664 p) (.node (o1179 p) .nil .nil) (.node (o1694 p) .nil .nil)) (.node (o923 p) (.node (o1438 p) .nil .nil) (.node (o1950 p) .nil .nil)))) (.node (o216 p) (.node (o344 p) (.node (o600 p) (.node (o1115 p) .nil .nil) (.node (o1630 p) .nil .nil)) (.node (o859 p) (.node (o1374 p) .nil .nil) (.node (o1886 p) .nil .nil))) (.node (o472 p) (.node (o731 p) (.node (o1243 p) .nil .nil) (.node (o1758 p) .nil .nil)) (.node (o987 p) (.node (o1502 p) .nil .nil) (.node (o2016 p) .nil .nil)))))) (.node (o40 p) (.node (o72 p) (.node (o136 p) (.node (o264 p) (.node (o520 p) (.node (o1035 p) (.node (o2064 p) .nil .nil) .nil) (.node (o1550 p) .nil .nil)) (.node (o779 p) (.node (o1291 p) .nil .nil) (.node (o1806 p) .nil .nil))) (.node (o392 p) (.node (o648 p) (.node (o1163 p) .nil .nil) (.node (o1678 p) .nil .nil)) (.node (o907 p) (.node (o1422 p) .nil .nil) (.node (o1934 p) .nil .nil)))) (.node (o200 p) (.node (o328 p) (.node (o584 p) (.node (o1099 p) .nil .nil) (.node (o1614 p) .nil .nil)) (.node (o843 p) (.node (o1358 p) .nil .nil) (.node (o1870 p) .nil .nil))) (.node (o456 p) (.node (o715 p) (.node (o1227 p) .nil .nil) (.node (o1742 p) .nil .nil)) (.node (o971 p) (.node (o1486 p) .nil .nil) (.node (o1998 p) .nil .nil))))) (.node (o104 p) (.node (o168 p) (.node (o296 p) (.node (o552 p) (.node (o1067 p) .nil .nil) (.node (o1582 p) .nil .nil)) (.node (o811 p) (.node (o1323 p) .nil .nil) (.node (o1838 p) .nil .nil))) (.node (o424 p) (.node (o680 p) (.node (o1195 p) .nil .nil) (.node (o1710 p) .nil .nil)) (.node (o939 p) (.node (o1454 p) .nil .nil) (.node (o1966 p) .nil .nil)))) (.node (o232 p) (.node (o360 p) (.node (o616 p) (.node (o1131 p) .nil .nil) (.node (o1646 p) .nil .nil)) (.node (o875 p) (.node (o1390 p) .nil .nil) (.node (o1902 p) .nil .nil))) (.node (o488 p) (.node (o747 p) (.node (o1259 p) .nil .nil) (.node (o1774 p) .nil .nil)) (.node (o1003 p) (.node (o1518 p) .nil .nil) (.node (o2032 p) .nil .nil))))))) (.node (o16 p) (.node (o32 p) (.node (o64 p) (.node (o128 p) (.node (o256 p) (.node (o512 p) (.node (o1027 p) (.node (o2056 p) .nil .nil) .nil) (.node (o1542 p) .nil .nil)) (.node (o771 p) (.node (o1283 p) .nil .nil) (.node (o1798 p) .nil .nil))) (.node (o384 p) (.node (o640 p) (.node (o1155 p) .nil .nil) (.node (o1670 p) .nil .nil)) (.node (o899 p) (.node (o1414 p) .nil .nil) (.node (o1926 p) .nil .nil)))) (.node (o192 p) (.node (o320 p) (.node (o576 p) (.node (o1091 p) .nil .nil) (.node (o1606 p) .nil .nil)) (.node (o835 p) (.node (o1350 p) .nil .nil) (.node (o1862 p) .nil .nil))) (.node (o448 p) (.node (o707 p) (.node (o1219 p) .nil .nil) (.node (o1734 p) .nil .nil)) (.node (o963 p) (.node (o1478 p) .nil .nil) (.node (o1990 p) .nil .nil))))) (.node (o96 p) (.node (o160 p) (.node (o288 p) (.node (o544 p) (.node (o1059 p) .nil .nil) (.node (o1574 p) .nil .nil)) (.node (o803 p) (.node (o1315 p) .nil .nil) (.node (o1830 p) .nil .nil))) (.node (o416 p) (.node (o672 p) (.node (o1187 p) .nil .nil) (.node (o1702 p) .nil .nil)) (.node (o931 p) (.node (o1446 p) .nil .nil) (.node (o1958 p) .nil .nil)))) (.node (o224 p) (.node (o352 p) (.node (o608 p) (.node (o1123 p) .nil .nil) (.node (o1638 p) .nil .nil)) (.node (o867 p) (.node (o1382 p) .nil .nil) (.node (o1894 p) .nil .nil))) (.node (o480 p) (.node (o739 p) (.node (o1251 p) .nil .nil) (.node (o1766 p) .nil .nil)) (.node (o995 p) (.node (o1510 p) .nil .nil) (.node (o2024 p) .nil .nil)))))) (.node (o48 p) (.node (o80 p) (.node (o144 p) (.node (o272 p) (.node (o528 p) (.node (o1043 p) (.node (o2072 p) .nil .nil) .nil) (.node (o1558 p) .nil .nil)) (.node (o787 p) (.node (o1299 p) .nil .nil) (.node (o1814 p) .nil .nil))) (.node (o400 p) (.node (o656 p) (.node (o1171 p) .nil .nil) (.node (o1686 p) .nil .nil)) (.node (o915 p) (.node (o1430 p) .nil .nil) (.node (o1942 p) .nil .nil)))) (.node (o208 p) (.node (o336 p) (.node (o592 p) (.node (o1107 p) .nil .nil) (.node (o1622 p) .nil .nil)) (.node (o851 p) (.node (o1366 p) .nil .nil) (.node (o1878 p) .nil .nil))) (.node (o464 p) (.node (o723 p) (.node (o1235 p) .nil .nil) (.node (o1750 p) .nil .nil)) (.node (o979 p) (.node (o1494 p) .nil .nil) (.node (o2006 p) .nil .nil))))) (.node (o112 p) (.node (o176 p) (.node (o304 p) (.node (o560 p) (.node (o1075 p) .nil .nil) (.node (o1590 p) .nil .nil)) (.node (o819 p) (.node (o1331 p) .nil .nil) (.node (o1846 p) .nil .nil))) (.node (o432 p) (.node (o691 p) (.node (o1203 p) .nil .nil) (.node (o1718 p) .nil .nil)) (.node (o947 p) (.node (o1462 p) .nil .nil) (.node (o1974 p) .nil .nil)))) (.node (o240 p) (.node (o368 p) (.node (o624 p) (.node (o1139 p) .nil .nil) (.node (o1654 p) .nil .nil)) (.node (o883 p) (.node (o1398 p) .nil .nil) (.node (o1910 p) .nil .nil))) (.node (o496 p) (.node (o755 p) (.node (o1267 p) .nil .nil) (.node (o1782 p) .nil .nil)) (.node (o1011 p) (.node (o1526 p) .nil .nil) (.node (o2040 p) .nil .nil)))))))) (.node (o2 p) (.node (o12 p) (.node (o28 p) (.node (o60 p) (.node (o124 p) (.node (o252 p) (.node (o508 p) (.node (o1023 p) (.node (o2052 p) .nil .nil) .nil) (.node (o1538 p) .nil .nil)) (.node (o767 p) (.node (o1279 p) .nil .nil) (.node (o1794 p) .nil .nil))) (.node (o380 p) (.node (o636 p) (.node (o1151 p) .nil .nil) (.node (o1666 p) .nil .nil)) (.node (o895 p) (.node (o1410 p) .nil .nil) (.node (o1922 p) .nil .nil)))) (.node (o188 p) (.node (o316 p) (.node (o572 p) (.node (o1087 p) .nil .nil) (.node (o1602 p) .nil .nil)) (.node (o831 p) (.node (o1346 p) .nil .nil) (.node (o1858 p) .nil .nil))) (.node (o444 p) (.node (o703 p) (.node (o1215 p) .nil .nil) (.node (o1730 p) .nil .nil)) (.node (o959 p) (.node (o1474 p) .nil .nil) (.node (o1986 p) .nil .nil))))) (.node (o92 p) (.node (o156 p) (.node (o284 p) (.node (o540 p) (.node (o1055 p) .nil .nil) (.node (o1570 p) .nil .nil)) (.node (o799 p) (.node (o1311 p) .nil .nil) (.node (o1826 p) .nil .nil))) (.node (o412 p) (.node (o668 p) (.node (o1183 p) .nil .nil) (.node (o1698 p) .nil .nil)) (.node (o927 p) (.node (o1442 p) .nil .nil) (.node (o1954 p) .nil .nil)))) (.node (o220 p) (.node (o348 p) (.node (o604 p) (.node (o1119 p) .nil .nil) (.node (o1634 p) .nil .nil)) (.node (o863 p) (.node (o1378 p) .nil .nil) (.node (o1890 p) .nil .nil))) (.node (o476 p) (.node (o735 p) (.node (o1247 p) .nil .nil) (.node (o1762 p) .nil .nil)) (.node (o991 p) (.node (o1506 p) .nil .nil) (.node (o2020 p) .nil .nil)))))) (.node (o44 p) (.node (o76 p) (.node (o140 p) (.node (o268 p) (.node (o524 p) (.node (o1039 p) (.node (o2068 p) .nil .nil) .nil) (.node (o1554 p) .nil .nil)) (.node (o783 p) (.node (o1295 p) .nil .nil) (.node (o1810 p) .nil .nil))) (.node (o396 p) (.node (o652 p) (.node (o1167 p) .nil .nil) (.node (o1682 p) .nil .nil)) (.node (o911 p) (.node (o1426 p) .nil .nil) (.node (o1938 p) .nil .nil)))) (.node (o204 p) (.node (o332 p) (.node (o588 p) (.node (o1103 p) .nil .nil) (.node (o1618 p) .nil .nil)) (.node (o847 p) (.node (o1362 p) .nil .nil) (.node (o1874 p) .nil .nil))) (.node (o460 p) (.node (o719 p) (.node (o1231 p) .nil .nil) (.node (o1746 p) .nil .nil)) (.node (o975 p) (.node (o1490 p) .nil .nil) (.node (o2002 p) .nil .nil))))) (.node (o108 p) (.node (o172 p) (.node (o300 p) (.node (o556 p) (.node (o1071 p) .nil .nil) (.node (o1586 p) .nil .nil)) (.node (o815 p) (.node (o1327 p) .nil .nil) (.node (o1842 p) .nil .nil))) (.node (o428 p) (.node (o687 p) (.node (o1199 p) .nil .nil) (.node (o1714 p) .nil .nil)) (.node (o943 p) (.node (o1458 p) .nil .nil) (.node (o1970 p) .nil .nil)))) (.node (o236 p) (.node (o364 p) (.node (o620 p) (.node (o1135 p) .nil .nil) (.node (o1650 p) .nil .nil)) (.node (o879 p) (.node (o1394 p) .nil .nil) (.node (o1906 p) .nil .nil))) (.node (o492 p) (.node (o751 p) (.node (o1263 p) .nil .nil) (.node (o1778 p) .nil .nil)) (.node (o1007 p) (.node (o1522 p) .nil .nil) (.node (o2036 p) .nil .nil))))))) (.node (o20 p) (.node (o36 p) (.node (o68 p) (.node (o132 p) (.node (o260 p) (.node (o516 p) (.node (o1031 p) (.node (o2060 p) .nil .nil) .nil) (.node (o1546 p) .nil .nil)) (.node (o775 p) (.node (o1287 p) .nil .nil) (.node (o1802 p) .nil .nil))) (.node (o388 p) (.node (o644 p) (.node (o1159 p) .nil .nil) (.node (o1674 p) .nil .nil)) (.node (o903 p) (.node (o1418 p) .nil .nil) (.node (o1930 p) .nil .nil)))) (.node (o196 p) (.node (o324 p) (.node (o580 p) (.node (o1095 p) .nil .nil) (.node (o1610 p) .nil .nil)) (.node (o839 p) (.node (o1354 p) .nil .nil) (.node (o1866 p) .nil .nil))) (.node (o452 p) (.node (o711 p) (.node (o1223 p) .nil .nil) (.node (o1738 p) .nil .nil)) (.node (o967 p) (.node (o1482 p) .nil .nil) (.node (o1994 p) .nil .nil))))) (.node (o100 p) (.node (o164 p) (.node (o292 p) (.node (o548 p) (.node (o1063 p) .nil .nil) (.node (o1578 p) .nil .nil)) (.node (o807 p) (.node (o1319 p) .nil .nil) (.node (o1834 p) .nil .nil))) (.node (o420 p) (.node (o676 p) (.node (o1191 p) .nil .nil) (.node (o1706 p) .nil .nil)) (.node (o935 p) (.node (o1450 p) .nil .nil) (.node (o1962 p) .nil .nil)))) (.node (o228 p) (.node (o356 p) (.node (o612 p) (.node (o1127 p) .nil .nil) (.node (o1642 p) .nil .nil)) (.node (o871 p) (.node (o1386 p) .nil .nil) (.node (o1898 p) .nil .nil))) (.node (o484 p) (.node (o743 p) (.node (o1255 p) .nil .nil) (.node (o1770 p) .nil .nil)) (.node (o999 p) (.node (o1514 p) .nil .nil) (.node (o2028 p) .nil .nil)))))) (.node (o52 p) (.node (o84 p) (.node (o148 p) (.node (o276 p) (.node (o532 p) (.node (o1047 p) .nil .nil) (.node (o1562 p) .nil .nil)) (.node (o791 p) (.node (o1303 p) .nil .nil) (.node (o1818 p) .nil .nil))) (.node (o404 p) (.node (o660 p) (.node (o1175 p) .nil .nil) (.node (o1690 p) .nil .nil)) (.node (o919 p) (.node (o1434 p) .nil .nil) (.node (o1946 p) .nil .nil)))) (.node (o212 p) (.node (o340 p) (.node (o596 p) (.node (o1111 p) .nil .nil) (.node (o1626 p) .nil .nil)) (.node (o855 p) (.node (o1370 p) .nil .nil) (.node (o1882 p) .nil .nil))) (.node (o468 p) (.node (o727 p) (.node (o1239 p) .nil .nil) (.node (o1754 p) .nil .nil)) (.node (o983 p) (.node (o1498 p) .nil .nil) (.node (o2012 p) .nil .nil))))) (.node (o116 p) (.node (o180 p) (.node (o308 p) (.node (o564 p) (.node (o1079 p) .nil .nil) (.node (o1594 p) .nil .nil)) (.node (o823 p) (.node (o1335 p) .nil .nil) (.node (o1850 p) .nil .nil))) (.node (o436 p) (.node (o695 p) (.node (o1207 p) .nil .nil) (.node (o1722 p) .nil .nil)) (.node (o951 p) (.node (o1466 p) .nil .nil) (.node (o1978 p) .nil .nil)))) (.node (o244 p) (.node (o372 p) (.node (o628 p) (.node (o1143 p) .nil .nil) (.node (o1658 p) .nil .nil)) (.node (o887 p) (.node (o1402 p) .nil .nil) (.node (o1914 p) .nil .nil))) (.node (o500 p) (.node (o759 p) (.node (o1271 p) .nil .nil) (.node (o1786 p) .nil .nil)) (.node (o1015 p) (.node (o1530 p) .nil .nil) (.node (o2044 p) .nil .nil)))))))))) (.node (boot_o_2 p) (.node (boot_o_4 p) (.node (boot_o_8 p) (.node (o7 p) (.node (o23 p) (.node (o55 p) (.node (o119 p) (.node (o247 p) (.node (o503 p) (.node (o1018 p) (.node (o2047 p) .nil .nil) .nil) (.node (o1533 p) .nil .nil)) (.node (o762 p) (.node (o1274 p) .nil .nil) (.node (o1789 p) .nil .nil))) (.node (o375 p) (.node (o631 p) (.node (o1146 p) .nil .nil) (.node (o1661 p) .nil .nil)) (.node (o890 p) (.node (o1405 p) .nil .nil) (.node (o1917 p) .nil .nil)))) (.node (o183 p) (.node (o311 p) (.node (o567 p) (.node (o1082 p) .nil .nil) (.node (o1597 p) .nil .nil)) (.node (o826 p) (.node (o1338 p) .nil .nil) (.node (o1853 p) .nil .nil))) (.node (o439 p) (.node (o698 p) (.node (o1210 p) .nil .nil) (.node (o1725 p) .nil .nil)) (.node (o954 p) (.node (o1469 p) .nil .nil) (.node (o1981 p) .nil .nil))))) (.node (o87 p) (.node (o151 p) (.node (o279 p) (.node (o535 p) (.node (o1050 p) .nil .nil) (.node (o1565 p) .nil .nil)) (.node (o794 p) (.node (o1306 p) .nil .nil) (.node (o1821 p) .nil .nil))) (.node (o407 p) (.node (o663 p) (.node (o1178 p) .nil .nil) (.node (o1693 p) .nil .nil)) (.node (o922 p) (.node (o1437 p) .nil .nil) (.node (o1949 p) .nil .nil)))) (.node (o215 p) (.node (o343 p) (.node (o599 p) (.node (o1114 p) .nil .nil) (.node (o1629 p) .nil .nil)) (.node (o858 p) (.node (o1373 p) .nil .nil) (.node (o1885 p) .nil .nil))) (.node (o471 p) (.node (o730 p) (.node (o1242 p) .nil .nil) (.node (o1757 p) .nil .nil)) (.node (o986 p) (.node (o1501 p) .nil .nil) (.node (o2015 p) .nil .nil)))))) (.node (o39 p) (.node (o71 p) (.node (o135 p) (.node (o263 p) (.node (o519 p) (.node (o1034 p) (.node (o2063 p) .nil .nil) .nil) (.node (o1549 p) .nil .nil)) (.node (o778 p) (.node (o1290 p) .nil .nil) (.node (o1805 p) .nil .nil))) (.node (o391 p) (.node (o647 p) (.node (o1162 p) .nil .nil) (.node (o1677 p) .nil .nil)) (.node (o906 p) (.node (o1421 p) .nil .nil) (.node (o1933 p) .nil .nil)))) (.node (o199 p) (.node (o327 p) (.node (o583 p) (.node (o1098 p) .nil .nil) (.node (o1613 p) .nil .nil)) (.node (o842 p) (.node (o1357 p) .nil .nil) (.node (o1869 p) .nil .nil))) (.node (o455 p) (.node (o714 p) (.node (o1226 p) .nil .nil) (.node (o1741 p) .nil .nil)) (.node (o970 p) (.node (o1485 p) .nil .nil) (.node (o1997 p) .nil .nil))))) (.node (o103 p) (.node (o167 p) (.node (o295 p) (.node (o551 p) (.node (o1066 p) .nil .nil) (.node (o1581 p) .nil .nil)) (.node (o810 p) (.node (o1322 p) .nil .nil) (.node (o1837 p) .nil .nil))) (.node (o423 p) (.node (o679 p) (.node (o1194 p) .nil .nil) (.node (o1709 p) .nil .nil)) (.node (o938 p) (.node (o1453 p) .nil .nil) (.node (o1965 p) .nil .nil)))) (.node (o231 p) (.node (o359 p) (.node (o615 p) (.node (o1130 p) .nil .nil) (.node (o1645 p) .nil .nil)) (.node (o874 p) (.node (o1389 p) .nil .nil) (.node (o1901 p) .nil .nil))) (.node (o487 p) (.node (o746 p) (.node (o1258 p) .nil .nil) (.node (o1773 p) .nil .nil)) (.node (o1002 p) (.node (o1517 p) .nil .nil) (.node (o2031 p) .nil .nil))))))) (.node (o1343 p) (.node (o31 p) (.node (o63 p) (.node (o127 p) (.node (o255 p) (.node (o511 p) (.node (o1026 p) (.node (o2055 p) .nil .nil) .nil) (.node (o1541 p) .nil .nil)) (.node (o770 p) (.node (o1282 p) .nil .nil) (.node (o1797 p) .nil .nil))) (.node (o383 p) (.node (o639 p) (.node (o1154 p) .nil .nil) (.node (o1669 p) .nil .nil)) (.node (o898 p) (.node (o1413 p) .nil .nil) (.node (o1925 p) .nil .nil)))) (.node (o191 p) (.node (o319 p) (.node (o575 p) (.node (o1090 p) .nil .nil) (.node (o1605 p) .nil .nil)) (.node (o834 p) (.node (o1349 p) .nil .nil) (.node (o1861 p) .nil .nil))) (.node (o447 p) (.node (o706 p) (.node (o1218 p) .nil .nil) (.node (o1733 p) .nil .nil)) (.node (o962 p) (.node (o1477 p) .nil .nil) (.node (o1989 p) .nil .nil))))) (.node (o95 p) (.node (o159 p) (.node (o287 p) (.node (o543 p) (.node (o1058 p) .nil .nil) (.node (o1573 p) .nil .nil)) (.node (o802 p) (.node (o1314 p) .nil .nil) (.node (o1829 p) .nil .nil))) (.node (o415 p) (.node (o671 p) (.node (o1186 p) .nil .nil) (.node (o1701 p) .nil .nil)) (.node (o930 p) (.node (o1445 p) .nil .nil) (.node (o1957 p) .nil .nil)))) (.node (o223 p) (.node (o351 p) (.node (o607 p) (.node (o1122 p) .nil .nil) (.node (o1637 p) .nil .nil)) (.node (o866 p) (.node (o1381 p) .nil .nil) (.node (o1893 p) .nil .nil))) (.node (o479 p) (.node (o738 p) (.node (o1250 p) .nil .nil) (.node (o1765 p) .nil .nil)) (.node (o994 p) (.node (o1509 p) .nil .nil) (.node (o2023 p) .nil .nil)))))) (.node (o47 p) (.node (o79 p) (.node (o143 p) (.node (o271 p) (.node (o527 p) (.node (o1042 p) (.node (o2071 p) .nil .nil) .nil) (.node (o1557 p) .nil .nil)) (.node (o786 p) (.node (o1298 p) .nil .nil) (.node (o1813 p) .nil .nil))) (.node (o399 p) (.node (o655 p) (.node (o1170 p) .nil .nil) (.node (o1685 p) .nil .nil)) (.node (o914 p) (.node (o1429 p) .nil .nil) (.node (o1941 p) .nil .nil)))) (.node (o207 p) (.node (o335 p) (.node (o591 p) (.node (o1106 p) .nil .nil) (.node (o1621 p) .nil .nil)) (.node (o850 p) (.node (o1365 p) .nil .nil) (.node (o1877 p) .nil .nil))) (.node (o463 p) (.node (o722 p) (.node (o1234 p) .nil .nil) (.node (o1749 p) .nil .nil)) (.node (o978 p) (.node (o1493 p) .nil .nil) (.node (o2005 p) .nil .nil))))) (.node (o111 p) (.node (o175 p) (.node (o303 p) (.node (o559 p) (.node (o1074 p) .nil .nil) (.node (o1589 p) .nil .nil)) (.node (o818 p) (.node (o1330 p) .nil .nil) (.node (o1845 p) .nil .nil))) (.node (o431 p) (.node (o690 p) (.node (o1202 p) .nil .nil) (.node (o1717 p) .nil .nil)) (.node (o946 p) (.node (o1461 p) .nil .nil) (.node (o1973 p) .nil .nil)))) (.node (o239 p) (.node (o367 p) (.node (o623 p) (.node (o1138 p) .nil .nil) (.node (o1653 p) .nil .nil)) (.node (o882 p) (.node (o1397 p) .nil .nil) (.node (o1909 p) .nil .nil))) (.node (o495 p) (.node (o754 p) (.node (o1266 p) .nil .nil) (.node (o1781 p) .nil .nil)) (.node (o1010 p) (.node (o1525 p) .nil .nil) (.node (o2039 p) .nil .nil)))))))) (.node (o2008 p) (.node (o11 p) (.node (o27 p) (.node (o59 p) (.node (o123 p) (.node (o251 p) (.node (o507 p) (.node (o1022 p) (.node (o2051 p) .nil .nil) .nil) (.node (o1537 p) .nil .nil)) (.node (o766 p) (.node (o1278 p) .nil .nil) (.node (o1793 p) .nil .nil))) (.node (o379 p) (.node (o635 p) (.node (o1150 p) .nil .nil) (.node (o1665 p) .nil .nil)) (.node (o894 p) (.node (o1409 p) .nil .nil) (.node (o1921 p) .nil .nil)))) (.node (o187 p) (.node (o315 p) (.node (o571 p) (.node (o1086 p) .nil .nil) (.node (o1601 p) .nil .nil)) (.node (o830 p) (.node (o1345 p) .nil .nil) (.node (o1857 p) .nil .nil))) (.node (o443 p) (.node (o702 p) (.node (o1214 p) .nil .nil) (.node (o1729 p) .nil .nil)) (.node (o958 p) (.node (o1473 p) .nil .nil) (.node (o1985 p) .nil .nil))))) (.node (o91 p) (.node (o155 p) (.node (o283 p) (.node (o539 p) (.node (o1054 p) .nil .nil) (.node (o1569 p) .nil .nil)) (.node (o798 p) (.node (o1310 p) .nil .nil) (.node (o1825 p) .nil .nil))) (.node (o411 p) (.node (o667 p) (.node (o1182 p) .nil .nil) (.node (o1697 p) .nil .nil)) (.node (o926 p) (.node (o1441 p) .nil .nil) (.node (o1953 p) .nil .nil)))) (.node (o219 p) (.node (o347 p) (.node (o603 p) (.node (o1118 p) .nil .nil) (.node (o1633 p) .nil .nil)) (.node (o862 p) (.node (o1377 p) .nil .nil) (.node (o1889 p) .nil .nil))) (.node (o475 p) (.node (o734 p) (.node (o1246 p) .nil .nil) (.node (o1761 p) .nil .nil)) (.node (o990 p) (.node (o1505 p) .nil .nil) (.node (o2019 p) .nil .nil)))))) (.node (o43 p) (.node (o75 p) (.node (o139 p) (.node (o267 p) (.node (o523 p) (.node (o1038 p) (.node (o2067 p) .nil .nil) .nil) (.node (o1553 p) .nil .nil)) (.node (o782 p) (.node (o1294 p) .nil .nil) (.node (o1809 p) .nil .nil))) (.node (o395 p) (.node (o651 p) (.node (o1166 p) .nil .nil) (.node (o1681 p) .nil .nil)) (.node (o910 p) (.node (o1425 p) .nil .nil) (.node (o1937 p) .nil .nil)))) (.node (o203 p) (.node (o331 p) (.node (o587 p) (.node (o1102 p) .nil .nil) (.node (o1617 p) .nil .nil)) (.node (o846 p) (.node (o1361 p) .nil .nil) (.node (o1873 p) .nil .nil))) (.node (o459 p) (.node (o718 p) (.node (o1230 p) .nil .nil) (.node (o1745 p) .nil .nil)) (.node (o974 p) (.node (o1489 p) .nil .nil) (.node (o2001 p) .nil .nil))))) (.node (o107 p) (.node (o171 p) (.node (o299 p) (.node (o555 p) (.node (o1070 p) .nil .nil) (.node (o1585 p) .nil .nil)) (.node (o814 p) (.node (o1326 p) .nil .nil) (.node (o1841 p) .nil .nil))) (.node (o427 p) (.node (o686 p) (.node (o1198 p) .nil .nil) (.node (o1713 p) .nil .nil)) (.node (o942 p) (.node (o1457 p) .nil .nil) (.node (o1969 p) .nil .nil)))) (.node (o235 p) (.node (o363 p) (.node (o619 p) (.node (o1134 p) .nil .nil) (.node (o1649 p) .nil .nil)) (.node (o878 p) (.node (o1393 p) .nil .nil) (.node (o1905 p) .nil .nil))) (.node (o491 p) (.node (o750 p) (.node (o1262 p) .nil .nil) (.node (o1777 p) .nil .nil)) (.node (o1006 p) (.node (o1521 p) .nil .nil) (.node (o2035 p) .nil .nil))))))) (.node (o19 p) (.node (o35 p) (.node (o67 p) (.node (o131 p) (.node (o259 p) (.node (o515 p) (.node (o1030 p) (.node (o2059 p) .nil .nil) .nil) (.node (o1545 p) .nil .nil)) (.node (o774 p) (.node (o1286 p) .nil .nil) (.node (o1801 p) .nil .nil))) (.node (o387 p) (.node (o643 p) (.node (o1158 p) .nil .nil) (.node (o1673 p) .nil .nil)) (.node (o902 p) (.node (o1417 p) .nil .nil) (.node (o1929 p) .nil .nil)))) (.node (o195 p) (.node (o323 p) (.node (o579 p) (.node (o1094 p) .nil .nil) (.node (o1609 p) .nil .nil)) (.node (o838 p) (.node (o1353 p) .nil .nil) (.node (o1865 p) .nil .nil))) (.node (o451 p) (.node (o710 p) (.node (o1222 p) .nil .nil) (.node (o1737 p) .nil .nil)) (.node (o966 p) (.node (o1481 p) .nil .nil) (.node (o1993 p) .nil .nil))))) (.node (o99 p) (.node (o163 p) (.node (o291 p) (.node (o547 p) (.node (o1062 p) .nil .nil) (.node (o1577 p) .nil .nil)) (.node (o806 p) (.node (o1318 p) .nil .nil) (.node (o1833 p) .nil .nil))) (.node (o419 p) (.node (o675 p) (.node (o1190 p) .nil .nil) (.node (o1705 p) .nil .nil)) (.node (o934 p) (.node (o1449 p) .nil .nil) (.node (o1961 p) .nil .nil)))) (.node (o227 p) (.node (o355 p) (.node (o611 p) (.node (o1126 p) .nil .nil) (.node (o1641 p) .nil .nil)) (.node (o870 p) (.node (o1385 p) .nil .nil) (.node (o1897 p) .nil .nil))) (.node (o483 p) (.node (o742 p) (.node (o1254 p) .nil .nil) (.node (o1769 p) .nil .nil)) (.node (o998 p) (.node (o1513 p) .nil .nil) (.node (o2027 p) .nil .nil)))))) (.node (o51 p) (.node (o83 p) (.node (o147 p) (.node (o275 p) (.node (o531 p) (.node (o1046 p) .nil .nil) (.node (o1561 p) .nil .nil)) (.node (o790 p) (.node (o1302 p) .nil .nil) (.node (o1817 p) .nil .nil))) (.node (o403 p) (.node (o659 p) (.node (o1174 p) .nil .nil) (.node (o1689 p) .nil .nil)) (.node (o918 p) (.node (o1433 p) .nil .nil) (.node (o1945 p) .nil .nil)))) (.node (o211 p) (.node (o339 p) (.node (o595 p) (.node (o1110 p) .nil .nil) (.node (o1625 p) .nil .nil)) (.node (o854 p) (.node (o1369 p) .nil .nil) (.node (o1881 p) .nil .nil))) (.node (o467 p) (.node (o726 p) (.node (o1238 p) .nil .nil) (.node (o1753 p) .nil .nil)) (.node (o982 p) (.node (o1497 p) .nil .nil) (.node (o2011 p) .nil .nil))))) (.node (o115 p) (.node (o179 p) (.node (o307 p) (.node (o563 p) (.node (o1078 p) .nil .nil) (.node (o1593 p) .nil .nil)) (.node (o822 p) (.node (o1334 p) .nil .nil) (.node (o1849 p) .nil .nil))) (.node (o435 p) (.node (o694 p) (.node (o1206 p) .nil .nil) (.node (o1721 p) .nil .nil)) (.node (o950 p) (.node (o1465 p) .nil .nil) (.node (o1977 p) .nil .nil)))) (.node (o243 p) (.node (o371 p) (.node (o627 p) (.node (o1142 p) .nil .nil) (.node (o1657 p) .nil .nil)) (.node (o886 p) (.node (o1401 p) .nil .nil) (.node (o1913 p) .nil .nil))) (.node (o499 p) (.node (o758 p) (.node (o1270 p) .nil .nil) (.node (o1785 p) .nil .nil)) (.node (o1014 p) (.node (o1529 p) .nil .nil) (.node (o2043 p) .nil .nil))))))))) (.node (boot_o_6 p) (.node (boot_o_10 p) (.node (o9 p) (.node (o25 p) (.node (o57 p) (.node (o121 p) (.node (o249 p) (.node (o505 p) (.node (o1020 p) (.node (o2049 p) .nil .nil) .nil) (.node (o1535 p) .nil .nil)) (.node (o764 p) (.node (o1276 p) .nil .nil) (.node (o1791 p) .nil .nil))) (.node (o377 p) (.node (o633 p) (.node (o1148 p) .nil .nil) (.node (o1663 p) .nil .nil)) (.node (o892 p) (.node (o1407 p) .nil .nil) (.node (o1919 p) .nil .nil)))) (.node (o185 p) (.node (o313 p) (.node (o569 p) (.node (o1084 p) .nil .nil) (.node (o1599 p) .nil .nil)) (.node (o828 p) (.node (o1340 p) .nil .nil) (.node (o1855 p) .nil .nil))) (.node (o441 p) (.node (o700 p) (.node (o1212 p) .nil .nil) (.node (o1727 p) .nil .nil)) (.node (o956 p) (.node (o1471 p) .nil .nil) (.node (o1983 p) .nil .nil))))) (.node (o89 p) (.node (o153 p) (.node (o281 p) (.node (o537 p) (.node (o1052 p) .nil .nil) (.node (o1567 p) .nil .nil)) (.node (o796 p) (.node (o1308 p) .nil .nil) (.node (o1823 p) .nil .nil))) (.node (o409 p) (.node (o665 p) (.node (o1180 p) .nil .nil) (.node (o1695 p) .nil .nil)) (.node (o924 p) (.node (o1439 p) .nil .nil) (.node (o1951 p) .nil .nil)))) (.node (o217 p) (.node (o345 p) (.node (o601 p) (.node (o1116 p) .nil .nil) (.node (o1631 p) .nil .nil)) (.node (o860 p) (.node (o1375 p) .nil .nil) (.node (o1887 p) .nil .nil))) (.node (o473 p) (.node (o732 p) (.node (o1244 p) .nil .nil) (.node (o1759 p) .nil .nil)) (.node (o988 p) (.node (o1503 p) .nil .nil) (.node (o2017 p) .nil .nil)))))) (.node (o41 p) (.node (o73 p) (.node (o137 p) (.node (o265 p) (.node (o521 p) (.node (o1036 p) (.node (o2065 p) .nil .nil) .nil) (.node (o1551 p) .nil .nil)) (.node (o780 p) (.node (o1292 p) .nil .nil) (.node (o1807 p) .nil .nil))) (.node (o393 p) (.node (o649 p) (.node (o1164 p) .nil .nil) (.node (o1679 p) .nil .nil)) (.node (o908 p) (.node (o1423 p) .nil .nil) (.node (o1935 p) .nil .nil)))) (.node (o201 p) (.node (o329 p) (.node (o585 p) (.node (o1100 p) .nil .nil) (.node (o1615 p) .nil .nil)) (.node (o844 p) (.node (o1359 p) .nil .nil) (.node (o1871 p) .nil .nil))) (.node (o457 p) (.node (o716 p) (.node (o1228 p) .nil .nil) (.node (o1743 p) .nil .nil)) (.node (o972 p) (.node (o1487 p) .nil .nil) (.node (o1999 p) .nil .nil))))) (.node (o105 p) (.node (o169 p) (.node (o297 p) (.node (o553 p) (.node (o1068 p) .nil .nil) (.node (o1583 p) .nil .nil)) (.node (o812 p) (.node (o1324 p) .nil .nil) (.node (o1839 p) .nil .nil))) (.node (o425 p) (.node (o681 p) (.node (o1196 p) .nil .nil) (.node (o1711 p) .nil .nil)) (.node (o940 p) (.node (o1455 p) .nil .nil) (.node (o1967 p) .nil .nil)))) (.node (o233 p) (.node (o361 p) (.node (o617 p) (.node (o1132 p) .nil .nil) (.node (o1647 p) .nil .nil)) (.node (o876 p) (.node (o1391 p) .nil .nil) (.node (o1903 p) .nil .nil))) (.node (o489 p) (.node (o748 p) (.node (o1260 p) .nil .nil) (.node (o1775 p) .nil .nil)) (.node (o1004 p) (.node (o1519 p) .nil .nil) (.node (o2033 p) .nil .nil))))))) (.node (o17 p) (.node (o33 p) (.node (o65 p) (.node (o129 p) (.node (o257 p) (.node (o513 p) (.node (o1028 p) (.node (o2057 p) .nil .nil) .nil) (.node (o1543 p) .nil .nil)) (.node (o772 p) (.node (o1284 p) .nil .nil) (.node (o1799 p) .nil .nil))) (.node (o385 p) (.node (o641 p) (.node (o1156 p) .nil .nil) (.node (o1671 p) .nil .nil)) (.node (o900 p) (.node (o1415 p) .nil .nil) (.node (o1927 p) .nil .nil)))) (.node (o193 p) (.node (o321 p) (.node (o577 p) (.node (o1092 p) .nil .nil) (.node (o1607 p) .nil .nil)) (.node (o836 p) (.node (o1351 p) .nil .nil) (.node (o1863 p) .nil .nil))) (.node (o449 p) (.node (o708 p) (.node (o1220 p) .nil .nil) (.node (o1735 p) .nil .nil)) (.node (o964 p) (.node (o1479 p) .nil .nil) (.node (o1991 p) .nil .nil))))) (.node (o97 p) (.node (o161 p) (.node (o289 p) (.node (o545 p) (.node (o1060 p) .nil .nil) (.node (o1575 p) .nil .nil)) (.node (o804 p) (.node (o1316 p) .nil .nil) (.node (o1831 p) .nil .nil))) (.node (o417 p) (.node (o673 p) (.node (o1188 p) .nil .nil) (.node (o1703 p) .nil .nil)) (.node (o932 p) (.node (o1447 p) .nil .nil) (.node (o1959 p) .nil .nil)))) (.node (o225 p) (.node (o353 p) (.node (o609 p) (.node (o1124 p) .nil .nil) (.node (o1639 p) .nil .nil)) (.node (o868 p) (.node (o1383 p) .nil .nil) (.node (o1895 p) .nil .nil))) (.node (o481 p) (.node (o740 p) (.node (o1252 p) .nil .nil) (.node (o1767 p) .nil .nil)) (.node (o996 p) (.node (o1511 p) .nil .nil) (.node (o2025 p) .nil .nil)))))) (.node (o49 p) (.node (o81 p) (.node (o145 p) (.node (o273 p) (.node (o529 p) (.node (o1044 p) .nil .nil) (.node (o1559 p) .nil .nil)) (.node (o788 p) (.node (o1300 p) .nil .nil) (.node (o1815 p) .nil .nil))) (.node (o401 p) (.node (o657 p) (.node (o1172 p) .nil .nil) (.node (o1687 p) .nil .nil)) (.node (o916 p) (.node (o1431 p) .nil .nil) (.node (o1943 p) .nil .nil)))) (.node (o209 p) (.node (o337 p) (.node (o593 p) (.node (o1108 p) .nil .nil) (.node (o1623 p) .nil .nil)) (.node (o852 p) (.node (o1367 p) .nil .nil) (.node (o1879 p) .nil .nil))) (.node (o465 p) (.node (o724 p) (.node (o1236 p) .nil .nil) (.node (o1751 p) .nil .nil)) (.node (o980 p) (.node (o1495 p) .nil .nil) (.node (o2009 p) .nil .nil))))) (.node (o113 p) (.node (o177 p) (.node (o305 p) (.node (o561 p) (.node (o1076 p) .nil .nil) (.node (o1591 p) .nil .nil)) (.node (o820 p) (.node (o1332 p) .nil .nil) (.node (o1847 p) .nil .nil))) (.node (o433 p) (.node (o692 p) (.node (o1204 p) .nil .nil) (.node (o1719 p) .nil .nil)) (.node (o948 p) (.node (o1463 p) .nil .nil) (.node (o1975 p) .nil .nil)))) (.node (o241 p) (.node (o369 p) (.node (o625 p) (.node (o1140 p) .nil .nil) (.node (o1655 p) .nil .nil)) (.node (o884 p) (.node (o1399 p) .nil .nil) (.node (o1911 p) .nil .nil))) (.node (o497 p) (.node (o756 p) (.node (o1268 p) .nil .nil) (.node (o1783 p) .nil .nil)) (.node (o1012 p) (.node (o1527 p) .nil .nil) (.node (o2041 p) .nil .nil)))))))) (.node (o3 p) (.node (o13 p) (.node (o29 p) (.node (o61 p) (.node (o125 p) (.node (o253 p) (.node (o509 p) (.node (o1024 p) (.node (o2053 p) .nil .nil) .nil) (.node (o1539 p) .nil .nil)) (.node (o768 p) (.node (o1280 p) .nil .nil) (.node (o1795 p) .nil .nil))) (.node (o381 p) (.node (o637 p) (.node (o1152 p) .nil .nil) (.node (o1667 p) .nil .nil)) (.node (o896 p) (.node (o1411 p) .nil .nil) (.node (o1923 p) .nil .nil)))) (.node (o189 p) (.node (o317 p) (.node (o573 p) (.node (o1088 p) .nil .nil) (.node (o1603 p) .nil .nil)) (.node (o832 p) (.node (o1347 p) .nil .nil) (.node (o1859 p) .nil .nil))) (.node (o445 p) (.node (o704 p) (.node (o1216 p) .nil .nil) (.node (o1731 p) .nil .nil)) (.node (o960 p) (.node (o1475 p) .nil .nil) (.node (o1987 p) .nil .nil))))) (.node (o93 p) (.node (o157 p) (.node (o285 p) (.node (o541 p) (.node (o1056 p) .nil .nil) (.node (o1571 p) .nil .nil)) (.node (o800 p) (.node (o1312 p) .nil .nil) (.node (o1827 p) .nil .nil))) (.node (o413 p) (.node (o669 p) (.node (o1184 p) .nil .nil) (.node (o1699 p) .nil .nil)) (.node (o928 p) (.node (o1443 p) .nil .nil) (.node (o1955 p) .nil .nil)))) (.node (o221 p) (.node (o349 p) (.node (o605 p) (.node (o1120 p) .nil .nil) (.node (o1635 p) .nil .nil)) (.node (o864 p) (.node (o1379 p) .nil .nil) (.node (o1891 p) .nil .nil))) (.node (o477 p) (.node (o736 p) (.node (o1248 p) .nil .nil) (.node (o1763 p) .nil .nil)) (.node (o992 p) (.node (o1507 p) .nil .nil) (.node (o2021 p) .nil .nil)))))) (.node (o45 p) (.node (o77 p) (.node (o141 p) (.node (o269 p) (.node (o525 p) (.node (o1040 p) (.node (o2069 p) .nil .nil) .nil) (.node (o1555 p) .nil .nil)) (.node (o784 p) (.node (o1296 p) .nil .nil) (.node (o1811 p) .nil .nil))) (.node (o397 p) (.node (o653 p) (.node (o1168 p) .nil .nil) (.node (o1683 p) .nil .nil)) (.node (o912 p) (.node (o1427 p) .nil .nil) (.node (o1939 p) .nil .nil)))) (.node (o205 p) (.node (o333 p) (.node (o589 p) (.node (o1104 p) .nil .nil) (.node (o1619 p) .nil .nil)) (.node (o848 p) (.node (o1363 p) .nil .nil) (.node (o1875 p) .nil .nil))) (.node (o461 p) (.node (o720 p) (.node (o1232 p) .nil .nil) (.node (o1747 p) .nil .nil)) (.node (o976 p) (.node (o1491 p) .nil .nil) (.node (o2003 p) .nil .nil))))) (.node (o109 p) (.node (o173 p) (.node (o301 p) (.node (o557 p) (.node (o1072 p) .nil .nil) (.node (o1587 p) .nil .nil)) (.node (o816 p) (.node (o1328 p) .nil .nil) (.node (o1843 p) .nil .nil))) (.node (o429 p) (.node (o688 p) (.node (o1200 p) .nil .nil) (.node (o1715 p) .nil .nil)) (.node (o944 p) (.node (o1459 p) .nil .nil) (.node (o1971 p) .nil .nil)))) (.node (o237 p) (.node (o365 p) (.node (o621 p) (.node (o1136 p) .nil .nil) (.node (o1651 p) .nil .nil)) (.node (o880 p) (.node (o1395 p) .nil .nil) (.node (o1907 p) .nil .nil))) (.node (o493 p) (.node (o752 p) (.node (o1264 p) .nil .nil) (.node (o1779 p) .nil .nil)) (.node (o1008 p) (.node (o1523 p) .nil .nil) (.node (o2037 p) .nil .nil))))))) (.node (o21 p) (.node (o37 p) (.node (o69 p) (.node (o133 p) (.node (o261 p) (.node (o517 p) (.node (o1032 p) (.node (o2061 p) .nil .nil) .nil) (.node (o1547 p) .nil .nil)) (.node (o776 p) (.node (o1288 p) .nil .nil) (.node (o1803 p) .nil .nil))) (.node (o389 p) (.node (o645 p) (.node (o1160 p) .nil .nil) (.node (o1675 p) .nil .nil)) (.node (o904 p) (.node (o1419 p) .nil .nil) (.node (o1931 p) .nil .nil)))) (.node (o197 p) (.node (o325 p) (.node (o581 p) (.node (o1096 p) .nil .nil) (.node (o1611 p) .nil .nil)) (.node (o840 p) (.node (o1355 p) .nil .nil) (.node (o1867 p) .nil .nil))) (.node (o453 p) (.node (o712 p) (.node (o1224 p) .nil .nil) (.node (o1739 p) .nil .nil)) (.node (o968 p) (.node (o1483 p) .nil .nil) (.node (o1995 p) .nil .nil))))) (.node (o101 p) (.node (o165 p) (.node (o293 p) (.node (o549 p) (.node (o1064 p) .nil .nil) (.node (o1579 p) .nil .nil)) (.node (o808 p) (.node (o1320 p) .nil .nil) (.node (o1835 p) .nil .nil))) (.node (o421 p) (.node (o677 p) (.node (o1192 p) .nil .nil) (.node (o1707 p) .nil .nil)) (.node (o936 p) (.node (o1451 p) .nil .nil) (.node (o1963 p) .nil .nil)))) (.node (o229 p) (.node (o357 p) (.node (o613 p) (.node (o1128 p) .nil .nil) (.node (o1643 p) .nil .nil)) (.node (o872 p) (.node (o1387 p) .nil .nil) (.node (o1899 p) .nil .nil))) (.node (o485 p) (.node (o744 p) (.node (o1256 p) .nil .nil) (.node (o1771 p) .nil .nil)) (.node (o1000 p) (.node (o1515 p) .nil .nil) (.node (o2029 p) .nil .nil)))))) (.node (o53 p) (.node (o85 p) (.node (o149 p) (.node (o277 p) (.node (o533 p) (.node (o1048 p) .nil .nil) (.node (o1563 p) .nil .nil)) (.node (o792 p) (.node (o1304 p) .nil .nil) (.node (o1819 p) .nil .nil))) (.node (o405 p) (.node (o661 p) (.node (o1176 p) .nil .nil) (.node (o1691 p) .nil .nil)) (.node (o920 p) (.node (o1435 p) .nil .nil) (.node (o1947 p) .nil .nil)))) (.node (o213 p) (.node (o341 p) (.node (o597 p) (.node (o1112 p) .nil .nil) (.node (o1627 p) .nil .nil)) (.node (o856 p) (.node (o1371 p) .nil .nil) (.node (o1883 p) .nil .nil))) (.node (o469 p) (.node (o728 p) (.node (o1240 p) .nil .nil) (.node (o1755 p) .nil .nil)) (.node (o984 p) (.node (o1499 p) .nil .nil) (.node (o2013 p) .nil .nil))))) (.node (o117 p) (.node (o181 p) (.node (o309 p) (.node (o565 p) (.node (o1080 p) .nil .nil) (.node (o1595 p) .nil .nil)) (.node (o824 p) (.node (o1336 p) .nil .nil) (.node (o1851 p) .nil .nil))) (.node (o437 p) (.node (o696 p) (.node (o1208 p) .nil .nil) (.node (o1723 p) .nil .nil)) (.node (o952 p) (.node (o1467 p) .nil .nil) (.node (o1979 p) .nil .nil)))) (.node (o245 p) (.node (o373 p) (.node (o629 p) (.node (o1144 p) .nil .nil) (.node (o1659 p) .nil .nil)) (.node (o888 p) (.node (o1403 p) .nil .nil) (.node (o1915 p) .nil .nil))) (.node (o501 p) (.node (o760 p) (.node (o1272 p) .nil .nil) (.node (o1787 p) .nil .nil)) (.node (o1016 p) (.node (o1531 p) .nil .nil) (.node (o2045 p) .nil .nil)))))))))))
end K00
set_option Elab.async false
set_option linter.all false
set_option maxRecDepth 100000
set_option maxHeartbeats 0
namespace K00
open PySem PySem.W
noncomputable def T_0 (p : Params) : BT := (.node (boot_o_0 p) (.node (boot_o_1 p) (.node (boot_o_3 p) (.node (boot_o_7 p) .nil .nil) .nil) (.node (boot_o_5 p) (.node (boot_o_9 p) .nil .nil) .nil)) (.node (boot_o_2 p) (.node (boot_o_4 p) (.node (boot_o_8 p) .nil .nil) .nil) (.node (boot_o_6 p) (.node (boot_o_10 p) .nil .nil) .nil)))
end K00

namespace K00
open PySem PySem.W PySem.Calls PyProof.Rows HandSHeadRun
noncomputable section
/-- a part of the top, to its end, by any stepper -/
def segF (sp : SharedT → Thread → Option (SharedT × Thread)) (n0 : Nat) (ann : Option Value) : Nat → SharedT → Thread → Option (Flow × SharedT × Code × Pos)
  | 0, _, _ => none
  | m + 1, s, t => match endAt 1 t with
    | some f => some (f, s, t.code, t.pos)
    | none => match stepOk n0 ann t with
      | false => none
      | true => match sp s t with
        | some (s', t') => frS s' fun s' => segF sp n0 ann m s' t'
        | none => none
theorem segF_ok {tb : String → Option Builtin} {p : Program} {w : World} {n0 : Nat} {ann : Option Value} : ∀ {m : Nat} {s : SharedT} {t : Thread} {z : Flow × SharedT × Code × Pos}, segF (stepT (denote tb) p w) n0 ann m s t = some z → segRunT tb p w n0 ann 1 m s t = some z
  | 0, _, _, _, h => by cases h
  | m + 1, s, t, z, h => by
    unfold segF at h
    unfold segRunT
    cases h1 : endAt 1 t with
    | some f =>
      rw [h1] at h
      exact h
    | none =>
      rw [h1] at h
      cases h2 : stepOk n0 ann t with
      | false =>
        rw [h2] at h
        cases h
      | true =>
        rw [h2] at h
        cases h3 : stepT (denote tb) p w s t with
        | none =>
          rw [h3] at h
          cases h
        | some v =>
          obtain ⟨s', t'⟩ := v
          rw [h3] at h
          have h4 : (frS s' fun s' => segF (stepT (denote tb) p w) n0 ann m s' t') = some z := h
          rw [frS_eq] at h4
          exact segF_ok h4
/-- so many steps, by any stepper -/
def preF (sp : SharedT → Thread → Option (SharedT × Thread)) (n0 : Nat) (ann : Option Value) : Nat → SharedT → Thread → Option (SharedT × Thread)
  | 0, s, t => some (s, t)
  | m + 1, s, t => match through t with
    | true => none
    | false => match stepOk n0 ann t with
      | false => none
      | true => match sp s t with
        | some (s', t') => frS s' fun s' => preF sp n0 ann m s' t'
        | none => none
theorem preF_ok {tb : String → Option Builtin} {p : Program} {w : World} {n0 : Nat} {ann : Option Value} : ∀ {m : Nat} {s s2 : SharedT} {t t2 : Thread}, preF (stepT (denote tb) p w) n0 ann m s t = some (s2, t2) → topGo tb p w n0 ann m s.abs t = some (s2.abs, t2)
  | 0, _, _, _, _, h => by
    cases h
    rfl
  | m + 1, s, s2, t, t2, h => by
    unfold preF at h
    unfold topGo
    cases h1 : through t with
    | true =>
      rw [h1] at h
      cases h
    | false =>
      rw [h1] at h
      cases h2 : stepOk n0 ann t with
      | false =>
        rw [h2] at h
        cases h
      | true =>
        rw [h2] at h
        cases h3 : stepT (denote tb) p w s t with
        | none =>
          rw [h3] at h
          cases h
        | some v =>
          obtain ⟨s', t'⟩ := v
          rw [h3] at h
          have h4 : (frS s' fun s' => preF (stepT (denote tb) p w) n0 ann m s' t') = some (s2, t2) := h
          rw [frS_eq] at h4
          show (match step (denote tb) p w s.abs t with
            | .go s' t' => topGo tb p w n0 ann m s' t'
            | .halt _ _ => none) = _
          rw [stepT_spec h3]
          exact preF_ok h4
abbrev Pr : Program := (OpenLaw.row PySem.Challenge.rw_neverhalf_k00_errors_made).prog
def envT : Env := { scope := Pr.main.scope, locals := mainNs, globals := mainNs, cells := [], code := .ref 13, frame := some 14 }
def cT : Code := .body (behindTheImports Pr) envT
abbrev pos0 : Pos := ⟨0, 0, 0, 0⟩
abbrev BT0 : List Frame := [topFrame pos0]
abbrev annT : Option Value := some (.ref 6)
def lifeT : Life := ⟨[], [], [], 0, [], [], false, #[], [], 0, false, false, false, 0, [2000, 10, 10], false, 0, true, [], [], 0, false⟩
def SSa (w : World) (os : OsState) : SharedT := ⟨T_a w.params, 15, lifeT, #[], ⟨0, 0, 0, 0⟩, 187, os⟩
def SSc (w : World) (os : OsState) : SharedT := ⟨T_c w.params, 691, lifeT, #[], ⟨0, 0, 0, 0⟩, 1080, os⟩
def SSg (w : World) (os : OsState) : SharedT := ⟨T_g w.params, 2074, lifeT, #[], ⟨0, 0, 0, 0⟩, 2897, os⟩
def SSf (w : World) (os : OsState) : SharedT := ⟨T_f w.params, 2010, lifeT, #[], ⟨0, 0, 0, 0⟩, 2821, os⟩
def SSd (w : World) (os : OsState) : SharedT := ⟨T_d w.params, 1347, lifeT, #[], ⟨0, 0, 0, 0⟩, 1946, os⟩
def bodyT : List Stmt := behindTheImports Pr
def bA : List Stmt := bodyT.take 38
def bB : List Stmt := (bodyT.drop 38).take 37
def bC : List Stmt := ((bodyT.drop 38).drop 37).take 37
def bD : List Stmt := ((bodyT.drop 38).drop 37).drop 37
theorem body_eq : bA ++ (bB ++ (bC ++ bD)) = bodyT := by
  unfold bA bB bC bD
  rw [List.take_append_drop, List.take_append_drop, List.take_append_drop]
abbrev stQ (w : World) : SharedT → Thread → Option (SharedT × Thread) := stepQ (denQ tabQ) Pr w
theorem stQ_eq (w : World) : stQ w = stepT (denote treeTable) Pr w := by
  show stepQ (denQ tabQ) Pr w = _
  rw [stepQ_eq, denQ_eq, tabQ_eq]
theorem boot_tree (w : World) : putAll (boot_heap w.params).objs.toList .nil 0 = some (T_0 w.params, 11) := by kernel_rfl
theorem boot_ann (w : World) : bootAnn w = annT := by kernel_rfl
theorem seg0 (w : World) (os : OsState) : preF (stQ w) 11 annT 12 (bootT w os (T_0 w.params, 11)) (topStub Pr) = some (SSa w os, ⟨denQ tabQ cT, cT, pos0, BT0⟩) := by
  kernel_rfl
theorem segb (w : World) (os : OsState) : segF (stQ w) 11 annT 1 (SSa w os) (blockOf bodyT envT cT pos0 BT0) = some (.next, SSa w os, cT, pos0) := by
  kernel_rfl
theorem segA (w : World) (os : OsState) : segF (stQ w) 11 annT (8920) (SSa w os) (piecesOf bA envT cT pos0 BT0) = some (.next, SSc w os, cT, (Pos.mk 138 0 141 28)) := by
  kernel_rfl
theorem segB (w : World) (os : OsState) : segF (stQ w) 11 annT (8702) (SSc w os) (piecesOf bB envT cT (Pos.mk 138 0 141 28) BT0) = some (.next, SSd w os, cT, (Pos.mk 275 0 278 22)) := by
  kernel_rfl
theorem segC (w : World) (os : OsState) : segF (stQ w) 11 annT (8734) (SSd w os) (piecesOf bC envT cT (Pos.mk 275 0 278 22) BT0) = some (.next, SSf w os, cT, (Pos.mk 417 0 417 8)) := by
  kernel_rfl
theorem segD (w : World) (os : OsState) : goF (stQ w) 11 annT 340 (SSf w os) (restOf bD envT cT (Pos.mk 417 0 417 8) BT0) = some (SSg w os) := by
  kernel_rfl
end
end K00
set_option Elab.async false
set_option linter.all false
set_option maxRecDepth 100000
set_option maxHeartbeats 0
namespace K00
open PySem PySem.W PySem.Calls PyProof.Rows HandSHeadRun L2
noncomputable def K_0 (p : Params) : Frag := [(3, o2007 p), (24, o1343 p), (23, o14 p), (44, o35 p), (43, o34 p), (41, o32 p), (40, o31 p), (63, o54 p), (62, o53 p), (60, o51 p), (59, o50 p), (82, o73 p), (81, o72 p), (79, o70 p), (78, o69 p), (94, o85 p), (93, o84 p), (113, o104 p), (112, o103 p), (110, o101 p), (109, o100 p), (132, o123 p), (131, o122 p), (129, o120 p), (128, o119 p), (151, o142 p), (150, o141 p), (148, o139 p), (147, o138 p), (170, o161 p), (169, o160 p), (167, o158 p), (166, o157 p), (189, o180 p), (188, o179 p), (186, o177 p), (185, o176 p), (208, o199 p), (207, o198 p), (205, o196 p)]
def as_0 : List Addr := [3, 24, 23, 44, 43, 41, 40, 63, 62, 60, 59, 82, 81, 79, 78, 94, 93, 113, 112, 110, 109, 132, 131, 129, 128, 151, 150, 148, 147, 170, 169, 167, 166, 189, 188, 186, 185, 208, 207, 205]
noncomputable def K_1 (p : Params) : Frag := [(204, o195 p), (220, o211 p), (219, o210 p), (239, o230 p), (238, o229 p), (236, o227 p), (235, o226 p), (258, o249 p), (257, o248 p), (255, o246 p), (254, o245 p), (277, o268 p), (276, o267 p), (274, o265 p), (273, o264 p), (296, o287 p), (295, o286 p), (293, o284 p), (292, o283 p), (315, o306 p), (314, o305 p), (312, o303 p), (311, o302 p), (334, o325 p), (333, o324 p), (331, o322 p), (330, o321 p), (353, o344 p), (352, o343 p), (350, o341 p), (349, o340 p), (372, o363 p), (371, o362 p), (369, o360 p), (368, o359 p), (391, o382 p), (390, o381 p), (388, o379 p), (387, o378 p), (410, o401 p)]
def as_1 : List Addr := [204, 220, 219, 239, 238, 236, 235, 258, 257, 255, 254, 277, 276, 274, 273, 296, 295, 293, 292, 315, 314, 312, 311, 334, 333, 331, 330, 353, 352, 350, 349, 372, 371, 369, 368, 391, 390, 388, 387, 410]
noncomputable def K_2 (p : Params) : Frag := [(409, o400 p), (407, o398 p), (406, o397 p), (429, o420 p), (428, o419 p), (426, o417 p), (425, o416 p), (448, o439 p), (447, o438 p), (445, o436 p), (444, o435 p), (467, o458 p), (466, o457 p), (464, o455 p), (463, o454 p), (486, o477 p), (485, o476 p), (483, o474 p), (482, o473 p), (505, o496 p), (504, o495 p), (502, o493 p), (501, o492 p), (524, o515 p), (523, o514 p), (521, o512 p), (520, o511 p), (543, o534 p), (542, o533 p), (540, o531 p), (539, o530 p), (562, o553 p), (561, o552 p), (559, o550 p), (558, o549 p), (581, o572 p), (580, o571 p), (578, o569 p), (577, o568 p), (600, o591 p)]
def as_2 : List Addr := [409, 407, 406, 429, 428, 426, 425, 448, 447, 445, 444, 467, 466, 464, 463, 486, 485, 483, 482, 505, 504, 502, 501, 524, 523, 521, 520, 543, 542, 540, 539, 562, 561, 559, 558, 581, 580, 578, 577, 600]
noncomputable def K_3 (p : Params) : Frag := [(599, o590 p), (597, o588 p), (596, o587 p), (612, o603 p), (611, o602 p), (631, o622 p), (630, o621 p), (628, o619 p), (627, o618 p), (650, o641 p), (649, o640 p), (647, o638 p), (646, o637 p), (669, o660 p), (668, o659 p), (666, o657 p), (665, o656 p), (688, o679 p), (687, o678 p), (685, o676 p), (684, o675 p), (707, o701 p), (706, o700 p), (704, o698 p), (703, o697 p), (726, o720 p), (725, o719 p), (723, o717 p), (722, o716 p), (745, o739 p), (744, o738 p), (742, o736 p), (741, o735 p), (764, o758 p), (763, o757 p), (761, o755 p), (760, o754 p), (783, o777 p), (782, o776 p), (780, o774 p)]
def as_3 : List Addr := [599, 597, 596, 612, 611, 631, 630, 628, 627, 650, 649, 647, 646, 669, 668, 666, 665, 688, 687, 685, 684, 707, 706, 704, 703, 726, 725, 723, 722, 745, 744, 742, 741, 764, 763, 761, 760, 783, 782, 780]
noncomputable def K_4 (p : Params) : Frag := [(779, o773 p), (802, o796 p), (801, o795 p), (799, o793 p), (798, o792 p), (821, o815 p), (820, o814 p), (818, o812 p), (817, o811 p), (840, o834 p), (839, o833 p), (837, o831 p), (836, o830 p), (859, o853 p), (858, o852 p), (856, o850 p), (855, o849 p), (878, o872 p), (877, o871 p), (875, o869 p), (874, o868 p), (897, o891 p), (896, o890 p), (894, o888 p), (893, o887 p), (909, o903 p), (908, o902 p), (928, o922 p), (927, o921 p), (925, o919 p), (924, o918 p), (947, o941 p), (946, o940 p), (944, o938 p), (943, o937 p), (959, o953 p), (958, o952 p), (971, o965 p), (970, o964 p), (990, o984 p)]
def as_4 : List Addr := [779, 802, 801, 799, 798, 821, 820, 818, 817, 840, 839, 837, 836, 859, 858, 856, 855, 878, 877, 875, 874, 897, 896, 894, 893, 909, 908, 928, 927, 925, 924, 947, 946, 944, 943, 959, 958, 971, 970, 990]
noncomputable def K_5 (p : Params) : Frag := [(989, o983 p), (987, o981 p), (986, o980 p), (1009, o1003 p), (1008, o1002 p), (1006, o1000 p), (1005, o999 p), (1028, o1022 p), (1027, o1021 p), (1025, o1019 p), (1024, o1018 p), (1047, o1041 p), (1046, o1040 p), (1044, o1038 p), (1043, o1037 p), (1066, o1060 p), (1065, o1059 p), (1063, o1057 p), (1062, o1056 p), (1085, o1079 p), (1084, o1078 p), (1082, o1076 p), (1081, o1075 p), (1104, o1098 p), (1103, o1097 p), (1101, o1095 p), (1100, o1094 p), (1116, o1110 p), (1115, o1109 p), (1135, o1129 p), (1134, o1128 p), (1132, o1126 p), (1131, o1125 p), (1154, o1148 p), (1153, o1147 p), (1151, o1145 p), (1150, o1144 p), (1173, o1167 p), (1172, o1166 p), (1170, o1164 p)]
def as_5 : List Addr := [989, 987, 986, 1009, 1008, 1006, 1005, 1028, 1027, 1025, 1024, 1047, 1046, 1044, 1043, 1066, 1065, 1063, 1062, 1085, 1084, 1082, 1081, 1104, 1103, 1101, 1100, 1116, 1115, 1135, 1134, 1132, 1131, 1154, 1153, 1151, 1150, 1173, 1172, 1170]
noncomputable def K_6 (p : Params) : Frag := [(1169, o1163 p), (1192, o1186 p), (1191, o1185 p), (1189, o1183 p), (1188, o1182 p), (1211, o1205 p), (1210, o1204 p), (1208, o1202 p), (1207, o1201 p), (1230, o1224 p), (1229, o1223 p), (1227, o1221 p), (1226, o1220 p), (1249, o1243 p), (1248, o1242 p), (1246, o1240 p), (1245, o1239 p), (1268, o1262 p), (1267, o1261 p), (1265, o1259 p), (1264, o1258 p), (1287, o1281 p), (1286, o1280 p), (1284, o1278 p), (1283, o1277 p), (1306, o1300 p), (1305, o1299 p), (1303, o1297 p), (1302, o1296 p), (1325, o1319 p), (1324, o1318 p), (1322, o1316 p), (1321, o1315 p), (1344, o1338 p), (1343, o1337 p), (1341, o1335 p), (1340, o1334 p), (1363, o1360 p), (1362, o1359 p), (1360, o1357 p)]
def as_6 : List Addr := [1169, 1192, 1191, 1189, 1188, 1211, 1210, 1208, 1207, 1230, 1229, 1227, 1226, 1249, 1248, 1246, 1245, 1268, 1267, 1265, 1264, 1287, 1286, 1284, 1283, 1306, 1305, 1303, 1302, 1325, 1324, 1322, 1321, 1344, 1343, 1341, 1340, 1363, 1362, 1360]
noncomputable def K_7 (p : Params) : Frag := [(1359, o1356 p), (1382, o1379 p), (1381, o1378 p), (1379, o1376 p), (1378, o1375 p), (1401, o1398 p), (1400, o1397 p), (1398, o1395 p), (1397, o1394 p), (1420, o1417 p), (1419, o1416 p), (1417, o1414 p), (1416, o1413 p), (1439, o1436 p), (1438, o1435 p), (1436, o1433 p), (1435, o1432 p), (1451, o1448 p), (1450, o1447 p), (1470, o1467 p), (1469, o1466 p), (1467, o1464 p), (1466, o1463 p), (1489, o1486 p), (1488, o1485 p), (1486, o1483 p), (1485, o1482 p), (1508, o1505 p), (1507, o1504 p), (1505, o1502 p), (1504, o1501 p), (1527, o1524 p), (1526, o1523 p), (1524, o1521 p), (1523, o1520 p), (1546, o1543 p), (1545, o1542 p), (1543, o1540 p), (1542, o1539 p), (1565, o1562 p)]
def as_7 : List Addr := [1359, 1382, 1381, 1379, 1378, 1401, 1400, 1398, 1397, 1420, 1419, 1417, 1416, 1439, 1438, 1436, 1435, 1451, 1450, 1470, 1469, 1467, 1466, 1489, 1488, 1486, 1485, 1508, 1507, 1505, 1504, 1527, 1526, 1524, 1523, 1546, 1545, 1543, 1542, 1565]
noncomputable def K_8 (p : Params) : Frag := [(1564, o1561 p), (1562, o1559 p), (1561, o1558 p), (1584, o1581 p), (1583, o1580 p), (1581, o1578 p), (1580, o1577 p), (1603, o1600 p), (1602, o1599 p), (1600, o1597 p), (1599, o1596 p), (1622, o1619 p), (1621, o1618 p), (1619, o1616 p), (1618, o1615 p), (1641, o1638 p), (1640, o1637 p), (1638, o1635 p), (1637, o1634 p), (1660, o1657 p), (1659, o1656 p), (1657, o1654 p), (1656, o1653 p), (1672, o1669 p), (1671, o1668 p), (1691, o1688 p), (1690, o1687 p), (1688, o1685 p), (1687, o1684 p), (1710, o1707 p), (1709, o1706 p), (1707, o1704 p), (1706, o1703 p), (1729, o1726 p), (1728, o1725 p), (1726, o1723 p), (1725, o1722 p), (1748, o1745 p), (1747, o1744 p), (1745, o1742 p)]
def as_8 : List Addr := [1564, 1562, 1561, 1584, 1583, 1581, 1580, 1603, 1602, 1600, 1599, 1622, 1621, 1619, 1618, 1641, 1640, 1638, 1637, 1660, 1659, 1657, 1656, 1672, 1671, 1691, 1690, 1688, 1687, 1710, 1709, 1707, 1706, 1729, 1728, 1726, 1725, 1748, 1747, 1745]
noncomputable def K_9 (p : Params) : Frag := [(1744, o1741 p), (1767, o1764 p), (1766, o1763 p), (1764, o1761 p), (1763, o1760 p), (1786, o1783 p), (1785, o1782 p), (1783, o1780 p), (1782, o1779 p), (1805, o1802 p), (1804, o1801 p), (1802, o1799 p), (1801, o1798 p), (1824, o1821 p), (1823, o1820 p), (1821, o1818 p), (1820, o1817 p), (1843, o1840 p), (1842, o1839 p), (1840, o1837 p), (1839, o1836 p), (1862, o1859 p), (1861, o1858 p), (1859, o1856 p), (1858, o1855 p), (1881, o1878 p), (1880, o1877 p), (1878, o1875 p), (1877, o1874 p), (1900, o1897 p), (1899, o1896 p), (1897, o1894 p), (1896, o1893 p), (1912, o1909 p), (1911, o1908 p), (1931, o1928 p), (1930, o1927 p), (1928, o1925 p), (1927, o1924 p), (1950, o1947 p)]
def as_9 : List Addr := [1744, 1767, 1766, 1764, 1763, 1786, 1785, 1783, 1782, 1805, 1804, 1802, 1801, 1824, 1823, 1821, 1820, 1843, 1842, 1840, 1839, 1862, 1861, 1859, 1858, 1881, 1880, 1878, 1877, 1900, 1899, 1897, 1896, 1912, 1911, 1931, 1930, 1928, 1927, 1950]
noncomputable def K_10 (p : Params) : Frag := [(1949, o1946 p), (1947, o1944 p), (1946, o1943 p), (1969, o1966 p), (1968, o1965 p), (1966, o1963 p), (1965, o1962 p), (1988, o1985 p), (1987, o1984 p), (1985, o1982 p), (1984, o1981 p), (2007, o2004 p), (2006, o2003 p), (2004, o2001 p), (2003, o2000 p), (2016, o2015 p), (2015, o2014 p), (2023, o2022 p), (2022, o2021 p), (2030, o2029 p), (2029, o2028 p), (2035, o2034 p), (2034, o2033 p), (2042, o2041 p), (2041, o2040 p), (2049, o2048 p), (2048, o2047 p), (2056, o2055 p), (2055, o2054 p), (2063, o2062 p), (2062, o2061 p), (2068, o2067 p), (2067, o2066 p), (2073, o2072 p), (2072, o2071 p)]
def as_10 : List Addr := [1949, 1947, 1946, 1969, 1968, 1966, 1965, 1988, 1987, 1985, 1984, 2007, 2006, 2004, 2003, 2016, 2015, 2023, 2022, 2030, 2029, 2035, 2034, 2042, 2041, 2049, 2048, 2056, 2055, 2063, 2062, 2068, 2067, 2073, 2072]
noncomputable def KP (p : Params) : Frag := (K_0 p ++ (K_1 p ++ (K_2 p ++ (K_3 p ++ (K_4 p ++ (K_5 p ++ (K_6 p ++ (K_7 p ++ (K_8 p ++ (K_9 p ++ K_10 p))))))))))
def asP : List Addr := (as_0 ++ (as_1 ++ (as_2 ++ (as_3 ++ (as_4 ++ (as_5 ++ (as_6 ++ (as_7 ++ (as_8 ++ (as_9 ++ as_10))))))))))
structure S1 where
  c : Str
  f : Option Str
  C : Addr
  N : Addr
  fa : Addr
  i : Nat
def sps_0 : List S1 := [⟨"BadText", some "text", 44, 43, 41, 2⟩, ⟨"BadSource", some "source", 63, 62, 60, 3⟩, ⟨"BadIndex", some "index", 82, 81, 79, 4⟩, ⟨"NotChecked", none, 94, 93, 0, 5⟩, ⟨"BadName", some "name", 113, 112, 110, 6⟩, ⟨"BadInputs", some "inputs", 132, 131, 129, 7⟩, ⟨"BadMost", some "most", 151, 150, 148, 8⟩, ⟨"BadObject", some "one", 170, 169, 167, 9⟩, ⟨"BadForm", some "thing", 189, 188, 186, 10⟩, ⟨"BadObjects", some "objects", 208, 207, 205, 11⟩, ⟨"NotLinked", none, 220, 219, 0, 12⟩, ⟨"BadLinked", some "linked", 239, 238, 236, 13⟩, ⟨"BadKeeps", some "keeps", 258, 257, 255, 14⟩, ⟨"BadValue", some "value", 277, 276, 274, 15⟩, ⟨"BadState", some "state", 296, 295, 293, 16⟩, ⟨"BadWord", some "word", 315, 314, 312, 17⟩, ⟨"BadPasses", some "passes", 334, 333, 331, 18⟩, ⟨"BadRow", some "row", 353, 352, 350, 19⟩, ⟨"BadField", some "field", 372, 371, 369, 20⟩, ⟨"BadLengths", some "lengths", 391, 390, 388, 21⟩, ⟨"BadCounts", some "counts", 410, 409, 407, 22⟩, ⟨"BadMany", some "many", 429, 428, 426, 23⟩, ⟨"BadKinds", some "kinds", 448, 447, 445, 24⟩, ⟨"BadClasses", some "classes", 467, 466, 464, 25⟩, ⟨"BadBits", some "bits", 486, 485, 483, 26⟩, ⟨"BadWidth", some "width", 505, 504, 502, 27⟩, ⟨"BadWords", some "words", 524, 523, 521, 28⟩, ⟨"BadVersion", some "version", 543, 542, 540, 29⟩, ⟨"BadImage", some "image", 562, 561, 559, 30⟩, ⟨"BadOne", some "one", 581, 580, 578, 31⟩]
def sps_1 : List S1 := [⟨"BadOther", some "other", 600, 599, 597, 32⟩, ⟨"TooLong", none, 612, 611, 0, 33⟩, ⟨"NotCode", some "why", 631, 630, 628, 34⟩, ⟨"BadBase", some "base", 650, 649, 647, 35⟩, ⟨"BadPatch", some "patch", 669, 668, 666, 36⟩, ⟨"BadTarget", some "target", 688, 687, 685, 37⟩, ⟨"BadStore", some "store", 707, 706, 704, 38⟩, ⟨"BadOps", some "ops", 726, 725, 723, 39⟩, ⟨"BadOp", some "op", 745, 744, 742, 40⟩, ⟨"BadTorn", some "torn", 764, 763, 761, 41⟩, ⟨"BadBox", some "box", 783, 782, 780, 42⟩, ⟨"BadSlot", some "slot", 802, 801, 799, 43⟩, ⟨"NoRoom", some "count", 821, 820, 818, 44⟩, ⟨"BadBlock", some "block", 840, 839, 837, 45⟩, ⟨"BadBlocks", some "blocks", 859, 858, 856, 46⟩, ⟨"BadRun", some "run", 878, 877, 875, 47⟩, ⟨"BadGiven", some "given", 897, 896, 894, 48⟩, ⟨"NotRun", none, 909, 908, 0, 49⟩, ⟨"NotMade", some "why", 928, 927, 925, 50⟩, ⟨"BadCut", some "cut", 947, 946, 944, 51⟩, ⟨"OnTrial", none, 959, 958, 0, 52⟩, ⟨"OldVersion", none, 971, 970, 0, 53⟩, ⟨"BadSetting", some "setting", 990, 989, 987, 54⟩, ⟨"BadProtocol", some "protocol", 1009, 1008, 1006, 55⟩, ⟨"BadRule", some "rule", 1028, 1027, 1025, 57⟩, ⟨"BadCuts", some "index", 1047, 1046, 1044, 58⟩, ⟨"BadDone", some "done", 1066, 1065, 1063, 59⟩, ⟨"BadEvent", some "event", 1085, 1084, 1082, 60⟩, ⟨"BadEvents", some "events", 1104, 1103, 1101, 61⟩, ⟨"NotOf", none, 1116, 1115, 0, 62⟩]
def sps_2 : List S1 := [⟨"BadCount", some "count", 1135, 1134, 1132, 63⟩, ⟨"BadPlace", some "place", 1154, 1153, 1151, 64⟩, ⟨"BadTower", some "tower", 1173, 1172, 1170, 65⟩, ⟨"BadStory", some "story", 1192, 1191, 1189, 66⟩, ⟨"BadThing", some "thing", 1211, 1210, 1208, 67⟩, ⟨"NoName", some "name", 1230, 1229, 1227, 68⟩, ⟨"InRing", some "name", 1249, 1248, 1246, 69⟩, ⟨"InUse", some "user", 1268, 1267, 1265, 70⟩, ⟨"NoThing", some "name", 1287, 1286, 1284, 71⟩, ⟨"BadVow", some "vow", 1306, 1305, 1303, 72⟩, ⟨"Watched", some "vow", 1325, 1324, 1322, 73⟩, ⟨"NotHeldNow", some "vow", 1344, 1343, 1341, 74⟩, ⟨"NotWatched", some "vow", 1363, 1362, 1360, 75⟩, ⟨"Broken", some "vow", 1382, 1381, 1379, 76⟩, ⟨"BadImages", some "images", 1401, 1400, 1398, 77⟩, ⟨"BadThings", some "things", 1420, 1419, 1417, 78⟩, ⟨"BadWay", some "way", 1439, 1438, 1436, 79⟩, ⟨"TooMany", none, 1451, 1450, 0, 80⟩, ⟨"BadRing", some "ring", 1470, 1469, 1467, 81⟩, ⟨"BadWorn", some "given", 1489, 1488, 1486, 82⟩, ⟨"BadRoom", some "room", 1508, 1507, 1505, 83⟩, ⟨"BadSpots", some "spots", 1527, 1526, 1524, 84⟩, ⟨"NoMarks", some "address", 1546, 1545, 1543, 85⟩, ⟨"NoWord", some "spot", 1565, 1564, 1562, 86⟩, ⟨"NoHead", some "spot", 1584, 1583, 1581, 87⟩, ⟨"BadTest", some "test", 1603, 1602, 1600, 88⟩, ⟨"BadTests", some "tests", 1622, 1621, 1619, 89⟩, ⟨"BadNumber", some "number", 1641, 1640, 1638, 90⟩, ⟨"BadValues", some "listed", 1660, 1659, 1657, 91⟩, ⟨"NoNumber", none, 1672, 1671, 0, 92⟩]
def sps_3 : List S1 := [⟨"BadNames", some "names", 1691, 1690, 1688, 93⟩, ⟨"BadOthers", some "others", 1710, 1709, 1707, 94⟩, ⟨"BadFirsts", some "firsts", 1729, 1728, 1726, 95⟩, ⟨"BadSources", some "sources", 1748, 1747, 1745, 96⟩, ⟨"BadSteps", some "steps", 1767, 1766, 1764, 97⟩, ⟨"BadFleet", some "fleet", 1786, 1785, 1783, 98⟩, ⟨"BadParts", some "parts", 1805, 1804, 1802, 99⟩, ⟨"BadPresent", some "present", 1824, 1823, 1821, 100⟩, ⟨"BadBroadcast", some "broadcast", 1843, 1842, 1840, 101⟩, ⟨"BadPlan", some "plan", 1862, 1861, 1859, 102⟩, ⟨"BadBreaks", some "breaks", 1881, 1880, 1878, 103⟩, ⟨"BadFunction", some "function", 1900, 1899, 1897, 104⟩, ⟨"NotPlain", none, 1912, 1911, 0, 105⟩, ⟨"BadShelf", some "shelf", 1931, 1930, 1928, 106⟩, ⟨"NotListing", some "why", 1950, 1949, 1947, 107⟩, ⟨"BadLog", some "log", 1969, 1968, 1966, 108⟩, ⟨"BadEntry", some "j", 1988, 1987, 1985, 109⟩, ⟨"BadTexts", some "texts", 2007, 2006, 2004, 110⟩]
def sps : List S1 := (sps_0 ++ (sps_1 ++ (sps_2 ++ sps_3)))
def dfs : List (Str × Addr × Nat) := [("_law_stream", 2016, 112), ("_law_draw", 2023, 113), ("_law_pick", 2030, 114), ("_law_same", 2035, 115), ("_law_made_a", 2042, 116), ("_law_made_b", 2049, 117), ("_law_kinds_a", 2056, 118), ("_law_kinds_b", 2063, 119), ("_law_is_own", 2068, 120), ("law", 2073, 121)]
def tabsP : List (Addr × Addr) := [(2041, 2037), (2048, 2044)]
def freeP : List Str := ["isinstance", "len", "abs", "int", "all", "zip", "list", "tuple", "dict", "bool", "str", "range", "enumerate", "ValueError", "LookupError", "TypeError", "ArithmeticError", "AttributeError", "RuntimeError"]
def wAd : Addr := 24
def wNs : Addr := 23
def veB : List Value := [.type "ValueError", .type "Exception", .type "BaseException", .type "object"]
def isExc (K : Frag) (C N : Addr) : Bool := match K.lookup C with
  | some ⟨.type t, _, .cls cd, sl⟩ => (match sl.toList with
    | [_, _, _, _, some (.builtin m), _] => decide (t = "type") && (decide (m = "ValueError.__new__") && (!cd.hasDel && (cd.hasDict && (decide (cd.mro = .ref C :: .ref wAd :: veB) && decide (cd.ns = N)))))
    | _ => false)
  | _ => false
theorem isExc_ok {K : Frag} {C N : Addr} (h : isExc K C N = true) : ∃ nm q bs sn sub ab col dd k0 k1 k2 k3 k5, K.lookup C = some (excClassObj nm q C N bs (.ref wAd :: veB) true sn sub ab col dd k0 k1 k2 k3 k5 "ValueError.__new__") := by
  unfold isExc at h
  split at h
  · rename_i t dd cd sl ho
    split at h
    · rename_i k0 k1 k2 k3 m k5 hs
      simp only [Bool.and_eq_true, decide_eq_true_eq, Bool.not_eq_true'] at h
      obtain ⟨rfl, rfl, hdel, hd, hm, rfl⟩ := h
      obtain ⟨nm, bs, mro, ns, qn, hdct, sn, sub, ab, col, del⟩ := cd
      dsimp only at hm hdel hd
      subst hm hdel hd
      have hsl : sl = #[k0, k1, k2, k3, some (.builtin "ValueError.__new__"), k5] := by
        obtain ⟨l⟩ := sl
        simp only at hs
        rw [hs]
      subst hsl
      exact ⟨nm, qn, bs, sn, sub, ab, col, dd, k0, k1, k2, k3, k5, ho⟩
    · cases h
  · cases h
def fnV (K : Frag) (a : Addr) : He.FnV := match K.lookup a with
  | some ⟨_, _, .func fd, _⟩ => some (fd.name, fd.qualname, fd.params, fd.body, fd.scope, fd.globals, fd.closure, fd.defaults, fd.builtins)
  | _ => none
def fnC (K : Frag) (a : Addr) (q : Str) : Bool := match K.lookup a with
  | some ⟨.type t, _, .func fd, _⟩ => decide (t = "function") && codeIn K fd.code q
  | _ => false
def fnQ (x q : Str) (st : Stmt) : He.FnV := some (x, q, defArgs st, .stmts (defBody st), defScope st, mainGlobals, [], .none, builtinsNs)
theorem fn_mk {K : Frag} {a : Addr} {x q : Str} {st : Stmt} (e : fnV K a = fnQ x q st) (c : fnC K a q = true) : ∃ fd, Fun K x q st a fd ∧ typeIn K (.ref a) = some (.type "function") := by
  unfold fnV at e
  unfold fnC at c
  cases z : K.lookup a with
  | none =>
    rw [z] at c
    cases c
  | some o =>
    obtain ⟨oc, od, dt, osl⟩ := o
    rw [z] at c e
    cases dt with
    | func fd =>
      cases oc with
      | type t =>
        obtain ⟨m1, m2, m3, m4, m5, m6, m7, m8, m9, m10, m11, m12, m13, m14, m15⟩ := fd
        have e2 : (some (m1, m2, m3, m4, m5, m6, m7, m8, m15) : He.FnV) = some (x, q, defArgs st, .stmts (defBody st), defScope st, mainGlobals, [], .none, builtinsNs) := e
        simp only [Option.some.injEq, Prod.mk.injEq] at e2
        obtain ⟨h1, h2, h3, h4, h5, h6, h7, h8, h9⟩ := e2
        subst h1 h2 h3 h4 h5 h6 h7 h8 h9
        obtain ⟨c1, c2⟩ := Bool.and_eq_true_iff.mp (show (decide (t = "function") && codeIn K m13 m2) = true from c)
        have et : t = "function" := of_decide_eq_true c1
        subst et
        refine ⟨_, ⟨⟨.type "function", od, m9, m10, m11, m12, m13, m14, osl, rfl, z, c2⟩, ?_⟩, ?_⟩
        · unfold keepIn
          dsimp only
          rw [z]
        · show (K.lookup a).map (·.cls) = _
          rw [z]
          rfl
      | _ => cases c
    | _ => cases oc <;> cases c
def odd : List Str := ["__setattr__", "__getattribute__", "__getattr__", "__class__"]
def okS (K : Frag) (s : S1) : Bool :=
  He.eqO (nsIn K mainGlobals s.c) (some (some (.ref s.C))) && (isExc K s.C s.N && ((odd.all fun x => He.eqO (nsIn K s.N x) (some none)) && (match s.f with
    | none => He.eqO (nsIn K s.N "__init__") (some none)
    | some f => He.eqO (nsIn K s.N "__init__") (some (some (.ref s.fa))) && (He.eqO (nsIn K s.N f) (some none) && (He.eqO (nsIn K wNs f) (some none) && (He.eqO (alongIn K f veB) (some none) && fnC K s.fa (s.c ++ ".__init__")))))))
def okK (K : Frag) : Bool :=
  sps.all (okS K) && (isExcW K && ((odd.all fun x => He.eqO (nsIn K wNs x) (some none)) && (He.eqO (nsIn K wNs "__init__") (some none) && (decide ((sps.map (·.C)).Nodup) && (!(sps.map (·.C)).contains wAd &&
  ((dfs.all fun d => He.eqO (nsIn K mainGlobals d.1) (some (some (.ref d.2.1))) && fnC K d.2.1 d.1) && ((freeP.all fun x => He.eqO (nsIn K mainGlobals x) (some none)) && (He.eqO (nsIn K mainGlobals "WholeError") (some (some (.ref wAd))) &&
  (tabsP.all fun q => codeHdIn K q.1 q.2 && (K.lookup q.2).isNone)))))))))
where isExcW (K : Frag) : Bool := match K.lookup wAd with
  | some ⟨.type t, _, .cls cd, _⟩ => decide (t = "type") && (decide (cd.mro = .ref wAd :: veB) && decide (cd.ns = wNs))
  | _ => false
def vals (K : Frag) : List He.FnV × List He.FnV := ((sps.filter (·.f.isSome)).map fun s => fnV K s.fa, dfs.map fun d => fnV K d.2.1)
def valsQ : List He.FnV × List He.FnV := ((sps.filter (·.f.isSome)).map fun s => fnQ "__init__" (s.c ++ ".__init__") (inClass (top s.i) 0), dfs.map fun d => fnQ d.1 d.1 (top d.2.2))
theorem facts (p : Params) : okK (KP p) = true := by kernel_rfl
theorem funcs (p : Params) : vals (KP p) = valsQ := by kernel_rfl
end K00
set_option Elab.async false
set_option linter.all false
set_option maxRecDepth 100000
set_option maxHeartbeats 0
namespace K00
open PySem PySem.W PySem.Calls PyProof.Rows HandSHeadRun
def loose0 : List Str := ["WholeError", "BadText", "BadSource", "BadIndex", "NotChecked", "BadName", "BadInputs", "BadMost", "BadObject", "BadForm", "BadObjects", "NotLinked", "BadLinked", "BadKeeps", "BadValue", "BadState", "BadWord", "BadPasses", "BadRow", "BadField", "BadLengths", "BadCounts", "BadMany", "BadKinds", "BadClasses", "BadBits", "BadWidth", "BadWords", "BadVersion", "BadImage"]
def loose1 : List Str := ["BadOne", "BadOther", "TooLong", "NotCode", "BadBase", "BadPatch", "BadTarget", "BadStore", "BadOps", "BadOp", "BadTorn", "BadBox", "BadSlot", "NoRoom", "BadBlock", "BadBlocks", "BadRun", "BadGiven", "NotRun", "NotMade", "BadCut", "OnTrial", "OldVersion", "BadSetting", "BadProtocol", "BadRule", "BadCuts", "BadDone", "BadEvent", "BadEvents"]
def loose2 : List Str := ["NotOf", "BadCount", "BadPlace", "BadTower", "BadStory", "BadThing", "NoName", "InRing", "InUse", "NoThing", "BadVow", "Watched", "NotHeldNow", "NotWatched", "Broken", "BadImages", "BadThings", "BadWay", "TooMany", "BadRing", "BadWorn", "BadRoom", "BadSpots", "NoMarks", "NoWord", "NoHead", "BadTest", "BadTests", "BadNumber", "BadValues"]
def loose3 : List Str := ["NoNumber", "BadNames", "BadOthers", "BadFirsts", "BadSources", "BadSteps", "BadFleet", "BadParts", "BadPresent", "BadBroadcast", "BadPlan", "BadBreaks", "BadFunction", "NotPlain", "BadShelf", "NotListing", "BadLog", "BadEntry", "BadTexts", "_law_stream", "_law_draw", "_law_pick", "_law_same", "_law_made_a", "_law_made_b", "_law_kinds_a", "_law_kinds_b", "_law_is_own"]
def loose : List Str := loose0 ++ loose1 ++ loose2 ++ loose3

noncomputable section
abbrev R : OpenRow := OpenLaw.row PySem.Challenge.rw_neverhalf_k00_errors_made
abbrev qv : Program := view Pr [121]
abbrev XtT : Shared → Bool := fun s => xlAt qv [] s && recOk (OpenRow.toRowW R).records s
theorem look1 (w : World) (os : OsState) : looksF Pr (boot_heap w.params) (SSg w os).abs = true := by kernel_rfl
theorem look3 (w : World) (os : OsState) : (asP.map (getT (SSg w os)), tabsP.map fun q => getT (SSg w os) q.2) = ((KP w.params).map fun q => some q.2, tabsP.map fun _ => some { cls := .none, data := .fields #[] }) := by kernel_rfl
end
end K00
set_option Elab.async false
set_option linter.all false
set_option maxRecDepth 100000
set_option maxHeartbeats 0
namespace K00
open PySem PySem.W PySem.Calls PyProof.Rows HandSHeadRun
noncomputable section
theorem look2 (w : World) (os : OsState) : seenQ qv loose (importedModules Pr.main.body) XtT (SSg w os).abs = openGood qv loose := by kernel_rfl
end
end K00
set_option Elab.async false
set_option linter.all false
set_option maxRecDepth 100000
set_option maxHeartbeats 0
namespace K00
open PySem PySem.W PySem.Calls PyProof.Rows HandSHeadRun
noncomputable section
theorem lift {w : World} {os : OsState} {m : Nat} {s s2 : SharedT} {t : Thread} {c : Code} {q : Pos} (h : segF (stQ w) 11 annT m s t = some (.next, s2, c, q)) : segRun treeTable Pr w 11 annT 1 m s.abs t = some (.next, s2.abs, c, q) := by
  rw [stQ_eq] at h
  exact segRun_of (segF_ok h)
theorem boot_abs (w : World) (os : OsState) : (bootT w os (T_0 w.params, 11)).abs = ⟨boot_heap w.params, Array.mk [], boot_drawn, boot_toks, os⟩ := by
  show (⟨absHeap (T_0 w.params) 11 (boot_heap w.params).life, Array.mk [], boot_drawn, boot_toks, os⟩ : Shared) = _
  rw [putAll_heap (boot_tree w)]
def steps0 : Nat := 12 + (1 + (8920 + (8702 + (8734 + 340))))
theorem runs (w : World) (os : OsState) : topRun treeTable Pr w 11 annT steps0 ⟨boot_heap w.params, Array.mk [], boot_drawn, boot_toks, os⟩ (topStub Pr) = some (SSg w os).abs := by
  have z0 := seg0 w os
  rw [stQ_eq, ← denQ_eq, ← tabQ_eq] at z0
  have h0 := preF_ok z0
  rw [boot_abs] at h0
  have hD := segD w os
  rw [stQ_eq] at hD
  have hb := lift (os := os) (segb w os)
  have hA := lift (os := os) (segA w os)
  have hB := lift (os := os) (segB w os)
  have hC := lift (os := os) (segC w os)
  have kD := goF_ok hD
  have kC := piece_app (rest := bD) hC kD
  have kB := piece_app (rest := bC ++ bD) hB kC
  have kA := piece_app (rest := bB ++ (bC ++ bD)) hA kB
  rw [body_eq] at kA
  exact go_top h0 (piece_block hb kA)
/-- the Hook: the part of the heap that the walk reads, and the two empty tables of code objects -/
def hkP : Hook where
  α := List (Option Obj) × List (Option Obj)
  obs := fun s => (asP.map s.heap.get?, tabsP.map fun q => s.heap.get? q.2)
  val := fun w => ((KP w.params).map fun q => some q.2, tabsP.map fun _ => some { cls := .none, data := .fields #[] })
  says := fun w h => (KP w.params).In h ∧ ∀ q ∈ tabsP, h.get? q.2 = some { cls := .none, data := .fields #[] }
  of := fun w s e => ⟨InK.of (K := KP) (as := asP) (fun P => by kernel_rfl) w s (congrArg Prod.fst e), fun q hq => by
    have e2 : (tabsP.map fun q => s.heap.get? q.2) = tabsP.map fun _ => some { cls := .none, data := .fields #[] } := congrArg Prod.snd e
    exact List.map_inj_left.mp e2 q hq⟩
  keeps := fun w h h' x k => ⟨Frag.In.keeps x.1 k, fun q hq => k _ _ (x.2 q hq)⟩
theorem look3' (w : World) (os : OsState) : hkP.obs (SSg w os).abs = hkP.val w := by
  have e : (fun a => (SSg w os).abs.heap.get? a) = getT (SSg w os) := funext fun a => (getT_eq (SSg w os) a).symm
  have l := look3 w os
  rw [← e] at l
  exact l
theorem opened (w : World) : (fencedOpening treeTable R.prog w (steps0 + 600)).map (fun s => (s.heap, s.gens, s.drawn, s.toks)) = some (boot_heap w.params, Array.mk [], boot_drawn, boot_toks) :=
  boot_open (p := R.prog) (N := steps0 + 600) (by kernel_rfl) (Nat.ble_eq_true_of_le (by omega)) (fun s => by kernel_rfl) w
theorem boot_size (w : World) : (boot_heap w.params).objs.size = 11 := by kernel_rfl
theorem topped (w : World) (os : OsState) : topFrom treeTable R.prog w (steps0 + 600) ⟨boot_heap w.params, Array.mk [], boot_drawn, boot_toks, os⟩ = some (SSg w os).abs := by
  have q := topRun_mono 600 _ _ _ _ (runs w os)
  have l1 := look1 w os
  unfold looksF at l1
  generalize (SSg w os).abs = S at q l1 ⊢
  unfold topFrom
  dsimp only
  rw [boot_ns, boot_size w, show (boot_heap w.params).nsMap mainGlobals "__annotations__" = annT from boot_ann w]
  generalize hz : topRun treeTable R.prog w 11 annT (steps0 + 600) ⟨boot_heap w.params, Array.mk [], boot_drawn, boot_toks, os⟩ (topStub R.prog) = Z at q ⊢
  subst q
  show (match staticsOk (importedModules R.prog.main.body) (boot_heap w.params) S.heap && namesBound R.prog S.heap && gensDone S && laidKept (boot_heap w.params) S.heap with | true => some S | false => none) = _
  rw [l1]
theorem left_glue {α β γ : Type} {fo : Option α} {x : α} {tf : α → Option β} {S : β} {F : β → γ} {c : γ} (a : fo = some x) (t : tf x = some S) (h : F S = c) : (fo.bind tf).map F = some c := by
  rw [a]
  show (tf x).map F = _
  rw [t]
  exact congrArg some h
theorem leftP : LeftO R.prog qv loose XtT hkP.obs hkP.val (steps0 + 600) true := fun w => by
  obtain ⟨⟨h, gs, d, k, os⟩, a, a'⟩ := Option.map_eq_some_iff.mp (opened w)
  obtain ⟨rfl, rfl, rfl, rfl⟩ : h = boot_heap w.params ∧ gs = Array.mk [] ∧ d = boot_drawn ∧ k = boot_toks := by simpa only [Prod.mk.injEq] using a'
  have t := topped w os
  have l2 := look2 w os
  have l3 := look3' w os
  rw [← seenQ_eq] at l2
  generalize (SSg w os).abs = S at t l2 l3
  unfold openEnds
  exact left_glue a t (F := fun s => (openSeen qv loose (importedModules R.prog.main.body) XtT true s, hkP.obs s)) (by
    show (openSeen qv loose (importedModules R.prog.main.body) XtT true S, hkP.obs S) = _
    rw [l2, l3])
/-- the law holds, if its call walks from a state that the Hook tells -/
theorem head_P (call : WalkO qv loose (XL qv []) hkP.says R.toRowW (topDef R.prog 121) [] fun f vs => PySem.call f vs) (hw : R.toRowW.promised) : R.Holds :=
  holds_open (r := R) (q := qv) (loose := loose) (XP := XL qv []) (YP := hkP.says) (d := topDef R.prog 121) (kwd := []) leftP hkP.of hkP.keeps (fun s z => xl_of s (Bool.and_eq_true_iff.mp z).1) XL.keeps (by kernel_rfl) (by kernel_rfl) (by kernel_rfl) (fun s z => recFacts_of (Bool.and_eq_true_iff.mp z).2) (by rfl) (by decide +kernel) (by decide +kernel) ⟨rfl, rfl, rfl, rfl, rfl, by decide +kernel⟩ hw call
end
end K00
set_option Elab.async false
set_option linter.all false
set_option maxRecDepth 100000
set_option maxHeartbeats 4000000
namespace N0
open PySem PySem.Spec PyProof.Rows L2 K00
abbrev sStream : Stmt := top 112
abbrev sDraw : Stmt := top 113
abbrev sPick : Stmt := top 114
theorem same_new {H : Hp} {p : Addr} (h : H p = none) (o : HO) : Same H (upd H p o) := fun b u q => by rw [upd_ne (ne_of_none q h)]; exact q
/-- the stream at st: its cells' list at q, n draws done -/
structure StrAt (H : Hp) (st q : Addr) (n : Int) : Prop where
  ex : ∃ (ns : List Int) (a c : Int), H st = some (.lst [.ref q, .int a, .int n, .int c]) ∧ H q = some (.lst (ns.map V.int)) ∧ 0 ≤ a ∧ 0 ≤ c ∧ c < 2147483647
theorem StrAt.keep {H H' : Hp} {st q : Addr} {n : Int} (S : StrAt H st q n) (h1 : H' st = H st) (h2 : H' q = H q) : StrAt H' st q n := by
  obtain ⟨ns, a, c, e1, e2, r⟩ := S.ex
  exact ⟨ns, a, c, by rw [h1]; exact e1, by rw [h2]; exact e2, r⟩
/-- all but what stands at st and q is as it was -/
def But (st q : Addr) (H H' : Hp) : Prop := ∀ b o, H b = some o → b ≠ st → b ≠ q → H' b = some o
theorem But.refl {st q : Addr} {H : Hp} : But st q H H := fun _ _ e _ _ => e
theorem But.trans {st q : Addr} {H H1 H2 : Hp} (a : But st q H H1) (b : But st q H1 H2) : But st q H H2 := fun c o e n1 n2 => b c o (a c o e n1 n2) n1 n2
theorem But.same {st q : Addr} {H H1 : Hp} (a : Same H H1) : But st q H H1 := fun c o e _ _ => a c o e
theorem But.new {st q : Addr} {H : Hp} {p : Addr} {o : HO} (h : H p = none) : But st q H (upd H p o) := But.same (same_new h o)
theorem But.st {st q : Addr} {H : Hp} {o : HO} : But st q H (upd H st o) := fun b u e n1 _ => by rw [upd_ne n1]; exact e
theorem But.q {st q : Addr} {H : Hp} {o : HO} : But st q H (upd H q o) := fun b u e _ n2 => by rw [upd_ne n2]; exact e
def spStream (K : PySem.W.Frag) : Sp := fun vs H Q _ => ∃ (a : Addr) (ns : List Int), vs = [.ref a] ∧ SqL K H a (ns.map V.int) ∧ ns.length ≤ 63 ∧
  ∀ (st q : Addr) (H' : Hp), H st = none → H q = none → st ≠ q → Same H H' → StrAt H' st q 0 → Q (.ref st) H'
def spDraw : Sp := fun vs H Q _ => ∃ (st q : Addr) (n m : Int), vs = [.ref st, .int m] ∧ StrAt H st q n ∧ st ≠ q ∧ 0 < m ∧ m < 1073741824 ∧ 0 ≤ n ∧ n < 1000000 ∧
  ∀ (d : Int) (H' : Hp), 0 ≤ d → d < m → StrAt H' st q (n + 1) → But st q H H' → Q (.int d) H'
section
variable {P : Program} {w : World} {K : PySem.W.Frag} {mg : Str → Option Value} {base : Heap}
theorem scStream : FnScope ["script"] ["script"] (defScope sStream) := ⟨rfl, rfl, rfl, by decide +kernel, rfl, by decide +kernel, by decide +kernel⟩
theorem ok_stream {f : Addr} {fd : FuncData} (F : Fun K "_law_stream" "_law_stream" sStream f fd) (ml : mg "list" = none) : FnOk P w K mg base CX0 1 f fd ["script"] (spStream K) := by
  refine F.ok scStream (fun vs H Q E h => ?_) (fun cdv A outer s H vs Q E hr h => ?_)
  · obtain ⟨a, ns, rfl, _⟩ := h
    rfl
  obtain ⟨a, ns, rfl, hS, h63, k⟩ := h
  refine ⟨_, pss_one (ps_ret (pe_lst (pa_cons (pe_callTy call_list_of (by rfl) ml (by decide +kernel) (pa_cons (pv 0) pa_nil)) (pa_cons pe_int (pa_cons pe_int (pa_cons pe_int pa_nil)))))), ?_⟩
  refine ⟨_, rfl, a, _, rfl, .inl hS, fun q hq => ?_⟩
  refine ⟨(by show 4 ≤ sizeLine; decide), fun st hst => ?_⟩
  have nq : st ≠ q := fun e => by
    rw [e, upd_same] at hst
    cases hst
  have h0 : H st = none := by
    rw [upd_ne nq] at hst
    exact hst
  refine k st q _ h0 hq nq ((same_new hq _).trans (same_new hst _)) ⟨ns, 0, 17, upd_same, ?_, by decide, by decide, by decide⟩
  rw [upd_ne nq.symm, upd_same]
theorem scDraw : FnScope ["stream", "many", "cell", "digit", "mixed"] ["stream", "many"] (defScope sDraw) := ⟨rfl, rfl, rfl, by decide +kernel, rfl, by decide +kernel, by decide +kernel⟩
end
end N0
set_option Elab.async false
set_option linter.all false
set_option maxRecDepth 100000
set_option maxHeartbeats 4000000
namespace N0
open PySem PySem.Spec PyProof.Rows L2 K00
theorem dp_ints {K : PySem.W.Frag} {H : Hp} : ∀ ns : List Int, DpAll K H (ns.map V.int) (ns.map PyData.int)
  | [] => .nil
  | n :: r => .cons (.int n) (dp_ints r)
theorem eqv_ints_nil : ∀ ns : List Int, PyData.eqv (.list (ns.map PyData.int)) (.list []) = ns.isEmpty
  | [] => by simp [PyData.eqv, PyData.eqvAll]
  | _ :: _ => by simp [PyData.eqv, PyData.eqvAll]
theorem pop0 {xs : List V} {x : V} : (x :: xs).eraseIdx 0 = xs := rfl
theorem seq0 (z : V) (xs : List V) : seqIndex? 0 (z :: xs).length = some 0 := by simp [seqIndex?]
theorem pow_bound {x m : Int} (h0 : 0 ≤ x) (h : x < m) (hm : m ≤ 18446744073709551616) : x.natAbs < 2 ^ 64 := by
  have e : (2 : Nat) ^ 64 = 18446744073709551616 := by decide
  rw [e]; omega
/-- behind the loop: the digit, or the mixed number -/
def tTailDraw (K : PySem.W.Frag) : TS :=
  tSeq (tIfS (tTest (tOp (rI0 fun i j => V.bl (decide (j < i))) (tOp (rIxL K) (tVar 0) (tC (V.int 1))) (tC (V.int 0))))
      (tSeq (tAsg (tOp (rI (fun _ j => 0 < j) fun i j => V.int (i % j)) (tCB (fun xs H Q => (∃ i, xs = [V.int i] ∧ Q (V.int i) H) ∨ ∃ k, xs = [V.bl k] ∧ Q (V.int (if k = true then 1 else 0)) H) (tCons (tOp (rIxL K) (tVar 0) (tC (V.int 1))) tNil)) (tVar 1)) (gName 3))
      (tSeq (tAsg (tOp (rI CDiv fun i j => V.int (i / j)) (tOp (rIxL K) (tVar 0) (tC (V.int 1))) (tVar 1)) (gSub (tVar 0) (tC (V.int 1)) rSetL)) (tRet (tVar 3)))) tNext)
    (tSeq (tAsg (tOp (rI (fun _ j => 0 < j) fun i j => V.int (i % j)) (tCB (fun xs H Q => (∃ i, xs = [V.int i] ∧ Q (V.int i) H) ∨ ∃ k, xs = [V.bl k] ∧ Q (V.int (if k = true then 1 else 0)) H)
        (tCons (tOp (rI CPow fun i j => V.int (i ^ j.toNat)) (tOp (rI0 fun i j => V.int (i + j)) (tOp (rI0 fun i j => V.int (i + j)) (tOp (rIxL K) (tVar 0) (tC (V.int 3))) (tOp (rI CMul fun i j => V.int (i * j)) (tC (V.int 7919)) (tOp (rIxL K) (tVar 0) (tC (V.int 2))))) (tC (V.int 104729))) (tC (V.int 5))) tNil)) (tC (V.int 2147483629))) (gName 4))
      (tRet (tOp (rI (fun _ j => 0 < j) fun i j => V.int (i % j)) (tOp (rI (fun _ j => 0 < j) fun i j => V.int (i % j)) (tCB (fun xs H Q => (∃ i, xs = [V.int i] ∧ Q (V.int i) H) ∨ ∃ k, xs = [V.bl k] ∧ Q (V.int (if k = true then 1 else 0)) H)
        (tCons (tOp (rI CPow fun i j => V.int (i ^ j.toNat)) (tOp (rI0 fun i j => V.int (i + j)) (tOp (rI0 fun i j => V.int (i + j)) (tOp (rI CMul fun i j => V.int (i * j)) (tVar 4) (tC (V.int 48271))) (tOp (rI CMul fun i j => V.int (i * j)) (tC (V.int 30011)) (tOp (rIxL K) (tVar 0) (tC (V.int 2))))) (tC (V.int 29))) (tC (V.int 3))) tNil)) (tC (V.int 1000000007))) (tVar 1))))
theorem tail_draw {K : PySem.W.Frag} {H H1 : Hp} {st q : Addr} {n m a1 c1 : Int} {ns1 : List Int} {cell : Option V} {Q : VK} {nx : L2.St → Hp → Prop} (hm : 0 < m) (hm2 : m < 1073741824) (hn0 : 0 ≤ n) (hn1 : n < 1000000) (ha1 : 0 ≤ a1) (hc1 : 0 ≤ c1) (hc12 : c1 < 2147483647)
    (f1 : H1 st = some (.lst [.ref q, .int a1, .int (n + 1), .int c1])) (f2 : H1 q = some (.lst (ns1.map V.int))) (B1 : But st q H H1) (nsq : st ≠ q)
    (k : ∀ (d : Int) (H' : Hp), 0 ≤ d → d < m → StrAt H' st q (n + 1) → But st q H H' → Q (.int d) H') :
    tTailDraw K { nx := nx, rt := Q } [some (.ref st), some (.int m), cell, none, none] H1 := by
  refine ⟨_, rfl, st, _, 1, .int a1, rfl, rfl, SqL.of f1, rfl, _, _, rfl, rfl, _, rfl, ?_⟩
  refine ite2 (fun h0 => ?_) (fun h0 => ?_)
  · have h0' : 0 < a1 := of_decide_eq_true h0
    refine ⟨_, rfl, st, _, 1, .int a1, rfl, rfl, SqL.of f1, rfl, .inl ⟨_, rfl, _, rfl, _, _, rfl, rfl, hm, ?_⟩⟩
    refine ⟨_, rfl, st, _, 1, .int a1, rfl, rfl, SqL.of f1, rfl, _, rfl, _, _, rfl, rfl, ⟨hm, hm2⟩, _, rfl, st, _, 1, 1, rfl, rfl, f1, rfl, ?_⟩
    refine ⟨_, rfl, k _ _ (Int.emod_nonneg _ (by omega)) (Int.emod_lt_of_pos _ hm) ⟨ns1, a1 / m, c1, upd_same, by rw [upd_ne nsq.symm]; exact f2, Int.ediv_nonneg ha1 (by omega), hc1, hc12⟩ (B1.trans But.st)⟩
  · refine ⟨_, rfl, st, _, 3, .int c1, rfl, rfl, SqL.of f1, rfl, _, rfl, st, _, 2, .int (n + 1), rfl, rfl, SqL.of f1, rfl, _, _, rfl, rfl, .inl ⟨by decide, by decide⟩, _, _, rfl, rfl, _, _, rfl, rfl, _, _, rfl, rfl, ⟨by decide, by decide, pow_bound (m := 18446744073709551616) (by omega) (by omega) (by omega)⟩, .inl ⟨_, rfl, _, _, rfl, rfl, (by show (0 : Int) < 2147483629; decide), ?_⟩⟩
    have z0 : 0 ≤ (c1 + 7919 * (n + 1) + 104729) ^ (5 : Int).toNat % 2147483629 := Int.emod_nonneg _ (by decide)
    have z1 : (c1 + 7919 * (n + 1) + 104729) ^ (5 : Int).toNat % 2147483629 < 2147483629 := Int.emod_lt_of_pos _ (by decide)
    generalize (c1 + 7919 * (n + 1) + 104729) ^ (5 : Int).toNat % 2147483629 = mx at z0 z1 ⊢
    refine ⟨_, rfl, _, _, rfl, rfl, .inr ⟨by decide, by decide⟩, _, rfl, st, _, 2, .int (n + 1), rfl, rfl, SqL.of f1, rfl, _, _, rfl, rfl, .inl ⟨by decide, by decide⟩, _, _, rfl, rfl, _, _, rfl, rfl, _, _, rfl, rfl, ⟨by decide, by decide, pow_bound (m := 18446744073709551616) (by omega) (by omega) (by omega)⟩, .inl ⟨_, rfl, _, _, rfl, rfl, (by show (0 : Int) < 1000000007; decide), _, rfl, _, _, rfl, rfl, hm, ?_⟩⟩
    exact k _ _ (Int.emod_nonneg _ (by omega)) (Int.emod_lt_of_pos _ hm) ⟨ns1, a1, c1, f1, f2, ha1, hc1, hc12⟩ B1
section
variable {P : Program} {w : World} {K : PySem.W.Frag} {mg : Str → Option Value} {base : Heap}
theorem ok_draw {f : Addr} {fd : FuncData} (F : Fun K "_law_draw" "_law_draw" sDraw f fd) (ma : mg "abs" = none) (mi : mg "int" = none) : FnOk P w K mg base CX0 1 f fd ["stream", "many"] spDraw := by
  refine F.ok scDraw (fun vs H Q E h => ?_) (fun cdv A outer s H vs Q E hr h => ?_)
  · obtain ⟨st, q, n, m, rfl, _⟩ := h
    rfl
  obtain ⟨st, q, n, m, rfl, S, nsq, hm, hm2, hn0, hn1, k⟩ := h
  refine ⟨_, pss_cons (ps_asg (pe_op op_add (pe_ix ix_list (pv 0) pe_int (fun _ _ => rfl)) pe_int) (pg_sub (pv 0) pe_int set_list))
   (pss_cons (ps_while PassesOwn.never (PW.pt (pw_and (pt_cmpR op_eq (pe_ix ix_list (pv 0) pe_int (fun _ _ => rfl)) pe_int (nomark _)) (pw_and1 (pt_cmpR (op_neD hr.units) (pe_ix ix_list (pv 0) pe_int (fun _ _ => rfl)) (pe_lst pa_nil) (nomark _)))))
      (pss_cons (ps_set (i := 2) scDraw.nd rfl (Or.inl rfl) (pe_callB call_abs (by rfl) ma (by decide +kernel) (pa_cons (pe_bm PySem.F.plainAttrs_list PySem.F.slot_list_pop PySem.F.type_list_pop mt_popAt (pe_ix ix_list (pv 0) pe_int (fun _ _ => rfl)) (pa_cons pe_int pa_nil)) pa_nil)))
      (pss_cons (ps_asg (pe_op op_mod (pe_callTy call_int1 (by rfl) mi (by decide +kernel) (pa_cons (pe_op op_add (pe_op op_add (pe_op op_mul (pe_ix ix_list (pv 0) pe_int (fun _ _ => rfl)) pe_int) (pv 2)) pe_int) pa_nil)) pe_int) (pg_sub (pv 0) pe_int set_list))
      (pss_one (ps_asg (pe_ifExp (pt_cmpR op_ge (pv 2) (pe_op op_pow pe_int pe_int) (nomark _)) (pv 2) pe_int) (pg_sub (pv 0) pe_int set_list))))))
   (pss_cons (ps_if (pt_cmpR op_gt (pe_ix ix_list (pv 0) pe_int (fun _ _ => rfl)) pe_int (nomark _))
      (pss_cons (ps_set (i := 3) scDraw.nd rfl (Or.inl rfl) (pe_op op_mod (pe_callTy call_int1 (by rfl) mi (by decide +kernel) (pa_cons (pe_ix ix_list (pv 0) pe_int (fun _ _ => rfl)) pa_nil)) (pv 1)))
      (pss_cons (ps_asg (pe_op op_fdiv (pe_ix ix_list (pv 0) pe_int (fun _ _ => rfl)) (pv 1)) (pg_sub (pv 0) pe_int set_list))
      (pss_one (ps_ret (pv 3))))) pss_nil)
   (pss_cons (ps_set (i := 4) scDraw.nd rfl (Or.inl rfl) (pe_op op_mod (pe_callTy call_int1 (by rfl) mi (by decide +kernel) (pa_cons (pe_op op_pow (pe_op op_add (pe_op op_add (pe_ix ix_list (pv 0) pe_int (fun _ _ => rfl)) (pe_op op_mul pe_int (pe_ix ix_list (pv 0) pe_int (fun _ _ => rfl)))) pe_int) pe_int) pa_nil)) pe_int))
   (pss_one (ps_ret (pe_op op_mod (pe_op op_mod (pe_callTy call_int1 (by rfl) mi (by decide +kernel) (pa_cons (pe_op op_pow (pe_op op_add (pe_op op_add (pe_op op_mul (pv 4) pe_int) (pe_op op_mul pe_int (pe_ix ix_list (pv 0) pe_int (fun _ _ => rfl)))) pe_int) pe_int) pa_nil)) pe_int) (pv 1))))))), ?_⟩
  obtain ⟨ns, a, c, e1, e2, ha, hc, hc2⟩ := S.ex
  -- stream[2] = stream[2] + 1
  refine ⟨_, rfl, st, _, 2, .int n, rfl, rfl, SqL.of e1, rfl, _, _, rfl, rfl, _, rfl, st, _, 2, 2, rfl, rfl, e1, rfl, ?_⟩
  have nqs : q ≠ st := Ne.symm nsq
  -- the loop: m, how many cells are left
  refine ⟨fun i σ H' => ∃ (cell : Option V) (ns : List Int) (a c : Int), σ = [some (.ref st), some (.int m), cell, none, none] ∧ H' st = some (.lst [.ref q, .int a, .int (n + 1), .int c]) ∧ H' q = some (.lst (ns.map V.int)) ∧ 0 ≤ a ∧ 0 ≤ c ∧ c < 2147483647 ∧ But st q H H' ∧ i = ns.length,
    ⟨_, none, ns, a, c, rfl, upd_same, by rw [upd_ne nqs]; exact e2, ha, hc, hc2, But.st, rfl⟩, ?_⟩
  rintro i σ H1 ⟨cell, ns1, a1, c1, rfl, f1, f2, ha1, hc1, hc12, B1, rfl⟩
  refine ⟨_, rfl, st, _, 1, .int a1, rfl, rfl, SqL.of f1, rfl, rfl, _, rfl, ?_⟩
  refine ite2 (fun h0 => ?_) (fun h0 => ?_)
  · refine ⟨_, rfl, st, _, 0, .ref q, rfl, rfl, SqL.of f1, rfl, Nat.zero_le _, fun p hp => ?_⟩
    have nps : p ≠ st := fun e => by rw [e, f1] at hp; cases hp
    have npq : p ≠ q := fun e => by rw [e, f2] at hp; cases hp
    have g1 : upd H1 p (.lst []) st = some (.lst [.ref q, .int a1, .int (n + 1), .int c1]) := by rw [upd_ne nps.symm]; exact f1
    have g2 : upd H1 p (.lst []) q = some (.lst (ns1.map V.int)) := by rw [upd_ne npq.symm]; exact f2
    have BB : But st q H (upd H1 p (.lst [])) := B1.trans (But.new hp)
    refine ⟨.list (ns1.map PyData.int), .list [], .lst (SqL.of g2) (dp_ints ns1), .lst (SqL.of upd_same) .nil, PySem.W.ke_shaped_ints ns1, by decide, _, rfl, ?_⟩
    rw [eqv_ints_nil]
    generalize upd H1 p (.lst []) = H2 at g1 g2 BB ⊢
    cases ns1 with
    | nil =>
      refine iteF ?_
      clear f1 f2 h0 B1 hp nps npq
      exact tail_draw hm hm2 hn0 hn1 ha1 hc1 hc12 g1 g2 BB nsq k
    | cons z ns1 =>
      refine iteT ?_
      refine ⟨fun σ' H' => ∃ (cell : Option V) (ns : List Int) (a c : Int), σ' = [some (.ref st), some (.int m), cell, none, none] ∧ H' st = some (.lst [.ref q, .int a, .int (n + 1), .int c]) ∧ H' q = some (.lst (ns.map V.int)) ∧ 0 ≤ a ∧ 0 ≤ c ∧ c < 2147483647 ∧ But st q H H' ∧ ns.length = ns1.length,
        fun σ' H' ⟨cell, ns, a, c, e1, e2, e3, e4, e5, e6, e7, e8⟩ => ⟨ns.length, by rw [e8]; exact Nat.lt_succ_self _, cell, ns, a, c, e1, e2, e3, e4, e5, e6, e7, rfl⟩, ?_⟩
      -- cell = abs(stream[0].pop(0))
      refine ⟨_, rfl, st, _, 0, .ref q, rfl, rfl, SqL.of g1, rfl, .inl ⟨rfl, _, SqL.of g2⟩, q, _, 0, 0, .int z, rfl, rfl, g2, by decide, by decide, seq0 _ _, rfl, _, rfl, ?_⟩
      have k1 : upd H2 q (.lst (ns1.map V.int)) st = some (.lst [.ref q, .int a1, .int (n + 1), .int c1]) := by rw [upd_ne nsq]; exact g1
      have k2 : upd H2 q (.lst (ns1.map V.int)) q = some (.lst (ns1.map V.int)) := upd_same
      have BC : But st q H (upd H2 q (.lst (ns1.map V.int))) := BB.trans But.q
      have hcell : 0 ≤ (if z < 0 then -z else z) := by split <;> omega
      show tSeq _ _ _ _ (upd H2 q (.lst (ns1.map V.int)))
      generalize upd H2 q (.lst (ns1.map V.int)) = H3 at k1 k2 BC ⊢
      generalize (if z < 0 then -z else z) = cl at hcell ⊢
      -- stream[3] = int(stream[3] * 8191 + cell + 3) % 2147483647
      refine ⟨_, rfl, st, _, 3, .int c1, rfl, rfl, SqL.of k1, rfl, _, _, rfl, rfl, .inr ⟨by decide, by decide⟩, _, rfl, _, _, rfl, rfl, _, _, rfl, rfl, .inl ⟨_, rfl, _, _, rfl, rfl, (by show (0 : Int) < 2147483647; decide), _, rfl, st, _, 3, 3, rfl, rfl, k1, rfl, ?_⟩⟩
      have l1 : ∀ x : Int, upd H3 st (.lst [.ref q, .int a1, .int (n + 1), .int x]) q = some (.lst (ns1.map V.int)) := fun x => by rw [upd_ne nqs]; exact k2
      have z0 : 0 ≤ (c1 * 8191 + cl + 3) % 2147483647 := Int.emod_nonneg _ (by decide)
      have z1 : (c1 * 8191 + cl + 3) % 2147483647 < 2147483647 := Int.emod_lt_of_pos _ (by decide)
      -- stream[1] = cell if cell >= 10 ** 18 else 0
      refine ⟨_, rfl, _, _, rfl, rfl, ⟨by decide, by decide, by decide⟩, _, _, rfl, rfl, _, rfl, ?_⟩
      refine ite2 (fun _ => ?_) (fun _ => ?_)
      · refine ⟨_, rfl, _, rfl, st, _, 1, 1, rfl, rfl, upd_same, rfl, ?_⟩
        exact ⟨_, ns1, cl, _, rfl, upd_same, by rw [upd_ne nqs]; exact l1 _, hcell, z0, z1, BC.trans (But.st.trans But.st), rfl⟩
      · refine ⟨_, rfl, st, _, 1, 1, rfl, rfl, upd_same, rfl, ?_⟩
        exact ⟨_, ns1, 0, _, rfl, upd_same, by rw [upd_ne nqs]; exact l1 _, by decide, z0, z1, BC.trans (But.st.trans But.st), rfl⟩
  · refine iteF ?_
    exact tail_draw hm hm2 hn0 hn1 ha1 hc1 hc12 f1 f2 B1 nsq k
end
end N0
set_option Elab.async false
set_option linter.all false
set_option maxRecDepth 100000
set_option maxHeartbeats 4000000
/-! exceptions as values: made by their __init__ (by place, by a keyword) or without one, asked by isinstance, a field read -/
namespace N0
open PySem PySem.Spec PyProof.Rows L2
section
variable {X : Cx} {CX : CXT} {x : Str} {C fI : Addr} {k : Nat} {fd : FuncData} {ps : List Str} {sp : Sp} {e : Expr} {es : List Expr} {ta : TA} {p pos : Pos}
/-- C(e, ..), a new exception: its own __init__ keeps sp -/
def tMkX (C : Addr) (sp : Sp) (ta : TA) : TE := fun σ H Q => ta σ H fun vs H1 => vs.length ≤ 1000 ∧ ∀ a, H1 a = none → sp (.ref a :: vs) (upd H1 a (exo a C none)) (fun v H2 => v = .non ∧ Q (.ref a) H2) E0
theorem pe_mkX (T : OexC X.K C) (iC : PySem.W.findIn X.K (.ref C) "__init__" = some (some (.ref fI))) (tI : PySem.W.typeIn X.K (.ref fI) = some (.type "function"))
    (F1 : FnOk X.prog X.w X.K X.mg X.base CX k fI fd ps sp) (hr : Room (k + 1) X.A) (hb : Binds X.K fd ps []) (hx : Passes CX X E0) (hg : Gl X x) (hm : X.mg x = some (.ref C)) (ha : PA X (e :: es) ta)
    (hdb : (x == ("__debug__" : Str)) = false := by decide) (he : starEach (e :: es) X.env = (false, eval e X.env) :: starEach es X.env := by rfl) (hpl : (backTo pos (starEach es X.env)).any (·.1) = false := by rfl) :
    PE X (.Call (.Name x p) (e :: es) [] pos) (tMkX C sp ta) := by
  refine ⟨fun pins s σ H Q I h => ?_⟩
  obtain ⟨nm, q, N, bs, bm, sn, sub, ab, col, dd, k0, k1, k2, k3, k5, hC, hbm⟩ := T.cls
  refine wpAny_Call_Name_kw (ld_glob I hg hm ?_ hdb)
  refine PySem.W.callWith_K (h₀ := X.base) I.ok.mod.kin T.kC (thn (ha.run pos pins s σ H _ I h) fun us s1 ⟨vs, H1, I1, r1, hz, q1⟩ => ⟨I1.kIn, ?_⟩) he hpl
  show wpAny _ _ (call (.ref C) us) _ _ _
  obtain ⟨hp, g, dr, tk, os⟩ := s1
  have hn : H1 (hp.objs.size + 1) = none := I1.hok.fresh (Nat.le_succ _)
  have hq := q1 (hp.objs.size + 1) hn
  have I2 : Inv X pins σ (upd H1 (hp.objs.size + 1) (exo (hp.objs.size + 1) C none)) ⟨(hp.push (PySem.W.kdv_tup us)).push (PySem.HandSPX.excO C hp.objs.size), g, dr, tk, os⟩ :=
    I1.laid (t' := tk) (a := hp.objs.size + 1) (o := exo (hp.objs.size + 1) C none) (h' := (hp.push (PySem.W.kdv_tup us)).push (PySem.HandSPX.excO C hp.objs.size)) (fun b o z => Heap.get?_push_of_some _ (Heap.get?_push_of_some _ z)) (Nat.le_succ _) (exo_ok (t1 := hp.objs.size) (by heap_get))
  have r2 : Vals (V.ref (hp.objs.size + 1) :: vs) (Value.ref (hp.objs.size + 1) :: us) := .cons rfl r1
  have hl : (Value.ref (hp.objs.size + 1) :: us ++ []).length = ps.length := by
    rw [List.append_nil]
    exact r2.length.symm.trans (F1.len _ _ _ _ hq)
  have hus : us.length ≤ sizeLine := by
    rw [← Paired.length r1, sizeLine_eq]
    omega
  have bb := hb ⟨(hp.push (PySem.W.kdv_tup us)).push (PySem.HandSPX.excO C hp.objs.size), g, dr, tk, os⟩ (Value.ref (hp.objs.size + 1) :: us) I2.kIn hl
  rw [List.append_nil] at bb
  refine wpAny_call (PySem.HandSPX.call_own F.excBase_ValueError (fun Y => PySem.HandSPX.refsVE_contains Y bm hbm) (I1.kIn _ _ hC) (PySem.W.looks_findIn I1.kIn iC) (fun self => PySem.W.bind_fn I1.kIn self tI) hus
    (codeAny_mono (F1.run _ X.stack _ _ ⟨Value.ref (hp.objs.size + 1) :: us, []⟩ (Value.ref (hp.objs.size + 1) :: us) _ _ E0 (hr.make C us []) (I2.env0.make C us []) bb r2 hq) fun r s' hq' => ?_))
  cases r with
  | error er => exact hx pins σ _ _ er s' I2 hq'
  | ok fl =>
    cases fl with
    | ret u =>
      obtain ⟨v, H3, I3, rv, ev, q3⟩ := I2.after hq'
      subst ev
      exact ⟨rv, ⟨V.ref _, H3, I3, rfl, q3⟩⟩
    | next => exact False.elim hq'
    | brk => exact False.elim hq'
    | cont => exact False.elim hq'
/-- C(), no own __init__ -/
theorem pe_mk0 {bmB : List Value} {B newId initId : String} (F : ExcBaseFacts B newId initId bmB) (q : PySem.W.excIn X.K C bmB newId = true) (gC : X.mg x = some (.ref C)) (kC : PySem.W.keepIn X.K (.ref C) = true) (hg : Gl X x) (hdb : (x == ("__debug__" : Str)) = false := by decide) :
    PE X (.Call (.Name x p) [] [] pos) (fun σ H Q => ∀ a, H a = none → Q (.ref a) (upd H a (exo a C none))) := by
  refine ⟨fun pins s σ H Q I h => ?_⟩
  refine wpAny_Call_Name_kw (ld_glob I hg gC ?_ hdb)
  refine PySem.W.callWith_K0 I.kIn kC ?_
  show wpAny _ _ (call (.ref C) []) _ _ _
  obtain ⟨bm, N, nm, qn, bs, hdct, sn, sub, ab, col, dd, k0, k1, k2, k3, k5, mN, hC, hN, hni, T⟩ := exc_obj I.kIn q
  refine wpAny_call_exc_subT F T hC hN hni (fun h' a hm => ?_) (by show 0 ≤ sizeLine; exact Nat.zero_le _)
  have hn : H a = none := I.hok.gone hm.new
  obtain ⟨t, ht, _, _⟩ := hm.there
  exact ⟨.ref a, upd H a (exo a C none), I.laidN hm.keeps hm.new hn (exo_ok ht), rfl, h a hn⟩
end
end N0
set_option Elab.async false
set_option linter.all false
set_option maxRecDepth 100000
set_option maxHeartbeats 4000000
namespace PySem.W
open PySem PySem.Spec PySem.Calls PyProof.Rows
section
variable {prog : Program} {w : World} {A : Around} {E : Value → Shared → Prop} {s : Shared} {K : Frag} {x D : Addr} {ox : Obj} {od : Option Obj}
/-- a data descriptor found in the class, whatever the object's own dict holds -/
theorem n0_find {name : Str} {a g : Value} (hc : (clsIn K D).isSome = true) (ha : findIn K (.ref D) name = some (some a)) (hg : specialIn K a "__get__" = some (some g)) (ht : takesIn K a = some true) : findObj K D od name = some (.bind g a) := by
  obtain ⟨cd, hc⟩ := Option.isSome_iff_exists.mp hc
  unfold findObj
  rw [hc, Option.bind_some, ha, Option.bind_some]
  simp [hg, ht]
/-- what the class of an exception must say for isinstance -/
structure N0Cls (K : Frag) (D : Addr) : Prop where
  ga : findIn K (.ref D) "__getattribute__" = some (some (.builtin "BaseException.__getattribute__"))
  gt : findIn K (.ref D) "__getattr__" = some none
  sub : subIn K (.ref D) (.type "BaseException") = some true
  hd : hasDictIn K D = true
  cl : findIn K (.ref D) "__class__" = some (some (.builtin "object.__class__"))
  sp : specialIn K (.builtin "object.__class__") "__get__" = some (some (.builtin "getset_descriptor.__get__"))
  tk : takesIn K (.builtin "object.__class__") = some true
  ob : mroIn K D (.type "object") = some true
theorem n0_class {Q : Option Value → Shared → Prop} (T : N0Cls K D) (X : K.In s.heap) (I : InstAt s.heap x ox D od) (h : Q (some (.ref D)) { s with toks := s.toks + 1 }) : wpAny (model prog w) A (getAttr? (.ref x) "__class__") Q E s := by
  have hf : findObj K D od "__class__" = some (.bind (.builtin "getset_descriptor.__get__") (.builtin "object.__class__")) := n0_find (by obtain ⟨cd, hc, _⟩ := any_some T.hd; rw [hc]; rfl) T.cl T.sp T.tk
  obtain ⟨hp, g, d, t, os⟩ := s
  have L0 := I.type (M := model prog w)
  have L1 := looks_findIn (M := model prog w) X T.ga
  have L2 := looks_findIn (M := model prog w) X T.gt
  have L3 := looks_find (M := model prog w) X I hf
  have sub : Looks (model prog w) hp (isInstance (.ref x) (.type "BaseException")) true := L0.andThen (looks_subIn X T.sub)
  have hx2 : (Value.builtin "BaseException.__getattribute__" == Value.builtin "object.__getattribute__") = false := by decide +kernel
  have hx1 : (onTheHeap (Value.ref D) && Value.builtin "BaseException.__getattribute__" == Value.builtin "object.__getattribute__") = false := by
    rw [hx2]
    rfl
  unfold getAttr? getAttrBy? getAttrBy
  refine wpAny_bind (wpAny_mkText (wpAny_bind (wpAny_attempt (wpAny_holding (wpAny_bind (L0.at (wpAny_bind (L1.at ?_))))))))
  show wpAny _ _ (if (onTheHeap (Value.ref D) && Value.builtin "BaseException.__getattribute__" == Value.builtin "object.__getattribute__") = true then _ else _) _ _ _
  rw [hx1, if_neg Bool.false_ne_true]
  unfold getAttrByItsOwn hookBefore
  refine wpAny_bind ?_
  rw [if_pos (show onTheHeap (Value.ref D) = true from rfl)]
  refine L2.at ?_
  refine wpAny_bind (wpAny_attempt (wpAny_holding ?_))
  unfold callGetattribute
  rw [show (false && onTheHeap (Value.builtin "BaseException.__getattribute__")) = false from rfl, if_neg Bool.false_ne_true]
  unfold boundAndCalled
  rw [PySem.F.excAttr_ValueError.ga.bind (.ref x)]
  refine wpAny_bind (wpAny_pure ?_)
  show wpAny _ _ (call (.builtin "BaseException.__getattribute__") [.ref x, .str "__class__" t]) _ _ _
  refine wpAny_call (codeAny_call_builtin PySem.F.excAttr_ValueError.ga.plain PySem.F.entry_bexc_ga ?_)
  refine @check_slot (model prog w) _ _ ⟨hp, g, d, t + 1, os⟩ "BaseException.__getattribute__" "BaseException" "__getattribute__" (.ref x) [.str "__class__" t] [] _ (by decide +kernel) (by decide +kernel) sub (PySem.F.args_bexc_ga (.ref x) (.str "__class__" t)) ?_
  unfold Builtin.«object.__getattribute__»
  refine wpAny_bind (wpAny_of_eq (a := ((Value.ref x : Value), [Value.str "__class__" t])) (by first | rfl | (simp only [slotArgs]; rfl)) ?_)
  refine wpAny_bind (wpAny_pure (wpAny_bind (L0.at (wpAny_bind (L3.at ?_)))))
  show wpAny _ _ (holding [Value.builtin "object.__class__"] (call (.builtin "getset_descriptor.__get__") [.builtin "object.__class__", .ref x, .ref D]) >>= ret) _ _ _
  refine wpAny_bind (wpAny_holding (wpAny_call (class_get (s := ⟨hp, g, d, t + 1, os⟩) (ox := ox) (od := od) X I T.ob ?_)))
  refine wpAny_pure ?_
  show wpAny _ _ (handedOut (.ref D)) _ _ _
  rw [handedOut_of (v := .ref D) rfl]
  first
    | exact wpAny_pure (wpAny_pure h)
    | exact wpAny_pure h
    | exact wpAny_pure (wpAny_bind (wpAny_pure (wpAny_pure h)))
theorem n0_kit (T : N0Cls K D) : KitX K (.ref x) (.ref D) (fun h => InstAt h x ox D od) where
  ty := fun _ _ _ I => I.type
  it := fun _ _ X _ => by
    obtain ⟨cdD, hcD, _⟩ := any_some T.hd
    unfold clsIn at hcD
    split at hcD
    · rename_i c' d' cd' sl' ho
      intro A' Q' E' s' k q
      unfold isType loadHead
      exact wpAny_bind (wpAny_loadPart (k _ _ (X _ _ ho)) (wpAny_pure q))
    · cases hcD
  ne := fun h tp dd its n sl X htp => by
    obtain ⟨cdD, hcD, _⟩ := any_some T.hd
    refine Bool.eq_false_iff.mpr fun q => ?_
    have e : D = tp := Value.ref.inj (beq_iff_eq.mp q)
    subst e
    unfold clsIn at hcD
    split at hcD
    · rename_i c' d' cd' sl' ho
      have z := (X _ _ ho).symm.trans htp
      cases z
    · cases hcD
  ca := fun X I k => n0_class T X I k
end
end PySem.W
namespace N0
open PySem PySem.Spec PyProof.Rows L2
/-- an exception of the class at D stands at a: it has no dict, or one that stands, too -/
def XAt (H : Hp) (a D : Addr) : Prop := H a = some (exo a D none) ∨ ∃ (d : Addr) (fs : List (Str × V)), H a = some (exo a D (some d)) ∧ H d = some (exd d fs)
/-- isinstance(e, c), e an exception -/
def rIsX (K : PySem.W.Frag) : List V → Hp → VK → Prop := fun xs H Q => ∃ (a D : Addr) (c : V) (u : Value) (b : Bool), xs = [.ref a, c] ∧ XAt H a D ∧ PySem.W.N0Cls K D ∧ ClsV c u ∧ PySem.W.kitOne K (.ref D) u = some b ∧ Q (.bl b) H
/-- isinstance(e, (c1, c2, ..)) -/
def rIsXT (K : PySem.W.Frag) : List V → Hp → VK → Prop := fun xs H Q => ∃ (a D tp : Addr) (cs : List V) (us : List Value) (b : Bool), xs = [.ref a, .ref tp] ∧ XAt H a D ∧ PySem.W.N0Cls K D ∧ H tp = some (.tup cs) ∧ Paired ClsV cs us ∧ PySem.W.kitAny K (.ref D) us = some b ∧ Q (.bl b) H
section
variable {X : Cx} {pins : List (Addr × Obj)} {σ : L2.St} {H : Hp} {s : Shared}
theorem x_inst {a D : Addr} (I : Inv X pins σ H s) (h : XAt H a D) : ∃ (ox : Obj) (od : Option Obj), PySem.W.InstAt s.heap a ox D od := by
  rcases h with h | ⟨d, fs, h, hd⟩
  · obtain ⟨t1, e⟩ := exo_at I.hok h
    exact ⟨_, none, e, rfl, rfl, True.intro⟩
  · obtain ⟨t1, e⟩ := exo_at I.hok h
    obtain ⟨mA, hn, _⟩ := exd_at I.hok hd
    obtain ⟨o, es, ep, ho, _⟩ := hn
    exact ⟨_, some o, e, rfl, rfl, ho⟩
theorem call_isX : CallR X (.builtin "isinstance") (rIsX X.K) := by
  intro pins s σ H xs us Q I r h
  obtain ⟨a, D, c, u, b, rfl, hx, T, k, e, q⟩ := h
  obtain ⟨u1, u2, rfl, r1, r2⟩ := vals2 r
  cases (show u1 = Value.ref a from r1)
  have e2 := k.eq r2
  subst e2
  obtain ⟨ox, od, J⟩ := x_inst I hx
  exact PySem.W.kia_one (PySem.W.n0_kit T) I.kIn J e (fun z => nomatch z) fun tk => ⟨.bl b, H, I.tok tk, rfl, q⟩
theorem call_isXT : CallR X (.builtin "isinstance") (rIsXT X.K) := by
  intro pins s σ H xs us Q I r h
  obtain ⟨a, D, tp, cs, ws, b, rfl, hx, T, hT, k, e, q⟩ := h
  obtain ⟨u1, u2, rfl, r1, r2⟩ := vals2 r
  cases (show u1 = Value.ref a from r1)
  cases (show u2 = Value.ref tp from r2)
  obtain ⟨ox, odd, J⟩ := x_inst I hx
  obtain ⟨_, its, rv, o, h1, h2, n, h3⟩ := (show ObjOk X.prog X.w H s.heap tp (.tup cs) from I.hok tp _ hT)
  have e3 := ClsV.all k rv
  subst e3
  obtain ⟨oc, od, dt, sl⟩ := o
  simp only at h2 h3
  subst h2 h3
  exact PySem.W.kia_tup (PySem.W.n0_kit T) I.kIn J h1 e (fun z => nomatch z) fun tk => ⟨.bl b, H, I.tok tk, rfl, q⟩
/-- e.f, e an exception with a dict -/
def tXfld (K : PySem.W.Frag) (te : TE) (f : Str) : TE := fun σ H Q => te σ H fun x H1 => ∃ (a C d : Addr) (fs : List (Str × V)) (v : V), x = .ref a ∧ H1 a = some (exo a C (some d)) ∧ H1 d = some (exd d fs) ∧ XfC K C ∧ PySem.W.findIn K (.ref C) f = some none ∧ fs.lookup f = some v ∧ Q v H1
theorem pe_xfld {e : Expr} {te : TE} {pos : Pos} {n : Str} (he : PE X e te) (hb : attributeBase e n X.env (eval e X.env) = eval e X.env := by rfl) : PE X (.Attribute e n pos) (tXfld X.K te n) := by
  refine ⟨fun pins s σ H Q I h => ?_⟩
  refine attr_of hb (thn (he.run pins s σ H _ I h) fun u s1 ⟨x, H1, I1, rx, a, C, d, fs, v, ex, ea, ed, T, hno, l, q⟩ => ?_)
  subst ex
  obtain rfl : u = Value.ref a := rx
  obtain ⟨t1, ho⟩ := exo_at I1.hok ea
  obtain ⟨mA, hns, hr⟩ := exd_at I1.hok ed
  obtain ⟨o1, es, ep, ho1, hr1⟩ := hns
  obtain ⟨od, hod, hl⟩ := lookIn_ns ⟨o1, es, ep, ho1, hr1⟩
  obtain ⟨u, hu, ru⟩ := RelO.some_of (v := v) (o := mA n) (by rw [← l]; exact hr n)
  have J : PySem.W.InstAt s1.heap a { cls := .ref C, dict := some d, data := .fields #[.ref t1, .none, .none, .none, .bool false, .none] } C (some od) := ⟨ho, rfl, rfl, hod⟩
  exact HandSPX.exc_get I1.kIn J T.ga T.gg T.exC (PySem.W.findObj_own T.hdC hno rfl (by rw [hl, hu])) (handed_of ru) ⟨v, H1, I1.tok _, ru, q⟩
end
end N0
set_option Elab.async false
set_option linter.all false
set_option maxRecDepth 100000
set_option maxHeartbeats 4000000
/-! C(f=e): an exception class with its own __init__, called by a keyword -/
namespace PySem
namespace W
theorem looks_clsTy {M : Model} {h : Heap} {C : Addr} {o : Obj} (hC : h.get? C = some o) : Looks M h (typeOf (.ref C)) o.cls := (Looks.ld (part := some .none) hC).andThen .now
end W
namespace HandSPX
open Builtin Builtin.ObjectAttr
section
variable {prog : Program} {w : World} {A : Around} {E : Value → Shared → Prop} {R : Result → Shared → Prop} {M : Model} {h : Heap} {g : Array GenState} {d : Drawn} {t : Nat} {os : OsState}
variable {nm q : Str} {C N : Addr} {bs bm bmB : List Value} {hdct : Bool} {sn : List Str} {sub : List Value} {ab : Bool} {col : Option Bool} {dd : Option Addr} {k0 k1 k2 k3 k5 : Option Value} {B newId initId : String} {kw : List (Str × Value)}
theorem n0_check (F : ExcBaseFacts B newId initId bmB) (hT : ∀ X : String, bm.contains (.type X) = bmB.contains (.type X)) {rest : List Value} {Q : Unit → Shared → Prop}
    (hC : h.get? C = some (excClassObj nm q C N bs bm hdct sn sub ab col dd k0 k1 k2 k3 k5 newId)) (hq : Q () ⟨h, g, d, t, os⟩) : wpAny M A (checkBuiltinCall newId ⟨.ref C :: rest, kw⟩) Q E ⟨h, g, d, t, os⟩ := by
  have hcont : (Value.ref C :: bm).contains (.type B) = true := by rw [List.contains_cons, hT, F.hasB, Bool.or_true]
  have hstar := F.noStar
  simp only [checkBuiltinCall, F.newKind, F.newSplit, F.newRow]
  repeat (first | refine wpAny_loadPart_at hC ?_ | (refine wpAny_isSubtype_exc hC ?_; rw [hcont]) | refine wpAny_staticBase_exc hC ?_ | refine wpAny_madeBy_exc hC ?_ | simp only [bne_self_eq_false, Bool.false_eq_true, if_false] | wp_step)
  exact hq
theorem n0_new (F : ExcBaseFacts B newId initId bmB) (hT : ∀ X : String, bm.contains (.type X) = bmB.contains (.type X)) {rest : List Value}
    (hC : h.get? C = some (excClassObj nm q C N bs bm hdct sn sub ab col dd k0 k1 k2 k3 k5 newId))
    (hq : R (.ok (.ret (.ref (h.objs.size + 1)))) ⟨(h.push (W.kdv_tup rest)).push (excO C h.objs.size), g, d, t, os⟩) (hrest : rest.length ≤ sizeLine) :
    codeAny (model prog w) A (.builtin newId ⟨.ref C :: rest, kw⟩) R ⟨h, g, d, t, os⟩ := by
  have hends := F.ends
  have hcB : (Value.ref C :: bm).contains (.type B) = true := by rw [List.contains_cons, hT, F.hasB, Bool.or_true]
  have hcA : (Value.ref C :: bm).contains (.type "AttributeError") = false := by
    rw [List.contains_cons, hT, F.noAttr]
    rfl
  have hcN : (Value.ref C :: bm).contains (.type "NameError") = false := by
    rw [List.contains_cons, hT, F.noName]
    rfl
  refine codeAny_builtinAt F.entry ?_
  unfold Builtin.«BaseException.__new__»
  refine wpAt_bind ?_
  show wpAt _ _ _ (stack >>= _) _ _ _
  refine wpAt_bind (wpAt_stack fun p below => wpAt_of_wpAny ?_)
  wp_walk
  refine wpAt_of_wpAny ?_
  rw [F.owner]
  repeat (first | with_reducible refine wpAny_madeHere_exc F.canon hC ?_ | with_reducible refine wpAny_loadPart_at hC ?_ | (with_reducible refine wpAny_isSubtype_exc hC ?_; first | rw [hcB] | rw [hcA] | rw [hcN]) | wp_step)
  show R _ _
  rw [Heap.size_push]
  exact hq
theorem n0_tcall (F : ExcBaseFacts B newId initId bmB) (hT : ∀ X : String, bm.contains (.type X) = bmB.contains (.type X)) {rest : List Value} {fI : Addr} {Q : Fin → Shared → Prop}
    (hC : h.get? C = some (excClassObj nm q C N bs bm hdct sn sub ab col dd k0 k1 k2 k3 k5 newId))
    (hi : W.Looks (model prog w) h (typeLookup (.ref C) "__init__") (some (.ref fI))) (hb : ∀ self, W.Looks (model prog w) h (bindSpecial (.ref fI) self) (.ref fI, [self])) (hrest : rest.length ≤ sizeLine)
    (hq : codeAny (model prog w) A (.call (.ref fI) ⟨.ref (h.objs.size + 1) :: rest, kw⟩)
      (fun r s' => match r with | .ok (.ret v) => v = .none ∧ Q (.done (.ret (.ref (h.objs.size + 1)))) s' | .ok _ => False | .error e => E e s')
      ⟨(h.push (W.kdv_tup rest)).push (excO C h.objs.size), g, d, t, os⟩) :
    wpAny (model prog w) A (Builtin.«type.__call__» ⟨.ref C :: rest, kw⟩) Q E ⟨h, g, d, t, os⟩ := by
  repeat (first | with_reducible refine wpAny_loadPart_at hC ?_ | with_reducible refine wpAny_madeBy_exc hC ?_ | wp_step)
  refine codeAny_call_builtin_code (Code.quiet_builtin _ F.quiet) (n0_check F hT hC ?_)
  refine n0_new F hT hC ?_ hrest
  show wpAny _ _ _ _ _ _
  have k : ∀ b o, h.get? b = some o → ((h.push (W.kdv_tup rest)).push (excO C h.objs.size)).get? b = some o := fun b o e => Heap.get?_push_of_some _ (Heap.get?_push_of_some _ e)
  have hC₁ := k _ _ hC
  have hget : ((h.push (W.kdv_tup rest)).push (excO C h.objs.size)).get? (h.objs.size + 1) = some (excO C h.objs.size) := by heap_get
  have hcC : (Value.ref C :: bm).contains (.ref C) = true := by simp
  have i1 := hi.keeps k
  have b1 := (hb (.ref (h.objs.size + 1))).keeps k
  unfold isInstance
  repeat (first | with_reducible refine wpAny_loadPart_at hget ?_ | (with_reducible refine wpAny_isSubtype_exc hC₁ ?_; rw [hcC]) | wp_step)
  show wpAny _ _ (typeLookup (.ref C) _) _ _ _
  refine i1.at ?_
  refine wpAny_holding (wpAny_bind (b1.at ?_))
  refine wpAny_bind (wpAny_call (codeAny_mono hq fun r s' z => ?_))
  rcases r with e | (v | _ | _ | _) <;> first | exact z | exact z.elim | skip
  obtain ⟨rfl, z⟩ := z
  first
    | exact wpAny_pure (wpAny_pure z)
    | (wp_walk; exact z)
theorem n0_call (F : ExcBaseFacts B newId initId bmB) (hT : ∀ X : String, bm.contains (.type X) = bmB.contains (.type X)) {rest : List Value} {fI : Addr}
    (hC : h.get? C = some (excClassObj nm q C N bs bm hdct sn sub ab col dd k0 k1 k2 k3 k5 newId))
    (hi : W.Looks (model prog w) h (typeLookup (.ref C) "__init__") (some (.ref fI))) (hb : ∀ self, W.Looks (model prog w) h (bindSpecial (.ref fI) self) (.ref fI, [self])) (hrest : rest.length ≤ sizeLine)
    (hq : codeAny (model prog w) (A.under (.builtin "type.__call__" ⟨.ref C :: rest, kw⟩)) (.call (.ref fI) ⟨.ref (h.objs.size + 1) :: rest, kw⟩) (W.InitBack (h.objs.size + 1) R)
      ⟨(h.push (W.kdv_tup rest)).push (excO C h.objs.size), g, d, t, os⟩) :
    codeAny (model prog w) A (.call (.ref C) ⟨rest, kw⟩) R ⟨h, g, d, t, os⟩ := by
  have f1 := tc_lookup
  have f2 := tc_bind (.ref C)
  have hTy : (⟨h, g, d, t, os⟩ : Shared).TypeIs (.ref C) "type" := ⟨_, hC, rfl⟩
  refine codeAny_of_tree ?_
  show wpAny _ _ (callAny (.ref C) _) _ _ _
  repeat (any_goals (first | assumption | with_reducible refine wpAny_loadPart_at hC ?_ | wp_step))
  refine ⟨rfl, ?_⟩
  have typ : W.Looks (model prog w) h (isInstance (.ref C) (.type "type")) true := (W.looks_clsTy hC).andThen (W.Looks.of_pure tc_sub)
  refine codeAny_call_builtin_at (Code.quiet_builtin _ (by decide +kernel)) entry_typeCall (W.check_slot tc_kind tc_split typ (W.tc_args _ _ _) (n0_tcall F hT hC hi hb hrest ?_))
  refine codeAny_mono hq fun r s' z => ?_
  rcases r with e | (v | _ | _ | _) <;> exact z
end
end HandSPX
end PySem
set_option Elab.async false
set_option linter.all false
set_option maxRecDepth 100000
set_option maxHeartbeats 4000000
namespace N0
open PySem PySem.Spec PyProof.Rows L2
/-- C(f=e): its own __init__(self, f) keeps sp -/
def tMkK (C : Addr) (sp : Sp) (tk : TA) : TE := fun σ H Q => tk σ H fun zs H1 => zs.length = 1 ∧ ∀ a, H1 a = none → sp (.ref a :: zs) (upd H1 a (exo a C none)) (fun v H2 => v = .non ∧ Q (.ref a) H2) E0
section
variable {X : Cx} {CX : CXT} {x : Str} {C fI : Addr} {k : Nat} {fd : FuncData} {ps ks : List Str} {sp : Sp} {kws : List Keyword} {tk : TA} {p pos : Pos}
theorem pe_mkK (T : OexC X.K C) (iC : PySem.W.findIn X.K (.ref C) "__init__" = some (some (.ref fI))) (tI : PySem.W.typeIn X.K (.ref fI) = some (.type "function"))
    (F1 : FnOk X.prog X.w X.K X.mg X.base CX k fI fd ps sp) (hr : Room (k + 1) X.A) (hb : KBn X.K fd ps 1 ks (fun us ws => us ++ ws) (fun vs zs => vs ++ zs)) (hk1 : ks.length = 1) (hx : Passes CX X E0) (hg : Gl X x) (hm : X.mg x = some (.ref C)) (hkw : PK X kws tk)
    (hall : (backToKw pos (keywordEach kws X.env)).all (·.1.isSome) = true := by rfl) (hks : (backToKw pos (keywordEach kws X.env)).filterMap (·.1) = ks := by rfl) (hdb : (x == ("__debug__" : Str)) = false := by decide)
    (hpl : ((backTo pos (starEach [] X.env)).any (·.1) || (backToKw pos (keywordEach kws X.env)).any (·.1.isNone)) = false := by rfl) :
    PE X (.Call (.Name x p) [] kws pos) (tMkK C sp tk) := by
  refine ⟨fun pins s σ H Q I h => ?_⟩
  obtain ⟨nm, q, N, bs, bm, sn, sub, ab, col, dd, k0, k1, k2, k3, k5, hC, hbm⟩ := T.cls
  refine wpAny_Call_Name_kw (ld_glob I hg hm ?_ hdb)
  refine PySem.W.callWith_KW0 (h₀ := X.base) I.ok.mod.kin T.kC hall ?_ hpl
  refine thn (hkw.run pos pins s σ H _ I h) fun ws s1 ⟨zs, H1, I1, rz, lz, q1⟩ => ⟨I1.kIn, ?_⟩
  rw [hks]
  show wpAny _ _ (call (.ref C) [] (ks.zip ws)) _ _ _
  obtain ⟨hp, g, dr, tk', os⟩ := s1
  have hq := q1 (hp.objs.size + 1) (I1.hok.fresh (Nat.le_succ _))
  have I2 : Inv X pins σ (upd H1 (hp.objs.size + 1) (exo (hp.objs.size + 1) C none)) ⟨(hp.push (PySem.W.kdv_tup [])).push (PySem.HandSPX.excO C hp.objs.size), g, dr, tk', os⟩ :=
    I1.laid (t' := tk') (a := hp.objs.size + 1) (o := exo (hp.objs.size + 1) C none) (h' := (hp.push (PySem.W.kdv_tup [])).push (PySem.HandSPX.excO C hp.objs.size)) (fun b o z => Heap.get?_push_of_some _ (Heap.get?_push_of_some _ z)) (Nat.le_succ _) (exo_ok (t1 := hp.objs.size) (by heap_get))
  have r2 : Vals (V.ref (hp.objs.size + 1) :: zs) ([Value.ref (hp.objs.size + 1)] ++ ws) := .cons rfl rz
  have lw : ws.length = ks.length := rz.length.symm.trans (lz.trans hk1.symm)
  have bb := hb.to ⟨(hp.push (PySem.W.kdv_tup [])).push (PySem.HandSPX.excO C hp.objs.size), g, dr, tk', os⟩ [Value.ref (hp.objs.size + 1)] ws I2.kIn rfl lw
  refine wpAny_call (PySem.HandSPX.n0_call F.excBase_ValueError (fun Y => PySem.HandSPX.refsVE_contains Y bm hbm) (I1.kIn _ _ hC) (PySem.W.looks_findIn I1.kIn iC) (fun self => PySem.W.bind_fn I1.kIn self tI) (Nat.zero_le _)
    (codeAny_mono (F1.run _ X.stack _ _ ⟨[Value.ref (hp.objs.size + 1)], ks.zip ws⟩ ([Value.ref (hp.objs.size + 1)] ++ ws) _ _ E0 (hr.make C [] (ks.zip ws)) (I2.env0.make C [] (ks.zip ws)) bb r2 hq) fun r s' hq' => ?_))
  cases r with
  | error er => exact hx pins σ _ _ er s' I2 hq'
  | ok fl =>
    cases fl with
    | ret u =>
      obtain ⟨v, H3, I3, rv, ev, q3⟩ := I2.after hq'
      subst ev
      exact ⟨rv, ⟨V.ref _, H3, I3, rfl, q3⟩⟩
    | next => exact False.elim hq'
    | brk => exact False.elim hq'
    | cont => exact False.elim hq'
end
end N0
set_option Elab.async false
set_option linter.all false
set_option maxRecDepth 100000
set_option maxHeartbeats 4000000
/-! a lambda of one parameter as a value: made, known as an object, called -/
namespace N0
open PySem PySem.Spec PyProof.Rows L2 LamX
def lScope : Scope := ⟨.function, [("e", .local)], false, false, []⟩
def lArgs (p : Pos) : Arguments := ⟨[], [⟨"e", none, p⟩], none, [], [], none, []⟩
def LamO (a c : Addr) (q : Str) (body : Expr) : HO := .ext fun h => ∃ (pa : Pos) (pm ctv : Value), h.get? a = some (PySem.W.kla_obj "<lambda>" q (lArgs pa) body lScope [] pm c ctv)
theorem scLam : FnScope ["e"] ["e"] lScope := ⟨rfl, rfl, rfl, by decide, rfl, by decide, by decide⟩
theorem lam_ok {P : Program} {w : World} {H : Hp} {h : Heap} {a c : Addr} {q : Str} {body : Expr} {pa : Pos} {pm ctv : Value} (e : h.get? a = some (PySem.W.kla_obj "<lambda>" q (lArgs pa) body lScope [] pm c ctv)) : ObjOk P w H h a (LamO a c q body) :=
  ⟨⟨pa, pm, ctv, e⟩, ⟨_, e⟩, fun h1 h2 ⟨x, y, z, e1⟩ st => ⟨x, y, z, st _ e1⟩⟩
section
variable {X : Cx} {pins : List (Addr × Obj)} {σ : L2.St} {H : Hp} {s : Shared}
theorem lam_make3 {T : List (Addr × Str)} {c P : Addr} {pa pos : Pos} {body : Expr} {E : Value → Shared → Prop} {Q : Value → Shared → Prop} (I : Inv X pins σ H s) (TB : TabB X.base X.mg c P) (hcode : X.env.code = .ref c)
    (hm : (P, X.env.qual ++ "<lambda>") ∈ T) (hu : ∀ p ∈ T, p.1 = P → p.2 = X.env.qual ++ "<lambda>") (hT : Tabs T H)
    (h : ∀ (f c' : Addr) (H1 : Hp) (s' : Shared), Inv X pins σ (upd H1 f (LamO f c' (X.env.qual ++ "<lambda>") body)) s' → ExtN H H1 → Tabs T H1 → H1 f = none → H1 c' = some (CodeO c' (X.env.qual ++ "<lambda>")) → Q (.ref f) s') :
    wpAny (model X.prog X.w) X.A (eval (.Lambda (lArgs pa) body lScope pos) X.env) Q E s := by
  have hfree : ∀ y ∈ lScope.names, y.2 = .free → ∃ c, X.env.cells.lookup y.1 = some c := fun y hy e => by
    rw [List.mem_singleton.mp hy] at e
    cases e
  have hclo : closureFor lScope X.env = pure [] := closure_ok hfree
  obtain ⟨ps, hP, ht, ha⟩ := hT _ hm
  refine PySem.W.kla_eval rfl ?_
  have bP : s.heap.BuiltinsAt X.mg P := TB.bm.keeps I.bk
  have hP' : s.heap.get? P = some { cls := .none, data := .fields ps } := I.hok P _ hP
  cases hc : codeAmong pos ps.toList with
  | none =>
    refine PySem.W.kla_makeFunction (mg := X.mg) (c := c) (P := P) (ps := ps) hclo I.ok.glob (I.mod.glob.keeps I.bk) hcode (TB.code.keeps I.bk) hP' ht hc TB.gP bP fun c' ctv h' tk hx hge hlt hrec htb => ?_
    obtain ⟨c2, oc, vs, t, e2, hoc, hd, hv⟩ := hrec
    cases e2
    have hsz : s.heap.objs.size ≤ h'.objs.size := Nat.le_trans hge (Nat.le_of_lt hlt)
    have nC : H c' = none := I.hok.fresh hge
    have I1 := inv_table (t' := tk) (more := #[rawInt pos.line, rawInt pos.col, .ref c']) (h' := h') I hP hx htb hge ⟨oc, vs, t, hoc, hd, hv⟩
    have I2 := I1.laid (a := h'.objs.size) (o := LamO h'.objs.size c' (X.env.qual ++ "<lambda>") body) (t' := tk) (h' := h'.push (PySem.W.kla_obj "<lambda>" (X.env.qual ++ "<lambda>") (lArgs pa) body lScope [] ((X.mg "__name__").getD .none) c' ctv))
      (fun b u q => Heap.get?_push_of_some _ q) (Nat.le_refl _) (lam_ok (Heap.get?_push_size _ rfl))
    have hE : ExtN H (upd (upd H P (.tbl (ps ++ #[rawInt pos.line, rawInt pos.col, .ref c']))) c' (CodeO c' (X.env.qual ++ "<lambda>"))) := fun b o e n => by
      rw [upd_ne (ne_of_none e nC), upd_ne (fun z => n ps (Option.some.inj (e.symm.trans (by rw [z]; exact hP))))]
      exact e
    have eL : (ps ++ #[rawInt pos.line, rawInt pos.col, .ref c']).toList = ps.toList ++ [rawInt pos.line, rawInt pos.col, .ref c'] := by simp
    refine h h'.objs.size c' _ _ I2 hE (fun p hp => ?_) ?_ upd_same
    · by_cases hb : p.1 = P
      · rw [hu p hp hb, hb]
        refine ⟨_, by rw [upd_ne (ne_of_none hP nC), upd_same], by rw [eL]; exact PySem.TriplesOk_snoc _ _ _ _ ht, fun p' cv hcv => ?_⟩
        rw [eL] at hcv
        rcases among_app _ ht hcv with z | z
        · obtain ⟨c0, e1, e2⟩ := ha p' cv z
          exact ⟨c0, e1, hE _ _ e2 codeO_ne⟩
        · exact ⟨c', z, upd_same⟩
      · obtain ⟨ps', a1, a2, a3⟩ := hT p hp
        refine ⟨ps', by rw [upd_ne (ne_of_none a1 nC), upd_ne hb]; exact a1, a2, fun p' cv hcv => ?_⟩
        obtain ⟨c0, e1, e2⟩ := a3 p' cv hcv
        exact ⟨c0, e1, hE _ _ e2 codeO_ne⟩
    · have n1 : h'.objs.size ≠ c' := Nat.ne_of_gt hlt
      have n2 : h'.objs.size ≠ P := Nat.ne_of_gt (Nat.lt_of_lt_of_le (Heap.lt_size hP') hsz)
      rw [upd_ne n1, upd_ne n2]
      exact I.hok.fresh hsz
  | some cv =>
    obtain ⟨c', e, hco⟩ := ha pos cv hc
    subst e
    refine PySem.W.kla_makeFunctionHit (mg := X.mg) (c := c) (P := P) (ps := ps) hclo I.ok.glob (I.mod.glob.keeps I.bk) hcode (TB.code.keeps I.bk) hP' ht hc bP fun ctv h' tk hx hsz => ?_
    have I1 : Inv X pins σ (upd H h'.objs.size (LamO h'.objs.size c' (X.env.qual ++ "<lambda>") body)) { s with heap := h'.push (PySem.W.kla_obj "<lambda>" (X.env.qual ++ "<lambda>") (lArgs pa) body lScope [] ((X.mg "__name__").getD .none) c' ctv), toks := tk } :=
      I.laid (fun b o e => Heap.get?_push_of_some _ (hx b o e)) hsz (lam_ok (Heap.get?_push_size _ rfl))
    exact h h'.objs.size c' H _ I1 (ExtN.refl H) hT (I.hok.fresh hsz) hco
end
/-- lambda e: body, as a value -/
def tLam1 (T : List (Addr × Str)) (q : Str) (body : Expr) : TE := fun σ H Q => Tabs T H ∧ ∀ (f c' : Addr) (H1 : Hp), ExtN H H1 → Tabs T H1 → H1 f = none → H1 c' = some (CodeO c' q) → Q (.ref f) (upd H1 f (LamO f c' q body))
section
variable {X : Cx}
theorem pe_lam1 {T : List (Addr × Str)} {c P : Addr} {pa pos : Pos} {body : Expr} {q : Str} (TB : TabB X.base X.mg c P) (hcode : X.env.code = .ref c) (hq : X.env.qual ++ "<lambda>" = q) (hm : (P, q) ∈ T) (hu : ∀ p ∈ T, p.1 = P → p.2 = q) :
    PE X (.Lambda (lArgs pa) body lScope pos) (tLam1 T q body) := by
  subst hq
  refine ⟨fun pins s σ H Q I h => ?_⟩
  exact lam_make3 I TB hcode hm hu h.1 fun f c' H1 s' I1 e T1 n k => ⟨.ref f, _, I1, rfl, h.2 f c' H1 e T1 n k⟩
/-- a body's reading, entered with one value -/
def LamRun (P : Program) (w : World) (K : PySem.W.Frag) (mg : Str → Option Value) (base : Heap) (body : Expr) (tb : TE) : Prop := ∀ (q : Str) (f c' : Addr) (A : Around) (outer : List Env) (s : Shared) (H : Hp), PE (cxOf CX0 P w K mg base ["e"] q lScope f (.ref c') A outer s H E0) body tb
/-- x(v), x a slot that holds such a lambda -/
def tCallLam (P : Program) (w : World) (K : PySem.W.Frag) (mg : Str → Option Value) (base : Heap) (i : Nat) (ta : TA) : TE := fun σ H Q => ∃ (f c' : Addr) (q : Str) (body : Expr), σ[i]? = some (some (.ref f)) ∧ H f = some (LamO f c' q body) ∧
  ta σ H fun vs H1 => ∃ v, vs = [v] ∧ H1 f = some (LamO f c' q body) ∧ H1 c' = some (CodeO c' q) ∧ ∃ tb, LamRun P w K mg base body tb ∧ tb [some v] H1 Q
theorem pe_callLam {i : Nat} {x : Str} {e : Expr} {ta : TA} {p pos : Pos} (hr : Room 2 X.A) (hx : Passes CX0 X E0) (ha : PA X [e] ta) (hN : X.N[i]? = some x) (hv : Vis X.env.scope x) (hd : (x == ("__debug__" : Str)) = false := by decide) (hcd : (x == ("__classdict__" : Str)) = false := by decide)
    (he : starEach [e] X.env = (false, eval e X.env) :: starEach [] X.env := by rfl) (hpl : (backTo pos (starEach [] X.env)).any (·.1) = false := by rfl) :
    PE X (.Call (.Name x p) [e] [] pos) (tCallLam X.prog X.w X.K X.mg X.base i ta) := by
  refine ⟨fun pins s σ H Q I h => ?_⟩
  obtain ⟨f, c', q, body, hs, hf, h⟩ := h
  refine wpAny_Call_Name_kw (thn ((pe_var (pos := p) (i := i) hN hv hd hcd).run pins s σ H (fun v H1 => v = .ref f ∧ H1 = H) I ⟨.ref f, hs, rfl, rfl⟩) fun u s0 ⟨v, H0, I0, r0, q0⟩ => ?_)
  obtain ⟨ev, eH⟩ := q0
  subst ev eH
  obtain rfl : u = Value.ref f := r0
  obtain ⟨⟨pa0, pm0, ct0, o0⟩, _, _⟩ := I0.hok f _ hf
  refine PySem.W.callWith_F ⟨_, _, _, _, o0⟩ (thn (ha.run pos pins s0 σ H0 _ I0 h) fun us s1 ⟨vs, H1, I1, r1, q1⟩ => ?_) he hpl
  obtain ⟨v, ev, hf1, hc1, tb, hb, ht⟩ := q1
  subst ev
  obtain ⟨⟨pa1, pm1, ct1, o1⟩, _, _⟩ := I1.hok f _ hf1
  obtain ⟨⟨oc, cvs, t, hoc, hdc, hvc⟩, _, _⟩ := I1.hok c' _ hc1
  refine ⟨⟨_, _, _, _, o1⟩, ?_⟩
  obtain ⟨u, rfl, ru⟩ := vals1 r1
  have rc : codeAny (model X.prog X.w) X.A (.call (.ref f) ⟨[u], []⟩) (CR CX0 X.stack X.prog X.w H1 s1 Q E0) s1 := by
    refine PySem.W.kla_callFunE hr.depth o1 rfl rfl rfl rfl ⟨c', oc, cvs, t, rfl, hoc, hdc, hvc⟩ ?_
    rw [show bindArgs (PySem.W.kla_fn "<lambda>" q (lArgs pa1) body lScope [] pm1 (.ref c') ct1) ⟨[u], []⟩ = (pure [(("e" : Str), u)] : Sem (List (Str × Value))) from rfl]
    refine wpAny_pure (wpAny_newFunctionEnv_cells rfl (fun y hy => .inl (by rw [List.mem_singleton.mp hy]; rfl)) fun env he' s2 x => ?_)
    subst he'
    refine ⟨I1.nolimit.keeps x.toInCall.keep, ?_⟩
    have J : Inv (cxOf CX0 X.prog X.w X.K X.mg X.base ["e"] q lScope f (.ref c') X.A X.stack s1 H1 E0) [] (L2.start ["e"] [v]) H1 s2 := inv_start (ps := ["e"]) (us := [u]) scLam hr.hd I1.env0 rfl r1 x
    refine PySem.W.kla_codeExpr (wpAny_mono ((hb q f c' X.A X.stack s1 H1).run [] s2 _ H1 Q J ht) (fun v' s' hq => ?_) fun e s' hq => hq)
    obtain ⟨w', H', J', rv, q'⟩ := hq
    exact ⟨w', H', J'.os, J'.bare, J'.base, J'.hok, rv, q'⟩
  refine wpAny_call (codeAny_mono rc fun r s' hq => ?_)
  cases r with
  | error e => exact hx pins σ _ _ e s' I1 hq
  | ok fl =>
    cases fl with
    | ret u => exact I1.after hq
    | next => exact False.elim hq
    | brk => exact False.elim hq
    | cont => exact False.elim hq
end
end N0
set_option Elab.async false
set_option linter.all false
set_option maxRecDepth 100000
set_option maxHeartbeats 4000000
/-! the __init__ of the own exceptions: self.f = f -/
namespace N0
open PySem PySem.Spec PyProof.Rows L2 LamX K00
def iArgs (f : Str) (p1 p2 : Pos) : Arguments := ⟨[], [⟨"self", none, p1⟩, ⟨f, none, p2⟩], none, [], [], none, []⟩
def iBody (f : Str) (p1 p2 p3 p4 : Pos) : List Stmt := [.Assign [.Attribute (.Name "self" p1) f p2] (.Name f p3) p4]
def iScope (f : Str) : Scope := ⟨.function, [("self", .local), (f, .local)], false, false, []⟩
/-- the parameter's name -/
structure FNm (f : Str) : Prop where
  self : (f == ("self" : Str)) = false
  db : (f == ("__debug__" : Str)) = false
  cd : (f == ("__classdict__" : Str)) = false
theorem FNm.self' {f : Str} (h : FNm f) : (("self" : Str) == f) = false := by
  have := h.self
  rw [beq_eq_false_iff_ne] at this ⊢
  exact this.symm
theorem scInit {f : Str} (h : FNm f) : FnScope ["self", f] ["self", f] (iScope f) := by
  have h1 : f ≠ "self" := beq_eq_false_iff_ne.mp h.self
  refine ⟨rfl, rfl, rfl, ?_, rfl, ?_, ?_⟩
  · simp [h1.symm]
  · intro x hx
    rcases List.mem_cons.mp hx with e | e
    · subst e
      exact .inl rfl
    · rw [List.mem_singleton.mp e]
      left
      simp [iScope, List.lookup, h.self]
  · intro y hy
    simp [iScope] at hy
    rcases hy with rfl | rfl <;> simp
/-- __init__ of C: keeps its argument as f -/
def spInit (C : Addr) (f : Str) : Sp := fun vs H Q _ => ∃ (a : Addr) (v : V), vs = [.ref a, v] ∧ H a = some (exo a C none) ∧ ∀ d, H d = none → d ≠ a → Q .non (upd (upd H d (exd d [(f, v)])) a (exo a C (some d)))
structure IFun (K : PySem.W.Frag) (q : Str) (f : Str) (fa : Addr) (fd : FuncData) : Prop where
  ex : ∃ st : Stmt, Fun K "__init__" q st fa fd ∧ (∃ p1 p2, defArgs st = iArgs f p1 p2) ∧ (∃ p1 p2 p3 p4, defBody st = iBody f p1 p2 p3 p4) ∧ defScope st = iScope f
section
variable {P : Program} {w : World} {K : PySem.W.Frag} {mg : Str → Option Value} {base : Heap}
theorem ok_init {q f : Str} {fa C : Addr} {fd : FuncData} (F : IFun K q f fa fd) (h : FNm f) (T : OexC K C) (hno : PySem.W.findIn K (.ref C) f = some none) : FnOk P w K mg base CX0 1 fa fd ["self", f] (spInit C f) := by
  obtain ⟨st, F, _, ⟨p1, p2, p3, p4, hb⟩, hsc⟩ := F.ex
  refine F.ok (N := ["self", f]) (by rw [hsc]; exact scInit h) (fun vs H Q E h => ?_) (fun cdv A outer s H vs Q E hr hs => ?_)
  · obtain ⟨a, v, rfl, _⟩ := h
    rfl
  obtain ⟨a, v, rfl, ha, k⟩ := hs
  rw [hb, hsc]
  have v0 : Vis (iScope f) "self" := .inl rfl
  have v1 : Vis (iScope f) f := .inl (by simp [iScope, List.lookup, h.self])
  refine ⟨_, pss_one (ps_ost (pe_var (i := 0) (x := "self") rfl v0) (pe_var (i := 1) (x := f) rfl v1 h.db h.cd)), ?_⟩
  refine ⟨_, rfl, _, rfl, a, C, rfl, T, hno, .inl ⟨ha, fun d hd hda => ?_⟩⟩
  exact k d hd hda
theorem bind_init {q f : Str} {fa : Addr} {fd : FuncData} (F : IFun K q f fa fd) (h : FNm f) : Binds K fd ["self", f] [] := by
  obtain ⟨st, F, ⟨p1, p2, ha⟩, _⟩ := F.ex
  refine F.binds fun kV doc pm an cdv ct us hl => ?_
  rw [ha]
  match us, hl with
  | [a, b], _ =>
    have e := h.self
    unfold bindArgs
    have z : seqItems? Value.none = (pure none : Sem (Option (Array Value))) := rfl
    simp only [iArgs, PySem.W.fnOf, List.map, List.append, List.nil_append, List.zip, List.zipWith, List.length, z, pure_bind, Option.getD, List.forIn_nil]
    have l1 : List.lookup ("self" : Str) [(("self" : Str), a), (f, b)] = some a := rfl
    have l2 : List.lookup f [(("self" : Str), a), (f, b)] = some b := by simp [List.lookup, e]
    simp [l1, l2]
theorem kbn_init {q f : Str} {fa : Addr} {fd : FuncData} (F : IFun K q f fa fd) (h : FNm f) : KBn K fd ["self", f] 1 [f] (fun us ws => us ++ ws) (fun vs zs => vs ++ zs) := by
  obtain ⟨st, F, ⟨p1, p2, ha⟩, _⟩ := F.ex
  refine ⟨fun s us ws _ hl hw => ?_, fun r1 r2 => Vals.append r1 r2⟩
  obtain ⟨oc, od, kV, doc, pm, an, cdv, ct, osl, rfl, lk, hcd⟩ := F.ex
  match us, hl, ws, hw with
  | [a], _, [b], _ =>
    refine BindsTo.of_eq ?_
    rw [ha]
    have e := h.self
    unfold bindArgs
    have z : seqItems? Value.none = (pure none : Sem (Option (Array Value))) := rfl
    simp only [iArgs, PySem.W.fnOf, List.map, List.append, List.nil_append, List.zip, List.zipWith, List.length, z, pure_bind, Option.getD, List.forIn_nil, List.forIn_cons]
    have l0 : List.lookup f [(("self" : Str), a)] = none := by simp [List.lookup, e]
    have l1 : List.lookup ("self" : Str) [(("self" : Str), a), (f, b)] = some a := rfl
    have l2 : List.lookup f [(("self" : Str), a), (f, b)] = some b := by simp [List.lookup, e]
    simp [l0, l1, l2]
end
end N0
set_option Elab.async false
set_option linter.all false
set_option maxRecDepth 100000
set_option maxHeartbeats 4000000
/-! one statement of _law_made_a, _law_made_b -/
namespace N0
open PySem PySem.Spec PyProof.Rows L2 LamX K00
theorem same_new' {H : Hp} {p : Addr} (h : H p = none) (o : HO) : Same H (upd H p o) := fun b u q => by rw [upd_ne (ne_of_none q h)]; exact q
/-- all but l and the tables stays -/
def Kpl (l : Addr) (H H' : Hp) : Prop := ∀ b o, H b = some o → (∀ ps, o ≠ .tbl ps) → b ≠ l → H' b = some o
theorem Kpl.same {l : Addr} {H H1 H2 : Hp} (a : Kpl l H H1) (b : Same H1 H2) : Kpl l H H2 := fun c o e n h => b c o (a c o e n h)
theorem Kpl.of {l : Addr} {H H1 : Hp} (a : Same H H1) : Kpl l H H1 := fun c o e _ _ => a c o e
theorem Kpl.trans {l : Addr} {H H1 H2 : Hp} (a : Kpl l H H1) (b : Kpl l H1 H2) : Kpl l H H2 := fun c o e n h => b c o (a c o e n h) n h
theorem Kpl.ext {l : Addr} {H H1 H2 : Hp} (a : Kpl l H H1) (b : ExtN H1 H2) : Kpl l H H2 := fun c o e n h => b c o (a c o e n h) n
theorem Kpl.st {l : Addr} {H : Hp} {o : HO} : Kpl l H (upd H l o) := fun b u e _ n => by rw [upd_ne n]; exact e
/-- an exception of the class s, made of v -/
def ExcV (s : S1) (v : V) (H : Hp) (e : Addr) : Prop := match s.f with
  | none => H e = some (exo e s.C none)
  | some f => ∃ d, H e = some (exo e s.C (some d)) ∧ H d = some (exd d [(f, v)])
def dueOf (s : S1) (v : V) : List V := match s.f with
  | none => []
  | some _ => [v]
def BodyOf (s : S1) (body : Expr) : Prop := match s.f with
  | none => ∃ p, body = .List [] p
  | some f => ∃ p1 p2 p3, body = .List [.Attribute (.Name "e" p1) f p2] p3
/-- the four that stand for s: two exceptions, a lambda, what is due -/
structure Made1 (N : Addr → Prop) (q : Str) (s : S1) (v : V) (H : Hp) (e1 e2 l c d : Addr) (body : Expr) : Prop where
  x1 : ExcV s v H e1
  x2 : ExcV s v H e2
  lam : H l = some (LamO l c q body)
  code : H c = some (CodeO c q)
  body : BodyOf s body
  due : H d = some (.lst (dueOf s v))
  new : N d
def Made (N : Addr → Prop) (q : Str) (s : S1) (v : V) (H : Hp) (y : V) : Prop := ∃ (t e1 e2 l c d : Addr) (body : Expr), y = .ref t ∧ H t = some (.tup [.ref e1, .ref e2, .ref l, .ref d]) ∧ Made1 N q s v H e1 e2 l c d body
def Fx : HO → Prop
  | .ext _ => True
  | .tup _ => True
  | _ => False
/-- kept: what never changes, and what N tells -/
def Kp (N : Addr → Prop) (H H' : Hp) : Prop := ∀ b o, H b = some o → (∀ ps, o ≠ .tbl ps) → (Fx o ∨ N b) → H' b = some o
theorem Kp.same {N : Addr → Prop} {H H' : Hp} (h : Same H H') : Kp N H H' := fun b o e _ _ => h b o e
theorem Kp.ext {N : Addr → Prop} {H H' : Hp} (h : ExtN H H') : Kp N H H' := fun b o e n _ => h b o e n
theorem Kp.trans {N : Addr → Prop} {H H1 H2 : Hp} (a : Kp N H H1) (b : Kp N H1 H2) : Kp N H H2 := fun c o e n h => b c o (a c o e n h) n h
theorem exo_fx {e C : Addr} {d : Option Addr} : Fx (exo e C d) := True.intro
theorem exd_fx {d : Addr} {fs : List (Str × V)} : Fx (exd d fs) := True.intro
theorem exd_tbl {d : Addr} {fs : List (Str × V)} {ps : Array Value} : exd d fs ≠ .tbl ps := fun z => by
  unfold exd at z
  cases z
theorem lam_tbl {a c : Addr} {q : Str} {body : Expr} {ps : Array Value} : LamO a c q body ≠ .tbl ps := fun z => by
  unfold LamO at z
  cases z
theorem ExcV.keep {N : Addr → Prop} {s : S1} {v : V} {H H' : Hp} {e : Addr} (h : ExcV s v H e) (k : Kp N H H') : ExcV s v H' e := by
  unfold ExcV at h ⊢
  split at h
  · exact k _ _ h (fun _ => exo_tbl) (.inl True.intro)
  · obtain ⟨d, h1, h2⟩ := h
    exact ⟨d, k _ _ h1 (fun _ => exo_tbl) (.inl True.intro), k _ _ h2 (fun _ => exd_tbl) (.inl True.intro)⟩
theorem Made1.keep {N : Addr → Prop} {q : Str} {s : S1} {v : V} {H H' : Hp} {e1 e2 l c d : Addr} {body : Expr} (m : Made1 N q s v H e1 e2 l c d body) (k : Kp N H H') : Made1 N q s v H' e1 e2 l c d body :=
  ⟨m.x1.keep k, m.x2.keep k, k _ _ m.lam (fun _ => lam_tbl) (.inl True.intro), k _ _ m.code (fun ps => codeO_ne ps) (.inl True.intro), m.body, k _ _ m.due (fun _ z => by cases z) (.inr m.new), m.new⟩
theorem Made1.imp {N N' : Addr → Prop} {q : Str} {s : S1} {v : V} {H : Hp} {e1 e2 l c d : Addr} {body : Expr} (m : Made1 N q s v H e1 e2 l c d body) (k : N d → N' d) : Made1 N' q s v H e1 e2 l c d body :=
  ⟨m.x1, m.x2, m.lam, m.code, m.body, m.due, k m.new⟩
theorem Made.keep {N : Addr → Prop} {q : Str} {s : S1} {v : V} {H H' : Hp} {y : V} (m : Made N q s v H y) (k : Kp N H H') : Made N q s v H' y := by
  obtain ⟨t, e1, e2, l, c, d, body, e, h, m⟩ := m
  exact ⟨t, e1, e2, l, c, d, body, e, k _ _ h (fun _ z => by cases z) (.inl True.intro), m.keep k⟩
theorem Made.imp {N N' : Addr → Prop} {q : Str} {s : S1} {v : V} {H : Hp} {y : V} (m : Made N q s v H y) (k : ∀ d xs, H d = some (.lst xs) → N d → N' d) : Made N' q s v H y := by
  obtain ⟨t, e1, e2, l, c, d, body, e, h, m⟩ := m
  exact ⟨t, e1, e2, l, c, d, body, e, h, m.imp (k d _ m.due)⟩
def lamBody (s : S1) (p1 p2 p3 : Pos) : Expr := match s.f with
  | none => .List [] p3
  | some f => .List [.Attribute (.Name "e" p1) f p2] p3
def mkA (s : S1) (g : Nat → Pos) : Stmt :=
  .Expr (.Call (.Attribute (.Name "found" (g 0)) "append" (g 1)) [.Tuple (match s.f with
    | some f => [.Call (.Name s.c (g 2)) [.Name "x" (g 3)] [] (g 4), .Call (.Name s.c (g 5)) [] [⟨some f, .Name "x" (g 6), g 7⟩] (g 8), .Lambda (lArgs (g 9)) (.List [.Attribute (.Name "e" (g 10)) f (g 11)] (g 12)) lScope (g 13), .List [.Name "x" (g 14)] (g 15)]
    | none => [.Call (.Name s.c (g 2)) [] [] (g 4), .Call (.Name s.c (g 5)) [] [] (g 8), .Lambda (lArgs (g 9)) (.List [] (g 12)) lScope (g 13), .List [] (g 15)]) 0 (g 16)] [] (g 17)) (g 18)
/-- what is known of the class s -/
structure SF (K : PySem.W.Frag) (mg : Str → Option Value) (s : S1) : Prop where
  gC : mg s.c = some (.ref s.C)
  own : OexC K s.C
  xf : XfC K s.C
  nc : PySem.W.N0Cls K s.C
  db : (s.c == ("__debug__" : Str)) = false
  ini : ∀ f, s.f = some f → FNm f ∧ PySem.W.findIn K (.ref s.C) f = some none ∧ PySem.W.findIn K (.ref s.C) "__init__" = some (some (.ref s.fa)) ∧ PySem.W.typeIn K (.ref s.fa) = some (.type "function") ∧ ∃ fd, IFun K (s.c ++ ".__init__") f s.fa fd
  no : s.f = none → PySem.W.excIn K s.C veB "ValueError.__new__" = true
theorem exc_new {s : S1} {f : Str} {v : V} {H : Hp} {a d : Addr} (hf : s.f = some f) (ha : H a = none) (hd : upd H a (exo a s.C none) d = none) (hda : d ≠ a) :
    Same H (upd (upd (upd H a (exo a s.C none)) d (exd d [(f, v)])) a (exo a s.C (some d))) ∧ ExcV s v (upd (upd (upd H a (exo a s.C none)) d (exd d [(f, v)])) a (exo a s.C (some d))) a := by
  rw [upd_ne hda] at hd
  refine ⟨fun b o e => ?_, ?_⟩
  · rw [upd_ne (ne_of_none e ha), upd_ne (ne_of_none e hd), upd_ne (ne_of_none e ha)]
    exact e
  · unfold ExcV
    rw [hf]
    exact ⟨d, upd_same, by rw [upd_ne hda, upd_same]⟩
/-- nothing stood there, but for a table -/
def Nw (H : Hp) (d : Addr) : Prop := ∀ o, H d = some o → ∃ ps, o = .tbl ps
theorem Nw.ne {H : Hp} {d b : Addr} {o : HO} (n : Nw H d) (e : H b = some o) (h : ∀ ps, o ≠ .tbl ps) : d ≠ b := fun z => by
  rw [← z] at e
  obtain ⟨ps, x⟩ := n o e
  exact h ps x
theorem Nw.of {l d : Addr} {H H' : Hp} {o : HO} (k : Kpl l H H') (hl : H' l = some o) (h : H' d = none) : Nw H d := fun u e => Classical.byContradiction fun n => by
  have nl : d ≠ l := fun z => by
    rw [z, hl] at h
    cases h
  rw [k d u e (fun ps z => n ⟨ps, z⟩) nl] at h
  cases h
theorem made_tail {s : S1} {v : V} {l fl c' e1 e2 d t : Addr} {xs : List V} {q : Str} {T : List (Addr × Str)} {H H3 : Hp} {body : Expr} {Q : VK} (hlen : xs.length < 1000) (K3 : Kpl l H H3) (hl3 : H3 l = some (.lst xs)) (T3 : Tabs T H3) (n3 : H3 fl = none) (k3 : H3 c' = some (CodeO c' q))
    (X1 : ExcV s v H3 e1) (X2 : ExcV s v H3 e2) (B : BodyOf s body) (hd : upd H3 fl (LamO fl c' q body) d = none) (ht : upd (upd H3 fl (LamO fl c' q body)) d (.lst (dueOf s v)) t = none)
    (k : ∀ (y : V) (H' : Hp), Kpl l H H' → Tabs T H' → H' l = some (.lst (xs ++ [y])) → Made (Nw H) q s v H' y → Q .non H') :
    rAppend (.ref l) [.ref t] (upd (upd (upd H3 fl (LamO fl c' q body)) d (.lst (dueOf s v))) t (.tup [.ref e1, .ref e2, .ref fl, .ref d])) Q := by
  have hdf : d ≠ fl := fun z => by
    rw [z, upd_same] at hd
    cases hd
  have hd3 : H3 d = none := by rwa [upd_ne hdf] at hd
  have S4 := same_new' n3 (LamO fl c' q body)
  have S5 := S4.trans (same_new' hd (.lst (dueOf s v)))
  have S6 := S5.trans (same_new' ht (.tup [.ref e1, .ref e2, .ref fl, .ref d]))
  have td : t ≠ d := fun z => by
    rw [z, upd_same] at ht
    cases ht
  have fd : fl ≠ d := hdf.symm
  have tf : t ≠ fl := fun z => by
    rw [z, upd_ne fd, upd_same] at ht
    cases ht
  have hl6 := S6 _ _ hl3
  have nd : Nw H d := Nw.of K3 hl3 hd3
  have dl : d ≠ l := fun z => by
    rw [z, hl3] at hd3
    cases hd3
  have tl : t ≠ l := fun z => by
    rw [z, S5 _ _ hl3] at ht
    cases ht
  have flL : fl ≠ l := fun z => by
    rw [z, hl3] at n3
    cases n3
  have x1 := X1.keep (Kp.same (N := Nw H) S6)
  have x2 := X2.keep (Kp.same (N := Nw H) S6)
  have gl : upd (upd (upd H3 fl (LamO fl c' q body)) d (.lst (dueOf s v))) t (.tup [.ref e1, .ref e2, .ref fl, .ref d]) fl = some (LamO fl c' q body) := by rw [upd_ne tf.symm, upd_ne fd, upd_same]
  have gd : upd (upd (upd H3 fl (LamO fl c' q body)) d (.lst (dueOf s v))) t (.tup [.ref e1, .ref e2, .ref fl, .ref d]) d = some (.lst (dueOf s v)) := by rw [upd_ne td.symm, upd_same]
  have gt : upd (upd (upd H3 fl (LamO fl c' q body)) d (.lst (dueOf s v))) t (.tup [.ref e1, .ref e2, .ref fl, .ref d]) t = some (.tup [.ref e1, .ref e2, .ref fl, .ref d]) := upd_same
  have gc := S6 _ _ k3
  have K6 : Kpl l H _ := K3.same S6
  have T6 := T3.ext S6
  generalize upd (upd (upd H3 fl (LamO fl c' q body)) d (.lst (dueOf s v))) t (.tup [.ref e1, .ref e2, .ref fl, .ref d]) = H6 at *
  refine ⟨l, xs, .ref t, rfl, rfl, hl6, Nat.lt_of_lt_of_le hlen (by decide), ?_⟩
  have kp : Kp (fun b => b ≠ l) H6 (upd H6 l (.lst (xs ++ [.ref t]))) := fun b o e _ hb => by
    have nb : b ≠ l := by
      rcases hb with hb | hb
      · intro z
        rw [z, hl6] at e
        cases e
        exact hb
      · exact hb
    rw [upd_ne nb]
    exact e
  have m1 : Made1 (fun b => b ≠ l) q s v H6 e1 e2 fl c' d body := ⟨x1, x2, gl, gc, B, gd, dl⟩
  have m2 := m1.keep kp
  refine k (.ref t) _ (K6.trans Kpl.st) (fun p hp => ?_) upd_same ⟨t, e1, e2, fl, c', d, body, rfl, by rw [upd_ne tl]; exact gt, m2.imp fun _ => nd⟩
  obtain ⟨ps, h1, h2, h3⟩ := T6 p hp
  refine ⟨ps, ?_, h2, fun pos cv hc => ?_⟩
  · rw [upd_ne (ne_of h1 hl6 (fun z => by cases z))]
    exact h1
  · obtain ⟨c0, a1, a2⟩ := h3 pos cv hc
    refine ⟨c0, a1, ?_⟩
    rw [upd_ne (ne_of a2 hl6 (fun z => by unfold CodeO at z; cases z))]
    exact a2
section
variable {X : Cx}
theorem st_made {s : S1} {g : Nat → Pos} {T : List (Addr × Str)} {c P : Addr} {q : Str} (S : SF X.K X.mg s) (hgl : Gl X s.c) (hr : Room 2 X.A) (hx : Passes CX0 X E0) (TB : TabB X.base X.mg c P) (hcode : X.env.code = .ref c) (hq : X.env.qual ++ "<lambda>" = q) (hm : (P, q) ∈ T) (hu : ∀ p ∈ T, p.1 = P → p.2 = q)
    (n0 : X.N[0]? = some ("x" : Str)) (n1 : X.N[1]? = some ("found" : Str)) (hg : ((g 1).endLine == (g 17).line) = true) (v0 : Vis X.env.scope "x") (v1 : Vis X.env.scope "found") :
    ∃ t, PS X (mkA s g) t ∧ ∀ (D : Ends) (v : V) (l : Addr) (xs : List V) (H : Hp), H l = some (.lst xs) → xs.length < 1000 → Tabs T H →
      (∀ (y : V) (H' : Hp), Kpl l H H' → Tabs T H' → H' l = some (.lst (xs ++ [y])) → Made (Nw H) q s v H' y → D.nx [some v, some (.ref l)] H') → t D [some v, some (.ref l)] H := by
  obtain ⟨cn, fo, C, N, fa, i⟩ := s
  cases fo with
  | none =>
    have hE := S.no rfl
    refine ⟨_, ps_expr (pe_bm PySem.F.plainAttrs_list PySem.F.slot_list_append PySem.F.type_list_append mt_append (hline := hg) (pe_var (i := 1) n1 v1) (pa_cons (pe_tup
      (pa_cons (pe_mk0 PySem.F.excBase_ValueError hE S.gC S.own.kC hgl S.db) (pa_cons (pe_mk0 PySem.F.excBase_ValueError hE S.gC S.own.kC hgl S.db) (pa_cons (pe_lam1 TB hcode hq hm hu) (pa_cons (pe_lst pa_nil) pa_nil))))) pa_nil)), ?_⟩
    intro D v l xs H hl hlen hT k
    refine ⟨_, rfl, .inl ⟨rfl, _, SqL.of hl⟩, fun a ha => ?_⟩
    have S1' : Same H (upd H a (exo a C none)) := same_new' ha _
    have X1 : ExcV ⟨cn, none, C, N, fa, i⟩ v (upd H a (exo a C none)) a := upd_same
    show ∀ a2, _ = none → _
    intro a2 ha2
    have X2 : ExcV ⟨cn, none, C, N, fa, i⟩ v (upd (upd H a (exo a C none)) a2 (exo a2 C none)) a2 := upd_same
    have X1' := X1.keep (Kp.same (N := fun d => H d = none) (same_new' ha2 (exo a2 C none)))
    have S2 : Same H (upd (upd H a (exo a C none)) a2 (exo a2 C none)) := S1'.trans (same_new' ha2 _)
    clear X1 S1' ha ha2
    generalize upd (upd H a (exo a C none)) a2 (exo a2 C none) = H2 at X1' X2 S2 ⊢
    refine ⟨hT.ext S2, fun fl c' H3 e3 T3 n3 k3 => ?_⟩
    have X1 := X1'.keep (Kp.ext (N := fun d => H d = none) e3)
    have X2 := X2.keep (Kp.ext (N := fun d => H d = none) e3)
    have K3 : Kpl l H H3 := (Kpl.of S2).ext e3
    have hl3 : H3 l = some (.lst xs) := e3 _ _ (S2 _ _ hl) (fun _ z => by cases z)
    refine ⟨by show 0 ≤ sizeLine; decide, fun d hd => ?_⟩
    refine ⟨by show 4 ≤ sizeLine; decide, fun t ht => ?_⟩
    exact made_tail (s := ⟨cn, none, C, N, fa, i⟩) (Q := fun _ H' => D.nx [some v, some (.ref l)] H') hlen K3 hl3 T3 n3 k3 X1 X2 ⟨_, rfl⟩ hd ht k
  | some f =>
    obtain ⟨hf, hno, hi, ht, fd, F⟩ := S.ini f rfl
    refine ⟨_, ps_expr (pe_bm PySem.F.plainAttrs_list PySem.F.slot_list_append PySem.F.type_list_append mt_append (hline := hg) (pe_var (i := 1) n1 v1) (pa_cons (pe_tup
      (pa_cons (pe_mkX S.own hi ht (ok_init F hf S.own hno) hr (bind_init F hf) hx hgl S.gC (pa_cons (pe_var (i := 0) n0 v0) pa_nil) S.db)
      (pa_cons (pe_mkK S.own hi ht (ok_init F hf S.own hno) hr (kbn_init F hf) rfl hx hgl S.gC (pk_cons (pe_var (i := 0) n0 v0) pk_nil) rfl rfl S.db) (pa_cons (pe_lam1 TB hcode hq hm hu) (pa_cons (pe_lst (pa_cons (pe_var (i := 0) n0 v0) pa_nil)) pa_nil))))) pa_nil)), ?_⟩
    intro D v l xs H hl hlen hT k
    refine ⟨_, rfl, .inl ⟨rfl, _, SqL.of hl⟩, _, rfl, by show 1 ≤ 1000; decide, fun a ha => ?_⟩
    refine ⟨a, v, rfl, upd_same, fun d hd hda => ⟨rfl, ?_⟩⟩
    obtain ⟨Sa, X1⟩ := exc_new (s := ⟨cn, some f, C, N, fa, i⟩) (v := v) rfl ha hd hda
    clear hd hda ha
    show tCons (tMkK C (spInit C f) _) _ _ (upd (upd (upd H a (exo a C none)) d (exd d [(f, v)])) a (exo a C (some d))) _
    generalize upd (upd (upd H a (exo a C none)) d (exd d [(f, v)])) a (exo a C (some d)) = H1 at Sa X1 ⊢
    refine ⟨_, rfl, rfl, fun a2 ha2 => ?_⟩
    refine ⟨a2, v, rfl, upd_same, fun d2 hd2 hda2 => ⟨rfl, ?_⟩⟩
    obtain ⟨Sb, X2⟩ := exc_new (s := ⟨cn, some f, C, N, fa, i⟩) (v := v) rfl ha2 hd2 hda2
    have X1 := X1.keep (Kp.same (N := Nw H) Sb)
    have S2 := Sa.trans Sb
    clear hd2 hda2 ha2 Sa Sb
    show tCons (tLam1 T q _) _ _ (upd (upd (upd H1 a2 (exo a2 C none)) d2 (exd d2 [(f, v)])) a2 (exo a2 C (some d2))) _
    generalize upd (upd (upd H1 a2 (exo a2 C none)) d2 (exd d2 [(f, v)])) a2 (exo a2 C (some d2)) = H2 at S2 X1 X2 ⊢
    refine ⟨hT.ext S2, fun fl c' H3 e3 T3 n3 k3 => ?_⟩
    have X1 := X1.keep (Kp.ext (N := Nw H) e3)
    have X2 := X2.keep (Kp.ext (N := Nw H) e3)
    have K3 : Kpl l H H3 := (Kpl.of S2).ext e3
    have hl3 : H3 l = some (.lst xs) := e3 _ _ (S2 _ _ hl) (fun _ z => by cases z)
    refine ⟨_, rfl, by show 1 ≤ sizeLine; decide, fun d hd => ?_⟩
    refine ⟨by show 4 ≤ sizeLine; decide, fun t ht => ?_⟩
    exact made_tail (s := ⟨cn, some f, C, N, fa, i⟩) (Q := fun _ H' => D.nx [some v, some (.ref l)] H') hlen K3 hl3 T3 n3 k3 X1 X2 ⟨_, _, _, rfl⟩ hd ht k
end
end N0
set_option Elab.async false
set_option linter.all false
set_option maxRecDepth 100000
set_option maxHeartbeats 4000000
/-! _law_made_a, _law_made_b -/
namespace N0
open PySem PySem.Spec PyProof.Rows L2 LamX K00
theorem Nw.back {a d : Addr} {H H1 : Hp} {xs : List V} (k : Kpl a H H1) (h : H1 a = some (.lst xs)) (n : Nw H1 d) : Nw H d := fun o e => Classical.byContradiction fun q => by
  have na : d ≠ a := n.ne h (fun _ z => by cases z)
  obtain ⟨ps, z⟩ := n o (k d o e (fun ps z => q ⟨ps, z⟩) na)
  exact q ⟨ps, z⟩
def lineOk (g : Nat → Pos) : Bool := (g 1).endLine == (g 17).line
section
variable {X : Cx}
theorem sts_made {T : List (Addr × Str)} {c P : Addr} {q : Str} {pr pn : Pos} (hr : Room 2 X.A) (hx : Passes CX0 X E0) (TB : TabB X.base X.mg c P) (hcode : X.env.code = .ref c) (hq : X.env.qual ++ "<lambda>" = q) (hm : (P, q) ∈ T) (hu : ∀ p ∈ T, p.1 = P → p.2 = q)
    (n0 : X.N[0]? = some ("x" : Str)) (n1 : X.N[1]? = some ("found" : Str)) (v0 : Vis X.env.scope "x") (v1 : Vis X.env.scope "found") :
    ∀ l : List (S1 × (Nat → Pos)), (∀ p ∈ l, SF X.K X.mg p.1 ∧ Gl X p.1.c ∧ lineOk p.2 = true) →
    ∃ t, PSs X (l.map (fun p => mkA p.1 p.2) ++ [.Return (some (.Name "found" pn)) pr]) t ∧ ∀ (D : Ends) (v : V) (a : Addr) (xs : List V) (H : Hp), H a = some (.lst xs) → xs.length + l.length ≤ 1000 → Tabs T H →
      (∀ (ys : List V) (H' : Hp), Kpl a H H' → Tabs T H' → H' a = some (.lst (xs ++ ys)) → Paired (fun p y => Made (Nw H) q p.1 v H' y) l ys → D.rt (.ref a) H') → t D [some v, some (.ref a)] H
  | [], _ => by
    refine ⟨_, pss_one (ps_ret (pe_var (i := 1) n1 v1)), fun D v a xs H ha _ hT k => ⟨_, rfl, ?_⟩⟩
    exact k [] H (Kpl.of fun _ _ e => e) hT (by rw [List.append_nil]; exact ha) .nil
  | p :: l, h => by
    obtain ⟨h1, h2, h3⟩ := h p (List.mem_cons_self ..)
    obtain ⟨t1, p1, q1⟩ := st_made (g := p.2) h1 h2 hr hx TB hcode hq hm hu n0 n1 h3 v0 v1
    obtain ⟨t2, p2, q2⟩ := sts_made hr hx TB hcode hq hm hu n0 n1 v0 v1 l fun p hp => h p (List.mem_cons_of_mem _ hp)
    refine ⟨_, pss_cons p1 p2, fun D v a xs H ha hl hT k => ?_⟩
    rw [List.length_cons] at hl
    refine q1 _ v a xs H ha (by omega) hT fun y H1 k1 T1 ha1 m1 => ?_
    refine q2 _ v a (xs ++ [y]) H1 ha1 (by rw [List.length_append, List.length_singleton]; omega) T1 fun ys H2 k2 T2 ha2 m2 => ?_
    have kp : Kp (Nw H) H1 H2 := fun b o e nt hb => k2 b o e nt (by
      rcases hb with hb | hb
      · intro z
        rw [z, ha1] at e
        cases e
        exact hb
      · exact hb.ne ha (fun _ z => by cases z))
    refine k (y :: ys) H2 (k1.trans k2) T2 (by rw [ha2, List.append_assoc]; rfl) (.cons (m1.keep kp) (L2.Paired.mapP m2 fun p z m => m.imp fun d _ _ n => n.back k1 ha1))
end
/-- l: the classes, in turn -/
def spMade (T : List (Addr × Str)) (q : Str) (l : List S1) : Sp := fun vs H Q _ => ∃ v, vs = [v] ∧ Tabs T H ∧ ∀ (a : Addr) (ys : List V) (H' : Hp), ExtN H H' → Tabs T H' → H' a = some (.lst ys) → Nw H a → Paired (fun s y => Made (fun d => Nw H d ∧ d ≠ a) q s v H' y) l ys → Q (.ref a) H'
/-- the shape of such a def -/
structure MadeDef (st : Stmt) (l : List (S1 × (Nat → Pos))) : Prop where
  body : ∃ p1 p2 p3 pn pr, defBody st = .Assign [.Name "found" p1] (.List [] p2) p3 :: (l.map (fun p => mkA p.1 p.2) ++ [.Return (some (.Name "found" pn)) pr])
  sc : FnScope ["x", "found"] ["x"] (defScope st)
  v0 : Vis (defScope st) "x"
  v1 : Vis (defScope st) "found"
  sv : (defScope st).names.lookup ("found" : Str) = some NameKind.local
  gl : ∀ p ∈ l, (defScope st).names.lookup p.1.c = some NameKind.globalImplicit ∧ lineOk p.2 = true
  len : l.length ≤ 900
section
variable {P : Program} {w : World} {K : PySem.W.Frag} {mg : Str → Option Value} {base : Heap}
theorem paired_map {α β γ : Type} {F : α → γ → Prop} (g : β → α) : ∀ {l : List β} {ys : List γ}, Paired (fun p y => F (g p) y) l ys → Paired F (l.map g) ys
  | _, _, .nil => .nil
  | _, _, .cons h t => .cons h (paired_map g t)
theorem ok_made {x : Str} {st : Stmt} {f c Pt : Addr} {fd : FuncData} {T : List (Addr × Str)} {q : Str} {l : List (S1 × (Nat → Pos))} (F : Fun K x x st f fd) (M : MadeDef st l) (hS : ∀ p ∈ l, SF K mg p.1) (hc : fd.code = .ref c) (TB : TabB base mg c Pt) (hq : (x ++ ".<locals>.") ++ "<lambda>" = q) (hm : (Pt, q) ∈ T) (hu : ∀ p ∈ T, p.1 = Pt → p.2 = q) :
    FnOk P w K mg base CX0 3 f fd ["x"] (spMade T q (l.map (·.1))) := by
  obtain ⟨oc, od, kV, doc, pm, an, cdv, ct, osl, rfl, lk, hcd⟩ := F.ex
  have ec : cdv = .ref c := hc
  subst ec
  refine fn_of lk hcd M.sc (fun vs H Q E h => by obtain ⟨v, rfl, _⟩ := h; rfl) fun A outer s H vs Q E hr hsp => ?_
  obtain ⟨v, rfl, hT, k⟩ := hsp
  obtain ⟨p1, p2, p3, pn, pr, hb⟩ := M.body
  obtain ⟨t, ht, hq'⟩ := sts_made (X := (cxOf CX0 P w K mg base ["x", "found"] x (defScope st) f (.ref c) A outer s H E).nox) (T := T) (c := c) (P := Pt) (q := q) (pr := pr) (pn := pn) hr pass0 TB rfl hq hm hu rfl rfl M.v0 M.v1 l
    (fun p hp => ⟨hS p hp, (M.gl p hp).1, (M.gl p hp).2⟩)
  rw [hb]
  refine ⟨_, (pss_cons (ps_set (i := 1) M.sc.nd rfl (Or.inl M.sv) (pe_lst pa_nil)) ht).nox, ?_⟩
  refine ⟨by show 0 ≤ sizeLine; decide, fun a ha => ?_⟩
  have S := same_new' ha (.lst [])
  refine hq' _ v a [] _ upd_same (by show 0 + l.length ≤ 1000; rw [Nat.zero_add]; exact Nat.le_trans M.len (by decide)) (hT.ext S) fun ys H' K1 T1 h1 pr => ?_
  have na : ∀ b o, H b = some o → b ≠ a := fun b o e => ne_of_none e ha
  refine k a ys H' (fun b o e n => K1 b o (S b o e) n (na b o e)) T1 h1 (fun o e => by rw [ha] at e; cases e) (paired_map (·.1) (L2.Paired.mapP pr fun p y m => m.imp fun d _ _ n => ⟨fun o e => n o (S d o e), fun z => ?_⟩))
  rw [z] at n
  obtain ⟨ps, e⟩ := n _ upd_same
  cases e
end
end N0
set_option Elab.async false
set_option linter.all false
set_option maxRecDepth 100000
set_option maxHeartbeats 0
/-! what the written part of the module says of each class -/
namespace N0
open PySem PySem.Spec PySem.W PyProof.Rows L2 LamX K00
def n0B (K : Frag) (D : Addr) : Bool :=
  decide (findIn K (.ref D) "__getattribute__" = some (some (.builtin "BaseException.__getattribute__"))) && (decide (findIn K (.ref D) "__getattr__" = some none) && (decide (subIn K (.ref D) (.type "BaseException") = some true) && (hasDictIn K D &&
  (decide (findIn K (.ref D) "__class__" = some (some (.builtin "object.__class__"))) && decide (mroIn K D (.type "object") = some true)))))
theorem sp_class {K : Frag} : specialIn K (.builtin "object.__class__") "__get__" = some (some (.builtin "getset_descriptor.__get__")) := by kernel_rfl
theorem tk_class {K : Frag} : takesIn K (.builtin "object.__class__") = some true := by kernel_rfl
theorem n0B_ok {K : Frag} {D : Addr} (h : n0B K D = true) : N0Cls K D := by
  unfold n0B at h
  simp only [Bool.and_eq_true, decide_eq_true_eq] at h
  obtain ⟨h1, h2, h3, h4, h5, h6⟩ := h
  exact ⟨h1, h2, h3, h4, h5, sp_class, tk_class, h6⟩
def fnmB (f : Str) : Bool := !(f == ("self" : Str)) && (!(f == ("__debug__" : Str)) && !(f == ("__classdict__" : Str)))
theorem fnmB_ok {f : Str} (h : fnmB f = true) : FNm f := by
  unfold fnmB at h
  simp only [Bool.and_eq_true, Bool.not_eq_true'] at h
  exact ⟨h.1, h.2.1, h.2.2⟩
def sfB (K : Frag) (s : S1) : Bool :=
  decide (findIn K (.ref s.C) "__setattr__" = some (some (.builtin "object.__setattr__"))) && (decide (typeIn K (.ref s.C) = some (.type "type")) && (keepIn K (.ref s.C) && (xfB K s.C && (n0B K s.C && (!(s.c == ("__debug__" : Str)) &&
  (match s.f with
  | none => excIn K s.C veB "ValueError.__new__"
  | some f => decide (findIn K (.ref s.C) f = some none) && (decide (findIn K (.ref s.C) "__init__" = some (some (.ref s.fa))) && fnmB f)))))))
theorem sf1 (p : Params) : sps.all (sfB (KP p)) = true := by kernel_rfl
end N0
set_option Elab.async false
set_option linter.all false
set_option maxRecDepth 100000
set_option maxHeartbeats 0
namespace N0
open PySem PySem.Spec PySem.W PyProof.Rows L2 LamX K00
def argPos (st : Stmt) (i : Nat) : Pos := ((defArgs st).args.getD i ⟨"", none, ⟨0, 0, 0, 0⟩⟩).pos
def bodyPos (st : Stmt) : Nat → Pos := match defBody st with
  | [.Assign [.Attribute (.Name _ p1) _ p2] (.Name _ p3) p4] => fun n => [p1, p2, p3, p4].getD n p1
  | _ => fun _ => ⟨0, 0, 0, 0⟩
def shI (s : S1) : Arguments × List Stmt × Scope := (defArgs (inClass (top s.i) 0), defBody (inClass (top s.i) 0), defScope (inClass (top s.i) 0))
def shQ (s : S1) : Arguments × List Stmt × Scope :=
  (iArgs (s.f.getD "") (argPos (inClass (top s.i) 0) 0) (argPos (inClass (top s.i) 0) 1), iBody (s.f.getD "") (bodyPos (inClass (top s.i) 0) 0) (bodyPos (inClass (top s.i) 0) 1) (bodyPos (inClass (top s.i) 0) 2) (bodyPos (inClass (top s.i) 0) 3), iScope (s.f.getD ""))
theorem shapes : (sps.filter (·.f.isSome)).map shI = (sps.filter (·.f.isSome)).map shQ := by kernel_rfl
theorem map_at {α β : Type} {f g : α → β} : ∀ {l : List α}, l.map f = l.map g → ∀ x ∈ l, f x = g x
  | [], _, x, hx => nomatch hx
  | y :: l, h, x, hx => by
    simp only [List.map_cons, List.cons.injEq] at h
    rcases List.mem_cons.mp hx with e | e
    · rw [e]
      exact h.1
    · exact map_at h.2 x e
def nmPos : List Expr → Pos
  | [.Name _ p] => p
  | _ => ⟨0, 0, 0, 0⟩
def kwPos : List Keyword → Pos × Pos
  | [⟨_, .Name _ p, p'⟩] => (p, p')
  | _ => (⟨0, 0, 0, 0⟩, ⟨0, 0, 0, 0⟩)
def arPos : Arguments → Pos
  | ⟨_, [⟨_, _, p⟩], _, _, _, _, _⟩ => p
  | _ => ⟨0, 0, 0, 0⟩
def lbPos : Expr → Pos × Pos × Pos
  | .List [.Attribute (.Name _ p) _ p'] p'' => (p, p', p'')
  | .List [] p'' => (p'', p'', p'')
  | _ => (⟨0, 0, 0, 0⟩, ⟨0, 0, 0, 0⟩, ⟨0, 0, 0, 0⟩)
def posA : Stmt → Nat → Pos
  | .Expr (.Call (.Attribute (.Name _ p0) _ p1) [.Tuple [.Call (.Name _ p2) a1 _ p4, .Call (.Name _ p5) _ k1 p8, .Lambda ar b _ p13, .List l1 p15] _ p16] _ p17) p18 =>
    fun n => [p0, p1, p2, nmPos a1, p4, p5, (kwPos k1).1, (kwPos k1).2, p8, arPos ar, (lbPos b).1, (lbPos b).2.1, (lbPos b).2.2, p13, nmPos l1, p15, p16, p17, p18].getD n p0
  | _ => fun _ => ⟨0, 0, 0, 0⟩
/-- the classes of a def's statements, with their places -/
def lOf (st : Stmt) (l : List S1) : List (S1 × (Nat → Pos)) := l.zip (((defBody st).drop 1).map posA)
def spsA : List S1 := sps.take 54
def spsB : List S1 := sps.drop 54
def asgPos : Stmt → Nat → Pos
  | .Assign [.Name _ p1] (.List _ p2) p3 => fun n => [p1, p2, p3].getD n p1
  | _ => fun _ => ⟨0, 0, 0, 0⟩
def retPos : Stmt → Nat → Pos
  | .Return (some (.Name _ p1)) p2 => fun n => [p1, p2].getD n p1
  | _ => fun _ => ⟨0, 0, 0, 0⟩
def bodyQ (st : Stmt) (l : List S1) : List Stmt :=
  .Assign [.Name "found" (asgPos ((defBody st).getD 0 (.Pass ⟨0, 0, 0, 0⟩)) 0)] (.List [] (asgPos ((defBody st).getD 0 (.Pass ⟨0, 0, 0, 0⟩)) 1)) (asgPos ((defBody st).getD 0 (.Pass ⟨0, 0, 0, 0⟩)) 2) :: ((lOf st l).map (fun p => mkA p.1 p.2) ++
    [.Return (some (.Name "found" (retPos ((defBody st).getD 55 (.Pass ⟨0, 0, 0, 0⟩)) 0))) (retPos ((defBody st).getD 55 (.Pass ⟨0, 0, 0, 0⟩)) 1)])
theorem bodyA : defBody (top 116) = bodyQ (top 116) spsA := by kernel_rfl
theorem bodyB : defBody (top 117) = bodyQ (top 117) spsB := by kernel_rfl
def glB (st : Stmt) (l : List S1) : Bool := (lOf st l).all fun p => decide ((defScope st).names.lookup p.1.c = some NameKind.globalImplicit) && lineOk p.2
theorem glA : glB (top 116) spsA = true := by kernel_rfl
theorem glB' : glB (top 117) spsB = true := by kernel_rfl
theorem gl_of {st : Stmt} {l : List S1} (h : glB st l = true) : ∀ p ∈ lOf st l, (defScope st).names.lookup p.1.c = some NameKind.globalImplicit ∧ lineOk p.2 = true := fun p hp => by
  have := (List.all_eq_true.mp h) p hp
  simp only [Bool.and_eq_true, decide_eq_true_eq] at this
  exact this
theorem madeA : MadeDef (top 116) (lOf (top 116) spsA) where
  body := ⟨_, _, _, _, _, bodyA⟩
  sc := ⟨rfl, rfl, rfl, by decide, rfl, by decide +kernel, by decide +kernel⟩
  v0 := .inl rfl
  v1 := .inl rfl
  sv := rfl
  gl := gl_of glA
  len := by decide +kernel
theorem madeB : MadeDef (top 117) (lOf (top 117) spsB) where
  body := ⟨_, _, _, _, _, bodyB⟩
  sc := ⟨rfl, rfl, rfl, by decide, rfl, by decide +kernel, by decide +kernel⟩
  v0 := .inl rfl
  v1 := .inl rfl
  sv := rfl
  gl := gl_of glB'
  len := by decide +kernel
theorem lA : (lOf (top 116) spsA).map (·.1) = spsA := by kernel_rfl
theorem lB : (lOf (top 117) spsB).map (·.1) = spsB := by kernel_rfl
end N0
set_option Elab.async false
set_option linter.all false
set_option maxRecDepth 100000
set_option maxHeartbeats 4000000
namespace N0
open PySem PySem.Spec PySem.W PyProof.Rows L2 LamX K00
theorem filt {s : S1} {f : Str} (hs : s ∈ sps) (hf : s.f = some f) : s ∈ sps.filter (·.f.isSome) := List.mem_filter.mpr ⟨hs, by rw [hf]; rfl⟩
structure KFacts (K : Frag) : Prop where
  ok : okK K = true
  fv : vals K = valsQ
  sf : sps.all (sfB K) = true
theorem KFacts.okS {K : Frag} (h : KFacts K) : ∀ s ∈ sps, okS K s = true := by
  have := h.ok
  unfold okK at this
  rw [Bool.and_eq_true] at this
  exact List.all_eq_true.mp this.1
theorem KFacts.W {K : Frag} (h : KFacts K) : ∃ cd oc od sl, K.lookup wAd = some ⟨oc, od, .cls cd, sl⟩ ∧ oc = .type "type" ∧ cd.mro = .ref wAd :: veB ∧ cd.ns = wNs := by
  have := h.ok
  unfold okK at this
  simp only [Bool.and_eq_true] at this
  have z := this.2.1
  unfold okK.isExcW at z
  split at z
  · rename_i t od cd sl ho
    simp only [Bool.and_eq_true, decide_eq_true_eq] at z
    exact ⟨cd, _, od, sl, ho, by rw [z.1], z.2.1, z.2.2⟩
  · cases z
theorem sf_of {K : Frag} {mg : Str → Option Value} (h : KFacts K) (hmg : ∀ x a, nsIn K mainGlobals x = some (some (.ref a)) → mg x = some (.ref a)) : ∀ s ∈ sps, SF K mg s := fun s hs => by
  have h1 := h.okS s hs
  have h2 := List.all_eq_true.mp h.sf s hs
  unfold K00.okS at h1
  unfold sfB at h2
  simp only [Bool.and_eq_true, decide_eq_true_eq, Bool.not_eq_true'] at h1 h2
  obtain ⟨g1, g2, g3, g4⟩ := h1
  obtain ⟨f1, f2, f3, f4, f5, f6, f7⟩ := h2
  obtain ⟨nm, q, bs, sn, sub, ab, col, dd, k0, k1, k2, k3, k5, hC⟩ := isExc_ok g2
  have nc := n0B_ok f5
  refine ⟨hmg _ _ (He.eqO_ok g1), ⟨⟨nm, q, s.N, bs, _, sn, sub, ab, col, dd, k0, k1, k2, k3, k5, hC, by decide +kernel⟩, f1, nc.sub, f2, f3⟩, xfB_ok f4, nc, f6, fun f hf => ?_, fun hf => ?_⟩
  · rw [hf] at f7 g4
    simp only [Bool.and_eq_true, decide_eq_true_eq] at f7 g4
    have e : fnV K s.fa = fnQ "__init__" (s.c ++ ".__init__") (inClass (top s.i) 0) := map_at (f := fun s : S1 => fnV K s.fa) (g := fun s : S1 => fnQ "__init__" (s.c ++ ".__init__") (inClass (top s.i) 0)) (show _ = _ from congrArg Prod.fst h.fv) s (filt hs hf)
    obtain ⟨fd, F, ht⟩ := fn_mk e g4.2.2.2.2
    have sh := map_at shapes s (filt hs hf)
    have d : s.f.getD "" = f := by rw [hf]; rfl
    unfold shI shQ at sh
    rw [d] at sh
    simp only [Prod.mk.injEq] at sh
    exact ⟨fnmB_ok f7.2.2, f7.1, f7.2.1, ht, fd, ⟨_, F, ⟨_, _, sh.1⟩, ⟨_, _, _, _, sh.2.1⟩, sh.2.2⟩⟩
  · rw [hf] at f7
    exact f7
/-- the base class's own place, the order of a class -/
theorem mro_of {K : Frag} (h : KFacts K) {s : S1} (hs : s ∈ sps) : ∃ cd, clsIn K s.C = some cd ∧ cd.mro = .ref s.C :: .ref wAd :: veB := by
  have h1 := h.okS s hs
  unfold K00.okS at h1
  simp only [Bool.and_eq_true] at h1
  obtain ⟨nm, q, bs, sn, sub, ab, col, dd, k0, k1, k2, k3, k5, hC⟩ := isExc_ok h1.2.1
  exact ⟨_, by unfold clsIn; rw [hC], rfl⟩
theorem ty_of {K : Frag} (h : KFacts K) {s : S1} (hs : s ∈ sps) : typeIn K (.ref s.C) = some (.type "type") := by
  have h2 := List.all_eq_true.mp h.sf s hs
  unfold sfB at h2
  simp only [Bool.and_eq_true, decide_eq_true_eq] at h2
  exact h2.2.1
theorem c_ne_w {K : Frag} (h : KFacts K) {s : S1} (hs : s ∈ sps) : s.C ≠ wAd := fun z => by
  have := h.ok
  unfold okK at this
  simp only [Bool.and_eq_true, Bool.not_eq_true'] at this
  have e := this.2.2.2.2.2.1
  rw [← z] at e
  have : (sps.map (·.C)).contains s.C = true := List.contains_iff_mem.mpr (List.mem_map_of_mem hs)
  rw [this] at e
  cases e
theorem kit_ss {K : Frag} (h : KFacts K) {s s' : S1} (hs : s ∈ sps) (hs' : s' ∈ sps) : kitOne K (.ref s.C) (.ref s'.C) = some (decide (s.C = s'.C)) := by
  obtain ⟨cd, hc, hm⟩ := mro_of h hs
  obtain ⟨cd', hc', _⟩ := mro_of h hs'
  unfold kitOne
  by_cases e : s.C = s'.C
  · rw [e, if_pos (by simp), decide_eq_true rfl]
  · rw [if_neg (by simpa using e), decide_eq_false e]
    unfold kitCls
    dsimp only
    rw [if_pos (by rw [hc', ty_of h hs']; rfl)]
    show mroIn K s.C _ = _
    unfold mroIn
    rw [hc]
    simp [hm, veB, Ne.symm e, c_ne_w h hs']
theorem kit_w {K : Frag} (h : KFacts K) {s : S1} (hs : s ∈ sps) : kitOne K (.ref s.C) (.ref wAd) = some true := by
  obtain ⟨cd, hc, hm⟩ := mro_of h hs
  obtain ⟨cd', oc, od, sl, hw, eo, _⟩ := h.W
  have e := c_ne_w h hs
  unfold kitOne
  rw [if_neg (by simpa using e)]
  unfold kitCls
  dsimp only
  rw [if_pos (show ((clsIn K wAd).isSome && typeIn K (Value.ref wAd) == some (Value.type "type")) = true by
    have z : typeIn K (Value.ref wAd) = some (Value.type "type") := by show (K.lookup wAd).map (·.cls) = _; rw [hw, eo]; rfl
    rw [z]
    unfold clsIn
    rw [hw]
    rfl)]
  show mroIn K s.C _ = _
  unfold mroIn
  rw [hc]
  simp [hm, veB]
theorem kit_t {K : Frag} (h : KFacts K) {s : S1} (hs : s ∈ sps) {T : String} (hk : kitMeta T = true) : kitOne K (.ref s.C) (.type T) = some (veB.contains (.type T)) := by
  obtain ⟨cd, hc, hm⟩ := mro_of h hs
  unfold kitOne
  rw [if_neg (by simp)]
  unfold kitCls
  dsimp only
  rw [if_pos hk]
  show mroIn K s.C _ = _
  unfold mroIn
  rw [hc]
  simp [hm]
end N0
set_option Elab.async false
set_option linter.all false
set_option maxRecDepth 100000
set_option maxHeartbeats 4000000
/-! _law_kinds_a, _law_kinds_b -/
namespace N0
open PySem PySem.Spec PySem.W PyProof.Rows L2 LamX K00
theorem XAt.same {H H' : Hp} {a D : Addr} (h : XAt H a D) (k : Same H H') : XAt H' a D := by
  rcases h with h | ⟨d, fs, h, g⟩
  · exact .inl (k _ _ h)
  · exact .inr ⟨d, fs, k _ _ h, k _ _ g⟩
theorem ExcV.at {s : S1} {v : V} {H : Hp} {e : Addr} (h : ExcV s v H e) : XAt H e s.C := by
  unfold ExcV at h
  split at h
  · exact .inl h
  · obtain ⟨d, h1, h2⟩ := h
    exact .inr ⟨d, _, h1, h2⟩
structure Tr where
  a : S1
  b : S1
  c : S1
  g : Nat → Pos
def isC (s : S1) (g : Nat → Pos) (n : Nat) : Expr := .Call (.Name "isinstance" (g n)) [.Name "e" (g (n + 1)), .Name s.c (g (n + 2))] [] (g (n + 3))
def mkK (t : Tr) : Stmt := .Assign [.Name "found" (t.g 0)] (.BinOp (.Name "found" (t.g 1)) .Add (.List [isC t.a t.g 2, isC t.b t.g 6, isC t.c t.g 10] (t.g 14)) (t.g 15)) (t.g 16)
def own1 (s s' : S1) : V := .bl (decide (s.C = s'.C))
def trL (s : S1) (t : Tr) : List V := [own1 s t.a, own1 s t.b, own1 s t.c]
section
variable {X : Cx}
theorem is_one {s' : S1} {g : Nat → Pos} {n : Nat} (S : SF X.K X.mg s') (gi : Gl X "isinstance") (mi : X.mg "isinstance" = none) (hgl : Gl X s'.c) (n0 : X.N[0]? = some ("e" : Str)) (v0 : Vis X.env.scope "e") :
    PE X (isC s' g n) (tCB (rIsX X.K) (tCons (tVar 0) (tCons (tC (.ref s'.C)) tNil))) :=
  pe_callB call_isX gi mi (by decide +kernel) (pa_cons (pe_var (i := 0) n0 v0) (pa_cons (pe_glob hgl S.gC rfl S.db) pa_nil))
theorem st_kinds {t : Tr} (KF : KFacts X.K) (hs : ∀ s ∈ sps, SF X.K X.mg s) (h1 : t.a ∈ sps ∧ Gl X t.a.c) (h2 : t.b ∈ sps ∧ Gl X t.b.c) (h3 : t.c ∈ sps ∧ Gl X t.c.c) (gi : Gl X "isinstance") (mi : X.mg "isinstance" = none) (nd : X.N.Nodup)
    (n0 : X.N[0]? = some ("e" : Str)) (n1 : X.N[1]? = some ("found" : Str)) (v0 : Vis X.env.scope "e") (v1 : Vis X.env.scope "found") (s1 : X.env.scope.names.lookup ("found" : Str) = some NameKind.local) :
    ∃ r, PS X (mkK t) r ∧ ∀ (D : Ends) (e l : Addr) (xs : List V) (H : Hp) (s : S1), s ∈ sps → XAt H e s.C → H l = some (.lst xs) → xs.length < 1000 →
      (∀ (l' : Addr) (H' : Hp), Same H H' → H' l' = some (.lst (xs ++ trL s t)) → D.nx [some (.ref e), some (.ref l')] H') → r D [some (.ref e), some (.ref l)] H := by
  refine ⟨_, ps_set (i := 1) (hf := .inr s1) nd n1 (.inl s1) (pe_op op_cat (pe_var (i := 1) n1 v1) (pe_lst (pa_cons (is_one (hs _ h1.1) gi mi h1.2 n0 v0) (pa_cons (is_one (hs _ h2.1) gi mi h2.2 n0 v0) (pa_cons (is_one (hs _ h3.1) gi mi h3.2 n0 v0) pa_nil))))), ?_⟩
  intro D e l xs H s hsm hx hl hlen k
  have nc := (hs s hsm).nc
  refine ⟨_, rfl, _, rfl, e, s.C, _, _, _, rfl, hx, nc, .own _, kit_ss KF hsm h1.1, ?_⟩
  refine ⟨_, rfl, e, s.C, _, _, _, rfl, hx, nc, .own _, kit_ss KF hsm h2.1, ?_⟩
  refine ⟨_, rfl, e, s.C, _, _, _, rfl, hx, nc, .own _, kit_ss KF hsm h3.1, ?_⟩
  refine ⟨by show 3 ≤ sizeLine; decide, fun b hb => ?_⟩
  refine ⟨l, b, xs, _, rfl, rfl, by rw [upd_ne (ne_of_none hl hb)]; exact hl, upd_same, ?_, fun p hp => ?_⟩
  · show xs.length + 3 ≤ sizeLine
    exact Nat.le_trans (by omega : xs.length + 3 ≤ 2000) (by decide)
  · exact k p _ ((same_new' hb _).trans (same_new' hp _)) upd_same
theorem sts_kinds {pr pn : Pos} (KF : KFacts X.K) (hs : ∀ s ∈ sps, SF X.K X.mg s) (gi : Gl X "isinstance") (mi : X.mg "isinstance" = none) (nd : X.N.Nodup)
    (n0 : X.N[0]? = some ("e" : Str)) (n1 : X.N[1]? = some ("found" : Str)) (v0 : Vis X.env.scope "e") (v1 : Vis X.env.scope "found") (s1 : X.env.scope.names.lookup ("found" : Str) = some NameKind.local) :
    ∀ l : List Tr, (∀ t ∈ l, (t.a ∈ sps ∧ Gl X t.a.c) ∧ (t.b ∈ sps ∧ Gl X t.b.c) ∧ (t.c ∈ sps ∧ Gl X t.c.c)) →
    ∃ r, PSs X (l.map mkK ++ [.Return (some (.Name "found" pn)) pr]) r ∧ ∀ (D : Ends) (e a : Addr) (xs : List V) (H : Hp) (s : S1), s ∈ sps → XAt H e s.C → H a = some (.lst xs) → xs.length + 3 * l.length ≤ 1000 →
      (∀ (a' : Addr) (H' : Hp), Same H H' → H' a' = some (.lst (xs ++ l.flatMap (trL s))) → D.rt (.ref a') H') → r D [some (.ref e), some (.ref a)] H
  | [], _ => by
    refine ⟨_, pss_one (ps_ret (pe_var (i := 1) n1 v1)), fun D e a xs H s _ _ ha _ k => ⟨_, rfl, ?_⟩⟩
    exact k a H (fun _ _ e => e) (by rw [List.flatMap_nil, List.append_nil]; exact ha)
  | t :: l, h => by
    obtain ⟨h1, h2, h3⟩ := h t (List.mem_cons_self ..)
    obtain ⟨t1, p1, q1⟩ := st_kinds KF hs h1 h2 h3 gi mi nd n0 n1 v0 v1 s1
    obtain ⟨t2, p2, q2⟩ := sts_kinds KF hs gi mi nd n0 n1 v0 v1 s1 l fun t ht => h t (List.mem_cons_of_mem _ ht)
    refine ⟨_, pss_cons p1 p2, fun D e a xs H s hsm hx ha hl k => ?_⟩
    rw [List.length_cons] at hl
    refine q1 _ e a xs H s hsm hx ha (by omega) fun a1 H1 S1' ha1 => ?_
    refine q2 _ e a1 (xs ++ trL s t) H1 s hsm (hx.same S1') ha1 (by rw [List.length_append, show (trL s t).length = 3 from rfl]; omega) fun a2 H2 S2 ha2 => ?_
    exact k a2 H2 (S1'.trans S2) (by rw [ha2, List.flatMap_cons, List.append_assoc])
end
def spKinds (K : Frag) (l : List S1) : Sp := fun vs H Q _ => ∃ (e : Addr) (s : S1), vs = [.ref e] ∧ s ∈ sps ∧ XAt H e s.C ∧ ∀ (a : Addr) (H' : Hp), Same H H' → H' a = some (.lst (l.map (own1 s))) → Q (.ref a) H'
structure KindsDef (st : Stmt) (l : List Tr) : Prop where
  body : ∃ p1 p2 p3 pn pr, defBody st = .Assign [.Name "found" p1] (.List [] p2) p3 :: (l.map mkK ++ [.Return (some (.Name "found" pn)) pr])
  sc : FnScope ["e", "found"] ["e"] (defScope st)
  v0 : Vis (defScope st) "e"
  v1 : Vis (defScope st) "found"
  sv : (defScope st).names.lookup ("found" : Str) = some NameKind.local
  gi : (defScope st).names.lookup ("isinstance" : Str) = some NameKind.globalImplicit
  gl : ∀ t ∈ l, (t.a ∈ sps ∧ (defScope st).names.lookup t.a.c = some NameKind.globalImplicit) ∧ (t.b ∈ sps ∧ (defScope st).names.lookup t.b.c = some NameKind.globalImplicit) ∧ (t.c ∈ sps ∧ (defScope st).names.lookup t.c.c = some NameKind.globalImplicit)
  len : l.length ≤ 300
section
variable {P : Program} {w : World} {K : PySem.W.Frag} {mg : Str → Option Value} {base : Heap}
theorem ok_kinds {x : Str} {st : Stmt} {f : Addr} {fd : FuncData} {l : List Tr} (KF : KFacts K) (hs : ∀ s ∈ sps, SF K mg s) (F : Fun K x x st f fd) (M : KindsDef st l) (mi : mg "isinstance" = none) :
    FnOk P w K mg base CX0 1 f fd ["e"] (spKinds K (l.flatMap fun t => [t.a, t.b, t.c])) := by
  refine F.ok M.sc (fun vs H Q E h => by obtain ⟨e, s, rfl, _⟩ := h; rfl) fun cdv A outer s0 H vs Q E hr hsp => ?_
  obtain ⟨e, s, rfl, hsm, hx, k⟩ := hsp
  obtain ⟨p1, p2, p3, pn, pr, hb⟩ := M.body
  obtain ⟨t, ht, hq'⟩ := sts_kinds (X := (cxOf CX0 P w K mg base ["e", "found"] x (defScope st) f cdv A outer s0 H E).nox) (pr := pr) (pn := pn) KF hs M.gi mi M.sc.nd rfl rfl M.v0 M.v1 M.sv l M.gl
  rw [hb]
  refine ⟨_, pss_cons (ps_set (i := 1) M.sc.nd rfl (Or.inl M.sv) (pe_lst pa_nil)) ht, ?_⟩
  refine ⟨by show 0 ≤ sizeLine; decide, fun a ha => ?_⟩
  refine hq' _ e a [] _ s hsm (hx.same (same_new' ha _)) upd_same (by show 0 + 3 * l.length ≤ 1000; have := M.len; omega) fun a' H' S' ha' => ?_
  refine k a' H' ((same_new' ha _).trans S') ?_
  rw [ha', List.nil_append, List.map_flatMap]
  rfl
end
end N0
set_option Elab.async false
set_option linter.all false
set_option maxRecDepth 100000
set_option maxHeartbeats 4000000
/-! _law_kinds_a, _law_kinds_b of the text; _law_is_own -/
namespace N0
open PySem PySem.Spec PySem.W PyProof.Rows L2 LamX K00
def trs : List S1 → List (Nat → Pos) → List Tr
  | a :: b :: c :: l, g :: gs => ⟨a, b, c, g⟩ :: trs l gs
  | _, _ => []
theorem trs_mem : ∀ {l : List S1} {gs : List (Nat → Pos)} {t : Tr}, t ∈ trs l gs → t.a ∈ l ∧ t.b ∈ l ∧ t.c ∈ l := by
  intro l gs
  fun_induction trs l gs with
  | case1 a b c l g gs ih =>
    intro t ht
    rcases List.mem_cons.mp ht with e | e
    · subst e
      simp
    · have := ih e
      simp only [List.mem_cons]
      exact ⟨.inr (.inr (.inr this.1)), .inr (.inr (.inr this.2.1)), .inr (.inr (.inr this.2.2))⟩
  | case2 => intro t ht; cases ht
def isPos : Expr → List Pos
  | .Call (.Name _ p1) [.Name _ p2, .Name _ p3] _ p4 => [p1, p2, p3, p4]
  | _ => []
def posK : Stmt → Nat → Pos
  | .Assign [.Name _ p0] (.BinOp (.Name _ p1) _ (.List [a, b, c] p14) p15) p16 => fun n => (p0 :: p1 :: (isPos a ++ isPos b ++ isPos c ++ [p14, p15, p16])).getD n p0
  | _ => fun _ => ⟨0, 0, 0, 0⟩
def trOf (st : Stmt) (l : List S1) : List Tr := trs l (((defBody st).drop 1).map posK)
def bodyK (st : Stmt) (l : List S1) : List Stmt :=
  .Assign [.Name "found" (asgPos ((defBody st).getD 0 (.Pass ⟨0, 0, 0, 0⟩)) 0)] (.List [] (asgPos ((defBody st).getD 0 (.Pass ⟨0, 0, 0, 0⟩)) 1)) (asgPos ((defBody st).getD 0 (.Pass ⟨0, 0, 0, 0⟩)) 2) :: ((trOf st l).map mkK ++
    [.Return (some (.Name "found" (retPos ((defBody st).getD 19 (.Pass ⟨0, 0, 0, 0⟩)) 0))) (retPos ((defBody st).getD 19 (.Pass ⟨0, 0, 0, 0⟩)) 1)])
theorem bodyKA : defBody (top 118) = bodyK (top 118) spsA := by kernel_rfl
theorem bodyKB : defBody (top 119) = bodyK (top 119) spsB := by kernel_rfl
def gkB (st : Stmt) (l : List S1) : Bool := l.all fun s => decide ((defScope st).names.lookup s.c = some NameKind.globalImplicit)
theorem gkA : gkB (top 118) spsA = true := by kernel_rfl
theorem gkB' : gkB (top 119) spsB = true := by kernel_rfl
theorem gk_of {st : Stmt} {l : List S1} (h : gkB st l = true) (hl : ∀ s ∈ l, s ∈ sps) : ∀ t ∈ trOf st l, (t.a ∈ sps ∧ (defScope st).names.lookup t.a.c = some NameKind.globalImplicit) ∧ (t.b ∈ sps ∧ (defScope st).names.lookup t.b.c = some NameKind.globalImplicit) ∧ (t.c ∈ sps ∧ (defScope st).names.lookup t.c.c = some NameKind.globalImplicit) := fun t ht => by
  obtain ⟨h1, h2, h3⟩ := trs_mem ht
  have g := fun s hs => of_decide_eq_true (List.all_eq_true.mp h s hs)
  exact ⟨⟨hl _ h1, g _ h1⟩, ⟨hl _ h2, g _ h2⟩, ⟨hl _ h3, g _ h3⟩⟩
theorem subA : ∀ s ∈ spsA, s ∈ sps := fun s h => List.mem_of_mem_take h
theorem subB : ∀ s ∈ spsB, s ∈ sps := fun s h => List.mem_of_mem_drop h
theorem kindsA : KindsDef (top 118) (trOf (top 118) spsA) where
  body := ⟨_, _, _, _, _, bodyKA⟩
  sc := ⟨rfl, rfl, rfl, by decide, rfl, by decide +kernel, by decide +kernel⟩
  v0 := .inl rfl
  v1 := .inl rfl
  sv := rfl
  gi := rfl
  gl := gk_of gkA subA
  len := by decide +kernel
theorem kindsB : KindsDef (top 119) (trOf (top 119) spsB) where
  body := ⟨_, _, _, _, _, bodyKB⟩
  sc := ⟨rfl, rfl, rfl, by decide, rfl, by decide +kernel, by decide +kernel⟩
  v0 := .inl rfl
  v1 := .inl rfl
  sv := rfl
  gi := rfl
  gl := gk_of gkB' subB
  len := by decide +kernel
theorem trA : ((trOf (top 118) spsA).flatMap fun t => [t.a, t.b, t.c]) = spsA := by kernel_rfl
theorem trB : ((trOf (top 119) spsB).flatMap fun t => [t.a, t.b, t.c]) = spsB := by kernel_rfl
theorem spsAB : spsA ++ spsB = sps := List.take_append_drop 54 sps
theorem spsL : sps.length = 108 := by decide +kernel
/-- a def of the text: callable by its name -/
structure Df (P : Program) (w : World) (K : Frag) (mg : Str → Option Value) (base : Heap) (x : Str) (k : Nat) (ps : List Str) (sp : Sp) : Prop where
  ex : ∃ (f : Addr) (fd : FuncData), mg x = some (.ref f) ∧ keepIn K (.ref f) = true ∧ Binds K fd ps [] ∧ FnOk P w K mg base CX0 k f fd ps sp
theorem pe_df {X : Cx} {x : Str} {k : Nat} {ps : List Str} {sp : Sp} {e : Expr} {es : List Expr} {t : TA} {p pos : Pos} (D : Df X.prog X.w X.K X.mg X.base x k ps sp) (hr : Room k X.A) (hg : Gl X x) (ha : PA X (e :: es) t)
    (hdb : (x == ("__debug__" : Str)) = false := by decide) (he : starEach (e :: es) X.env = (false, eval e X.env) :: starEach es X.env := by rfl) (hpl : (backTo pos (starEach es X.env)).any (·.1) = false := by rfl) :
    PE X (.Call (.Name x p) (e :: es) [] pos) (tCall sp [] E0 t) := by
  obtain ⟨f, fd, h1, h2, h3, h4⟩ := D.ex
  exact pe_call h4 hr hg h1 h2 h3 .nil pass0 ha hdb he hpl
theorem dp_bools {K : Frag} {H : Hp} : ∀ bs : List Bool, DpAll K H (bs.map V.bl) (bs.map PyData.bool)
  | [] => .nil
  | b :: r => .cons (.bl b) (dp_bools r)
theorem canLay_bools : ∀ bs : List Bool, PyData.canLayAll0 (bs.map PyData.bool) = true
  | [] => rfl
  | _ :: r => by simp [PyData.canLayAll0, PyData.canLay0, canLay_bools r]
theorem depth_bools : ∀ bs : List Bool, PyData.depthAll (bs.map PyData.bool) = 0
  | [] => rfl
  | _ :: r => by simp [PyData.depthAll, PyData.depth, depth_bools r]
theorem shaped_bools (bs : List Bool) : SeqAt.shaped (.list (bs.map PyData.bool)) = true := by
  simp [SeqAt.shaped, PyData.canLay0, PyData.depth, canLay_bools, depth_bools]
theorem eqvAll_bools : ∀ bs : List Bool, PyData.eqvAll (bs.map PyData.bool) (bs.map PyData.bool) = true
  | [] => by simp [PyData.eqvAll]
  | b :: r => by cases b <;> simp [PyData.eqvAll, PyData.eqv, eqvAll_bools r]
theorem eqv_bools (bs : List Bool) : PyData.eqv (.list (bs.map PyData.bool)) (.list (bs.map PyData.bool)) = true := by
  simp [PyData.eqv, eqvAll_bools]
/-- where s stands among the classes -/
theorem own_row {K : Frag} (h : KFacts K) {n : Nat} (hn : n < sps.length) : sps.map (fun s' => decide ((sps[n]).C = s'.C)) = (List.range 108).map fun k => decide (k = n) := by
  have nd : (sps.map (·.C)).Nodup := by
    have := h.ok
    unfold okK at this
    simp only [Bool.and_eq_true, decide_eq_true_eq] at this
    exact this.2.2.2.2.1
  refine List.ext_getElem (by rw [List.length_map, List.length_map, List.length_range, spsL]) fun i h1 h2 => ?_
  rw [List.getElem_map, List.getElem_map, List.getElem_range]
  have hi : i < sps.length := by rwa [List.length_map] at h1
  refine decide_eq_decide.mpr ⟨fun e => ?_, fun e => by subst e; rfl⟩
  have e' : (sps.map (·.C))[i]'(by rwa [List.length_map]) = (sps.map (·.C))[n]'(by rwa [List.length_map]) := by
    rw [List.getElem_map, List.getElem_map]
    exact e.symm
  exact (List.getElem_inj nd).mp e'
abbrev sOwn : Stmt := top 120
def spOwn (K : Frag) : Sp := fun vs H Q _ => ∃ (e : Addr) (n : Nat) (h : n < sps.length), vs = [.ref e, .int n] ∧ XAt H e (sps[n]).C ∧ ∀ H', Same H H' → Q (.bl true) H'
section
variable {P : Program} {w : World} {K : PySem.W.Frag} {mg : Str → Option Value} {base : Heap}
theorem scOwn : FnScope ["e", "at", "k"] ["e", "at"] (defScope sOwn) := ⟨rfl, rfl, rfl, by decide, rfl, by decide +kernel, by decide +kernel⟩
theorem ok_own {f : Addr} {fd : FuncData} (KF : KFacts K) (hs : ∀ s ∈ sps, SF K mg s) (F : Fun K "_law_is_own" "_law_is_own" sOwn f fd)
    (mi : mg "isinstance" = none) (mr : mg "range" = none) (mv : mg "ValueError" = none) (m1 : mg "LookupError" = none) (m2 : mg "TypeError" = none) (m3 : mg "ArithmeticError" = none) (m4 : mg "AttributeError" = none) (m5 : mg "RuntimeError" = none) (mw : mg "WholeError" = some (.ref wAd))
    (DA : Df P w K mg base "_law_kinds_a" 1 ["e"] (spKinds K spsA)) (DB : Df P w K mg base "_law_kinds_b" 1 ["e"] (spKinds K spsB)) :
    FnOk P w K mg base CX0 2 f fd ["e", "at"] (spOwn K) := by
  refine F.ok scOwn (fun vs H Q E h => by obtain ⟨e, n, hn, rfl, _⟩ := h; rfl) fun cdv A outer s0 H vs Q E hr hsp => ?_
  obtain ⟨e, n, hn, rfl, hx, k⟩ := hsp
  refine ⟨_, pss_cons (ps_if (PW.pt (pw_or (pt_not (pt_val (pe_callB call_isX (by rfl) mi (by decide +kernel) (pa_cons (pv 0) (pa_cons (pe_glob (v := .ref wAd) rfl mw rfl) pa_nil)))))
      (pw_or1 (pt_not (pt_val (pe_callB call_isX (by rfl) mi (by decide +kernel) (pa_cons (pv 0) (pa_cons (pe_bltn (v := .ty "ValueError") (by rfl) mv (by decide +kernel) rfl) pa_nil)))))))) (pss_one (ps_ret pe_bl)) pss_nil)
    (pss_cons (ps_if (pt_val (pe_callB call_isXT (by rfl) mi (by decide +kernel) (pa_cons (pv 0) (pa_cons (pe_tup (pa_cons (pe_bltn (v := .ty "LookupError") (by rfl) m1 (by decide +kernel) rfl) (pa_cons (pe_bltn (v := .ty "TypeError") (by rfl) m2 (by decide +kernel) rfl)
        (pa_cons (pe_bltn (v := .ty "ArithmeticError") (by rfl) m3 (by decide +kernel) rfl) (pa_cons (pe_bltn (v := .ty "AttributeError") (by rfl) m4 (by decide +kernel) rfl) (pa_cons (pe_bltn (v := .ty "RuntimeError") (by rfl) m5 (by decide +kernel) rfl) pa_nil)))))) pa_nil)))) (pss_one (ps_ret pe_bl)) pss_nil)
    (pss_one (ps_ret (pe_cmpR (op_eqD hr.units) (pe_op op_cat (pe_df DA hr (by rfl) (pa_cons (pv 0) pa_nil)) (pe_df DB hr (by rfl) (pa_cons (pv 0) pa_nil)))
      (pe_lc (own := [("k", 2)]) (g := gName 2) (tt := tYes) rfl scOwn.nd (pi_range1 (by rfl) mr (pa_cons pe_int pa_nil)) (blkOk_by (own := [("k", 2)]) (N := ["e", "at", "k"]) (sc := defScope sOwn) (by decide +kernel))
        (fun _ _ _ _ _ => pg_name (i := 2) scOwn.nd rfl (Or.inl rfl)) (fun _ _ _ _ _ => pts_nil) (fun _ _ _ _ _ => pe_cmpR op_eq (pv 2) (pv 1) (nomark _))) (nomark _))))), ?_⟩
  have hsm : sps[n] ∈ sps := List.getElem_mem hn
  have nc := (hs _ hsm).nc
  refine ⟨_, rfl, e, _, _, _, _, rfl, hx, nc, .own _, kit_w KF hsm, _, rfl, ?_⟩
  refine iteF ?_
  refine ⟨_, rfl, e, _, _, _, _, rfl, hx, nc, .ty _, kit_t KF hsm (by decide +kernel), _, rfl, ?_⟩
  refine iteF ?_
  refine ⟨_, rfl, by show 5 ≤ sizeLine; decide, fun t ht => ?_⟩
  refine ⟨e, _, t, _, _, _, rfl, hx.same (same_new' ht _), nc, upd_same, .cons (.ty _) (.cons (.ty _) (.cons (.ty _) (.cons (.ty _) (.cons (.ty _) .nil)))), (show kitAny K (.ref (sps[n]).C) _ = some false by
    unfold kitAny
    rw [kit_t KF hsm (by decide +kernel), show veB.contains (.type "LookupError") = false by decide +kernel]
    unfold kitAny
    rw [kit_t KF hsm (by decide +kernel), show veB.contains (.type "TypeError") = false by decide +kernel]
    unfold kitAny
    rw [kit_t KF hsm (by decide +kernel), show veB.contains (.type "ArithmeticError") = false by decide +kernel]
    unfold kitAny
    rw [kit_t KF hsm (by decide +kernel), show veB.contains (.type "AttributeError") = false by decide +kernel]
    unfold kitAny
    rw [kit_t KF hsm (by decide +kernel), show veB.contains (.type "RuntimeError") = false by decide +kernel]
    rfl), _, rfl, ?_⟩
  refine iteF ?_
  have hx1 := hx.same (same_new' ht (.tup [.ty "LookupError", .ty "TypeError", .ty "ArithmeticError", .ty "AttributeError", .ty "RuntimeError"]))
  refine ⟨_, rfl, e, sps[n], rfl, hsm, hx1, fun a H1 S1' h1 => ?_⟩
  refine ⟨_, rfl, e, sps[n], rfl, hsm, hx1.same S1', fun b H2 S2 h2 => ?_⟩
  refine ⟨a, b, _, _, rfl, rfl, S2 _ _ h1, h2, ?_, fun c hc => ?_⟩
  · rw [List.length_map, List.length_map]
    decide +kernel
  have eL : spsA.map (own1 sps[n]) ++ spsB.map (own1 sps[n]) = ((List.range 108).map fun k => decide (k = n)).map V.bl := by
    rw [← List.map_append, spsAB, ← own_row KF hn, List.map_map]
    rfl
  rw [eL]
  have S3 : Same H (upd H2 c (.lst (((List.range 108).map fun k => decide (k = n)).map V.bl))) := (((same_new' ht _).trans S1').trans S2).trans (same_new' hc _)
  have h3 : upd H2 c (.lst (((List.range 108).map fun k => decide (k = n)).map V.bl)) c = some (.lst (((List.range 108).map fun k => decide (k = n)).map V.bl)) := upd_same
  generalize upd H2 c (.lst (((List.range 108).map fun k => decide (k = n)).map V.bl)) = H3 at S3 h3 ⊢
  refine ⟨108, rfl, by decide, by decide, fun D hD => ?_⟩
  refine lc_range (lo := 0) (n := 108) (fun i H' => Same H3 H' ∧ H' D = some (.lst (((List.range i).map fun k => decide (k = n)).map V.bl))) ⟨same_new' hD _, upd_same⟩ (fun i H' hi ⟨hS, hL⟩ => ?_) (fun H' ⟨hS, hL⟩ => ?_)
  · refine ⟨rfl, _, rfl, _, rfl, rfl, _, hL, ?_, fun b o e => by rw [upd_ne (ne_of_none e hD)]; exact hS b o e, ?_⟩
    · rw [List.length_map, List.length_map, List.length_range]
      exact Nat.lt_trans hi (by decide)
    · rw [upd_same, List.range_succ, List.map_append, List.map_append]
      have ei : decide (V.int (0 + (i : Int)) = V.int (n : Int)) = decide (i = n) := decide_eq_decide.mpr ⟨fun z => by
        have := V.int.inj z
        omega, fun z => by rw [z, Int.zero_add]⟩
      rw [ei]
      rfl
  · refine ⟨.list (((List.range 108).map fun k => decide (k = n)).map PyData.bool), .list (((List.range 108).map fun k => decide (k = n)).map PyData.bool), .lst (SqL.of (hS _ _ h3)) (dp_bools _), .lst (SqL.of hL) (dp_bools _), shaped_bools _, shaped_bools _, ?_⟩
    rw [eqv_bools]
    exact k H' (S3.trans hS)
end
end N0
set_option Elab.async false
set_option linter.all false
set_option maxRecDepth 100000
set_option maxHeartbeats 4000000
/-! _law_same -/
namespace N0
open PySem PySem.Spec PySem.W PyProof.Rows L2 LamX LiI RZ K00
theorem walk_zipT {K : Frag} {a b : Addr} {xs ys : List V} {n : Nat} (hn : n = min xs.length ys.length) : Walk (ItzT K a b) n (fun H => SqT K H a xs ∧ SqT K H b ys) (YPair (fun i => xs[i]?) (fun i => ys[i]?)) :=
  ⟨fun i H hi q => ⟨xs, ys, xs[i]'(by omega), ys[i]'(by omega), q.1, q.2, by simp, by simp⟩, fun H q => ⟨xs, ys, q.1, q.2, by omega⟩,
   fun i H v H' hi q y => by
    obtain ⟨T, x, y, h1, h2, h3, h4, h5⟩ := y
    exact ⟨T, x, y, h1, h2, h3, h4 xs q.1, h5 ys q.2⟩⟩
def fl0 : V → Bool
  | .non => true
  | .bl _ => true
  | .int _ => true
  | .str _ => true
  | _ => false
abbrev sSame : Stmt := top 115
/-- _law_same, its own calls keeping S -/
def spStep (S : Sp) : Sp := fun vs H Q _ => ∃ v w : V, vs = [v, w] ∧ (∀ H', Same H H' → Q (.bl true) H') ∧
  ((v = w ∧ fl0 v = true) ∨
  (∃ (a b : Addr) (xs ys : List V), v = .ref a ∧ w = .ref b ∧ ((H a = some (.lst xs) ∧ H b = some (.lst ys)) ∨ (H a = some (.tup xs) ∧ H b = some (.tup ys))) ∧ xs.length = ys.length ∧ xs.length ≤ 1000 ∧
    ∀ (i : Nat) (x y : V) (H' : Hp) (Q' : VK), xs[i]? = some x → ys[i]? = some y → Same H H' → (∀ H2, Same H' H2 → Q' (.bl true) H2) → S [x, y] H' Q' E0) ∨
  (∃ (a b : Addr) (ks : List (Key × V)), v = .ref a ∧ w = .ref b ∧ H a = some (.dK ks) ∧ H b = some (.dK ks) ∧
    ∀ (p q : Addr) (ts us : List Addr) (H' : Hp) (Q' : VK), Same H H' → H' p = some (.lst (ts.map V.ref)) → H' q = some (.lst (us.map V.ref)) → Paired (fun (t : Addr) (z : Key × V) => H' t = some (.tup [kV z.1, z.2])) ts ks → Paired (fun (t : Addr) (z : Key × V) => H' t = some (.tup [kV z.1, z.2])) us ks →
      (∀ H2, Same H' H2 → Q' (.bl true) H2) → S [.ref p, .ref q] H' Q' E0))
theorem kf {K : Frag} {a b : String} (h : kitB a b = some false := by decide +kernel) : kitOne K (.type a) (.type b) = some false := kit_ty h
theorem kt {K : Frag} {a b : String} (h : kitB a b = some true := by decide +kernel) : kitOne K (.type a) (.type b) = some true := kit_ty h
theorem kf2 {K : Frag} {a b c : String} (h : kitB a b = some false := by decide +kernel) (h2 : kitB a c = some false := by decide +kernel) : kitAny K (.type a) [.type b, .type c] = some false :=
  kitAny_cons (kit_ty h) (fun _ => kitAny_cons (kit_ty h2) (fun _ => kitAny_nil) (fun z => by cases z)) (fun z => by cases z)
theorem kf3 {K : Frag} {a b c d : String} (h : kitB a b = some false := by decide +kernel) (h2 : kitB a c = some false := by decide +kernel) (h3 : kitB a d = some false := by decide +kernel) : kitAny K (.type a) [.type b, .type c, .type d] = some false :=
  kitAny_cons (kit_ty h) (fun _ => kitAny_cons (kit_ty h2) (fun _ => kitAny_cons (kit_ty h3) (fun _ => kitAny_nil) (fun z => by cases z)) (fun z => by cases z)) (fun z => by cases z)
theorem ktlst {K : Frag} : kitAny K (.type "list") [.type "list", .type "tuple"] = some true := kitAny_cons kt (fun z => by cases z) (fun _ => rfl)
theorem kttup {K : Frag} : kitAny K (.type "tuple") [.type "list", .type "tuple"] = some true := kitAny_cons kf (fun _ => kitAny_cons kt (fun z => by cases z) (fun _ => rfl)) (fun z => by cases z)
section
variable {P : Program} {w : World} {K : PySem.W.Frag} {mg : Str → Option Value} {base : Heap}
theorem scSame : FnScope ["found", "due", "mine", "theirs"] ["found", "due"] (defScope sSame) := ⟨rfl, rfl, rfl, by decide, rfl, by decide +kernel, by decide +kernel⟩
theorem ok_step {f : Addr} {fd : FuncData} {k : Nat} {S : Sp} (F : Fun K "_law_same" "_law_same" sSame f fd) (D : Df P w K mg base "_law_same" k ["found", "due"] S)
    (mi : mg "isinstance" = none) (ml : mg "list" = none) (mt : mg "tuple" = none) (mn : mg "len" = none) (ma : mg "all" = none) (mz : mg "zip" = none) (md : mg "dict" = none) (mb : mg "bool" = none) (mI : mg "int" = none) (ms : mg "str" = none) :
    FnOk P w K mg base CX0 (k + 1) f fd ["found", "due"] (spStep S) := by
  refine F.ok scSame (fun vs H Q E h => by obtain ⟨v, w, rfl, _⟩ := h; rfl) fun cdv A outer s0 H vs Q E hr hsp => ?_
  obtain ⟨v, w', rfl, kq, hsp⟩ := hsp
  refine ⟨_, pss_cons (ps_if (pt_val (pe_callB call_isiT (by rfl) mi (by decide +kernel) (pa_cons (pv 1) (pa_cons (pe_tup (pa_cons (pe_bltn (v := .ty "list") (by rfl) ml (by decide +kernel) rfl) (pa_cons (pe_bltn (v := .ty "tuple") (by rfl) mt (by decide +kernel) rfl) pa_nil))) pa_nil))))
      (pss_cons (ps_if (PW.pt (pw_or (pt_cmpR op_ne (pe_callB call_isi (by rfl) mi (by decide +kernel) (pa_cons (pv 0) (pa_cons (pe_bltn (v := .ty "list") (by rfl) ml (by decide +kernel) rfl) pa_nil))) (pe_callB call_isi (by rfl) mi (by decide +kernel) (pa_cons (pv 1) (pa_cons (pe_bltn (v := .ty "list") (by rfl) ml (by decide +kernel) rfl) pa_nil))) (nomark _))
          (pw_or1 (pt_cmpR op_ne (pe_callB call_isi (by rfl) mi (by decide +kernel) (pa_cons (pv 0) (pa_cons (pe_bltn (v := .ty "tuple") (by rfl) mt (by decide +kernel) rfl) pa_nil))) (pe_callB call_isi (by rfl) mi (by decide +kernel) (pa_cons (pv 1) (pa_cons (pe_bltn (v := .ty "tuple") (by rfl) mt (by decide +kernel) rfl) pa_nil))) (nomark _))))) (pss_one (ps_ret pe_bl)) pss_nil)
      (pss_one (ps_ret (pe_and (pe_cmpR op_eq (pe_callB call_len_seq (by rfl) mn (by decide +kernel) (pa_cons (pv 0) pa_nil)) (pe_callB call_len_seq (by rfl) mn (by decide +kernel) (pa_cons (pv 1) pa_nil)) (nomark _))
        (pe_one (pe_callB (cr_all rfl) (by rfl) ma (by decide +kernel) (pa_cons (pe_lc (own := [("mine", 2), ("theirs", 3)]) (g := gTup K 2 (gCons (gName 2) (gCons (gName 3) gNil))) (tt := tYes) (te := tCall S [] E0 (tCons (tVar 2) (tCons (tVar 3) tNil))) rfl scSame.nd (pi_zipA (by rfl) mz (pa_cons (pv 0) (pa_cons (pv 1) pa_nil)))
          (blkOk_by (own := [("mine", 2), ("theirs", 3)]) (N := ["found", "due", "mine", "theirs"]) (sc := defScope sSame) (by decide +kernel)) (fun _ _ _ _ _ => pg_tup rfl (pgs_cons (pg_name (i := 2) scSame.nd rfl (Or.inl rfl)) (pgs_cons (pg_name (i := 3) scSame.nd rfl (Or.inl rfl)) pgs_nil))) (fun _ _ _ _ _ => pts_nil)
          (fun _ _ _ _ _ => pe_df D hr (by rfl) (pa_cons (pv 2) (pa_cons (pv 3) pa_nil)))) pa_nil))))))) pss_nil)
    (pss_cons (ps_if (pt_val (pe_callB call_isi (by rfl) mi (by decide +kernel) (pa_cons (pv 1) (pa_cons (pe_bltn (v := .ty "dict") (by rfl) md (by decide +kernel) rfl) pa_nil))))
      (pss_one (ps_ret (pe_and (pe_callB call_isi (by rfl) mi (by decide +kernel) (pa_cons (pv 0) (pa_cons (pe_bltn (v := .ty "dict") (by rfl) md (by decide +kernel) rfl) pa_nil)))
        (pe_one (pe_df D hr (by rfl) (pa_cons (pe_listItems rfl (pv 0) (by rfl) ml (by decide +kernel)) (pa_cons (pe_listItems rfl (pv 1) (by rfl) ml (by decide +kernel)) pa_nil))))))) pss_nil)
    (pss_cons (ps_if (PW.pt (pw_or (pt_val (pe_callB call_isi (by rfl) mi (by decide +kernel) (pa_cons (pv 1) (pa_cons (pe_bltn (v := .ty "bool") (by rfl) mb (by decide +kernel) rfl) pa_nil)))) (pw_or1 (pt_val (pe_callB call_isi (by rfl) mi (by decide +kernel) (pa_cons (pv 0) (pa_cons (pe_bltn (v := .ty "bool") (by rfl) mb (by decide +kernel) rfl) pa_nil)))))))
      (pss_one (ps_ret (pe_and (pe_callB call_isi (by rfl) mi (by decide +kernel) (pa_cons (pv 1) (pa_cons (pe_bltn (v := .ty "bool") (by rfl) mb (by decide +kernel) rfl) pa_nil))) (pe_and (pe_callB call_isi (by rfl) mi (by decide +kernel) (pa_cons (pv 0) (pa_cons (pe_bltn (v := .ty "bool") (by rfl) mb (by decide +kernel) rfl) pa_nil)))
        (pe_one (pe_cmpR op_eq (pv 0) (pv 1) (nomark _))))))) pss_nil)
    (pss_cons (ps_if (PW.pt (pw_or (pt_cmpR op_isN (pv 1) pe_non (nomark _)) (pw_or1 (pt_cmpR op_isN (pv 0) pe_non (nomark _)))))
      (pss_one (ps_ret (pe_and (pe_cmpR op_isN (pv 1) pe_non (nomark _)) (pe_one (pe_cmpR op_isN (pv 0) pe_non (nomark _)))))) pss_nil)
    (pss_cons (ps_if (PW.pt (pw_or (pt_cmpR op_ne (pe_callB call_isi (by rfl) mi (by decide +kernel) (pa_cons (pv 1) (pa_cons (pe_bltn (v := .ty "int") (by rfl) mI (by decide +kernel) rfl) pa_nil))) (pe_callB call_isi (by rfl) mi (by decide +kernel) (pa_cons (pv 0) (pa_cons (pe_bltn (v := .ty "int") (by rfl) mI (by decide +kernel) rfl) pa_nil))) (nomark _))
          (pw_or1 (pt_cmpR op_ne (pe_callB call_isi (by rfl) mi (by decide +kernel) (pa_cons (pv 1) (pa_cons (pe_bltn (v := .ty "str") (by rfl) ms (by decide +kernel) rfl) pa_nil))) (pe_callB call_isi (by rfl) mi (by decide +kernel) (pa_cons (pv 0) (pa_cons (pe_bltn (v := .ty "str") (by rfl) ms (by decide +kernel) rfl) pa_nil))) (nomark _))))) (pss_one (ps_ret pe_bl)) pss_nil)
    (pss_one (ps_ret (pe_and (pe_not (pe_callB call_isiT (by rfl) mi (by decide +kernel) (pa_cons (pv 0) (pa_cons (pe_tup (pa_cons (pe_bltn (v := .ty "list") (by rfl) ml (by decide +kernel) rfl) (pa_cons (pe_bltn (v := .ty "tuple") (by rfl) mt (by decide +kernel) rfl) (pa_cons (pe_bltn (v := .ty "dict") (by rfl) md (by decide +kernel) rfl) pa_nil)))) pa_nil))))
        (pe_one (pe_cmpR op_eq (pv 0) (pv 1) (nomark _)))))))))), ?_⟩
  rcases hsp with ⟨rfl, hf⟩ | ⟨a, b, xs, ys, rfl, rfl, hH, hl, hl2, hS⟩ | ⟨a, b, ks, rfl, rfl, ha, hb, hS⟩
  · -- None, a bool, an int, a text
    refine ⟨_, rfl, by show 2 ≤ sizeLine; decide, fun t ht => ?_⟩
    have S1 : Same H (upd H t (.tup [.ty "list", .ty "tuple"])) := same_new' ht _
    have e1 : upd H t (.tup [.ty "list", .ty "tuple"]) t = some (.tup [.ty "list", .ty "tuple"]) := upd_same
    have ct : Paired ClsV [V.ty "list", V.ty "tuple"] [.type "list", .type "tuple"] := .cons (.ty _) (.cons (.ty _) .nil)
    have ct3 : Paired ClsV [V.ty "list", V.ty "tuple", V.ty "dict"] [.type "list", .type "tuple", .type "dict"] := .cons (.ty _) (.cons (.ty _) (.cons (.ty _) .nil))
    clear ht
    cases v with
    | non =>
      refine ⟨_, t, _, _, _, _, rfl, e1, ct, .base .non, kf2, _, rfl, ?_⟩
      refine iteF ?_
      refine ⟨_, rfl, _, _, _, _, _, rfl, .ty _, .base .non, kf, _, rfl, ?_⟩
      refine iteF ?_
      refine ⟨_, rfl, _, _, _, _, _, rfl, .ty _, .base .non, kf, _, rfl, ?_⟩
      refine iteF ?_
      refine ⟨_, rfl, _, _, _, _, _, rfl, .ty _, .base .non, kf, _, rfl, ?_⟩
      refine iteF ?_
      refine ⟨_, rfl, rfl, _, rfl, ?_⟩
      refine iteT ?_
      refine ⟨_, rfl, rfl, true, rfl, ?_⟩
      refine iteT ?_
      refine ⟨_, rfl, rfl, ?_⟩
      exact kq _ S1
    | bl x =>
      refine ⟨_, t, _, _, _, _, rfl, e1, ct, .base (.bl x), kf2, _, rfl, ?_⟩
      refine iteF ?_
      refine ⟨_, rfl, _, _, _, _, _, rfl, .ty _, .base (.bl x), kf, _, rfl, ?_⟩
      refine iteF ?_
      refine ⟨_, rfl, _, _, _, _, _, rfl, .ty _, .base (.bl x), kt, _, rfl, ?_⟩
      refine iteT ?_
      refine ⟨_, rfl, _, _, _, _, _, rfl, .ty _, .base (.bl x), kt, ?_⟩
      refine ⟨true, rfl, ?_⟩
      refine iteT ?_
      refine ⟨_, rfl, _, _, _, _, _, rfl, .ty _, .base (.bl x), kt, ?_⟩
      refine ⟨true, rfl, ?_⟩
      refine iteT ?_
      refine ⟨_, rfl, _, rfl, rfl, ?_⟩
      rw [decide_eq_true rfl]
      exact kq _ S1
    | int i =>
      refine ⟨_, t, _, _, _, _, rfl, e1, ct, .base (.int i), kf2, _, rfl, ?_⟩
      refine iteF ?_
      refine ⟨_, rfl, _, _, _, _, _, rfl, .ty _, .base (.int i), kf, _, rfl, ?_⟩
      refine iteF ?_
      refine ⟨_, rfl, _, _, _, _, _, rfl, .ty _, .base (.int i), kf, _, rfl, ?_⟩
      refine iteF ?_
      refine ⟨_, rfl, _, _, _, _, _, rfl, .ty _, .base (.int i), kf, _, rfl, ?_⟩
      refine iteF ?_
      refine ⟨_, rfl, rfl, _, rfl, ?_⟩
      refine iteF ?_
      refine ⟨_, rfl, rfl, _, rfl, ?_⟩
      refine iteF ?_
      refine ⟨_, rfl, _, _, _, _, _, rfl, .ty _, .base (.int i), kt, _, rfl, _, _, _, _, _, rfl, .ty _, .base (.int i), kt, rfl, _, rfl, ?_⟩
      refine iteF ?_
      refine ⟨_, rfl, _, _, _, _, _, rfl, .ty _, .base (.int i), kf, _, rfl, _, _, _, _, _, rfl, .ty _, .base (.int i), kf, rfl, _, rfl, ?_⟩
      refine iteF ?_
      refine ⟨_, rfl, by show 3 ≤ sizeLine; decide, fun t2 ht2 => ?_⟩
      refine ⟨_, t2, _, _, _, _, rfl, upd_same, ct3, .base (.int i), kf3, ?_⟩
      refine ⟨false, rfl, ?_⟩
      refine ⟨true, rfl, ?_⟩
      refine iteT ?_
      refine ⟨_, rfl, _, rfl, rfl, ?_⟩
      rw [decide_eq_true rfl]
      exact kq _ (S1.trans (same_new' ht2 _))
    | str x =>
      refine ⟨_, t, _, _, _, _, rfl, e1, ct, .base (.str x), kf2, _, rfl, ?_⟩
      refine iteF ?_
      refine ⟨_, rfl, _, _, _, _, _, rfl, .ty _, .base (.str x), kf, _, rfl, ?_⟩
      refine iteF ?_
      refine ⟨_, rfl, _, _, _, _, _, rfl, .ty _, .base (.str x), kf, _, rfl, ?_⟩
      refine iteF ?_
      refine ⟨_, rfl, _, _, _, _, _, rfl, .ty _, .base (.str x), kf, _, rfl, ?_⟩
      refine iteF ?_
      refine ⟨_, rfl, rfl, _, rfl, ?_⟩
      refine iteF ?_
      refine ⟨_, rfl, rfl, _, rfl, ?_⟩
      refine iteF ?_
      refine ⟨_, rfl, _, _, _, _, _, rfl, .ty _, .base (.str x), kf, _, rfl, _, _, _, _, _, rfl, .ty _, .base (.str x), kf, rfl, _, rfl, ?_⟩
      refine iteF ?_
      refine ⟨_, rfl, _, _, _, _, _, rfl, .ty _, .base (.str x), kt, _, rfl, _, _, _, _, _, rfl, .ty _, .base (.str x), kt, rfl, _, rfl, ?_⟩
      refine iteF ?_
      refine ⟨_, rfl, by show 3 ≤ sizeLine; decide, fun t2 ht2 => ?_⟩
      refine ⟨_, t2, _, _, _, _, rfl, upd_same, ct3, .base (.str x), kf3, ?_⟩
      refine ⟨false, rfl, ?_⟩
      refine ⟨true, rfl, ?_⟩
      refine iteT ?_
      refine ⟨_, rfl, _, rfl, rfl, ?_⟩
      rw [decide_eq_true rfl]
      exact kq _ (S1.trans (same_new' ht2 _))
    | byt _ => cases hf
    | flt _ => cases hf
    | ref _ => cases hf
    | ty _ => cases hf
  · refine ⟨_, rfl, by show 2 ≤ sizeLine; decide, fun t ht => ?_⟩
    have S1 : Same H (upd H t (.tup [.ty "list", .ty "tuple"])) := same_new' ht _
    have e1 : upd H t (.tup [.ty "list", .ty "tuple"]) t = some (.tup [.ty "list", .ty "tuple"]) := upd_same
    have ct : Paired ClsV [V.ty "list", V.ty "tuple"] [.type "list", .type "tuple"] := .cons (.ty _) (.cons (.ty _) .nil)
    clear ht
    generalize upd H t (.tup [.ty "list", .ty "tuple"]) = H1 at S1 e1 ⊢
    rcases hH with ⟨ha, hb⟩ | ⟨ha, hb⟩
    · have ha1 := S1 _ _ ha
      have hb1 := S1 _ _ hb
      refine ⟨_, t, _, _, _, _, rfl, e1, ct, .base (.lst hb1), ktlst, _, rfl, ?_⟩
      refine iteT ?_
      refine ⟨_, rfl, _, _, _, _, _, rfl, .ty _, .base (.lst ha1), kt, _, rfl, _, _, _, _, _, rfl, .ty _, .base (.lst hb1), kt, rfl, _, rfl, ?_⟩
      refine iteF ?_
      refine ⟨_, rfl, _, _, _, _, _, rfl, .ty _, .base (.lst ha1), kf, _, rfl, _, _, _, _, _, rfl, .ty _, .base (.lst hb1), kf, rfl, _, rfl, ?_⟩
      refine iteF ?_
      refine ⟨_, rfl, a, xs, rfl, .inl (SqL.of ha1), _, rfl, b, ys, rfl, .inl (SqL.of hb1), rfl, true, by rw [hl, decide_eq_true rfl], ?_⟩
      refine iteT ?_
      refine ⟨_, rfl, _, rfl, a, b, xs, ys, rfl, .inl ⟨SqL.of ha1, SqL.of hb1, fun D hD => ?_⟩⟩
      refine lc_it (walk_zip (n := xs.length) (by omega)) (fun i H' => Same H1 H' ∧ H' D = some (.lst ((List.replicate i true).map V.bl))) ⟨same_new' hD _, upd_same⟩ (fun i H' _ p => ⟨SqL.of (p.1 _ _ ha1), SqL.of (p.1 _ _ hb1)⟩) (fun i x H' H'' hi p y => ?_) (fun H' p => ?_)
      · obtain ⟨T, x', y', rfl, hT, rfl, h1, h2⟩ := y
        refine ⟨T, _, rfl, SqT.of upd_same, rfl, x', _, rfl, y', _, rfl, rfl, rfl, _, rfl, _, rfl, ?_⟩
        refine hS i x' y' _ _ h1 h2 (S1.trans (p.1.trans (same_new' hT _))) fun H2 s2 => ?_
        have hD2 := s2 _ _ (same_new' hT (.tup [x', y']) _ _ p.2)
        refine ⟨_, hD2, ?_, fun b' o e => ?_, ?_⟩
        · rw [List.length_map, List.length_replicate]
          exact Nat.lt_of_lt_of_le (Nat.lt_of_lt_of_le hi hl2) (by decide)
        · rw [upd_ne (ne_of_none e hD)]
          exact s2 _ _ (same_new' hT _ _ _ (p.1 _ _ e))
        · rw [upd_same, List.replicate_succ', List.map_append]
          rfl
      · refine ⟨D, List.replicate xs.length true, rfl, SqL.of p.2, ?_⟩
        rw [show (List.replicate xs.length true).all id = true by simp]
        exact kq _ (S1.trans p.1)
    · have ha1 := S1 _ _ ha
      have hb1 := S1 _ _ hb
      refine ⟨_, t, _, _, _, _, rfl, e1, ct, .base (.tup hb1), kttup, _, rfl, ?_⟩
      refine iteT ?_
      refine ⟨_, rfl, _, _, _, _, _, rfl, .ty _, .base (.tup ha1), kf, _, rfl, _, _, _, _, _, rfl, .ty _, .base (.tup hb1), kf, rfl, _, rfl, ?_⟩
      refine iteF ?_
      refine ⟨_, rfl, _, _, _, _, _, rfl, .ty _, .base (.tup ha1), kt, _, rfl, _, _, _, _, _, rfl, .ty _, .base (.tup hb1), kt, rfl, _, rfl, ?_⟩
      refine iteF ?_
      refine ⟨_, rfl, a, xs, rfl, .inr (SqT.of ha1), _, rfl, b, ys, rfl, .inr (SqT.of hb1), rfl, true, by rw [hl, decide_eq_true rfl], ?_⟩
      refine iteT ?_
      refine ⟨_, rfl, _, rfl, a, b, xs, ys, rfl, .inr ⟨SqT.of ha1, SqT.of hb1, fun D hD => ?_⟩⟩
      refine lc_it (walk_zipT (n := xs.length) (by omega)) (fun i H' => Same H1 H' ∧ H' D = some (.lst ((List.replicate i true).map V.bl))) ⟨same_new' hD _, upd_same⟩ (fun i H' _ p => ⟨SqT.of (p.1 _ _ ha1), SqT.of (p.1 _ _ hb1)⟩) (fun i x H' H'' hi p y => ?_) (fun H' p => ?_)
      · obtain ⟨T, x', y', rfl, hT, rfl, h1, h2⟩ := y
        refine ⟨T, _, rfl, SqT.of upd_same, rfl, x', _, rfl, y', _, rfl, rfl, rfl, _, rfl, _, rfl, ?_⟩
        refine hS i x' y' _ _ h1 h2 (S1.trans (p.1.trans (same_new' hT _))) fun H2 s2 => ?_
        have hD2 := s2 _ _ (same_new' hT (.tup [x', y']) _ _ p.2)
        refine ⟨_, hD2, ?_, fun b' o e => ?_, ?_⟩
        · rw [List.length_map, List.length_replicate]
          exact Nat.lt_of_lt_of_le (Nat.lt_of_lt_of_le hi hl2) (by decide)
        · rw [upd_ne (ne_of_none e hD)]
          exact s2 _ _ (same_new' hT _ _ _ (p.1 _ _ e))
        · rw [upd_same, List.replicate_succ', List.map_append]
          rfl
      · refine ⟨D, List.replicate xs.length true, rfl, SqL.of p.2, ?_⟩
        rw [show (List.replicate xs.length true).all id = true by simp]
        exact kq _ (S1.trans p.1)
  · refine ⟨_, rfl, by show 2 ≤ sizeLine; decide, fun t ht => ?_⟩
    have S1 : Same H (upd H t (.tup [.ty "list", .ty "tuple"])) := same_new' ht _
    have e1 : upd H t (.tup [.ty "list", .ty "tuple"]) t = some (.tup [.ty "list", .ty "tuple"]) := upd_same
    have ct : Paired ClsV [V.ty "list", V.ty "tuple"] [.type "list", .type "tuple"] := .cons (.ty _) (.cons (.ty _) .nil)
    clear ht
    generalize upd H t (.tup [.ty "list", .ty "tuple"]) = H1 at S1 e1 ⊢
    have ha1 := S1 _ _ ha
    have hb1 := S1 _ _ hb
    refine ⟨_, t, _, _, _, _, rfl, e1, ct, .base (.dK hb1), kf2, _, rfl, ?_⟩
    refine iteF ?_
    refine ⟨_, rfl, _, _, _, _, _, rfl, .ty _, .base (.dK hb1), kt, _, rfl, ?_⟩
    refine iteT ?_
    refine ⟨_, rfl, _, _, _, _, _, rfl, .ty _, .base (.dK ha1), kt, true, rfl, ?_⟩
    refine iteT ?_
    refine ⟨_, rfl, a, ks, rfl, ha1, fun H2 p ts k2 _ _ _ hp pt => ?_⟩
    refine ⟨_, rfl, b, ks, rfl, k2 _ _ hb1, fun H3 q us k3 _ _ _ hq pu => ?_⟩
    have S3 : Same H H3 := fun b' o e => k3 _ _ (k2 _ _ (S1 _ _ e))
    exact hS p q ts us H3 _ S3 (k3 _ _ hp) hq (L2.Paired.mapP pt fun t z e => k3 _ _ e) pu fun H4 s4 => kq _ (S3.trans s4)
end
end N0
set_option Elab.async false
set_option linter.all false
set_option maxRecDepth 100000
set_option maxHeartbeats 4000000
/-! _law_same of equal data; _law_pick -/
namespace N0
open PySem PySem.Spec PySem.W PyProof.Rows L2 LamX LiI RZ K00
/-- equal data of a depth -/
def Sm (H : Hp) : Nat → V → V → Prop
  | 0, v, w => v = w ∧ fl0 v = true
  | n + 1, v, w => (v = w ∧ fl0 v = true) ∨
    (∃ (a b : Addr) (xs ys : List V), v = .ref a ∧ w = .ref b ∧ ((H a = some (.lst xs) ∧ H b = some (.lst ys)) ∨ (H a = some (.tup xs) ∧ H b = some (.tup ys))) ∧ xs.length ≤ 1000 ∧ Paired (Sm H n) xs ys) ∨
    (∃ (m : Nat) (a b : Addr) (ks : List (Key × V)), n = m + 2 ∧ v = .ref a ∧ w = .ref b ∧ H a = some (.dK ks) ∧ H b = some (.dK ks) ∧ ks.length ≤ 1000 ∧ ∀ p ∈ ks, fl0 p.2 = true)
theorem Sm.flat {H : Hp} {v : V} (h : fl0 v = true) : ∀ n, Sm H n v v
  | 0 => ⟨rfl, h⟩
  | _ + 1 => .inl ⟨rfl, h⟩
theorem Sm.same {H H' : Hp} (k : Same H H') : ∀ {n : Nat} {v w : V}, Sm H n v w → Sm H' n v w
  | 0, _, _, h => h
  | n + 1, v, w, h => by
    rcases h with h | ⟨a, b, xs, ys, e1, e2, h, hl, p⟩ | ⟨m, a, b, ks, e0, e1, e2, h1, h2, hl, hf⟩
    · exact .inl h
    · refine .inr (.inl ⟨a, b, xs, ys, e1, e2, ?_, hl, L2.Paired.mapP p fun x y q => Sm.same k q⟩)
      rcases h with ⟨h1, h2⟩ | ⟨h1, h2⟩
      · exact .inl ⟨k _ _ h1, k _ _ h2⟩
      · exact .inr ⟨k _ _ h1, k _ _ h2⟩
    · exact .inr (.inr ⟨m, a, b, ks, e0, e1, e2, k _ _ h1, k _ _ h2, hl, hf⟩)
theorem kV_flat (k : Key) : fl0 (kV k) = true := by cases k <;> rfl
theorem paired_both {α β γ : Type} {F : α → γ → Prop} {G : β → γ → Prop} {R : α → β → Prop} (h : ∀ a b c, F a c → G b c → R a b) : ∀ {l : List α} {r : List β} {m : List γ}, Paired F l m → Paired G r m → Paired R l r
  | _, _, _, .nil, .nil => .nil
  | _, _, _, .cons f p, .cons g q => .cons (h _ _ _ f g) (paired_both h p q)
theorem paired_maps {α β γ δ : Type} {R : γ → δ → Prop} {f : α → γ} {g : β → δ} : ∀ {l : List α} {r : List β}, Paired (fun a b => R (f a) (g b)) l r → Paired R (l.map f) (r.map g)
  | _, _, .nil => .nil
  | _, _, .cons h p => .cons h (paired_maps p)
theorem paired_in {α β : Type} {R : α → β → Prop} : ∀ {l : List α} {r : List β}, Paired R l r → Paired (fun a b => b ∈ r ∧ R a b) l r
  | _, _, .nil => .nil
  | _, _, .cons h p => .cons ⟨List.mem_cons_self .., h⟩ (L2.Paired.mapP (paired_in p) fun a b z => ⟨List.mem_cons_of_mem _ z.1, z.2⟩)
def spSame (n : Nat) : Sp := fun vs H Q _ => ∃ v w : V, vs = [v, w] ∧ Sm H n v w ∧ ∀ H', Same H H' → Q (.bl true) H'
theorem same_imp {n : Nat} {vs : List V} {H : Hp} {Q : VK} {E : XK} (h : spSame (n + 1) vs H Q E) : spStep (spSame n) vs H Q E := by
  obtain ⟨v, w, rfl, h, k⟩ := h
  refine ⟨v, w, rfl, k, ?_⟩
  rcases h with h | ⟨a, b, xs, ys, e1, e2, h, hl, p⟩ | ⟨m, a, b, ks, e0, e1, e2, h1, h2, hl, hf⟩
  · exact .inl h
  · refine .inr (.inl ⟨a, b, xs, ys, e1, e2, h, Paired.length p, hl, fun i x y H' Q' hx hy s q => ⟨x, y, rfl, Sm.same s ?_, q⟩⟩)
    obtain ⟨y', hy', r⟩ := L2.paired_get p hx
    rw [hy] at hy'
    cases hy'
    exact r
  · subst e0
    refine .inr (.inr ⟨a, b, ks, e1, e2, h1, h2, fun p q ts us H' Q' s hp hq pt pu z => ⟨_, _, rfl, ?_, z⟩⟩)
    refine .inr (.inl ⟨p, q, _, _, rfl, rfl, .inl ⟨hp, hq⟩, by rw [List.length_map, Paired.length pt]; exact hl, ?_⟩)
    refine paired_maps (paired_both ?_ (paired_in pt) (paired_in pu))
    rintro t u z ⟨hz, ht⟩ ⟨_, hu⟩
    exact .inr (.inl ⟨t, u, _, _, rfl, rfl, .inr ⟨ht, hu⟩, by show 2 ≤ 1000; decide, .cons (Sm.flat (kV_flat _) _) (.cons (Sm.flat (hf z hz) _) .nil)⟩)
def spPick : Sp := fun vs H Q _ => ∃ (st q l : Addr) (n : Int) (xs : List V), vs = [.ref st, .ref l] ∧ StrAt H st q n ∧ st ≠ q ∧ 0 ≤ n ∧ n < 1000000 ∧ H l = some (.lst xs) ∧ 0 < xs.length ∧ xs.length ≤ 1000 ∧ l ≠ st ∧ l ≠ q ∧
  ∀ (x : V) (H' : Hp), x ∈ xs → StrAt H' st q (n + 1) → But st q H H' → Q x H'
section
variable {P : Program} {w : World} {K : PySem.W.Frag} {mg : Str → Option Value} {base : Heap}
theorem ok_same {f : Addr} {fd : FuncData} (F : Fun K "_law_same" "_law_same" sSame f fd) (mf : mg "_law_same" = some (.ref f)) (hb : Binds K fd ["found", "due"] [])
    (mi : mg "isinstance" = none) (ml : mg "list" = none) (mt : mg "tuple" = none) (mn : mg "len" = none) (ma : mg "all" = none) (mz : mg "zip" = none) (md : mg "dict" = none) (mb : mg "bool" = none) (mI : mg "int" = none) (ms : mg "str" = none) :
    ∀ n, FnOk P w K mg base CX0 (n + 2) f fd ["found", "due"] (spSame n)
  | 0 => (ok_step F ⟨f, fd, mf, F.kp, hb, ⟨fun _ _ _ _ h => h.elim, fun _ _ _ _ _ _ _ _ _ _ _ _ _ h => h.elim⟩⟩ mi ml mt mn ma mz md mb mI ms (S := fun _ _ _ _ => False) (k := 1)).imp fun vs H Q E ⟨v, w, e, h, k⟩ => ⟨v, w, e, k, .inl h⟩
  | n + 1 => (ok_step F ⟨f, fd, mf, F.kp, hb, ok_same F mf hb mi ml mt mn ma mz md mb mI ms n⟩ mi ml mt mn ma mz md mb mI ms).imp fun vs H Q E h => same_imp h
theorem scPick : FnScope ["stream", "things"] ["stream", "things"] (defScope sPick) := ⟨rfl, rfl, rfl, by decide, rfl, by decide +kernel, by decide +kernel⟩
theorem ok_pick {f : Addr} {fd : FuncData} (F : Fun K "_law_pick" "_law_pick" sPick f fd) (D : Df P w K mg base "_law_draw" 1 ["stream", "many"] spDraw) (mn : mg "len" = none) : FnOk P w K mg base CX0 2 f fd ["stream", "things"] spPick := by
  refine F.ok scPick (fun vs H Q E h => by obtain ⟨st, q, l, n, xs, rfl, _⟩ := h; rfl) fun cdv A outer s0 H vs Q E hr hsp => ?_
  obtain ⟨st, q, l, n, xs, rfl, hS, nsq, hn0, hn1, hl, hx0, hx1, n1, n2, k⟩ := hsp
  refine ⟨_, pss_one (ps_ret (pe_ix ix_list (pv 1) (pe_df D hr (by rfl) (pa_cons (pv 0) (pa_cons (pe_callB call_len_seq (by rfl) mn (by decide +kernel) (pa_cons (pv 1) pa_nil)) pa_nil))) (fun _ _ => rfl))), ?_⟩
  refine ⟨_, rfl, _, rfl, _, rfl, l, xs, rfl, .inl (SqL.of hl), ?_⟩
  refine ⟨st, q, n, xs.length, rfl, hS, nsq, by omega, by omega, hn0, hn1, fun d H' h0 h1 hS' hB => ?_⟩
  have hl' := hB _ _ hl n1 n2
  obtain ⟨j, rfl⟩ := Int.eq_ofNat_of_zero_le h0
  have hj : j < xs.length := by omega
  refine ⟨l, xs, _, xs[j], rfl, rfl, SqL.of hl', atI_nat (by simp), k _ H' (List.getElem_mem hj) hS' hB⟩
end
end N0
set_option Elab.async false
set_option linter.all false
set_option maxRecDepth 100000
set_option maxHeartbeats 4000000
/-! field(e), the lambda of a class asked of its exception -/
namespace N0
open PySem PySem.Spec PySem.W PyProof.Rows L2 LamX LiI RZ K00
/-- field(e): field in slot i, e in slot j -/
def tField (K : Frag) (mg : Str → Option Value) (i j : Nat) : TE := fun σ H Q => ∃ (s : S1) (v : V) (e l c : Addr) (q : Str) (body : Expr), σ[i]? = some (some (.ref l)) ∧ σ[j]? = some (some (.ref e)) ∧ SF K mg s ∧ ExcV s v H e ∧ H l = some (LamO l c q body) ∧ H c = some (CodeO c q) ∧ BodyOf s body ∧
  ∀ (p : Addr) (H' : Hp), Same H H' → H' p = some (.lst (dueOf s v)) → Q (.ref p) H'
section
variable {X : Cx} {i j : Nat} {x y : Str} {p p' pos : Pos}
theorem pe_field (hr : Room 2 X.A) (hi : X.N[i]? = some x) (hj : X.N[j]? = some y) (vi : Vis X.env.scope x) (vj : Vis X.env.scope y) (di : (x == ("__debug__" : Str)) = false := by decide) (ci : (x == ("__classdict__" : Str)) = false := by decide)
    (dj : (y == ("__debug__" : Str)) = false := by decide) (cj : (y == ("__classdict__" : Str)) = false := by decide) : PE X (.Call (.Name x p) [.Name y p'] [] pos) (tField X.K X.mg i j) := by
  have R := pe_callLam (i := i) (x := x) (p := p) (pos := pos) hr pass0 (pa_cons (pe_var (i := j) (pos := p') hj vj dj cj) pa_nil) hi vi di ci
  refine ⟨fun pins s0 σ H Q I h => R.run pins s0 σ H Q I ?_⟩
  obtain ⟨s, v, e, l, c, q, body, h1, h2, S, hx, hl, hc, hB, k⟩ := h
  refine ⟨l, c, q, body, h1, hl, _, h2, _, rfl, hl, hc, ?_⟩
  obtain ⟨cn, fo, C, N, fa, n⟩ := s
  cases fo with
  | none =>
    obtain ⟨p1, rfl⟩ := hB
    refine ⟨_, fun q f c' A outer s H => pe_lst pa_nil, ?_⟩
    exact ⟨by show 0 ≤ sizeLine; decide, fun a ha => k a _ (same_new' ha _) upd_same⟩
  | some f =>
    obtain ⟨p1, p2, p3, rfl⟩ := hB
    obtain ⟨hf, hno, _⟩ := S.ini f rfl
    obtain ⟨d, hx1, hx2⟩ := hx
    refine ⟨tLst (tCons (tXfld X.K (tVar 0) f) tNil), fun q g c' A outer s H => pe_lst (pa_cons (pe_xfld (pv 0)) pa_nil), ?_⟩
    refine ⟨_, rfl, e, C, d, _, v, rfl, hx1, hx2, S.xf, hno, by simp [List.lookup], ?_⟩
    exact ⟨by show 1 ≤ sizeLine; decide, fun a ha => k a _ (same_new' ha _) upd_same⟩
end
end N0
set_option Elab.async false
set_option linter.all false
set_option maxRecDepth 100000
set_option maxHeartbeats 8000000
/-! what the law's walk leans on -/
namespace N0
open PySem PySem.Spec PySem.W PyProof.Rows L2 LamX LiI RZ K00
/-- the heap without the stream and the tables -/
def Cr (st q : Addr) (H : Hp) : Hp := fun b => if b = st ∨ b = q then none else match H b with
  | some (.tbl _) => none
  | o => o
theorem Cr.le {st q : Addr} {H : Hp} : Same (Cr st q H) H := fun b o e => by
  unfold Cr at e
  split at e
  · cases e
  · split at e
    · cases e
    · exact e
theorem Cr.mk {st q b : Addr} {H : Hp} {o : HO} (h : H b = some o) (n : ∀ ps, o ≠ .tbl ps) (n1 : b ≠ st) (n2 : b ≠ q) : Cr st q H b = some o := by
  unfold Cr
  rw [if_neg (fun z => z.elim n1 n2), h]
  split
  · rename_i ps e
    exact absurd (Option.some.inj e) (n ps)
  · rfl
theorem Cr.un {st q b : Addr} {H : Hp} {o : HO} (h : Cr st q H b = some o) : H b = some o ∧ (∀ ps, o ≠ .tbl ps) ∧ b ≠ st ∧ b ≠ q := by
  have h0 := Cr.le _ _ h
  unfold Cr at h
  split at h
  · cases h
  · rename_i hn
    refine ⟨h0, fun ps z => ?_, fun z => hn (.inl z), fun z => hn (.inr z)⟩
    rw [h0, z] at h
    cases h
theorem Cr.but {st q : Addr} {H H' : Hp} (k : But st q H H') : Same (Cr st q H) (Cr st q H') := fun b o e => by
  obtain ⟨h, n, n1, n2⟩ := Cr.un e
  exact Cr.mk (k b o h n1 n2) n n1 n2
theorem Cr.ext {st q : Addr} {H H' : Hp} (k : ExtN H H') : Same (Cr st q H) (Cr st q H') := fun b o e => by
  obtain ⟨h, n, n1, n2⟩ := Cr.un e
  exact Cr.mk (k b o h n) n n1 n2
theorem StrAt.ext {st q : Addr} {n : Int} {H H' : Hp} (s : StrAt H st q n) (k : ExtN H H') : StrAt H' st q n := by
  obtain ⟨ns, a, c, h1, h2, r⟩ := s.ex
  exact ⟨ns, a, c, k _ _ h1 (fun _ z => by cases z), k _ _ h2 (fun _ z => by cases z), r⟩
theorem ext_same {H H' : Hp} (k : Same H H') : ExtN H H' := fun b o e _ => k b o e
/-- the tables stay where lists (or dicts) are written -/
theorem tabs_of {T : List (Addr × Str)} {H H' : Hp} (t : Tabs T H) (k : ∀ b o, H b = some o → ((∃ ps, o = .tbl ps) ∨ Fx o) → H' b = some o) : Tabs T H' := fun p hp => by
  obtain ⟨ps, h1, h2, h3⟩ := t p hp
  refine ⟨ps, k _ _ h1 (.inl ⟨_, rfl⟩), h2, fun pos cv hc => ?_⟩
  obtain ⟨c, e1, e2⟩ := h3 pos cv hc
  exact ⟨c, e1, k _ _ e2 (.inr True.intro)⟩
theorem tabs_but {T : List (Addr × Str)} {st q : Addr} {n : Int} {H H' : Hp} (t : Tabs T H) (s : StrAt H st q n) (k : But st q H H') : Tabs T H' := by
  obtain ⟨ns, a, c, h1, h2, r⟩ := s.ex
  refine tabs_of t fun b o e ho => k b o e ?_ ?_
  · intro z
    rw [z, h1] at e
    cases e
    rcases ho with ⟨ps, z⟩ | z
    · cases z
    · exact z
  · intro z
    rw [z, h2] at e
    cases e
    rcases ho with ⟨ps, z⟩ | z
    · cases z
    · exact z
theorem paired_app {α β : Type} {F : α → β → Prop} : ∀ {l1 : List α} {r1 : List β} {l2 : List α} {r2 : List β}, Paired F l1 r1 → Paired F l2 r2 → Paired F (l1 ++ l2) (r1 ++ r2)
  | _, _, _, _, .nil, h => h
  | _, _, _, _, .cons a p, h => .cons a (paired_app p h)
/-- all the classes' fours -/
def All (N : Addr → Prop) (v : V) (H : Hp) (ys : List V) : Prop := Paired (fun s y => ∃ q, Made N q s v H y) sps ys
theorem All.keep {N : Addr → Prop} {v : V} {H H' : Hp} {ys : List V} (h : All N v H ys) (k : Kp N H H') : All N v H' ys := L2.Paired.mapP h fun s y ⟨q, m⟩ => ⟨q, m.keep k⟩
theorem All.len {N : Addr → Prop} {v : V} {H : Hp} {ys : List V} (h : All N v H ys) : ys.length = 108 := (Paired.length h).symm.trans spsL
theorem all_of {N N' : Addr → Prop} {v : V} {q q' : Str} {H H2 : Hp} {xs ys : List V} (h1 : Paired (fun s y => Made N q s v H y) spsA xs) (k : Kp N H H2) (h2 : Paired (fun s y => Made N' q' s v H2 y) spsB ys) (M : Addr → Prop) (m1 : ∀ d xs, H2 d = some (.lst xs) → N d → M d) (m2 : ∀ d xs, H2 d = some (.lst xs) → N' d → M d) : All M v H2 (xs ++ ys) := by
  unfold All
  rw [← spsAB]
  exact paired_app (L2.Paired.mapP h1 fun s y m => ⟨q, (m.keep k).imp m1⟩) (L2.Paired.mapP h2 fun s y m => ⟨q', m.imp m2⟩)
theorem All.at {N : Addr → Prop} {v : V} {H : Hp} {ys : List V} (h : All N v H ys) {i : Nat} {y : V} (hy : ys[i]? = some y) : ∃ hi : i < sps.length, ∃ (t e1 e2 l c d : Addr) (q : Str) (body : Expr), y = .ref t ∧ H t = some (.tup [.ref e1, .ref e2, .ref l, .ref d]) ∧ Made1 N q sps[i] v H e1 e2 l c d body := by
  have hi : i < sps.length := by
    rw [Paired.length h]
    exact (List.getElem?_eq_some_iff.mp hy).1
  obtain ⟨y', hy', q, t, e1, e2, l, c, d, body, e, h1, h2⟩ := L2.paired_get h (List.getElem?_eq_getElem hi)
  rw [hy] at hy'
  cases hy'
  exact ⟨hi, t, e1, e2, l, c, d, q, body, e, h1, h2⟩
theorem due_sm {s : S1} {v : V} {H : Hp} {n : Nat} (h : Sm H n v v) : Paired (Sm H n) (dueOf s v) (dueOf s v) := by
  unfold dueOf
  split
  · exact .nil
  · exact .cons h .nil
theorem due_len {s : S1} {v : V} : (dueOf s v).length ≤ 1000 := by
  unfold dueOf
  split
  · show 0 ≤ 1000
    decide
  · show 1 ≤ 1000
    decide
theorem same1 {K : Frag} {mg : Str → Option Value} {N : Addr → Prop} {s : S1} {v : V} {σ : L2.St} {H H1 : Hp} {Q : VK} {j : Nat} {e e1 e2 l c d : Addr} {q : Str} {body : Expr} (S : SF K mg s) (h11 : σ[11]? = some (some (.ref l))) (hj : σ[j]? = some (some (.ref e))) (h12 : σ[12]? = some (some (.ref d)))
    (m : Made1 N q s v H e1 e2 l c d body) (he : e = e1 ∨ e = e2) (hv : Sm H 3 v v) (hk : Same H H1) (k : ∀ H', Same H H' → Q (.bl true) H') : tCall (spSame 4) [] E0 (tCons (tField K mg 11 j) (tCons (tVar 12) tNil)) σ H1 Q := by
  have hx : ExcV s v H1 e := by
    rcases he with rfl | rfl
    · exact m.x1.keep (N := fun _ => True) (Kp.same hk)
    · exact m.x2.keep (N := fun _ => True) (Kp.same hk)
  refine ⟨s, v, e, l, c, q, body, h11, hj, S, hx, hk _ _ m.lam, hk _ _ m.code, m.body, fun p H2 s2 hp => ⟨_, h12, .ref p, .ref d, rfl, ?_, fun H' s' => k H' (hk.trans (s2.trans s'))⟩⟩
  exact .inr (.inl ⟨p, d, _, _, rfl, rfl, .inl ⟨hp, s2 _ _ (hk _ _ m.due)⟩, due_len, due_sm (Sm.same (hk.trans s2) hv)⟩)
end N0
set_option Elab.async false
set_option linter.all false
set_option maxRecDepth 100000
set_option maxHeartbeats 8000000
/-! the parts of law, read -/
namespace N0
open PySem PySem.Spec PySem.W PyProof.Rows L2 LamX LiI RZ K00
def qA : Str := ("_law_made_a" ++ ".<locals>.") ++ "<lambda>"
def qB : Str := ("_law_made_b" ++ ".<locals>.") ++ "<lambda>"
def TT : List (Addr × Str) := [(2037, qA), (2044, qB)]
def gT4 (K : Frag) : TG := gTup K 4 (gCons (gName 9) (gCons (gName 10) (gCons (gName 11) (gCons (gName 12) gNil))))
def tS (K : Frag) (mg : Str → Option Value) (j : Nat) : TE := tCall (spSame 4) [] E0 (tCons (tField K mg 11 j) (tCons (tVar 12) tNil))
def tSameIf (K : Frag) (mg : Str → Option Value) : TS := tIfS (tOr (tNot (tB (tS K mg 9))) (tNot (tB (tS K mg 10)))) (tRet (tC (.bl false))) tNext
def tOwnIf (K : Frag) : TS := tIfS (tOr (tNot (tB (tCall (spOwn K) [] E0 (tCons (tVar 9) (tCons (tVar 8) tNil))))) (tNot (tB (tCall (spOwn K) [] E0 (tCons (tVar 10) (tCons (tVar 8) tNil)))))) (tRet (tC (.bl false))) tNext
def tFirst (K : Frag) (mg : Str → Option Value) : TS := tFor (iEnum K (tCons (tVar 6) tNil)) (gTup K 2 (gCons (gName 8) (gCons (gT4 K) gNil))) (tSeq (tOwnIf K) (tSameIf K mg))
def tMore (K : Frag) (mg : Str → Option Value) : TS := tIfS (tNot (tB (tCB (rAll K) (tCons (tLc (iList K (tVar 7)) (gT4 K) tYes (tAndV (tS K mg 9) (tS K mg 10)) [9, 10, 11, 12]) tNil)))) (tRet (tC (.bl false))) tNext
def tMk (i : Nat) : TE := tOp rCat (tCall (spMade TT qA spsA) [] E0 (tCons (tVar i) tNil)) (tCall (spMade TT qB spsB) [] E0 (tCons (tVar i) tNil))
def tTurn (K : Frag) (mg : Str → Option Value) : TS := tSeq (tPar 4 5 (tCons (tCall spPick [] E0 (tCons (tVar 1) (tCons (tVar 2) tNil))) (tCons (tCall spPick [] E0 (tCons (tVar 1) (tCons (tVar 2) tNil))) tNil)))
  (tSeq (tPar 6 7 (tCons (tMk 4) (tCons (tMk 5) tNil))) (tSeq (tFirst K mg) (tMore K mg)))
def tEach (K : Frag) (mg : Str → Option Value) : TS := tFor (iList K (tVar 6)) (gT4 K) (tSameIf K mg)
section
variable {K : Frag} {mg : Str → Option Value}
theorem sameIf_ok {N : Addr → Prop} {s : S1} {v : V} {σ : L2.St} {H H1 : Hp} {D : Ends} {e1 e2 l c d : Addr} {q : Str} {body : Expr} (S : SF K mg s) (h9 : σ[9]? = some (some (.ref e1))) (h10 : σ[10]? = some (some (.ref e2))) (h11 : σ[11]? = some (some (.ref l))) (h12 : σ[12]? = some (some (.ref d)))
    (m : Made1 N q s v H e1 e2 l c d body) (hv : Sm H 3 v v) (hk : Same H H1) (k : ∀ H', Same H H' → D.nx σ H') : tSameIf K mg D σ H1 := by
  refine same1 S h11 h9 h12 m (.inl rfl) hv hk fun H2 s2 => ⟨true, rfl, ?_⟩
  refine iteF ?_
  refine same1 S h11 h10 h12 m (.inr rfl) hv s2 fun H3 s3 => ⟨true, rfl, ?_⟩
  refine iteF ?_
  exact k H3 s3
theorem first_ok {a0 a1 a2 a3 a4 a5 a7 a8 a9 a10 a11 a12 a13 : Option V} {m : Addr} {ys : List V} {v : V} {H : Hp} {D : Ends} (hs : ∀ s ∈ sps, SF K mg s) (hm : H m = some (.lst ys)) (hA : All (fun _ => True) v H ys) (hv : Sm H 3 v v)
    (k : ∀ b8 b9 b10 b11 b12 H', Same H H' → D.nx [a0, a1, a2, a3, a4, a5, some (.ref m), a7, b8, b9, b10, b11, b12, a13] H') : tFirst K mg D [a0, a1, a2, a3, a4, a5, some (.ref m), a7, a8, a9, a10, a11, a12, a13] H := by
  refine ⟨_, rfl, m, ys, rfl, SqL.of hm, ?_⟩
  refine for_it (walk_enum (xs := ys)) (fun i σ H' => Same H H' ∧ ∃ b8 b9 b10 b11 b12, σ = [a0, a1, a2, a3, a4, a5, some (.ref m), a7, b8, b9, b10, b11, b12, a13]) ⟨fun _ _ e => e, _, _, _, _, _, rfl⟩ (fun i σ H' _ p => SqL.of (p.1 _ _ hm)) ?_ ?_
  · rintro i x σ H1 H2 hi ⟨s1, b8, b9, b10, b11, b12, rfl⟩ ⟨T, x', y', rfl, hT, rfl, e1, e2⟩
    have e1 := (Option.some.inj e1).symm
    subst e1
    obtain ⟨hi', t, x1, x2, l, c, d, q, body, rfl, ht, M⟩ := hA.at e2
    have s2 : Same H (upd H1 T (.tup [.int (i : Nat), .ref t])) := s1.trans (same_new' hT _)
    refine ⟨T, _, rfl, SqT.of upd_same, rfl, _, _, rfl, _, _, rfl, t, _, rfl, SqT.of (s2 _ _ ht), rfl, _, _, rfl, _, _, rfl, _, _, rfl, _, _, rfl, rfl, rfl, ?_⟩
    generalize upd H1 T (.tup [.int (i : Nat), .ref t]) = H2 at s2 ⊢
    have hx1 := (M.x1.keep (N := fun _ => True) (Kp.same s2)).at
    refine ⟨_, rfl, _, rfl, x1, i, hi', rfl, hx1, fun H3 s3 => ⟨true, rfl, ?_⟩⟩
    refine iteF ?_
    have hx2 := (M.x2.keep (N := fun _ => True) (Kp.same (s2.trans s3))).at
    refine ⟨_, rfl, _, rfl, x2, i, hi', rfl, hx2, fun H4 s4 => ⟨true, rfl, ?_⟩⟩
    refine iteF ?_
    refine sameIf_ok (hs _ (List.getElem_mem hi')) rfl rfl rfl rfl M hv ((s2.trans s3).trans s4) fun H5 s5 => ?_
    exact ⟨s5, _, _, _, _, _, rfl⟩
  · rintro σ H' ⟨s1, b8, b9, b10, b11, b12, rfl⟩
    exact k _ _ _ _ _ _ s1
theorem each_ok {N : Addr → Prop} {a0 a1 a2 a3 a4 a5 a7 a8 a9 a10 a11 a12 a13 : Option V} {m : Addr} {ys : List V} {v : V} {H : Hp} {D : Ends} (hs : ∀ s ∈ sps, SF K mg s) (hm : H m = some (.lst ys)) (hA : All N v H ys) (hv : Sm H 3 v v)
    (k : ∀ b9 b10 b11 b12 H', Same H H' → D.nx [a0, a1, a2, a3, a4, a5, some (.ref m), a7, a8, b9, b10, b11, b12, a13] H') : tEach K mg D [a0, a1, a2, a3, a4, a5, some (.ref m), a7, a8, a9, a10, a11, a12, a13] H := by
  refine ⟨_, rfl, m, rfl, ⟨ys, SqL.of hm⟩, ?_⟩
  refine for_list (xs := ys) (fun i σ H' => Same H H' ∧ ∃ b9 b10 b11 b12, σ = [a0, a1, a2, a3, a4, a5, some (.ref m), a7, a8, b9, b10, b11, b12, a13]) ⟨fun _ _ e => e, _, _, _, _, rfl⟩ (fun i σ H' _ p => SqL.of (p.1 _ _ hm)) ?_ ?_
  · rintro i x σ H1 hx ⟨s1, b9, b10, b11, b12, rfl⟩
    obtain ⟨hi', t, x1, x2, l, c, d, q, body, rfl, ht, M⟩ := hA.at hx
    refine ⟨t, _, rfl, SqT.of (s1 _ _ ht), rfl, _, _, rfl, _, _, rfl, _, _, rfl, _, _, rfl, rfl, ?_⟩
    refine sameIf_ok (hs _ (List.getElem_mem hi')) rfl rfl rfl rfl M hv s1 fun H5 s5 => ?_
    exact ⟨s5, _, _, _, _, rfl⟩
  · rintro σ H' ⟨s1, b9, b10, b11, b12, rfl⟩
    exact k _ _ _ _ _ s1
theorem more_ok {a0 a1 a2 a3 a4 a5 a6 a8 a9 a10 a11 a12 a13 : Option V} {m : Addr} {ys : List V} {v : V} {H : Hp} {D : Ends} (hs : ∀ s ∈ sps, SF K mg s) (hm : H m = some (.lst ys)) (hA : All (fun _ => True) v H ys) (hv : Sm H 3 v v)
    (k : ∀ H', Same H H' → D.nx [a0, a1, a2, a3, a4, a5, a6, some (.ref m), a8, a9, a10, a11, a12, a13] H') : tMore K mg D [a0, a1, a2, a3, a4, a5, a6, some (.ref m), a8, a9, a10, a11, a12, a13] H := by
  refine ⟨_, rfl, m, rfl, ⟨ys, SqL.of hm⟩, fun R hR => ?_⟩
  refine lc_list (xs := ys) (fun i H' => Same H H' ∧ H' R = some (.lst ((List.replicate i true).map V.bl))) ⟨same_new' hR _, upd_same⟩ (fun i H' _ p => SqL.of (p.1 _ _ hm)) ?_ ?_
  · rintro i x H1 hx ⟨s1, h1⟩
    obtain ⟨hi', t, x1, x2, l, c, d, q, body, rfl, ht, M⟩ := hA.at hx
    refine ⟨t, _, rfl, SqT.of (s1 _ _ ht), rfl, _, _, rfl, _, _, rfl, _, _, rfl, _, _, rfl, rfl, rfl, ?_⟩
    have S := hs _ (List.getElem_mem hi')
    have M1 := M.keep (Kp.same s1)
    have hv1 := Sm.same s1 hv
    refine same1 S rfl rfl rfl M1 (.inl rfl) hv1 (fun _ _ e => e) fun H2 s2 => ⟨true, rfl, ?_⟩
    refine iteT ?_
    refine same1 S rfl rfl rfl M1 (.inr rfl) hv1 s2 fun H3 s3 => ?_
    refine ⟨_, s3 _ _ h1, ?_, fun b o e => ?_, ?_⟩
    · rw [List.length_map, List.length_replicate]
      refine Nat.lt_of_lt_of_le (List.getElem?_eq_some_iff.mp hx).1 ?_
      rw [hA.len]
      decide
    · rw [upd_ne (ne_of_none e hR)]
      exact s3 _ _ (s1 _ _ e)
    · rw [upd_same, List.replicate_succ', List.map_append]
      rfl
  · rintro H' ⟨s1, h1⟩
    refine ⟨R, List.replicate ys.length true, rfl, SqL.of h1, ?_⟩
    rw [show (List.replicate ys.length true).all id = true by simp]
    exact ⟨true, rfl, k H' s1⟩
/-- made_a(x) + made_b(x) -/
theorem mk_ok {σ : L2.St} {i : Nat} {v : V} {H : Hp} {Q : VK} (hi : σ[i]? = some (some v)) (hT : Tabs TT H) (k : ∀ (m : Addr) (ys : List V) (H' : Hp), ExtN H H' → Tabs TT H' → H' m = some (.lst ys) → All (Nw H) v H' ys → Q (.ref m) H') : tMk i σ H Q := by
  refine ⟨_, hi, v, rfl, hT, fun a xs H1 e1 T1 h1 n1 p1 => ?_⟩
  refine ⟨_, hi, v, rfl, T1, fun b ys H2 e2 T2 h2 n2 p2 => ?_⟩
  have h1' := e2 _ _ h1 (fun _ z => by cases z)
  refine ⟨a, b, xs, ys, rfl, rfl, h1', h2, ?_, fun m hm => ?_⟩
  · have l1 := Paired.length p1
    have l2 := Paired.length p2
    rw [← l1, ← l2]
    decide +kernel
  · have s3 := same_new' hm (.lst (xs ++ ys))
    refine k m (xs ++ ys) _ (fun b o e n => s3 _ _ (e2 _ _ (e1 _ _ e n) n)) (T2.ext s3) upd_same ((all_of p1 (Kp.ext e2) p2 (Nw H) (fun d _ _ z => z.1) (fun d zs hd z o e => Classical.byContradiction fun n => ?_)).keep (Kp.same s3))
    obtain ⟨ps, w⟩ := z.1 o (e1 _ _ e fun ps w => n ⟨ps, w⟩)
    exact n ⟨ps, w⟩
theorem turn_ok {a0 a3 a4 a5 a6 a7 a8 a9 a10 a11 a12 a13 : Option V} {st q sm : Addr} {n : Int} {xs : List V} {H : Hp} {D : Ends} (hs : ∀ s ∈ sps, SF K mg s) (nsq : st ≠ q) (hS : StrAt H st q n) (hn0 : 0 ≤ n) (hn1 : n < 100000) (hT : Tabs TT H) (hsm : Cr st q H sm = some (.lst xs)) (hx0 : 0 < xs.length) (hx1 : xs.length ≤ 1000)
    (hx : ∀ x ∈ xs, Sm (Cr st q H) 3 x x) (k : ∀ b4 b5 b6 b7 b8 b9 b10 b11 b12 H', StrAt H' st q (n + 2) → Tabs TT H' → Same (Cr st q H) (Cr st q H') → D.nx [a0, some (.ref st), some (.ref sm), a3, b4, b5, b6, b7, b8, b9, b10, b11, b12, a13] H') :
    tTurn K mg D [a0, some (.ref st), some (.ref sm), a3, a4, a5, a6, a7, a8, a9, a10, a11, a12, a13] H := by
  obtain ⟨hl, _, m1, m2⟩ := Cr.un hsm
  refine ⟨_, rfl, _, rfl, st, q, sm, n, xs, rfl, hS, nsq, hn0, by omega, hl, hx0, hx1, m1, m2, fun x H1 hx1' hS1 B1 => ?_⟩
  have hsm1 := Cr.but B1 _ _ hsm
  refine ⟨_, rfl, _, rfl, st, q, sm, n + 1, xs, rfl, hS1, nsq, by omega, by omega, Cr.le _ _ hsm1, hx0, hx1, m1, m2, fun y H2 hy1 hS2 B2 => ?_⟩
  have hT2 := tabs_but (tabs_but hT hS B1) hS1 B2
  have C2 : Same (Cr st q H) (Cr st q H2) := (Cr.but B1).trans (Cr.but B2)
  have hvx : Sm H2 3 x x := Sm.same (C2.trans Cr.le) (hx x hx1')
  refine ⟨x, y, rfl, ?_⟩
  show tSeq _ _ _ [a0, some (.ref st), some (.ref sm), a3, some x, some y, a6, a7, a8, a9, a10, a11, a12, a13] H2
  refine mk_ok (v := x) rfl hT2 fun m ys H3 e3 T3 hm A3 => ?_
  refine mk_ok (v := y) rfl T3 fun m' zs H4 e4 T4 hm' A4 => ?_
  have e24 : ExtN H2 H4 := e3.trans e4
  have vx4 : Sm H4 3 x x := Sm.same ((C2.trans (Cr.ext e24)).trans Cr.le) (hx x hx1')
  have vy4 : Sm H4 3 y y := Sm.same ((C2.trans (Cr.ext e24)).trans Cr.le) (hx y hy1)
  have A3' : All (fun _ => True) x H4 ys := L2.Paired.mapP (A3.keep (Kp.ext e4)) fun s y ⟨q, m⟩ => ⟨q, m.imp fun _ _ _ _ => True.intro⟩
  have A4' : All (fun _ => True) y H4 zs := L2.Paired.mapP A4 fun s y ⟨q, m⟩ => ⟨q, m.imp fun _ _ _ _ => True.intro⟩
  have hm4 := e4 _ _ hm (fun _ z => by cases z)
  refine ⟨.ref m, .ref m', rfl, ?_⟩
  show tSeq _ _ _ [a0, some (.ref st), some (.ref sm), a3, some x, some y, some (.ref m), some (.ref m'), a8, a9, a10, a11, a12, a13] H4
  refine first_ok hs hm4 A3' vx4 fun b8 b9 b10 b11 b12 H5 s5 => ?_
  refine more_ok hs (s5 _ _ hm') (A4'.keep (Kp.same s5)) (Sm.same s5 vy4) fun H6 s6 => ?_
  have e26 : ExtN H2 H6 := e24.trans (ext_same (s5.trans s6))
  refine k _ _ _ _ _ _ _ _ _ H6 ?_ ((T4.ext s5).ext s6) (C2.trans (Cr.ext e26))
  have := hS2.ext e26
  rwa [show n + 1 + 1 = n + 2 by omega] at this
end
end N0
set_option Elab.async false
set_option linter.all false
set_option maxRecDepth 100000
set_option maxHeartbeats 8000000
/-! the held part of law; its data -/
namespace N0
open PySem PySem.Spec PySem.W PyProof.Rows L2 LamX LiI RZ K00
def tHeld (K : Frag) (mg : Str → Option Value) : TS := tSeq (tAsg (tMk 13) (gName 6)) (tSeq (tIfS (tB (tCB (rIsi K) (tCons (tVar 13) (tCons (tC (.ty "dict")) tNil)))) (sDPut (tVar 13) (tC (.str "late")) (tC (.int 2)))
  (tDrop (tBM K "list" rAppend (tVar 13) (tCons (tC (.str "late")) tNil)))) (tEach K mg))
section
variable {K : Frag} {mg : Str → Option Value}
/-- behind the change of the held thing -/
theorem held_end {a0 a1 a2 a3 a4 a5 a7 a8 a9 a10 a11 a12 : Option V} {h m : Addr} {ys : List V} {o o' : HO} {H H1 : Hp} {D : Ends} (hs : ∀ s ∈ sps, SF K mg s) (e1 : ExtN H H1) (T1 : Tabs TT H1) (hm : H1 m = some (.lst ys)) (A1 : All (Nw H) (.ref h) H1 ys) (hh : H h = some o) (ho : (∃ xs, o = .lst xs) ∨ ∃ ks, o = .dK ks)
    (hmh : m ≠ h) (hv : Sm (upd H1 h o') 3 (.ref h) (.ref h))
    (k : ∀ b9 b10 b11 b12 H', Kpl h H H' → Tabs TT H' → D.nx [a0, a1, a2, a3, a4, a5, some (.ref m), a7, a8, b9, b10, b11, b12, some (.ref h)] H') : tEach K mg D [a0, a1, a2, a3, a4, a5, some (.ref m), a7, a8, a9, a10, a11, a12, some (.ref h)] (upd H1 h o') := by
  have nt : ∀ ps, o ≠ .tbl ps := fun ps z => by
    rcases ho with ⟨xs, e⟩ | ⟨ks, e⟩ <;> rw [e] at z <;> cases z
  have nf : ¬ Fx o := fun z => by
    rcases ho with ⟨xs, e⟩ | ⟨ks, e⟩ <;> rw [e] at z <;> exact z
  have h1 := e1 _ _ hh nt
  have kp : Kp (Nw H) H1 (upd H1 h o') := fun b u e _ hb => by
    have nb : b ≠ h := by
      rcases hb with hb | hb
      · intro z
        rw [z, h1] at e
        exact nf (Option.some.inj e ▸ hb)
      · exact hb.ne hh nt
    rw [upd_ne nb]
    exact e
  have T2 : Tabs TT (upd H1 h o') := tabs_of T1 fun b u e hb => by
    have nb : b ≠ h := fun z => by
      rw [z, h1] at e
      have e := Option.some.inj e
      subst e
      rcases hb with ⟨ps, z⟩ | z
      · exact nt ps z
      · exact nf z
    rw [upd_ne nb]
    exact e
  refine each_ok hs (by rw [upd_ne hmh]; exact hm) (A1.keep kp) hv fun b9 b10 b11 b12 H' s' => ?_
  refine k _ _ _ _ H' (fun b u e n nb => s' _ _ ?_) (T2.ext s')
  rw [upd_ne nb]
  exact e1 _ _ e n
theorem heldL_ok {a0 a1 a2 a3 a4 a5 a6 a7 a8 a9 a10 a11 a12 : Option V} {h : Addr} {H : Hp} {D : Ends} (hs : ∀ s ∈ sps, SF K mg s) (hT : Tabs TT H) (hh : H h = some (.lst [.str "v"]))
    (k : ∀ b6 b9 b10 b11 b12 H', Kpl h H H' → Tabs TT H' → D.nx [a0, a1, a2, a3, a4, a5, b6, a7, a8, b9, b10, b11, b12, some (.ref h)] H') : tHeld K mg D [a0, a1, a2, a3, a4, a5, a6, a7, a8, a9, a10, a11, a12, some (.ref h)] H := by
  refine mk_ok (v := .ref h) rfl hT fun m ys H1 e1 T1 hm A1 => ?_
  have h1 := e1 _ _ hh (fun _ z => by cases z)
  show tSeq _ _ _ [a0, a1, a2, a3, a4, a5, some (.ref m), a7, a8, a9, a10, a11, a12, some (.ref h)] H1
  refine ⟨_, rfl, _, _, _, _, _, rfl, .ty _, .base (.lst h1), kf, false, rfl, ?_⟩
  refine iteF ?_
  refine ⟨_, rfl, .inl ⟨rfl, _, SqL.of h1⟩, h, _, _, rfl, rfl, h1, by show 1 < sizeLine; decide, ?_⟩
  have hmh : m ≠ h := fun z => by
    rw [z, h1] at hm
    have e := HO.lst.inj (Option.some.inj hm)
    have := A1.len
    rw [← e] at this
    cases this
  refine held_end hs e1 T1 hm A1 hh (.inl ⟨_, rfl⟩) hmh ?_ fun b9 b10 b11 b12 H' kk T' => k _ _ _ _ _ H' kk T'
  exact .inr (.inl ⟨h, h, _, _, rfl, rfl, .inl ⟨upd_same, upd_same⟩, by show 2 ≤ 1000; decide, .cons (Sm.flat rfl _) (.cons (Sm.flat rfl _) .nil)⟩)
theorem heldD_ok {a0 a1 a2 a3 a4 a5 a6 a7 a8 a9 a10 a11 a12 : Option V} {h : Addr} {H : Hp} {D : Ends} (hs : ∀ s ∈ sps, SF K mg s) (hT : Tabs TT H) (hh : H h = some (.dK [(Sum.inr "v", .int 1)]))
    (k : ∀ b6 b9 b10 b11 b12 H', Kpl h H H' → Tabs TT H' → D.nx [a0, a1, a2, a3, a4, a5, b6, a7, a8, b9, b10, b11, b12, some (.ref h)] H') : tHeld K mg D [a0, a1, a2, a3, a4, a5, a6, a7, a8, a9, a10, a11, a12, some (.ref h)] H := by
  refine mk_ok (v := .ref h) rfl hT fun m ys H1 e1 T1 hm A1 => ?_
  have h1 := e1 _ _ hh (fun _ z => by cases z)
  show tSeq _ _ _ [a0, a1, a2, a3, a4, a5, some (.ref m), a7, a8, a9, a10, a11, a12, some (.ref h)] H1
  refine ⟨_, rfl, _, _, _, _, _, rfl, .ty _, .base (.dK h1), kt, true, rfl, ?_⟩
  refine iteT ?_
  refine ⟨_, rfl, h, _, rfl, DPut.k (k := Sum.inr "late") h1 (by show 1 < sizeLine; decide), ?_⟩
  have hmh : m ≠ h := fun z => by
    rw [z, h1] at hm
    cases hm
  have ep : putK [((Sum.inr "v" : Key), V.int 1)] (Sum.inr "late") (V.int 2) = ([(Sum.inr "v", V.int 1), (Sum.inr "late", V.int 2)] : List (Key × V)) := by
    unfold putK
    rw [if_neg (by decide +kernel)]
    rfl
  rw [ep]
  refine held_end hs e1 T1 hm A1 hh (.inr ⟨_, rfl⟩) hmh ?_ fun b9 b10 b11 b12 H' kk T' => k _ _ _ _ _ H' kk T'
  refine .inr (.inr ⟨0, h, h, _, rfl, rfl, rfl, upd_same, upd_same, by show 2 ≤ 1000; decide, fun p hp => ?_⟩)
  rcases List.mem_cons.mp hp with e | e
  · rw [e]
    rfl
  · rw [List.mem_singleton.mp e]
    rfl
end
end N0
set_option Elab.async false
set_option linter.all false
set_option maxRecDepth 100000
set_option maxHeartbeats 8000000
/-! law -/
namespace N0
open PySem PySem.Spec PySem.W PyProof.Rows L2 LamX LiI RZ K00
abbrev sLaw : Stmt := top 121
abbrev NL : List Str := ["script", "stream", "some", "turn", "x", "y", "made", "more", "at", "mine", "twin", "field", "due", "held"]
def spLaw (K : Frag) : Sp := fun vs H Q _ => ∃ (a : Addr) (ns : List Int), vs = [.ref a] ∧ SqL K H a (ns.map V.int) ∧ ns.length ≤ 63 ∧ Tabs TT H ∧ ∀ H', Q (.bl true) H'
theorem C_new {st q b : Addr} {n : Int} {H : Hp} (S : StrAt H st q n) (h : H b = none) : b ≠ st ∧ b ≠ q := by
  obtain ⟨ns, a, c, h1, h2, _⟩ := S.ex
  exact ⟨fun z => (by rw [z, h1] at h; cases h), fun z => (by rw [z, h2] at h; cases h)⟩
section
variable {P : Program} {w : World} {K : PySem.W.Frag} {mg : Str → Option Value} {base : Heap}
theorem scLaw : FnScope NL ["script"] (defScope sLaw) := ⟨rfl, rfl, rfl, by decide, rfl, by decide +kernel, by decide +kernel⟩
theorem ok_law {f : Addr} {fd : FuncData} (KF : KFacts K) (hs : ∀ s ∈ sps, SF K mg s) (F : Fun K "law" "law" sLaw f fd)
    (DT : Df P w K mg base "_law_stream" 1 ["script"] (spStream K)) (DP : Df P w K mg base "_law_pick" 2 ["stream", "things"] spPick)
    (DA : Df P w K mg base "_law_made_a" 3 ["x"] (spMade TT qA spsA)) (DB : Df P w K mg base "_law_made_b" 3 ["x"] (spMade TT qB spsB))
    (DO : Df P w K mg base "_law_is_own" 2 ["e", "at"] (spOwn K)) (DS : Df P w K mg base "_law_same" 6 ["found", "due"] (spSame 4))
    (mr : mg "range" = none) (me : mg "enumerate" = none) (ma : mg "all" = none) (mi : mg "isinstance" = none) (md : mg "dict" = none) :
    FnOk P w K mg base CX0 7 f fd ["script"] (spLaw K) := by
  refine F.ok (k := 6) scLaw (fun vs H Q E h => by obtain ⟨a, ns, rfl, _⟩ := h; rfl) fun cdv A outer s0 H vs Q E hr hsp => ?_
  obtain ⟨a, ns, rfl, hS, h63, hT, kq⟩ := hsp
  have nd : NL.Nodup := scLaw.nd
  have r1 : Room 1 _ := hr.mono (by decide)
  have r2 : Room 2 _ := hr.mono (by decide)
  have r3 : Room 3 _ := hr.mono (by decide)
  have hu := hu_of hr
  refine ⟨_, pss_cons (ps_set (i := 1) nd rfl (Or.inl rfl) (pe_df DT r1 (by rfl) (pa_cons (pv 0) pa_nil)))
    (pss_cons (ps_set (i := 2) nd rfl (Or.inl rfl) (pe_lst (pa_cons pe_non (pa_cons pe_int (pa_cons (pe_un un_neg pe_int) (pa_cons pe_bl (pa_cons pe_str (pa_cons pe_str (pa_cons (pe_lst (pa_cons pe_int (pa_cons pe_str pa_nil))) (pa_cons (pe_tup (pa_cons pe_int (pa_cons pe_non pa_nil)))
      (pa_cons (pe_disp (pps_cons pe_str pe_int pps_nil) (by rfl) (by rfl) (fun z => by cases z) (by decide)) (pa_cons (pe_lst (pa_cons (pe_lst (pa_cons pe_str pa_nil)) pa_nil)) (pa_cons (pe_op op_pow pe_int pe_int) (pa_cons (pe_tup (pa_cons pe_str (pa_cons pe_int pa_nil))) (pa_cons pe_bl (pa_cons pe_int (pa_cons pe_int pa_nil)))))))))))))))))
    (pss_cons (ps_for PassesOwn.never rfl (pi_range1 (by rfl) mr (pa_cons pe_int pa_nil)) (pg_name (i := 3) nd rfl (Or.inl rfl))
      (pss_cons (ps_par (i := 4) (j := 5) (by rfl) nd rfl rfl (by decide) rfl rfl (pa_cons (pe_df DP r2 (by rfl) (pa_cons (pv 1) (pa_cons (pv 2) pa_nil))) (pa_cons (pe_df DP r2 (by rfl) (pa_cons (pv 1) (pa_cons (pv 2) pa_nil))) pa_nil)) (by rfl))
      (pss_cons (ps_par (i := 6) (j := 7) (by rfl) nd rfl rfl (by decide) rfl rfl (pa_cons (pe_op op_cat (pe_df DA r3 (by rfl) (pa_cons (pv 4) pa_nil)) (pe_df DB r3 (by rfl) (pa_cons (pv 4) pa_nil)))
          (pa_cons (pe_op op_cat (pe_df DA r3 (by rfl) (pa_cons (pv 5) pa_nil)) (pe_df DB r3 (by rfl) (pa_cons (pv 5) pa_nil))) pa_nil)) (by rfl))
      (pss_cons (ps_for PassesOwn.never rfl (pi_enum (by rfl) me (pa_cons (pv 6) pa_nil)) (pg_tup rfl (pgs_cons (pg_name (i := 8) nd rfl (Or.inl rfl)) (pgs_cons (pg_tup rfl (pgs_cons (pg_name (i := 9) nd rfl (Or.inl rfl)) (pgs_cons (pg_name (i := 10) nd rfl (Or.inl rfl)) (pgs_cons (pg_name (i := 11) nd rfl (Or.inl rfl)) (pgs_cons (pg_name (i := 12) nd rfl (Or.inl rfl)) pgs_nil))))) pgs_nil)))
          (pss_cons (ps_if (PW.pt (pw_or (pt_not (pt_val (pe_df DO r2 (by rfl) (pa_cons (pv 9) (pa_cons (pv 8) pa_nil))))) (pw_or1 (pt_not (pt_val (pe_df DO r2 (by rfl) (pa_cons (pv 10) (pa_cons (pv 8) pa_nil)))))))) (pss_one (ps_ret pe_bl)) pss_nil)
          (pss_one (ps_if (PW.pt (pw_or (pt_not (pt_val (pe_df DS hr (by rfl) (pa_cons (pe_field (i := 11) (j := 9) r2 rfl rfl (Or.inl rfl) (Or.inl rfl)) (pa_cons (pv 12) pa_nil))))) (pw_or1 (pt_not (pt_val (pe_df DS hr (by rfl) (pa_cons (pe_field (i := 11) (j := 10) r2 rfl rfl (Or.inl rfl) (Or.inl rfl)) (pa_cons (pv 12) pa_nil)))))))) (pss_one (ps_ret pe_bl)) pss_nil))))
      (pss_one (ps_if (pt_not (pt_val (pe_callB (cr_all rfl) (by rfl) ma (by decide +kernel) (pa_cons (pe_lc (own := [("mine", 9), ("twin", 10), ("field", 11), ("due", 12)]) (g := gTup K 4 (gCons (gName 9) (gCons (gName 10) (gCons (gName 11) (gCons (gName 12) gNil))))) (tt := tYes)
          (te := tAndV (tCall (spSame 4) [] E0 (tCons (tField K mg 11 9) (tCons (tVar 12) tNil))) (tCall (spSame 4) [] E0 (tCons (tField K mg 11 10) (tCons (tVar 12) tNil)))) rfl nd (pi_list (pv 7))
          (blkOk_by (own := [("mine", 9), ("twin", 10), ("field", 11), ("due", 12)]) (N := NL) (sc := defScope sLaw) (by decide +kernel))
          (fun _ _ _ _ _ => pg_tup rfl (pgs_cons (pg_name (i := 9) nd rfl (Or.inl rfl)) (pgs_cons (pg_name (i := 10) nd rfl (Or.inl rfl)) (pgs_cons (pg_name (i := 11) nd rfl (Or.inl rfl)) (pgs_cons (pg_name (i := 12) nd rfl (Or.inl rfl)) pgs_nil))))) (fun _ _ _ _ _ => pts_nil)
          (fun _ _ _ _ _ => pe_and (pe_df DS hr (by rfl) (pa_cons (pe_field (i := 11) (j := 9) r2 rfl rfl (Or.inl rfl) (Or.inl rfl)) (pa_cons (pv 12) pa_nil))) (pe_one (pe_df DS hr (by rfl) (pa_cons (pe_field (i := 11) (j := 10) r2 rfl rfl (Or.inl rfl) (Or.inl rfl)) (pa_cons (pv 12) pa_nil)))))) pa_nil)))) (pss_one (ps_ret pe_bl)) pss_nil))))))
    (pss_cons (ps_for PassesOwn.never rfl (pi_tup (pe_tup (pa_cons (pe_lst (pa_cons pe_str pa_nil)) (pa_cons (pe_disp (pps_cons pe_str pe_int pps_nil) (by rfl) (by rfl) (fun z => by cases z) (by decide)) pa_nil)))) (pg_name (i := 13) nd rfl (Or.inl rfl))
      (pss_cons (ps_set (i := 6) nd rfl (Or.inl rfl) (pe_op op_cat (pe_df DA r3 (by rfl) (pa_cons (pv 13) pa_nil)) (pe_df DB r3 (by rfl) (pa_cons (pv 13) pa_nil))))
      (pss_cons (ps_if (pt_val (pe_callB call_isi (by rfl) mi (by decide +kernel) (pa_cons (pv 13) (pa_cons (pe_bltn (v := .ty "dict") (by rfl) md (by decide +kernel) rfl) pa_nil)))) (pss_one (ps_dput hu (pv 13) pe_str pe_int rfl))
          (pss_one (ps_expr (pe_bm PySem.F.plainAttrs_list PySem.F.slot_list_append PySem.F.type_list_append mt_append (pv 13) (pa_cons pe_str pa_nil)))))
      (pss_one (ps_for PassesOwn.never rfl (pi_list (pv 6)) (pg_tup rfl (pgs_cons (pg_name (i := 9) nd rfl (Or.inl rfl)) (pgs_cons (pg_name (i := 10) nd rfl (Or.inl rfl)) (pgs_cons (pg_name (i := 11) nd rfl (Or.inl rfl)) (pgs_cons (pg_name (i := 12) nd rfl (Or.inl rfl)) pgs_nil)))))
          (pss_one (ps_if (PW.pt (pw_or (pt_not (pt_val (pe_df DS hr (by rfl) (pa_cons (pe_field (i := 11) (j := 9) r2 rfl rfl (Or.inl rfl) (Or.inl rfl)) (pa_cons (pv 12) pa_nil))))) (pw_or1 (pt_not (pt_val (pe_df DS hr (by rfl) (pa_cons (pe_field (i := 11) (j := 10) r2 rfl rfl (Or.inl rfl) (Or.inl rfl)) (pa_cons (pv 12) pa_nil)))))))) (pss_one (ps_ret pe_bl)) pss_nil)))))))
    (pss_one (ps_ret pe_bl))))), ?_⟩
  -- stream
  refine ⟨_, rfl, a, ns, rfl, hS, h63, fun st q H1 n1 n2 nsq S1 hSt => ?_⟩
  have hT1 := hT.ext S1
  clear hT S1 n1 n2
  -- some
  refine ⟨_, rfl, ?_⟩
  refine ⟨by show 2 ≤ sizeLine; decide, fun l1 hl1 => ?_⟩
  have Z1 := same_new' hl1 (.lst [.int 1, .str "b"])
  have f1 : upd H1 l1 (.lst [.int 1, .str "b"]) l1 = some (.lst [.int 1, .str "b"]) := upd_same
  have g1 := C_new hSt hl1
  show tCons _ _ _ (upd H1 l1 (.lst [.int 1, .str "b"])) _
  generalize upd H1 l1 (.lst [.int 1, .str "b"]) = H2 at Z1 f1 ⊢
  have hS2 := hSt.ext (ext_same Z1)
  refine ⟨by show 2 ≤ sizeLine; decide, fun t1 ht1 => ?_⟩
  have Z2 := same_new' ht1 (.tup [.int 2, .non])
  have f2 : upd H2 t1 (.tup [.int 2, .non]) t1 = some (.tup [.int 2, .non]) := upd_same
  have g2 := C_new hS2 ht1
  show tCons _ _ _ (upd H2 t1 (.tup [.int 2, .non])) _
  generalize upd H2 t1 (.tup [.int 2, .non]) = H3 at Z2 f2 ⊢
  have hS3 := hS2.ext (ext_same Z2)
  refine fun d1 hd1 => ⟨upd_same, [(Sum.inr "a", .int 1)], rfl, by show 1 ≤ 15; decide, ?_⟩
  rw [upd_upd, show mergeK [] [((Sum.inr "a" : Key), V.int 1)] = ([(Sum.inr "a", V.int 1)] : List (Key × V)) from rfl]
  have Z3 := same_new' hd1 (.dK [(Sum.inr "a", .int 1)])
  have f3 : upd H3 d1 (.dK [(Sum.inr "a", .int 1)]) d1 = some (.dK [(Sum.inr "a", .int 1)]) := upd_same
  have g3 := C_new hS3 hd1
  show tCons _ _ _ (upd H3 d1 (.dK [(Sum.inr "a", .int 1)])) _
  generalize upd H3 d1 (.dK [(Sum.inr "a", .int 1)]) = H4 at Z3 f3 ⊢
  have hS4 := hS3.ext (ext_same Z3)
  refine ⟨by show 1 ≤ sizeLine; decide, fun l2 hl2 => ?_⟩
  have Z4 := same_new' hl2 (.lst [.str "x"])
  have f4 : upd H4 l2 (.lst [.str "x"]) l2 = some (.lst [.str "x"]) := upd_same
  have g4 := C_new hS4 hl2
  refine ⟨by show 1 ≤ sizeLine; decide, fun l3 hl3 => ?_⟩
  have hS5 := hS4.ext (ext_same Z4)
  have g5 := C_new hS5 hl3
  have Z5 := same_new' hl3 (.lst [.ref l2])
  have f5 : upd (upd H4 l2 (.lst [.str "x"])) l3 (.lst [.ref l2]) l3 = some (.lst [.ref l2]) := upd_same
  have f4' := Z5 _ _ f4
  have Z45 := Z4.trans Z5
  show tCons _ _ _ (upd (upd H4 l2 (.lst [.str "x"])) l3 (.lst [.ref l2])) _
  have hS6 := hS5.ext (ext_same Z5)
  clear f4 Z4 Z5
  generalize upd (upd H4 l2 (.lst [.str "x"])) l3 (.lst [.ref l2]) = H5 at Z45 f5 f4' hS6 ⊢
  refine ⟨10, 17, rfl, rfl, ⟨by decide, by decide, by decide⟩, ?_⟩
  refine ⟨by show 2 ≤ sizeLine; decide, fun t2 ht2 => ?_⟩
  have Z6 := same_new' ht2 (.tup [.str "s", .int 3])
  have f6 : upd H5 t2 (.tup [.str "s", .int 3]) t2 = some (.tup [.str "s", .int 3]) := upd_same
  have g6 := C_new hS6 ht2
  show tCons _ _ _ (upd H5 t2 (.tup [.str "s", .int 3])) _
  generalize upd H5 t2 (.tup [.str "s", .int 3]) = H6 at Z6 f6 ⊢
  have hS7 := hS6.ext (ext_same Z6)
  refine ⟨by show 15 ≤ sizeLine; decide, fun sm hsm => ?_⟩
  have Z7 := same_new' hsm (.lst [.non, .int 5, .int (-1), .bl true, .str "a", .str "", .ref l1, .ref t1, .ref d1, .ref l3, .int (10 ^ 17), .ref t2, .bl false, .int 0, .int 1])
  have f7 : upd H6 sm (.lst [.non, .int 5, .int (-1), .bl true, .str "a", .str "", .ref l1, .ref t1, .ref d1, .ref l3, .int (10 ^ 17), .ref t2, .bl false, .int 0, .int 1]) sm = some (.lst [.non, .int 5, .int (-1), .bl true, .str "a", .str "", .ref l1, .ref t1, .ref d1, .ref l3, .int (10 ^ 17), .ref t2, .bl false, .int 0, .int 1]) := upd_same
  have g7 := C_new hS7 hsm
  show tSeq (tFor (iRng1 (tCons (tC (.int 3)) tNil)) (gName 3) (tTurn K mg)) (tSeq (tFor (iTup K (tTup (tCons (tLst (tCons (tC (.str "v")) tNil)) (tCons (tDisp [(tC (.str "v"), tC (.int 1))]) tNil)))) (gName 13) (tHeld K mg)) (tRet (tC (.bl true)))) _
    [some (.ref a), some (.ref st), some (.ref sm), none, none, none, none, none, none, none, none, none, none, none] (upd H6 sm (.lst [.non, .int 5, .int (-1), .bl true, .str "a", .str "", .ref l1, .ref t1, .ref d1, .ref l3, .int (10 ^ 17), .ref t2, .bl false, .int 0, .int 1]))
  generalize upd H6 sm (.lst [.non, .int 5, .int (-1), .bl true, .str "a", .str "", .ref l1, .ref t1, .ref d1, .ref l3, .int (10 ^ 17), .ref t2, .bl false, .int 0, .int 1]) = H7 at Z7 f7 ⊢
  have hS8 := hS7.ext (ext_same Z7)
  have Z57 := Z6.trans Z7
  have Z37 := (Z3.trans Z45).trans Z57
  have c1 := Cr.mk (Z37 _ _ (Z2 _ _ f1)) (fun _ z => by cases z) g1.1 g1.2
  have c2 := Cr.mk (Z37 _ _ f2) (fun _ z => by cases z) g2.1 g2.2
  have c3 := Cr.mk ((Z45.trans Z57) _ _ f3) (fun _ z => by cases z) g3.1 g3.2
  have c4 := Cr.mk (Z57 _ _ f4') (fun _ z => by cases z) g4.1 g4.2
  have c5 := Cr.mk (Z57 _ _ f5) (fun _ z => by cases z) g5.1 g5.2
  have c6 := Cr.mk (Z7 _ _ f6) (fun _ z => by cases z) g6.1 g6.2
  have c7 := Cr.mk f7 (fun _ z => by cases z) g7.1 g7.2
  have hT7 : Tabs TT H7 := hT1.ext ((Z1.trans Z2).trans Z37)
  have hx : ∀ x ∈ [V.non, .int 5, .int (-1), .bl true, .str "a", .str "", .ref l1, .ref t1, .ref d1, .ref l3, .int (10 ^ 17), .ref t2, .bl false, .int 0, .int 1], Sm (Cr st q H7) 3 x x := by
    intro x hx
    simp only [List.mem_cons, List.not_mem_nil, or_false] at hx
    rcases hx with rfl | rfl | rfl | rfl | rfl | rfl | rfl | rfl | rfl | rfl | rfl | rfl | rfl | rfl | rfl
    · exact Sm.flat rfl _
    · exact Sm.flat rfl _
    · exact Sm.flat rfl _
    · exact Sm.flat rfl _
    · exact Sm.flat rfl _
    · exact Sm.flat rfl _
    · exact .inr (.inl ⟨_, _, _, _, rfl, rfl, .inl ⟨c1, c1⟩, by show 2 ≤ 1000; decide, .cons (Sm.flat rfl _) (.cons (Sm.flat rfl _) .nil)⟩)
    · exact .inr (.inl ⟨_, _, _, _, rfl, rfl, .inr ⟨c2, c2⟩, by show 2 ≤ 1000; decide, .cons (Sm.flat rfl _) (.cons (Sm.flat rfl _) .nil)⟩)
    · refine .inr (.inr ⟨0, _, _, _, rfl, rfl, rfl, c3, c3, by show 1 ≤ 1000; decide, fun p hp => ?_⟩)
      rw [List.mem_singleton.mp hp]
      rfl
    · exact .inr (.inl ⟨_, _, _, _, rfl, rfl, .inl ⟨c5, c5⟩, by show 1 ≤ 1000; decide, .cons (.inr (.inl ⟨_, _, _, _, rfl, rfl, .inl ⟨c4, c4⟩, by show 1 ≤ 1000; decide, .cons (Sm.flat rfl _) .nil⟩)) .nil⟩)
    · exact Sm.flat rfl _
    · exact .inr (.inl ⟨_, _, _, _, rfl, rfl, .inr ⟨c6, c6⟩, by show 2 ≤ 1000; decide, .cons (Sm.flat rfl _) (.cons (Sm.flat rfl _) .nil)⟩)
    · exact Sm.flat rfl _
    · exact Sm.flat rfl _
    · exact Sm.flat rfl _
  have hl0 : 0 < ([V.non, .int 5, .int (-1), .bl true, .str "a", .str "", .ref l1, .ref t1, .ref d1, .ref l3, .int (10 ^ 17), .ref t2, .bl false, .int 0, .int 1] : List V).length := by show 0 < 15; decide
  have hl1 : ([V.non, .int 5, .int (-1), .bl true, .str "a", .str "", .ref l1, .ref t1, .ref d1, .ref l3, .int (10 ^ 17), .ref t2, .bl false, .int 0, .int 1] : List V).length ≤ 1000 := by show 15 ≤ 1000; decide
  clear f7 c1 c2 c3 c4 c5 c6 Z37 Z57 hS7 hS6 hS5 hS4 hS3 hS2 hSt Z1 Z2 Z3 Z45 Z6 Z7 f1 f2 f3 f4' f5 f6 hsm hT1
  generalize [V.non, .int 5, .int (-1), .bl true, .str "a", .str "", .ref l1, .ref t1, .ref d1, .ref l3, .int (10 ^ 17), .ref t2, .bl false, .int 0, .int 1] = xs at c7 hx hl0 hl1
  refine ⟨3, rfl, by decide, by decide, ?_⟩
  refine for_range (lo := 0) (n := 3) (fun i σ H' => StrAt H' st q (2 * (i : Int)) ∧ Tabs TT H' ∧ Same (Cr st q H7) (Cr st q H') ∧ ∃ b3 b4 b5 b6 b7 b8 b9 b10 b11 b12 b13, σ = [some (.ref a), some (.ref st), some (.ref sm), b3, b4, b5, b6, b7, b8, b9, b10, b11, b12, b13])
    ⟨(by rw [show (2 : Int) * ((0 : Nat) : Int) = 0 from rfl]; exact hS8), hT7, fun _ _ e => e, _, _, _, _, _, _, _, _, _, _, _, rfl⟩ ?_ ?_
  · rintro i σ H8 hi ⟨s8, T8, C8, b3, b4, b5, b6, b7, b8, b9, b10, b11, b12, b13, rfl⟩
    refine turn_ok hs nsq s8 (by omega) (by omega) T8 (C8 _ _ c7) hl0 hl1 (fun x hx' => Sm.same C8 (hx x hx')) fun b4 b5 b6 b7 b8 b9 b10 b11 b12 H9 s9 T9 C9 => ?_
    refine ⟨?_, T9, C8.trans C9, _, _, _, _, _, _, _, _, _, _, _, rfl⟩
    rwa [show (2 : Int) * (i : Int) + 2 = 2 * ((i + 1 : Nat) : Int) by omega] at s9
  · rintro σ H8 ⟨_, T8, _, b3, b4, b5, b6, b7, b8, b9, b10, b11, b12, b13, rfl⟩
    refine ⟨by show 1 ≤ sizeLine; decide, fun hl hhl => ?_⟩
    refine fun hd hhd => ⟨upd_same, [(Sum.inr "v", .int 1)], rfl, by show 1 ≤ 15; decide, ?_⟩
    rw [upd_upd, show mergeK [] [((Sum.inr "v" : Key), V.int 1)] = ([(Sum.inr "v", V.int 1)] : List (Key × V)) from rfl]
    refine ⟨by show 2 ≤ sizeLine; decide, fun tp htp => ?_⟩
    have Y1 := same_new' hhl (.lst [.str "v"])
    have Y2 := same_new' hhd (.dK [(Sum.inr "v", .int 1)])
    have Y3 := same_new' htp (.tup [.ref hl, .ref hd])
    have y1 : upd (upd (upd H8 hl (.lst [.str "v"])) hd (.dK [(Sum.inr "v", .int 1)])) tp (.tup [.ref hl, .ref hd]) hl = some (.lst [.str "v"]) := Y3 _ _ (Y2 _ _ upd_same)
    have y2 : upd (upd (upd H8 hl (.lst [.str "v"])) hd (.dK [(Sum.inr "v", .int 1)])) tp (.tup [.ref hl, .ref hd]) hd = some (.dK [(Sum.inr "v", .int 1)]) := Y3 _ _ upd_same
    have y3 : upd (upd (upd H8 hl (.lst [.str "v"])) hd (.dK [(Sum.inr "v", .int 1)])) tp (.tup [.ref hl, .ref hd]) tp = some (.tup [.ref hl, .ref hd]) := upd_same
    have T9 := T8.ext ((Y1.trans Y2).trans Y3)
    refine ⟨tp, rfl, ⟨_, SqT.of y3⟩, ?_⟩
    generalize upd (upd (upd H8 hl (.lst [.str "v"])) hd (.dK [(Sum.inr "v", .int 1)])) tp (.tup [.ref hl, .ref hd]) = H9 at y1 y2 y3 T9 ⊢
    refine for_tup (xs := [.ref hl, .ref hd]) (fun i σ H' => Tabs TT H' ∧ H' tp = some (.tup [.ref hl, .ref hd]) ∧ (i = 0 → H' hl = some (.lst [.str "v"])) ∧ (i ≤ 1 → H' hd = some (.dK [(Sum.inr "v", .int 1)])) ∧
      ∃ b3 b4 b5 b6 b7 b8 b9 b10 b11 b12 b13, σ = [some (.ref a), some (.ref st), some (.ref sm), b3, b4, b5, b6, b7, b8, b9, b10, b11, b12, b13]) ⟨T9, y3, fun _ => y1, fun _ => y2, _, _, _, _, _, _, _, _, _, _, _, rfl⟩ (fun i σ H' _ p => SqT.of p.2.1) ?_ ?_
    · rintro i x σ H10 hx' ⟨T10, z3, z1, z2, b3, b4, b5, b6, b7, b8, b9, b10, b11, b12, b13, rfl⟩
      match i, hx' with
      | 0, hx' =>
        cases hx'
        have z1 := z1 rfl
        have z2 := z2 (by decide)
        refine heldL_ok hs T10 z1 fun b6 b9 b10 b11 b12 H11 kk T11 => ?_
        exact ⟨T11, kk _ _ z3 (fun _ z => by cases z) (ne_of z3 z1 (fun z => by cases z)), (fun z => by cases z), fun _ => kk _ _ z2 (fun _ z => by cases z) (ne_of z2 z1 (fun z => by cases z)), _, _, _, _, _, _, _, _, _, _, _, rfl⟩
      | 1, hx' =>
        cases hx'
        have z2 := z2 (by decide)
        refine heldD_ok hs T10 z2 fun b6 b9 b10 b11 b12 H11 kk T11 => ?_
        exact ⟨T11, kk _ _ z3 (fun _ z => by cases z) (ne_of z3 z2 (fun z => by cases z)), (fun z => by cases z), fun z => absurd z (by decide), _, _, _, _, _, _, _, _, _, _, _, rfl⟩
      | i + 2, hx' => cases hx'
    · rintro σ H10 _
      exact kq H10
end
end N0
set_option Elab.async false
set_option linter.all false
set_option maxRecDepth 100000
set_option maxHeartbeats 4000000
/-! the end -/
namespace N0
open PySem PySem.Spec PySem.W PyProof.Rows L2 LamX LiI RZ K00
theorem kfacts (p : Params) : KFacts (KP p) := ⟨facts p, funcs p, sf1 p⟩
def codeOf (K : Frag) (a : Addr) : Option Value := match K.lookup a with
  | some ⟨_, _, .func fd, _⟩ => some fd.code
  | _ => none
theorem codes (p : Params) : (codeOf (KP p) 2042, codeOf (KP p) 2049) = (some (.ref 2041), some (.ref 2048)) := by kernel_rfl
theorem code_of {K : Frag} {x q : Str} {st : Stmt} {f : Addr} {fd : FuncData} {v : Value} (F : Fun K x q st f fd) (h : codeOf K f = some v) : fd.code = v := by
  obtain ⟨oc, od, kV, doc, pm, an, cdv, ct, osl, rfl, lk, hcd⟩ := F.ex
  unfold codeOf at h
  rw [lk] at h
  exact Option.some.inj h
theorem def_of {K : Frag} (h : KFacts K) {d : Str × Addr × Nat} (hd : d ∈ dfs) : ∃ fd, Fun K d.1 d.1 (top d.2.2) d.2.1 fd ∧ nsIn K mainGlobals d.1 = some (some (.ref d.2.1)) := by
  have e := map_at (f := fun d : Str × Addr × Nat => fnV K d.2.1) (g := fun d : Str × Addr × Nat => fnQ d.1 d.1 (top d.2.2)) (show _ = _ from congrArg Prod.snd h.fv) d hd
  have ok := h.ok
  unfold okK at ok
  simp only [Bool.and_eq_true] at ok
  have c := List.all_eq_true.mp ok.2.2.2.2.2.2.1 d hd
  rw [Bool.and_eq_true] at c
  obtain ⟨fd, F, _⟩ := fn_mk e c.2
  exact ⟨fd, F, He.eqO_ok c.1⟩
theorem free_of {K : Frag} (h : KFacts K) {x : Str} (hx : x ∈ freeP) : nsIn K mainGlobals x = some none := by
  have ok := h.ok
  unfold okK at ok
  simp only [Bool.and_eq_true] at ok
  exact He.eqO_ok (List.all_eq_true.mp ok.2.2.2.2.2.2.2.1 x hx)
theorem whole_of {K : Frag} (h : KFacts K) : nsIn K mainGlobals "WholeError" = some (some (.ref wAd)) := by
  have ok := h.ok
  unfold okK at ok
  simp only [Bool.and_eq_true] at ok
  exact He.eqO_ok ok.2.2.2.2.2.2.2.2.1
theorem tabs_ok {K : Frag} (h : KFacts K) {q : Addr × Addr} (hq : q ∈ tabsP) : codeHdIn K q.1 q.2 = true ∧ K.lookup q.2 = none := by
  have ok := h.ok
  unfold okK at ok
  simp only [Bool.and_eq_true] at ok
  have c := List.all_eq_true.mp ok.2.2.2.2.2.2.2.2.2 q hq
  rw [Bool.and_eq_true] at c
  exact ⟨c.1, Option.isNone_iff_eq_none.mp c.2⟩
section
variable {P : Program} {w : World} {K : PySem.W.Frag} {mg : Str → Option Value} {base : Heap}
theorem df_mk {x : Str} {st : Stmt} {f : Addr} {fd : FuncData} {k : Nat} {ps : List Str} {sp : Sp} (F : Fun K x x st f fd) (m : mg x = some (.ref f)) (b : Binds K fd ps []) (o : FnOk P w K mg base CX0 k f fd ps sp) : Df P w K mg base x k ps sp := ⟨f, fd, m, F.kp, b, o⟩
theorem dfs_at {i : Nat} {d : Str × Addr × Nat} (h : dfs[i]? = some d) : d ∈ dfs := List.mem_of_getElem? h
theorem all_facts {h : Heap} (KF : KFacts K) (hc : (codeOf K 2042, codeOf K 2049) = (some (.ref 2041), some (.ref 2048))) (KX : K.In h) (G : h.Ns mainGlobals mg) {fa : Addr} (hfa : mg ("law" : Str) = some (.ref fa)) :
    ∃ fd : FuncData, (∀ (s : Shared) (u : Value), BindsTo s fd ⟨[u], []⟩ [("script", u)]) ∧ ∀ base : Heap, (∀ p ∈ tabsP, TabB base mg p.1 p.2) → FnOk P w K mg base CX0 7 fa fd ["script"] (spLaw K) := by
  have hs := sf_of (mg := mg) KF fun x a e => mg_of KX G e
  have fr : ∀ x, x ∈ freeP → mg x = none := fun x hx => mg_none_of KX G (free_of KF hx)
  obtain ⟨fd0, F0, m0⟩ := def_of KF (dfs_at (i := 0) rfl)
  obtain ⟨fd1, F1, m1⟩ := def_of KF (dfs_at (i := 1) rfl)
  obtain ⟨fd2, F2, m2⟩ := def_of KF (dfs_at (i := 2) rfl)
  obtain ⟨fd3, F3, m3⟩ := def_of KF (dfs_at (i := 3) rfl)
  obtain ⟨fd4, F4, m4⟩ := def_of KF (dfs_at (i := 4) rfl)
  obtain ⟨fd5, F5, m5⟩ := def_of KF (dfs_at (i := 5) rfl)
  obtain ⟨fd6, F6, m6⟩ := def_of KF (dfs_at (i := 6) rfl)
  obtain ⟨fd7, F7, m7⟩ := def_of KF (dfs_at (i := 7) rfl)
  obtain ⟨fd8, F8, m8⟩ := def_of KF (dfs_at (i := 8) rfl)
  obtain ⟨fd9, F9, m9⟩ := def_of KF (dfs_at (i := 9) rfl)
  have m0 := mg_of KX G m0
  have m1 := mg_of KX G m1
  have m2 := mg_of KX G m2
  have m3 := mg_of KX G m3
  have m4 := mg_of KX G m4
  have m5 := mg_of KX G m5
  have m6 := mg_of KX G m6
  have m7 := mg_of KX G m7
  have m8 := mg_of KX G m8
  have m9 := mg_of KX G m9
  cases hfa.symm.trans m9
  have b0 : Binds K fd0 ["script"] [] := F0.binds fun _ _ _ _ _ _ us hl => match us, hl with | [_], _ => rfl
  have b1 : Binds K fd1 ["stream", "many"] [] := F1.binds fun _ _ _ _ _ _ us hl => match us, hl with | [_, _], _ => rfl
  have b2 : Binds K fd2 ["stream", "things"] [] := F2.binds fun _ _ _ _ _ _ us hl => match us, hl with | [_, _], _ => rfl
  have b3 : Binds K fd3 ["found", "due"] [] := F3.binds fun _ _ _ _ _ _ us hl => match us, hl with | [_, _], _ => rfl
  have b4 : Binds K fd4 ["x"] [] := F4.binds fun _ _ _ _ _ _ us hl => match us, hl with | [_], _ => rfl
  have b5 : Binds K fd5 ["x"] [] := F5.binds fun _ _ _ _ _ _ us hl => match us, hl with | [_], _ => rfl
  have b6 : Binds K fd6 ["e"] [] := F6.binds fun _ _ _ _ _ _ us hl => match us, hl with | [_], _ => rfl
  have b7 : Binds K fd7 ["e"] [] := F7.binds fun _ _ _ _ _ _ us hl => match us, hl with | [_], _ => rfl
  have b8 : Binds K fd8 ["e", "at"] [] := F8.binds fun _ _ _ _ _ _ us hl => match us, hl with | [_, _], _ => rfl
  have mi := fr "isinstance" (by decide +kernel)
  have ml := fr "list" (by decide +kernel)
  have mt := fr "tuple" (by decide +kernel)
  have mn := fr "len" (by decide +kernel)
  have ma := fr "all" (by decide +kernel)
  have mz := fr "zip" (by decide +kernel)
  have md := fr "dict" (by decide +kernel)
  have mb := fr "bool" (by decide +kernel)
  have mI := fr "int" (by decide +kernel)
  have ms := fr "str" (by decide +kernel)
  have mr := fr "range" (by decide +kernel)
  have me := fr "enumerate" (by decide +kernel)
  have mab := fr "abs" (by decide +kernel)
  have mv := fr "ValueError" (by decide +kernel)
  have x1 := fr "LookupError" (by decide +kernel)
  have x2 := fr "TypeError" (by decide +kernel)
  have x3 := fr "ArithmeticError" (by decide +kernel)
  have x4 := fr "AttributeError" (by decide +kernel)
  have x5 := fr "RuntimeError" (by decide +kernel)
  have mw := mg_of KX G (whole_of KF)
  have c1 := code_of F4 (congrArg Prod.fst hc)
  have c2 := code_of F5 (congrArg Prod.snd hc)
  refine ⟨fd9, fun s u => ?_, fun base TB => ?_⟩
  · obtain ⟨oc, od, kV, doc, pm, an, cdv, ct, osl, rfl, lk, hcd⟩ := F9.ex
    exact .of_eq rfl
  have t1 := TB (2041, 2037) (by decide)
  have t2 := TB (2048, 2044) (by decide)
  have DT : Df P w K mg base "_law_stream" 1 ["script"] (spStream K) := df_mk F0 m0 b0 (ok_stream F0 ml)
  have DD : Df P w K mg base "_law_draw" 1 ["stream", "many"] spDraw := df_mk F1 m1 b1 (ok_draw F1 mab mI)
  have DP : Df P w K mg base "_law_pick" 2 ["stream", "things"] spPick := df_mk F2 m2 b2 (ok_pick F2 DD mn)
  have DS : Df P w K mg base "_law_same" 6 ["found", "due"] (spSame 4) := df_mk F3 m3 b3 (ok_same F3 m3 b3 mi ml mt mn ma mz md mb mI ms 4)
  have DA : Df P w K mg base "_law_made_a" 3 ["x"] (spMade TT qA spsA) := df_mk F4 m4 b4 (by
    have z := ok_made (P := P) (w := w) (base := base) (T := TT) (q := qA) F4 madeA (fun p hp => hs _ (subA _ (by rw [← lA]; exact List.mem_map_of_mem hp))) c1 t1 rfl (by decide +kernel) (by decide +kernel)
    rw [lA] at z
    exact z)
  have DB : Df P w K mg base "_law_made_b" 3 ["x"] (spMade TT qB spsB) := df_mk F5 m5 b5 (by
    have z := ok_made (P := P) (w := w) (base := base) (T := TT) (q := qB) F5 madeB (fun p hp => hs _ (subB _ (by rw [← lB]; exact List.mem_map_of_mem hp))) c2 t2 rfl (by decide +kernel) (by decide +kernel)
    rw [lB] at z
    exact z)
  have EA : Df P w K mg base "_law_kinds_a" 1 ["e"] (spKinds K spsA) := df_mk F6 m6 b6 (by
    have z := ok_kinds (P := P) (w := w) (base := base) KF hs F6 kindsA mi
    rw [trA] at z
    exact z)
  have EB : Df P w K mg base "_law_kinds_b" 1 ["e"] (spKinds K spsB) := df_mk F7 m7 b7 (by
    have z := ok_kinds (P := P) (w := w) (base := base) KF hs F7 kindsB mi
    rw [trB] at z
    exact z)
  have DO : Df P w K mg base "_law_is_own" 2 ["e", "at"] (spOwn K) := df_mk F8 m8 b8 (ok_own KF hs F8 mi mr mv x1 x2 x3 x4 x5 mw EA EB)
  exact ok_law KF hs F9 DT DP DA DB DO DS mr me ma mi md
end
end N0
open PySem PySem.W PySem.Calls PyProof.Rows
theorem PySem.Challenge.cw_neverhalf_k00_errors_made_holds : PySem.Challenge.rw_neverhalf_k00_errors_made.Holds := by
  w_on; o_law
  refine K00.head_P ?hc ?hw
  case hw => w_witness2
  case hc =>
    refine LamX.walk_ofTsE (l := PySem.Challenge.rw_neverhalf_k00_errors_made) (n := 63) (k := 7) (x := "script") (CX := fun _ => L2.CX0) rfl (by decide) (by kernel_rfl) ⟨rfl, by decide, by decide⟩ ?F (fun _ _ _ _ _ z => z)
    intro w mg fa h Y G hmg0
    have hmg : mg ("law" : PySem.Str) = some (.ref fa) := by
      have e : (HandSHeadRun.topDef (OpenLaw.row PySem.Challenge.rw_neverhalf_k00_errors_made).prog 121).name = ("law" : PySem.Str) := by kernel_rfl
      rw [← e]
      exact hmg0
    obtain ⟨KX, hT⟩ := Y
    have KF := N0.kfacts w.params
    obtain ⟨fd, hb, hF⟩ := N0.all_facts (P := (PySem.Challenge.rw_neverhalf_k00_errors_made).prog) (w := w) KF (N0.codes w.params) KX G hmg
    refine ⟨K00.KP w.params, KX, fd, K00.tabsP, N0.spLaw (K00.KP w.params), hT, fun p hp => (N0.tabs_ok KF hp).2, fun p hp => codeHd_of_K KX (N0.tabs_ok KF hp).1, hb, fun H a ns hl _ hH hS => ?_, fun base _ _ TB => hF base TB⟩
    refine ⟨a, ns, rfl, hS, hl, fun p hp => ?_, fun _ => rfl⟩
    have z : ∃ c, (c, p.1) ∈ K00.tabsP := by
      rcases List.mem_cons.mp hp with e | e
      · exact ⟨2041, by rw [e]; decide⟩
      · exact ⟨2048, by rw [List.mem_singleton.mp e]; decide⟩
    obtain ⟨c, hc⟩ := z
    exact LamX.TabS.nil (hH _ hc)
