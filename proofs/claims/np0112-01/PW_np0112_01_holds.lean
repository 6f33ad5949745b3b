import PyProof.Rows.All
import Wide.All
import OpenK.AllK
import Wide.FinOn
import KE.KSortTup
import Lean
import PySem.Challenge.RW_np0112_01
set_option Elab.async false
set_option maxRecDepth 100000
set_option maxHeartbeats 8000000
section
open PySem PySem.W PyProof.Rows
namespace MineH
theorem said3 : namesResolve PySem.Challenge.rw_np0112_01.row.prog = true := by rw [Fast.te8377067652309620493]; kernel_rfl
theorem said4 : List.filter (readsOut PySem.Challenge.rw_np0112_01.row.prog PySem.Challenge.rw_np0112_01.row.prog.main.body) [Str.ofString "vars", Str.ofString "dir", Str.ofString "locals"] = [] := by rw [Fast.te13343964577679436407]; kernel_rfl
theorem said5 : noRoadLSs { strict := !(importedModules PySem.Challenge.rw_np0112_01.row.prog.main.body).all cThrough.contains, foot := none, bare := List.filter (readsOut PySem.Challenge.rw_np0112_01.row.prog PySem.Challenge.rw_np0112_01.row.prog.main.body) [Str.ofString "vars", Str.ofString "dir", Str.ofString "locals"] } PySem.Challenge.rw_np0112_01.row.prog.main.body = true := by rw [said4, Fast.te8326940854005059898]; kernel_rfl
theorem said6 : (namesMeet PySem.Challenge.rw_np0112_01.row.prog PySem.Challenge.rw_np0112_01.row.prog.main.body fun _ n => attrL n) = true := by rw [Fast.te17119622794617984870, Fast.te17868728402115742887]; kernel_rfl
theorem said31 : (PySem.Challenge.rw_np0112_01.bound'.all fun n => !builtinNamed n || PySem.Challenge.rw_np0112_01.about == [n] || !PySem.Challenge.rw_np0112_01.reads n) = true := by rw [Fast.named_eq]; kernel_rfl
theorem said38 : (namesMeet PySem.Challenge.rw_np0112_01.prog PySem.Challenge.rw_np0112_01.above fun _ n => !PySem.Challenge.rw_np0112_01.own.contains n) = true := by rw [Fast.te17119622794617984870]; kernel_rfl
theorem said : PySem.Challenge.rw_np0112_01.wellSaid = true := by
  delta OpenLaw.wellSaid OpenRow.wellSaid OpenRow.partSaid looksOpen
  repeat' (with_reducible apply look_both)
  all_goals first | with_reducible exact said3 | with_reducible exact said5 | with_reducible exact said6 | with_reducible exact said31 | with_reducible exact said38 | kernel_rfl
end MineH
end
section
open PySem PySem.W PyProof.Rows
namespace MineH
noncomputable def pg : Program := PySem.Challenge.pw_np0112_01
noncomputable def bd : List Stmt := behindTheImports pg
noncomputable def sA (i : Nat) : Stmt := match bd.drop i with | s :: _ => s | [] => default
noncomputable def mA (i j : Nat) : Stmt := match sA i with | .ClassDef _ _ _ b _ _ _ _ _ _ _ => (match b.drop j with | s :: _ => s | [] => default) | s => s
noncomputable def sv (s : String) (t : Nat) : Value := .str (Str.ofString s) t
noncomputable def svs : List String → Nat → List Value | [], _ => [] | s :: r, t => sv s t :: svs r (t + 1)
noncomputable def oc (c : String) (d : Data) : Obj := ⟨.type c, none, d, Array.mk []⟩
noncomputable def fi (l : List Value) : Obj := ⟨.none, none, .fields (Array.mk l), Array.mk []⟩
noncomputable def tu (l : List Value) : Obj := oc "tuple" (.seq (Array.mk l) 0)
noncomputable def tn (l : List String) (t : Nat) : Obj := tu (svs l t)
noncomputable def fd (s : Stmt) (q : String) (g : Nat) (m c : Value) : Data := match s with
  | .FunctionDef n a b _ _ _ sc _ _ _ => .func { name := n, qualname := Str.ofString q, params := a, body := .stmts b, scope := sc, globals := g, closure := [], defaults := .none, kwdefaults := .none, pyModule := m, code := c }
  | _ => .plain
noncomputable def pr (s : Stmt) (q : String) : Obj := ⟨.none, none, fd s q 0 .none .none, Array.mk []⟩
noncomputable def fn (s : Stmt) (q m : String) (t c : Nat) : Obj := oc "function" (fd s q 3 (sv m t) (.ref c))
noncomputable def co (n q : String) (t : Nat) (l k : Int) (a : Nat) (h : Nat) : Obj := oc "code" (.fields (Array.mk [sv n t, sv q (t + 1), sv "/claim/cut.py" (t + 2), .int l 0, .int k 0, .int 0 0, .int 0 0, .int 3 0, .ref a, .bool true, .int 181 0, .ref (a + 1), .none, .ref (a + 2), .ref (a + 3), .ref (a + 4), .int h 0, .int l 0, sv "/claim/cut.py" (h + 1)]))
noncomputable def de (P : Params) (k : String) (t : Nat) (v : Value) : DictEntry := ⟨PyData.keyHash P (Str.ofString k), sv k t, v⟩
noncomputable def er (P : Params) (k : String) (t : Nat) (a : Nat) : DictEntry := de P k t (.ref a)
noncomputable def ln (l : List (Int × Nat)) : List Value := match l with | [] => [] | (a, b) :: r => .int a 0 :: .int 0 0 :: .ref b :: ln r
noncomputable def alt (b : Bool) (l : List Obj) : List Obj := @List.rec Obj (fun _ => Bool → List Obj) (fun _ => []) (fun a _ ih b => @Bool.rec (fun _ => List Obj) (ih true) (a :: ih false) b) l b
noncomputable def build (n : Nat) (l : List Obj) : BT := @Nat.rec (fun _ => List Obj → BT) (fun _ => .nil) (fun _ ih l => @List.rec Obj (fun _ => BT) .nil (fun v r _ => .node v (ih (alt true r)) (ih (alt false r))) l) n l
noncomputable def F15 (P : Params) : List Obj := [
tu [],
  fi [],
  tn ["k"] 190,
  tu [],
  pr (sA 0) "_wall",
  co "_wall" "_wall" 187 1 1 15 191,
  fn (sA 0) "_wall" "__main__" 164 20,
  tu [],
  oc "builtin_function_or_method" (.fields (Array.mk [(.builtin "type.__prepare__"), (.type "type")])),
  oc "dict" (.dict (Array.mk [de P "__module__" 203 (sv "emacs.intervals" 194), de P "__qualname__" 205 (sv "Interval" 204), de P "__firstlineno__" 207 (.int 5 206), er P "__init__" 216 35, er P "__static_attributes__" 222 36]) 5),
  tu [],
  fi [(.int 7 0), (.int 4 0), (.ref 34)],
  oc "code" (.fields (Array.mk [(sv "Interval" 198), (sv "Interval" 199), (sv "/claim/cut.py" 200), (.int 5 0), (.int 0 0), (.int 0 0), (.int 0 0), (.int 0 0), (.ref 25), (.bool false), (.int 181 0), (.ref 26), .none, .none, .none, .none, (.int 201 0), (.int 5 0), (sv "/claim/cut.py" 202)])),
  ⟨(.type "frame"), none, .plain, Array.mk [some (.ref 27), some (.ref 3), some (.ref 24), none, some (sv "emacs.intervals" 194), none, some (.ref 0)]⟩,
  tu [],
  fi [],
  tn ["self", "total", "plist"] 211,
  tu [],
  pr (mA 2 0) "Interval.__init__",
  co "__init__" "Interval.__init__" 208 7 3 29 214,
  fn (mA 2 0) "Interval.__init__" "emacs.intervals" 194 34,
  tn ["left", "parent", "plist", "right", "total"] 217,
  oc "dict" (.dict (Array.mk [de P "__module__" 203 (sv "emacs.intervals" 194), de P "__firstlineno__" 207 (.int 5 206), er P "__init__" 216 35, er P "__static_attributes__" 222 36, er P "__dict__" 224 39, er P "__weakref__" 226 40, de P "__doc__" 227 .none]) 4),
  ⟨(.type "type"), none, .cls { name := Str.ofString "Interval", bases := [(.type "object")], mro := [(.ref 38), (.type "object")], ns := 37, qualname := Str.ofString "Interval" }, Array.mk [none, none, some (sv "Interval" 196), some (sv "Interval" 204), some (.builtin "object.__new__"), some (.bool true)]⟩,
  oc "getset_descriptor" (.fields (Array.mk [(sv "__dict__" 223), (.ref 38), (.builtin "function.__dict__"), (.builtin "function.__dict__#set")])),
  oc "getset_descriptor" (.fields (Array.mk [(sv "__weakref__" 225), (.ref 38), (.builtin "ExceptionGroup.__weakref__"), .none])),
  oc "super" (.fields (Array.mk [(.ref 38), (.ref 38), (.ref 38)])),
  oc "builtin_function_or_method" (.fields (Array.mk [(.builtin "object.__init_subclass__"), (.ref 38)]))]
noncomputable def F43 (P : Params) : List Obj := [
tu [],
  oc "builtin_function_or_method" (.fields (Array.mk [(.builtin "type.__prepare__"), (.type "type")])),
  oc "dict" (.dict (Array.mk [de P "__module__" 237 (sv "emacs.intervals" 194), de P "__qualname__" 239 (sv "IntervalTree" 238), de P "__firstlineno__" 241 (.int 13 240), er P "__init__" 250 56, er P "__static_attributes__" 252 57]) 5),
  tu [],
  fi [(.int 15 0), (.int 4 0), (.ref 55)],
  oc "code" (.fields (Array.mk [(sv "IntervalTree" 232), (sv "IntervalTree" 233), (sv "/claim/cut.py" 234), (.int 13 0), (.int 0 0), (.int 0 0), (.int 0 0), (.int 0 0), (.ref 46), (.bool false), (.int 181 0), (.ref 47), .none, .none, .none, .none, (.int 235 0), (.int 13 0), (sv "/claim/cut.py" 236)])),
  ⟨(.type "frame"), none, .plain, Array.mk [some (.ref 48), some (.ref 3), some (.ref 45), none, some (sv "emacs.intervals" 194), none, some (.ref 0)]⟩,
  tu [],
  fi [],
  tn ["self", "length", "plist"] 245,
  tu [],
  pr (mA 3 0) "IntervalTree.__init__",
  co "__init__" "IntervalTree.__init__" 242 15 3 50 248,
  fn (mA 3 0) "IntervalTree.__init__" "emacs.intervals" 194 55,
  tn ["root"] 251,
  oc "dict" (.dict (Array.mk [de P "__module__" 237 (sv "emacs.intervals" 194), de P "__firstlineno__" 241 (.int 13 240), er P "__init__" 250 56, er P "__static_attributes__" 252 57, er P "__dict__" 254 60, er P "__weakref__" 256 61, de P "__doc__" 257 .none]) 4),
  ⟨(.type "type"), none, .cls { name := Str.ofString "IntervalTree", bases := [(.type "object")], mro := [(.ref 59), (.type "object")], ns := 58, qualname := Str.ofString "IntervalTree" }, Array.mk [none, none, some (sv "IntervalTree" 230), some (sv "IntervalTree" 238), some (.builtin "object.__new__"), some (.bool true)]⟩,
  oc "getset_descriptor" (.fields (Array.mk [(sv "__dict__" 253), (.ref 59), (.builtin "function.__dict__"), (.builtin "function.__dict__#set")])),
  oc "getset_descriptor" (.fields (Array.mk [(sv "__weakref__" 255), (.ref 59), (.builtin "ExceptionGroup.__weakref__"), .none])),
  oc "super" (.fields (Array.mk [(.ref 59), (.ref 59), (.ref 59)])),
  oc "builtin_function_or_method" (.fields (Array.mk [(.builtin "object.__init_subclass__"), (.ref 59)])),
  tu [],
  fi [],
  tn ["node"] 263,
  tu [],
  pr (sA 4) "total_of",
  co "total_of" "total_of" 260 17 1 64 264,
  fn (sA 4) "total_of" "emacs.intervals" 194 69,
  tu [],
  fi [],
  tn ["node"] 270,
  tu [],
  pr (sA 5) "own_length",
  co "own_length" "own_length" 267 19 1 71 271,
  fn (sA 5) "own_length" "emacs.intervals" 194 76,
  tu [],
  fi [],
  tn ["tree"] 277,
  tu [],
  pr (sA 6) "text_length",
  co "text_length" "text_length" 274 21 1 78 278,
  fn (sA 6) "text_length" "emacs.intervals" 194 83,
  tu [],
  fi [],
  tn ["tree", "node", "other", "parent"] 284,
  tu [],
  pr (sA 7) "put_in_stead",
  co "put_in_stead" "put_in_stead" 281 23 3 85 288,
  fn (sA 7) "put_in_stead" "emacs.intervals" 194 90,
  tu [],
  fi [],
  tn ["node", "son"] 294,
  tu [],
  pr (sA 8) "set_left",
  co "set_left" "set_left" 291 33 2 92 296,
  fn (sA 8) "set_left" "emacs.intervals" 194 97]
noncomputable def F99 (P : Params) : List Obj := [
tu [],
  fi [],
  tn ["node", "son"] 302,
  tu [],
  pr (sA 9) "set_right",
  co "set_right" "set_right" 299 37 2 99 304,
  fn (sA 9) "set_right" "emacs.intervals" 194 104,
  tu [],
  fi [],
  tn ["tree", "node", "son", "total"] 310,
  tu [],
  pr (sA 10) "rotate_right",
  co "rotate_right" "rotate_right" 307 41 2 106 314,
  fn (sA 10) "rotate_right" "emacs.intervals" 194 111,
  tu [],
  fi [],
  tn ["tree", "node", "son", "total"] 320,
  tu [],
  pr (sA 11) "rotate_left",
  co "rotate_left" "rotate_left" 317 50 2 113 324,
  fn (sA 11) "rotate_left" "emacs.intervals" 194 118,
  tu [],
  fi [],
  tn ["node", "son", "difference"] 330,
  tu [],
  pr (sA 12) "right_turn_helps",
  co "right_turn_helps" "right_turn_helps" 327 59 1 120 333,
  fn (sA 12) "right_turn_helps" "emacs.intervals" 194 125,
  tu [],
  fi [],
  tn ["node", "son", "difference"] 339,
  tu [],
  pr (sA 13) "left_turn_helps",
  co "left_turn_helps" "left_turn_helps" 336 65 1 127 342,
  fn (sA 13) "left_turn_helps" "emacs.intervals" 194 132,
  tu [],
  fi [],
  tn ["tree", "node", "waiting", "top", "here", "son"] 348,
  tu [],
  pr (sA 14) "settle",
  co "settle" "settle" 345 71 2 134 354,
  fn (sA 14) "settle" "emacs.intervals" 194 139,
  tu [],
  fi [],
  tn ["tree", "node"] 360,
  tu [],
  pr (sA 15) "settle_up",
  co "settle_up" "settle_up" 357 85 2 141 362,
  fn (sA 15) "settle_up" "emacs.intervals" 194 146,
  tu [],
  fi [],
  tn ["node", "many"] 368,
  tu [],
  pr (sA 16) "add_above",
  co "add_above" "add_above" 365 88 2 148 370,
  fn (sA 16) "add_above" "emacs.intervals" 194 153,
  tu [],
  fi [],
  tn ["tree", "at", "node", "begin", "ahead", "own"] 376,
  tu [],
  pr (sA 17) "find_interval",
  co "find_interval" "find_interval" 373 92 2 155 382,
  fn (sA 17) "find_interval" "emacs.intervals" 194 160,
  tu [],
  fi [],
  tn ["node"] 388,
  tu [],
  pr (sA 18) "leftmost",
  co "leftmost" "leftmost" 385 105 1 162 389,
  fn (sA 18) "leftmost" "emacs.intervals" 194 167,
  tu [],
  fi [],
  tn ["node"] 395,
  tu [],
  pr (sA 19) "rightmost",
  co "rightmost" "rightmost" 392 109 1 169 396,
  fn (sA 19) "rightmost" "emacs.intervals" 194 174,
  tu [],
  fi [],
  tn ["node"] 402,
  tu [],
  pr (sA 20) "following",
  co "following" "following" 399 113 1 176 403,
  fn (sA 20) "following" "emacs.intervals" 194 181,
  tu [],
  fi [],
  tn ["node"] 409,
  tu [],
  pr (sA 21) "preceding",
  co "preceding" "preceding" 406 119 1 183 410,
  fn (sA 21) "preceding" "emacs.intervals" 194 188]
noncomputable def F190 (P : Params) : List Obj := [
tu [],
  fi [],
  tn ["tree", "node", "fresh"] 416,
  tu [],
  pr (sA 22) "put_behind",
  co "put_behind" "put_behind" 413 125 3 190 419,
  fn (sA 22) "put_behind" "emacs.intervals" 194 195,
  tu [],
  fi [],
  tn ["tree", "node", "fresh", "before"] 425,
  tu [],
  pr (sA 23) "put_ahead",
  co "put_ahead" "put_ahead" 422 133 3 197 429,
  fn (sA 23) "put_ahead" "emacs.intervals" 194 202,
  tu [],
  fi [],
  tn ["tree", "at", "node", "begin", "rest"] 435,
  tu [],
  pr (sA 24) "split_at",
  co "split_at" "split_at" 432 141 2 204 440,
  fn (sA 24) "split_at" "emacs.intervals" 194 209,
  tu [],
  fi [],
  tn ["tree", "node", "above", "son", "moved", "here"] 446,
  tu [],
  pr (sA 25) "drop_interval",
  co "drop_interval" "drop_interval" 443 150 2 211 452,
  fn (sA 25) "drop_interval" "emacs.intervals" 194 216,
  tu [],
  fi [],
  tn ["tree", "at", "many", "plist", "fresh"] 458,
  tu [],
  pr (sA 26) "insert_interval",
  co "insert_interval" "insert_interval" 455 166 4 218 463,
  fn (sA 26) "insert_interval" "emacs.intervals" 194 223]
noncomputable def F225 (P : Params) : List Obj := [
tu [],
  oc "builtin_function_or_method" (.fields (Array.mk [(.builtin "type.__prepare__"), (.type "type")])),
  oc "dict" (.dict (Array.mk [de P "__module__" 475 (sv "emacs.overlaytree" 466), de P "__qualname__" 477 (sv "OverlayNode" 476), de P "__firstlineno__" 479 (.int 179 478), er P "__init__" 491 238, er P "__static_attributes__" 503 239]) 5),
  tu [],
  fi [(.int 181 0), (.int 4 0), (.ref 237)],
  oc "code" (.fields (Array.mk [(sv "OverlayNode" 470), (sv "OverlayNode" 471), (sv "/claim/cut.py" 472), (.int 179 0), (.int 0 0), (.int 0 0), (.int 0 0), (.int 0 0), (.ref 228), (.bool false), (.int 181 0), (.ref 229), .none, .none, .none, .none, (.int 473 0), (.int 179 0), (sv "/claim/cut.py" 474)])),
  ⟨(.type "frame"), none, .plain, Array.mk [some (.ref 230), some (.ref 3), some (.ref 227), none, some (sv "emacs.overlaytree" 466), none, some (.ref 0)]⟩,
  tu [],
  fi [],
  tn ["self", "number", "begin", "end", "front_advance", "rear_advance"] 483,
  tu [],
  pr (mA 28 0) "OverlayNode.__init__",
  co "__init__" "OverlayNode.__init__" 480 181 6 232 489,
  fn (mA 28 0) "OverlayNode.__init__" "emacs.overlaytree" 466 237,
  tn ["begin", "end", "front_advance", "is_red", "left", "limit", "number", "offset", "parent", "rear_advance", "right"] 492,
  oc "dict" (.dict (Array.mk [de P "__module__" 475 (sv "emacs.overlaytree" 466), de P "__firstlineno__" 479 (.int 179 478), er P "__init__" 491 238, er P "__static_attributes__" 503 239, er P "__dict__" 505 242, er P "__weakref__" 507 243, de P "__doc__" 508 .none]) 4),
  ⟨(.type "type"), none, .cls { name := Str.ofString "OverlayNode", bases := [(.type "object")], mro := [(.ref 241), (.type "object")], ns := 240, qualname := Str.ofString "OverlayNode" }, Array.mk [none, none, some (sv "OverlayNode" 468), some (sv "OverlayNode" 476), some (.builtin "object.__new__"), some (.bool true)]⟩,
  oc "getset_descriptor" (.fields (Array.mk [(sv "__dict__" 504), (.ref 241), (.builtin "function.__dict__"), (.builtin "function.__dict__#set")])),
  oc "getset_descriptor" (.fields (Array.mk [(sv "__weakref__" 506), (.ref 241), (.builtin "ExceptionGroup.__weakref__"), .none])),
  oc "super" (.fields (Array.mk [(.ref 241), (.ref 241), (.ref 241)])),
  oc "builtin_function_or_method" (.fields (Array.mk [(.builtin "object.__init_subclass__"), (.ref 241)]))]
noncomputable def F246 (P : Params) : List Obj := [
tu [],
  oc "builtin_function_or_method" (.fields (Array.mk [(.builtin "type.__prepare__"), (.type "type")])),
  oc "dict" (.dict (Array.mk [de P "__module__" 518 (sv "emacs.overlaytree" 466), de P "__qualname__" 520 (sv "OverlayTree" 519), de P "__firstlineno__" 522 (.int 193 521), er P "__init__" 529 259, er P "__static_attributes__" 532 260]) 5),
  tu [],
  fi [(.int 195 0), (.int 4 0), (.ref 258)],
  oc "code" (.fields (Array.mk [(sv "OverlayTree" 513), (sv "OverlayTree" 514), (sv "/claim/cut.py" 515), (.int 193 0), (.int 0 0), (.int 0 0), (.int 0 0), (.int 0 0), (.ref 249), (.bool false), (.int 181 0), (.ref 250), .none, .none, .none, .none, (.int 516 0), (.int 193 0), (sv "/claim/cut.py" 517)])),
  ⟨(.type "frame"), none, .plain, Array.mk [some (.ref 251), some (.ref 3), some (.ref 248), none, some (sv "emacs.overlaytree" 466), none, some (.ref 0)]⟩,
  tu [],
  fi [],
  tn ["self"] 526,
  tu [],
  pr (mA 29 0) "OverlayTree.__init__",
  co "__init__" "OverlayTree.__init__" 523 195 1 253 527,
  fn (mA 29 0) "OverlayTree.__init__" "emacs.overlaytree" 466 258,
  tn ["count", "root"] 530,
  oc "dict" (.dict (Array.mk [de P "__module__" 518 (sv "emacs.overlaytree" 466), de P "__firstlineno__" 522 (.int 193 521), er P "__init__" 529 259, er P "__static_attributes__" 532 260, er P "__dict__" 534 263, er P "__weakref__" 536 264, de P "__doc__" 537 .none]) 4),
  ⟨(.type "type"), none, .cls { name := Str.ofString "OverlayTree", bases := [(.type "object")], mro := [(.ref 262), (.type "object")], ns := 261, qualname := Str.ofString "OverlayTree" }, Array.mk [none, none, some (sv "OverlayTree" 511), some (sv "OverlayTree" 519), some (.builtin "object.__new__"), some (.bool true)]⟩,
  oc "getset_descriptor" (.fields (Array.mk [(sv "__dict__" 533), (.ref 262), (.builtin "function.__dict__"), (.builtin "function.__dict__#set")])),
  oc "getset_descriptor" (.fields (Array.mk [(sv "__weakref__" 535), (.ref 262), (.builtin "ExceptionGroup.__weakref__"), .none])),
  oc "super" (.fields (Array.mk [(.ref 262), (.ref 262), (.ref 262)])),
  oc "builtin_function_or_method" (.fields (Array.mk [(.builtin "object.__init_subclass__"), (.ref 262)])),
  tu [],
  fi [],
  tn ["node", "son"] 543,
  tu [],
  pr (sA 30) "hand_down",
  co "hand_down" "hand_down" 540 198 1 267 545,
  fn (sA 30) "hand_down" "emacs.overlaytree" 466 272,
  tu [],
  fi [],
  tn ["node", "path", "here"] 551,
  tu [],
  pr (sA 31) "hand_down_to",
  co "hand_down_to" "hand_down_to" 548 208 1 274 554,
  fn (sA 31) "hand_down_to" "emacs.overlaytree" 466 279,
  tu [],
  fi [],
  tn ["node", "found", "son"] 560,
  tu [],
  pr (sA 32) "greatest_end",
  co "greatest_end" "greatest_end" 557 215 1 281 563,
  fn (sA 32) "greatest_end" "emacs.overlaytree" 466 286,
  tu [],
  fi [],
  tn ["tree", "parent", "node", "other"] 569,
  tu [],
  pr (sA 33) "hang",
  co "hang" "hang" 566 221 4 288 573,
  fn (sA 33) "hang" "emacs.overlaytree" 466 293,
  tu [],
  fi [],
  tn ["tree", "node", "son"] 579,
  tu [],
  pr (sA 34) "turn_left",
  co "turn_left" "turn_left" 576 230 2 295 582,
  fn (sA 34) "turn_left" "emacs.overlaytree" 466 300]
noncomputable def F302 (P : Params) : List Obj := [
tu [],
  fi [],
  tn ["tree", "node", "son"] 588,
  tu [],
  pr (sA 35) "turn_right",
  co "turn_right" "turn_right" 585 242 2 302 591,
  fn (sA 35) "turn_right" "emacs.overlaytree" 466 307,
  tu [],
  fi [],
  tn ["node"] 597,
  tu [],
  pr (sA 36) "is_red",
  co "is_red" "is_red" 594 254 1 309 598,
  fn (sA 36) "is_red" "emacs.overlaytree" 466 314,
  tu [],
  fi [],
  tn ["tree", "node", "parent", "above", "is_left", "uncle"] 604,
  tu [],
  pr (sA 37) "colour_inserted",
  co "colour_inserted" "colour_inserted" 601 256 2 316 610,
  fn (sA 37) "colour_inserted" "emacs.overlaytree" 466 321,
  tu [],
  fi [],
  tn ["tree", "node", "is_left", "parent"] 616,
  tu [],
  pr (sA 38) "turned_inward",
  co "turned_inward" "turned_inward" 613 276 3 323 620,
  fn (sA 38) "turned_inward" "emacs.overlaytree" 466 328,
  tu [],
  fi [],
  tn ["tree", "node", "here", "parent", "is_left"] 626,
  tu [],
  pr (sA 39) "put_node",
  co "put_node" "put_node" 623 285 2 330 631,
  fn (sA 39) "put_node" "emacs.overlaytree" 466 335,
  tu [],
  fi [],
  tn ["node"] 637,
  tu [],
  pr (sA 40) "first_below",
  co "first_below" "first_below" 634 312 1 337 638,
  fn (sA 40) "first_below" "emacs.overlaytree" 466 342,
  tu [],
  fi [],
  tn ["tree", "node", "other", "son"] 644,
  tu [],
  pr (sA 41) "take_place",
  co "take_place" "take_place" 641 318 3 344 648,
  fn (sA 41) "take_place" "emacs.overlaytree" 466 349,
  tu [],
  fi [],
  tn ["tree", "node", "gone", "son", "parent", "was_red", "here"] 654,
  tu [],
  pr (sA 42) "drop_node",
  co "drop_node" "drop_node" 651 327 2 351 661,
  fn (sA 42) "drop_node" "emacs.overlaytree" 466 356,
  tu [],
  fi [],
  tn ["tree", "node", "parent", "is_left"] 667,
  tu [],
  pr (sA 43) "colour_dropped",
  co "colour_dropped" "colour_dropped" 664 349 3 358 671,
  fn (sA 43) "colour_dropped" "emacs.overlaytree" 466 363,
  tu [],
  fi [],
  tn ["parent", "is_left"] 677,
  tu [],
  pr (sA 44) "sibling_of",
  co "sibling_of" "sibling_of" 674 358 2 365 679,
  fn (sA 44) "sibling_of" "emacs.overlaytree" 466 370,
  tu [],
  fi [],
  tn ["tree", "node", "is_left"] 685,
  tu [],
  pr (sA 45) "turn_towards",
  co "turn_towards" "turn_towards" 682 360 3 372 688,
  fn (sA 45) "turn_towards" "emacs.overlaytree" 466 377,
  tu [],
  fi [],
  tn ["tree", "node", "parent", "is_left", "other", "outer", "inner"] 694,
  tu [],
  pr (sA 46) "lightened",
  co "lightened" "lightened" 691 365 4 379 701,
  fn (sA 46) "lightened" "emacs.overlaytree" 466 384]
noncomputable def F386 (P : Params) : List Obj := [
tu [],
  fi [],
  tn ["tree", "begin", "end", "found", "waiting", "node"] 707,
  tu [],
  pr (sA 47) "nodes_between",
  co "nodes_between" "nodes_between" 704 391 3 386 713,
  fn (sA 47) "nodes_between" "emacs.overlaytree" 466 391,
  tu [],
  fi [],
  tn ["one", "other"] 721,
  tu [],
  pr (sA 49) "eq",
  co "eq" "eq" 718 410 2 393 723,
  fn (sA 49) "eq" "emacs.plists" 716 398,
  tu [],
  fi [],
  tn ["plist", "number", "at"] 729,
  tu [],
  pr (sA 50) "plist_find",
  co "plist_find" "plist_find" 726 414 2 400 732,
  fn (sA 50) "plist_find" "emacs.plists" 716 405,
  tu [],
  fi [],
  tn ["plist", "number", "at"] 738,
  tu [],
  pr (sA 51) "plist_get",
  co "plist_get" "plist_get" 735 419 2 407 741,
  fn (sA 51) "plist_get" "emacs.plists" 716 412,
  tu [],
  fi [],
  tn ["plist", "number", "value", "at"] 747,
  tu [],
  pr (sA 52) "plist_with",
  co "plist_with" "plist_with" 744 422 3 414 751,
  fn (sA 52) "plist_with" "emacs.plists" 716 419,
  tu [],
  fi [],
  tn ["plist", "number", "value", "at"] 757,
  tu [],
  pr (sA 53) "holds_pair",
  co "holds_pair" "holds_pair" 754 427 3 421 761,
  fn (sA 53) "holds_pair" "emacs.plists" 716 426,
  tu [],
  fi [],
  tn ["one", "other", "number", "value"] 767,
  tu [],
  pr (sA 54) "same_plist",
  co "same_plist" "same_plist" 764 430 2 428 771,
  fn (sA 54) "same_plist" "emacs.plists" 716 433]
noncomputable def F435 (P : Params) : List Obj := [
tu [],
  oc "builtin_function_or_method" (.fields (Array.mk [(.builtin "type.__prepare__"), (.type "type")])),
  oc "dict" (.dict (Array.mk [de P "__module__" 783 (sv "emacs.proprules" 774), de P "__qualname__" 785 (sv "PropRules" 784), de P "__firstlineno__" 787 (.int 438 786), er P "__init__" 795 448, er P "is_nil" 803 455, er P "__static_attributes__" 813 456]) 6),
  tu [],
  fi [(.int 440 0), (.int 4 0), (.ref 447), (.int 451 0), (.int 4 0), (.ref 454)],
  oc "code" (.fields (Array.mk [(sv "PropRules" 778), (sv "PropRules" 779), (sv "/claim/cut.py" 780), (.int 438 0), (.int 0 0), (.int 0 0), (.int 0 0), (.int 0 0), (.ref 438), (.bool false), (.int 181 0), (.ref 439), .none, .none, .none, .none, (.int 781 0), (.int 438 0), (sv "/claim/cut.py" 782)])),
  ⟨(.type "frame"), none, .plain, Array.mk [some (.ref 440), some (.ref 3), some (.ref 437), none, some (sv "emacs.proprules" 774), none, some (.ref 0)]⟩,
  tu [],
  fi [],
  tn ["self", "lisp"] 791,
  tu [],
  pr (mA 56 0) "PropRules.__init__",
  co "__init__" "PropRules.__init__" 788 440 2 442 793,
  fn (mA 56 0) "PropRules.__init__" "emacs.proprules" 774 447,
  tu [],
  fi [],
  tn ["self", "value"] 799,
  tu [],
  pr (mA 56 1) "PropRules.is_nil",
  co "is_nil" "PropRules.is_nil" 796 451 2 449 801,
  fn (mA 56 1) "PropRules.is_nil" "emacs.proprules" 774 454,
  tn ["category", "defaults", "evaporate", "front_sticky", "lisp", "nil", "priority", "rear_nonsticky", "true"] 804,
  oc "dict" (.dict (Array.mk [de P "__module__" 783 (sv "emacs.proprules" 774), de P "__firstlineno__" 787 (.int 438 786), er P "__init__" 795 448, er P "is_nil" 803 455, er P "__static_attributes__" 813 456, er P "__dict__" 815 459, er P "__weakref__" 817 460, de P "__doc__" 818 .none]) 4),
  ⟨(.type "type"), none, .cls { name := Str.ofString "PropRules", bases := [(.type "object")], mro := [(.ref 458), (.type "object")], ns := 457, qualname := Str.ofString "PropRules" }, Array.mk [none, none, some (sv "PropRules" 776), some (sv "PropRules" 784), some (.builtin "object.__new__"), some (.bool true)]⟩,
  oc "getset_descriptor" (.fields (Array.mk [(sv "__dict__" 814), (.ref 458), (.builtin "function.__dict__"), (.builtin "function.__dict__#set")])),
  oc "getset_descriptor" (.fields (Array.mk [(sv "__weakref__" 816), (.ref 458), (.builtin "ExceptionGroup.__weakref__"), .none])),
  oc "super" (.fields (Array.mk [(.ref 458), (.ref 458), (.ref 458)])),
  oc "builtin_function_or_method" (.fields (Array.mk [(.builtin "object.__init_subclass__"), (.ref 458)])),
  tu [],
  fi [],
  tn ["rules", "plist", "number", "found", "category"] 824,
  tu [],
  pr (sA 57) "value_in",
  co "value_in" "value_in" 821 453 3 463 829,
  fn (sA 57) "value_in" "emacs.proprules" 774 468]
noncomputable def F470 (P : Params) : List Obj := [
tu [],
  oc "builtin_function_or_method" (.fields (Array.mk [(.builtin "type.__prepare__"), (.type "type")])),
  oc "dict" (.dict (Array.mk [de P "__module__" 841 (sv "emacs.overlays" 832), de P "__qualname__" 843 (sv "Overlay" 842), de P "__firstlineno__" 845 (.int 461 844), er P "__init__" 855 483, er P "__static_attributes__" 860 484]) 5),
  tu [],
  fi [(.int 463 0), (.int 4 0), (.ref 482)],
  oc "code" (.fields (Array.mk [(sv "Overlay" 836), (sv "Overlay" 837), (sv "/claim/cut.py" 838), (.int 461 0), (.int 0 0), (.int 0 0), (.int 0 0), (.int 0 0), (.ref 473), (.bool false), (.int 181 0), (.ref 474), .none, .none, .none, .none, (.int 839 0), (.int 461 0), (sv "/claim/cut.py" 840)])),
  ⟨(.type "frame"), none, .plain, Array.mk [some (.ref 475), some (.ref 3), some (.ref 472), none, some (sv "emacs.overlays" 832), none, some (.ref 0)]⟩,
  tu [],
  fi [],
  tn ["self", "number", "front_advance", "rear_advance"] 849,
  tu [],
  pr (mA 59 0) "Overlay.__init__",
  co "__init__" "Overlay.__init__" 846 463 4 477 853,
  fn (mA 59 0) "Overlay.__init__" "emacs.overlays" 832 482,
  tn ["home", "node", "number", "plist"] 856,
  oc "dict" (.dict (Array.mk [de P "__module__" 841 (sv "emacs.overlays" 832), de P "__firstlineno__" 845 (.int 461 844), er P "__init__" 855 483, er P "__static_attributes__" 860 484, er P "__dict__" 862 487, er P "__weakref__" 864 488, de P "__doc__" 865 .none]) 4),
  ⟨(.type "type"), none, .cls { name := Str.ofString "Overlay", bases := [(.type "object")], mro := [(.ref 486), (.type "object")], ns := 485, qualname := Str.ofString "Overlay" }, Array.mk [none, none, some (sv "Overlay" 834), some (sv "Overlay" 842), some (.builtin "object.__new__"), some (.bool true)]⟩,
  oc "getset_descriptor" (.fields (Array.mk [(sv "__dict__" 861), (.ref 486), (.builtin "function.__dict__"), (.builtin "function.__dict__#set")])),
  oc "getset_descriptor" (.fields (Array.mk [(sv "__weakref__" 863), (.ref 486), (.builtin "ExceptionGroup.__weakref__"), .none])),
  oc "super" (.fields (Array.mk [(.ref 486), (.ref 486), (.ref 486)])),
  oc "builtin_function_or_method" (.fields (Array.mk [(.builtin "object.__init_subclass__"), (.ref 486)]))]
noncomputable def F491 (P : Params) : List Obj := [
tu [],
  oc "builtin_function_or_method" (.fields (Array.mk [(.builtin "type.__prepare__"), (.type "type")])),
  oc "dict" (.dict (Array.mk [de P "__module__" 875 (sv "emacs.overlays" 832), de P "__qualname__" 877 (sv "OverlayHome" 876), de P "__firstlineno__" 879 (.int 468 878), er P "__init__" 887 504, er P "inserted" 897 511, er P "deleted" 906 518, er P "text_came" 916 525, er P "text_gone" 925 532, er P "__static_attributes__" 929 533]) 9),
  tu [],
  fi [(.int 470 0), (.int 4 0), (.ref 503), (.int 475 0), (.int 4 0), (.ref 510), (.int 478 0), (.int 4 0), (.ref 517), (.int 481 0), (.int 4 0), (.ref 524), (.int 484 0), (.int 4 0), (.ref 531)],
  oc "code" (.fields (Array.mk [(sv "OverlayHome" 870), (sv "OverlayHome" 871), (sv "/claim/cut.py" 872), (.int 468 0), (.int 0 0), (.int 0 0), (.int 0 0), (.int 0 0), (.ref 494), (.bool false), (.int 181 0), (.ref 495), .none, .none, .none, .none, (.int 873 0), (.int 468 0), (sv "/claim/cut.py" 874)])),
  ⟨(.type "frame"), none, .plain, Array.mk [some (.ref 496), some (.ref 3), some (.ref 493), none, some (sv "emacs.overlays" 832), none, some (.ref 0)]⟩,
  tu [],
  fi [],
  tn ["self", "rules"] 883,
  tu [],
  pr (mA 60 0) "OverlayHome.__init__",
  co "__init__" "OverlayHome.__init__" 880 470 2 498 885,
  fn (mA 60 0) "OverlayHome.__init__" "emacs.overlays" 832 503,
  tu [],
  fi [],
  tn ["self", "at", "many", "before_markers"] 891,
  tu [],
  pr (mA 60 1) "OverlayHome.inserted",
  co "inserted" "OverlayHome.inserted" 888 475 4 505 895,
  fn (mA 60 1) "OverlayHome.inserted" "emacs.overlays" 832 510,
  tu [],
  fi [],
  tn ["self", "begin", "end"] 901,
  tu [],
  pr (mA 60 2) "OverlayHome.deleted",
  co "deleted" "OverlayHome.deleted" 898 478 3 512 904,
  fn (mA 60 2) "OverlayHome.deleted" "emacs.overlays" 832 517,
  tu [],
  fi [],
  tn ["self", "at", "many", "before_markers"] 910,
  tu [],
  pr (mA 60 3) "OverlayHome.text_came",
  co "text_came" "OverlayHome.text_came" 907 481 4 519 914,
  fn (mA 60 3) "OverlayHome.text_came" "emacs.overlays" 832 524,
  tu [],
  fi [],
  tn ["self", "at", "end"] 920,
  tu [],
  pr (mA 60 4) "OverlayHome.text_gone",
  co "text_gone" "OverlayHome.text_gone" 917 484 3 526 923,
  fn (mA 60 4) "OverlayHome.text_gone" "emacs.overlays" 832 531,
  tn ["overlays", "rules", "tree"] 926,
  oc "dict" (.dict (Array.mk [de P "__module__" 875 (sv "emacs.overlays" 832), de P "__firstlineno__" 879 (.int 468 878), er P "__init__" 887 504, er P "inserted" 897 511, er P "deleted" 906 518, er P "text_came" 916 525, er P "text_gone" 925 532, er P "__static_attributes__" 929 533, er P "__dict__" 931 536, er P "__weakref__" 933 537, de P "__doc__" 934 .none]) 4),
  ⟨(.type "type"), none, .cls { name := Str.ofString "OverlayHome", bases := [(.type "object")], mro := [(.ref 535), (.type "object")], ns := 534, qualname := Str.ofString "OverlayHome" }, Array.mk [none, none, some (sv "OverlayHome" 868), some (sv "OverlayHome" 876), some (.builtin "object.__new__"), some (.bool true)]⟩,
  oc "getset_descriptor" (.fields (Array.mk [(sv "__dict__" 930), (.ref 535), (.builtin "function.__dict__"), (.builtin "function.__dict__#set")])),
  oc "getset_descriptor" (.fields (Array.mk [(sv "__weakref__" 932), (.ref 535), (.builtin "ExceptionGroup.__weakref__"), .none])),
  oc "super" (.fields (Array.mk [(.ref 535), (.ref 535), (.ref 535)])),
  oc "builtin_function_or_method" (.fields (Array.mk [(.builtin "object.__init_subclass__"), (.ref 535)])),
  tu [],
  fi [],
  tn ["overlay"] 940,
  tu [],
  pr (sA 61) "overlay_begin",
  co "overlay_begin" "overlay_begin" 937 486 1 540 941,
  fn (sA 61) "overlay_begin" "emacs.overlays" 832 545]
noncomputable def F547 (P : Params) : List Obj := [
tu [],
  fi [],
  tn ["overlay"] 947,
  tu [],
  pr (sA 62) "overlay_end",
  co "overlay_end" "overlay_end" 944 489 1 547 948,
  fn (sA 62) "overlay_end" "emacs.overlays" 832 552,
  tu [],
  fi [],
  tn ["overlay"] 954,
  tu [],
  pr (sA 63) "take_out",
  co "take_out" "take_out" 951 492 1 554 955,
  fn (sA 63) "take_out" "emacs.overlays" 832 559,
  tu [],
  fi [],
  tn ["overlay", "home", "begin", "end"] 961,
  tu [],
  pr (sA 64) "lay",
  co "lay" "lay" 958 497 4 561 965,
  fn (sA 64) "lay" "emacs.overlays" 832 566,
  tu [],
  fi [],
  tn ["home", "number", "begin", "end", "front_advance", "rear_advance", "found"] 971,
  tu [],
  pr (sA 65) "made_overlay",
  co "made_overlay" "made_overlay" 968 504 6 568 978,
  fn (sA 65) "made_overlay" "emacs.overlays" 832 573,
  tu [],
  fi [],
  tn ["rules", "overlay", "number"] 984,
  tu [],
  pr (sA 66) "overlay_get",
  co "overlay_get" "overlay_get" 981 508 3 575 987,
  fn (sA 66) "overlay_get" "emacs.overlays" 832 580,
  tu [],
  fi [],
  tn ["rules", "overlay", "number", "value", "changed"] 993,
  tu [],
  pr (sA 67) "overlay_put",
  co "overlay_put" "overlay_put" 990 510 4 582 998,
  fn (sA 67) "overlay_put" "emacs.overlays" 832 587,
  tu [],
  fi [],
  pr (sA 68) "of_nodes",
  oc "code" (.fields (Array.mk [(sv "of_nodes" 1001), (sv "of_nodes" 1002), (sv "/claim/cut.py" 1003), (.int 518 0), (.int 2 0), (.int 0 0), (.int 0 0), (.int 3 0), (.ref 589), (.bool true), (.int 181 0), (.ref 590), .none, .none, .none, (.ref 591), (.int 1004 0), (.int 518 0), (sv "/claim/cut.py" 1005)])),
  fn (sA 68) "of_nodes" "emacs.overlays" 832 592,
  tu [],
  fi [],
  pr (sA 69) "overlays_at",
  oc "code" (.fields (Array.mk [(sv "overlays_at" 1007), (sv "overlays_at" 1008), (sv "/claim/cut.py" 1009), (.int 520 0), (.int 2 0), (.int 0 0), (.int 0 0), (.int 3 0), (.ref 594), (.bool true), (.int 181 0), (.ref 595), .none, .none, .none, (.ref 596), (.int 1010 0), (.int 520 0), (sv "/claim/cut.py" 1011)])),
  fn (sA 69) "overlays_at" "emacs.overlays" 832 597,
  tu [],
  fi [],
  tn ["home", "at", "last", "found", "node", "place"] 1016,
  tu [],
  pr (sA 70) "next_overlay_change",
  co "next_overlay_change" "next_overlay_change" 1013 522 3 599 1022,
  fn (sA 70) "next_overlay_change" "emacs.overlays" 832 604,
  tu [],
  fi [],
  tn ["home", "at", "first", "found", "node", "place"] 1028,
  tu [],
  pr (sA 71) "previous_overlay_change",
  co "previous_overlay_change" "previous_overlay_change" 1025 529 3 606 1034,
  fn (sA 71) "previous_overlay_change" "emacs.overlays" 832 611,
  tu [],
  fi [],
  tn ["props", "at", "limit", "node", "begin", "plist"] 1042,
  tu [],
  pr (sA 73) "next_change",
  co "next_change" "next_change" 1039 537 3 613 1048,
  fn (sA 73) "next_change" "emacs.propchanges" 1037 618,
  tu [],
  fi [],
  tn ["props", "at", "limit", "node", "begin", "plist"] 1054,
  tu [],
  pr (sA 74) "previous_change",
  co "previous_change" "previous_change" 1051 546 3 620 1060,
  fn (sA 74) "previous_change" "emacs.propchanges" 1037 625]
noncomputable def F627 (P : Params) : List Obj := [
tu [],
  oc "builtin_function_or_method" (.fields (Array.mk [(.builtin "type.__prepare__"), (.type "type")])),
  oc "dict" (.dict (Array.mk [de P "__module__" 1072 (sv "emacs.textprops" 1063), de P "__qualname__" 1074 (sv "TextProps" 1073), de P "__firstlineno__" 1076 (.int 557 1075), er P "__init__" 1084 640, er P "inserted" 1094 647, er P "deleted" 1103 654, er P "text_came" 1112 661, er P "text_gone" 1121 668, er P "rows_between" 1130 675, er P "put_rows" 1138 682, er P "__static_attributes__" 1140 683]) 11),
  tu [],
  fi [(.int 559 0), (.int 4 0), (.ref 639), (.int 562 0), (.int 4 0), (.ref 646), (.int 565 0), (.int 4 0), (.ref 653), (.int 568 0), (.int 4 0), (.ref 660), (.int 571 0), (.int 4 0), (.ref 667), (.int 574 0), (.int 4 0), (.ref 674), (.int 577 0), (.int 4 0), (.ref 681)],
  oc "code" (.fields (Array.mk [(sv "TextProps" 1067), (sv "TextProps" 1068), (sv "/claim/cut.py" 1069), (.int 557 0), (.int 0 0), (.int 0 0), (.int 0 0), (.int 0 0), (.ref 630), (.bool false), (.int 181 0), (.ref 631), .none, .none, .none, .none, (.int 1070 0), (.int 557 0), (sv "/claim/cut.py" 1071)])),
  ⟨(.type "frame"), none, .plain, Array.mk [some (.ref 632), some (.ref 3), some (.ref 629), none, some (sv "emacs.textprops" 1063), none, some (.ref 0)]⟩,
  tu [],
  fi [],
  tn ["self", "length"] 1080,
  tu [],
  pr (mA 76 0) "TextProps.__init__",
  co "__init__" "TextProps.__init__" 1077 559 2 634 1082,
  fn (mA 76 0) "TextProps.__init__" "emacs.textprops" 1063 639,
  tu [],
  fi [],
  tn ["self", "at", "many", "plist"] 1088,
  tu [],
  pr (mA 76 1) "TextProps.inserted",
  co "inserted" "TextProps.inserted" 1085 562 4 641 1092,
  fn (mA 76 1) "TextProps.inserted" "emacs.textprops" 1063 646,
  tu [],
  fi [],
  tn ["self", "begin", "end"] 1098,
  tu [],
  pr (mA 76 2) "TextProps.deleted",
  co "deleted" "TextProps.deleted" 1095 565 3 648 1101,
  fn (mA 76 2) "TextProps.deleted" "emacs.textprops" 1063 653,
  tu [],
  fi [],
  tn ["self", "at", "many"] 1107,
  tu [],
  pr (mA 76 3) "TextProps.text_came",
  co "text_came" "TextProps.text_came" 1104 568 3 655 1110,
  fn (mA 76 3) "TextProps.text_came" "emacs.textprops" 1063 660,
  tu [],
  fi [],
  tn ["self", "at", "end"] 1116,
  tu [],
  pr (mA 76 4) "TextProps.text_gone",
  co "text_gone" "TextProps.text_gone" 1113 571 3 662 1119,
  fn (mA 76 4) "TextProps.text_gone" "emacs.textprops" 1063 667,
  tu [],
  fi [],
  tn ["self", "begin", "end"] 1125,
  tu [],
  pr (mA 76 5) "TextProps.rows_between",
  co "rows_between" "TextProps.rows_between" 1122 574 3 669 1128,
  fn (mA 76 5) "TextProps.rows_between" "emacs.textprops" 1063 674,
  tu [],
  fi [],
  tn ["self", "rows"] 1134,
  tu [],
  pr (mA 76 6) "TextProps.put_rows",
  co "put_rows" "TextProps.put_rows" 1131 577 2 676 1136,
  fn (mA 76 6) "TextProps.put_rows" "emacs.textprops" 1063 681,
  tn ["tree"] 1139,
  oc "dict" (.dict (Array.mk [de P "__module__" 1072 (sv "emacs.textprops" 1063), de P "__firstlineno__" 1076 (.int 557 1075), er P "__init__" 1084 640, er P "inserted" 1094 647, er P "deleted" 1103 654, er P "text_came" 1112 661, er P "text_gone" 1121 668, er P "rows_between" 1130 675, er P "put_rows" 1138 682, er P "__static_attributes__" 1140 683, er P "__dict__" 1142 686, er P "__weakref__" 1144 687, de P "__doc__" 1145 .none]) 4),
  ⟨(.type "type"), none, .cls { name := Str.ofString "TextProps", bases := [(.type "object")], mro := [(.ref 685), (.type "object")], ns := 684, qualname := Str.ofString "TextProps" }, Array.mk [none, none, some (sv "TextProps" 1065), some (sv "TextProps" 1073), some (.builtin "object.__new__"), some (.bool true)]⟩,
  oc "getset_descriptor" (.fields (Array.mk [(sv "__dict__" 1141), (.ref 685), (.builtin "function.__dict__"), (.builtin "function.__dict__#set")])),
  oc "getset_descriptor" (.fields (Array.mk [(sv "__weakref__" 1143), (.ref 685), (.builtin "ExceptionGroup.__weakref__"), .none])),
  oc "super" (.fields (Array.mk [(.ref 685), (.ref 685), (.ref 685)])),
  oc "builtin_function_or_method" (.fields (Array.mk [(.builtin "object.__init_subclass__"), (.ref 685)]))]
noncomputable def F690 (P : Params) : List Obj := [
tu [],
  fi [],
  tn ["rows", "found", "at", "many", "plist"] 1151,
  tu [],
  pr (sA 77) "props_of_rows",
  co "props_of_rows" "props_of_rows" 1148 579 1 690 1156,
  fn (sA 77) "props_of_rows" "emacs.textprops" 1063 695,
  tu [],
  fi [],
  tn ["props", "at"] 1162,
  tu [],
  pr (sA 78) "properties_at",
  co "properties_at" "properties_at" 1159 587 2 697 1164,
  fn (sA 78) "properties_at" "emacs.textprops" 1063 702,
  tu [],
  fi [],
  tn ["props", "at", "node", "begin", "ahead", "many"] 1170,
  tu [],
  pr (sA 79) "join_at",
  co "join_at" "join_at" 1167 591 2 704 1176,
  fn (sA 79) "join_at" "emacs.textprops" 1063 709,
  tu [],
  fi [],
  tn ["rules", "overlay", "value", "pair", "first"] 1184,
  tu [],
  pr (sA 81) "priority_of",
  co "priority_of" "priority_of" 1181 604 2 711 1189,
  fn (sA 81) "priority_of" "emacs.charprops" 1179 716,
  tu [],
  fi [],
  tn ["rules", "overlay", "first", "second"] 1195,
  tu [],
  pr (sA 82) "rank",
  co "rank" "rank" 1192 613 2 718 1199,
  fn (sA 82) "rank" "emacs.charprops" 1179 723]
noncomputable def F725 (P : Params) : List Obj := [
tu [],
  oc "builtin_function_or_method" (.fields (Array.mk [(.builtin "type.__prepare__"), (.type "type")])),
  oc "dict" (.dict (Array.mk [de P "__module__" 1209 (sv "emacs.charprops" 1179), de P "__qualname__" 1211 (sv "Ranked" 1210), de P "__firstlineno__" 1213 (.int 616 1212), er P "__init__" 1221 738, er P "key" 1229 745, er P "__static_attributes__" 1231 746]) 6),
  tu [],
  fi [(.int 618 0), (.int 4 0), (.ref 737), (.int 621 0), (.int 4 0), (.ref 744)],
  oc "code" (.fields (Array.mk [(sv "Ranked" 1204), (sv "Ranked" 1205), (sv "/claim/cut.py" 1206), (.int 616 0), (.int 0 0), (.int 0 0), (.int 0 0), (.int 0 0), (.ref 728), (.bool false), (.int 181 0), (.ref 729), .none, .none, .none, .none, (.int 1207 0), (.int 616 0), (sv "/claim/cut.py" 1208)])),
  ⟨(.type "frame"), none, .plain, Array.mk [some (.ref 730), some (.ref 3), some (.ref 727), none, some (sv "emacs.charprops" 1179), none, some (.ref 0)]⟩,
  tu [],
  fi [],
  tn ["self", "rules"] 1217,
  tu [],
  pr (mA 83 0) "Ranked.__init__",
  co "__init__" "Ranked.__init__" 1214 618 2 732 1219,
  fn (mA 83 0) "Ranked.__init__" "emacs.charprops" 1179 737,
  tu [],
  fi [],
  tn ["self", "overlay"] 1225,
  tu [],
  pr (mA 83 1) "Ranked.key",
  co "key" "Ranked.key" 1222 621 2 739 1227,
  fn (mA 83 1) "Ranked.key" "emacs.charprops" 1179 744,
  tn ["rules"] 1230,
  oc "dict" (.dict (Array.mk [de P "__module__" 1209 (sv "emacs.charprops" 1179), de P "__firstlineno__" 1213 (.int 616 1212), er P "__init__" 1221 738, er P "key" 1229 745, er P "__static_attributes__" 1231 746, er P "__dict__" 1233 749, er P "__weakref__" 1235 750, de P "__doc__" 1236 .none]) 4),
  ⟨(.type "type"), none, .cls { name := Str.ofString "Ranked", bases := [(.type "object")], mro := [(.ref 748), (.type "object")], ns := 747, qualname := Str.ofString "Ranked" }, Array.mk [none, none, some (sv "Ranked" 1202), some (sv "Ranked" 1210), some (.builtin "object.__new__"), some (.bool true)]⟩,
  oc "getset_descriptor" (.fields (Array.mk [(sv "__dict__" 1232), (.ref 748), (.builtin "function.__dict__"), (.builtin "function.__dict__#set")])),
  oc "getset_descriptor" (.fields (Array.mk [(sv "__weakref__" 1234), (.ref 748), (.builtin "ExceptionGroup.__weakref__"), .none])),
  oc "super" (.fields (Array.mk [(.ref 748), (.ref 748), (.ref 748)])),
  oc "builtin_function_or_method" (.fields (Array.mk [(.builtin "object.__init_subclass__"), (.ref 748)])),
  tu [],
  fi [],
  tn ["rules", "overlays"] 1242,
  tu [],
  pr (sA 84) "sorted_overlays",
  co "sorted_overlays" "sorted_overlays" 1239 623 2 753 1244,
  fn (sA 84) "sorted_overlays" "emacs.charprops" 1179 758,
  tu [],
  fi [],
  tn ["rules", "home", "props", "at", "number", "overlay", "value"] 1250,
  tu [],
  pr (sA 85) "char_property_from",
  co "char_property_from" "char_property_from" 1247 625 5 760 1257,
  fn (sA 85) "char_property_from" "emacs.charprops" 1179 765,
  tu [],
  fi [],
  tn ["rules", "home", "props", "at", "number"] 1263,
  tu [],
  pr (sA 86) "char_property",
  co "char_property" "char_property" 1260 631 5 767 1268,
  fn (sA 86) "char_property" "emacs.charprops" 1179 772,
  tu [],
  fi [],
  tn ["home", "props", "at", "last", "found", "other"] 1274,
  tu [],
  pr (sA 87) "next_char_change",
  co "next_char_change" "next_char_change" 1271 633 4 774 1280,
  fn (sA 87) "next_char_change" "emacs.charprops" 1179 779]
noncomputable def F781 (P : Params) : List Obj := [
tu [],
  fi [],
  tn ["home", "props", "at", "first", "found", "other"] 1286,
  tu [],
  pr (sA 88) "previous_char_change",
  co "previous_char_change" "previous_char_change" 1283 637 4 781 1292,
  fn (sA 88) "previous_char_change" "emacs.charprops" 1179 786,
  tu [],
  fi [],
  tn ["rules", "home", "props", "at", "number", "limit", "last", "value"] 1298,
  tu [],
  pr (sA 89) "next_single_char_change",
  co "next_single_char_change" "next_single_char_change" 1295 641 6 788 1306,
  fn (sA 89) "next_single_char_change" "emacs.charprops" 1179 793,
  tu [],
  fi [],
  tn ["rules", "home", "props", "at", "number", "limit", "value"] 1312,
  tu [],
  pr (sA 90) "previous_single_char_change",
  co "previous_single_char_change" "previous_single_char_change" 1309 651 6 795 1319,
  fn (sA 90) "previous_single_char_change" "emacs.charprops" 1179 800,
  tn ["category", "front-sticky", "rear-nonsticky", "evaporate", "priority"] 1324]
noncomputable def F803 (P : Params) : List Obj := [
tu [],
  oc "builtin_function_or_method" (.fields (Array.mk [(.builtin "type.__prepare__"), (.type "type")])),
  oc "dict" (.dict (Array.mk [de P "__module__" 1337 (sv "emacs.plainlisp" 1322), de P "__qualname__" 1339 (sv "PlainLisp" 1338), de P "__firstlineno__" 1341 (.int 664 1340), er P "__init__" 1349 816, er P "number" 1357 823, er P "symbol" 1365 830, er P "number_of" 1373 837, er P "list_of" 1381 844, er P "items" 1389 851, er P "pair" 1397 858, er P "symbol_property" 1408 865, er P "__static_attributes__" 1413 866]) 12),
  tu [],
  fi [(.int 666 0), (.int 4 0), (.ref 815), (.int 672 0), (.int 4 0), (.ref 822), (.int 675 0), (.int 4 0), (.ref 829), (.int 678 0), (.int 4 0), (.ref 836), (.int 681 0), (.int 4 0), (.ref 843), (.int 684 0), (.int 4 0), (.ref 850), (.int 687 0), (.int 4 0), (.ref 857), (.int 690 0), (.int 4 0), (.ref 864)],
  oc "code" (.fields (Array.mk [(sv "PlainLisp" 1332), (sv "PlainLisp" 1333), (sv "/claim/cut.py" 1334), (.int 664 0), (.int 0 0), (.int 0 0), (.int 0 0), (.int 0 0), (.ref 806), (.bool false), (.int 181 0), (.ref 807), .none, .none, .none, .none, (.int 1335 0), (.int 664 0), (sv "/claim/cut.py" 1336)])),
  ⟨(.type "frame"), none, .plain, Array.mk [some (.ref 808), some (.ref 3), some (.ref 805), none, some (sv "emacs.plainlisp" 1322), none, some (.ref 0)]⟩,
  tu [],
  fi [],
  tn ["self", "first"] 1345,
  tu [],
  pr (mA 93 0) "PlainLisp.__init__",
  co "__init__" "PlainLisp.__init__" 1342 666 2 810 1347,
  fn (mA 93 0) "PlainLisp.__init__" "emacs.plainlisp" 1322 815,
  tu [],
  fi [],
  tn ["self", "name"] 1353,
  tu [],
  pr (mA 93 1) "PlainLisp.number",
  co "number" "PlainLisp.number" 1350 672 2 817 1355,
  fn (mA 93 1) "PlainLisp.number" "emacs.plainlisp" 1322 822,
  tu [],
  fi [],
  tn ["self", "number"] 1361,
  tu [],
  pr (mA 93 2) "PlainLisp.symbol",
  co "symbol" "PlainLisp.symbol" 1358 675 2 824 1363,
  fn (mA 93 2) "PlainLisp.symbol" "emacs.plainlisp" 1322 829,
  tu [],
  fi [],
  tn ["self", "value"] 1369,
  tu [],
  pr (mA 93 3) "PlainLisp.number_of",
  co "number_of" "PlainLisp.number_of" 1366 678 2 831 1371,
  fn (mA 93 3) "PlainLisp.number_of" "emacs.plainlisp" 1322 836,
  tu [],
  fi [],
  tn ["self", "values"] 1377,
  tu [],
  pr (mA 93 4) "PlainLisp.list_of",
  co "list_of" "PlainLisp.list_of" 1374 681 2 838 1379,
  fn (mA 93 4) "PlainLisp.list_of" "emacs.plainlisp" 1322 843,
  tu [],
  fi [],
  tn ["self", "value"] 1385,
  tu [],
  pr (mA 93 5) "PlainLisp.items",
  co "items" "PlainLisp.items" 1382 684 2 845 1387,
  fn (mA 93 5) "PlainLisp.items" "emacs.plainlisp" 1322 850,
  tu [],
  fi [],
  tn ["self", "value"] 1393,
  tu [],
  pr (mA 93 6) "PlainLisp.pair",
  co "pair" "PlainLisp.pair" 1390 687 2 852 1395,
  fn (mA 93 6) "PlainLisp.pair" "emacs.plainlisp" 1322 857,
  tu [],
  fi [],
  tn ["self", "value", "number", "own", "held"] 1401,
  tu [],
  pr (mA 93 7) "PlainLisp.symbol_property",
  co "symbol_property" "PlainLisp.symbol_property" 1398 690 3 859 1406,
  fn (mA 93 7) "PlainLisp.symbol_property" "emacs.plainlisp" 1322 864,
  tn ["first", "nil", "plists", "true"] 1409,
  oc "dict" (.dict (Array.mk [de P "__module__" 1337 (sv "emacs.plainlisp" 1322), de P "__firstlineno__" 1341 (.int 664 1340), er P "__init__" 1349 816, er P "number" 1357 823, er P "symbol" 1365 830, er P "number_of" 1373 837, er P "list_of" 1381 844, er P "items" 1389 851, er P "pair" 1397 858, er P "symbol_property" 1408 865, er P "__static_attributes__" 1413 866, er P "__dict__" 1415 869, er P "__weakref__" 1417 870, de P "__doc__" 1418 .none]) 4),
  ⟨(.type "type"), none, .cls { name := Str.ofString "PlainLisp", bases := [(.type "object")], mro := [(.ref 868), (.type "object")], ns := 867, qualname := Str.ofString "PlainLisp" }, Array.mk [none, none, some (sv "PlainLisp" 1330), some (sv "PlainLisp" 1338), some (.builtin "object.__new__"), some (.bool true)]⟩,
  oc "getset_descriptor" (.fields (Array.mk [(sv "__dict__" 1414), (.ref 868), (.builtin "function.__dict__"), (.builtin "function.__dict__#set")])),
  oc "getset_descriptor" (.fields (Array.mk [(sv "__weakref__" 1416), (.ref 868), (.builtin "ExceptionGroup.__weakref__"), .none])),
  oc "super" (.fields (Array.mk [(.ref 868), (.ref 868), (.ref 868)])),
  oc "builtin_function_or_method" (.fields (Array.mk [(.builtin "object.__init_subclass__"), (.ref 868)]))]
noncomputable def F873 (P : Params) : List Obj := [
tu [],
  fi [],
  tn ["deck", "many"] 1426,
  tu [],
  pr (sA 95) "_law_draw",
  co "_law_draw" "_law_draw" 1423 696 2 873 1428,
  fn (sA 95) "_law_draw" "law_np0112_01" 1421 878,
  tu [],
  fi [],
  tn ["deck"] 1434,
  tu [],
  pr (sA 96) "_law_value",
  co "_law_value" "_law_value" 1431 701 1 880 1435,
  fn (sA 96) "_law_value" "law_np0112_01" 1421 885,
  tu [],
  fi [],
  tn ["deck", "home", "my_rows", "number", "begin", "many", "one", "way", "first", "second", "priority", "my_held"] 1441,
  tu [],
  pr (sA 97) "_law_overlay",
  co "_law_overlay" "_law_overlay" 1438 703 4 887 1453,
  fn (sA 97) "_law_overlay" "law_np0112_01" 1421 892,
  tu [],
  fi [],
  tn ["chars", "my_rows", "at", "found", "best", "begin", "end", "priority", "my_held", "number", "mine"] 1459,
  tu [],
  pr (sA 98) "_law_seen",
  co "_law_seen" "_law_seen" 1456 717 3 894 1470,
  fn (sA 98) "_law_seen" "law_np0112_01" 1421 899,
  tu [],
  fi [],
  pr (sA 99) "law",
  oc "code" (.fields (Array.mk [(sv "law" 1473), (sv "law" 1474), (sv "/claim/cut.py" 1475), (.int 724 0), (.int 1 0), (.int 0 0), (.int 0 0), (.int 3 0), (.ref 901), (.bool true), (.int 181 0), (.ref 902), .none, .none, .none, (.ref 903), (.int 1476 0), (.int 724 0), (sv "/claim/cut.py" 1477)])),
  fn (sA 99) "law" "law_np0112_01" 1421 904]
noncomputable def lines : List Value := ln [(1, 20), (5, 27), (13, 48), (17, 69), (19, 76), (21, 83), (23, 90), (33, 97), (37, 104), (41, 111), (50, 118), (59, 125), (65, 132), (71, 139), (85, 146), (88, 153), (92, 160), (105, 167), (109, 174), (113, 181), (119, 188), (125, 195), (133, 202), (141, 209), (150, 216), (166, 223), (179, 230), (193, 251), (198, 272), (208, 279), (215, 286), (221, 293), (230, 300), (242, 307), (254, 314), (256, 321), (276, 328), (285, 335), (312, 342), (318, 349), (327, 356), (349, 363), (358, 370), (360, 377), (365, 384), (391, 391), (410, 398), (414, 405), (419, 412), (422, 419), (427, 426), (430, 433), (438, 440), (453, 468), (461, 475), (468, 496), (486, 545), (489, 552), (492, 559), (497, 566), (504, 573), (508, 580), (510, 587), (518, 592), (520, 597), (522, 604), (529, 611), (537, 618), (546, 625), (557, 632), (579, 695), (587, 702), (591, 709), (604, 716), (613, 723), (616, 730), (623, 758), (625, 765), (631, 772), (633, 779), (637, 786), (641, 793), (651, 800), (664, 808), (696, 878), (701, 885), (703, 892), (717, 899), (724, 904)]
noncomputable def glob (P : Params) : List DictEntry := [de P "__name__" 165 (sv "law_np0112_01" 1421), de P "__doc__" 166 .none, de P "__package__" 167 .none, de P "__loader__" 168 (.builtin "__main__.__loader__#opaque"), de P "__spec__" 169 .none, er P "__annotations__" 170 6, er P "__builtins__" 171 4, de P "__file__" 173 (sv "/claim/cut.py" 172), de P "__cached__" 174 .none, er P "_wall" 193 21, er P "Interval" 229 38, er P "IntervalTree" 259 59, er P "total_of" 266 70, er P "own_length" 273 77, er P "text_length" 280 84, er P "put_in_stead" 290 91, er P "set_left" 298 98, er P "set_right" 306 105, er P "rotate_right" 316 112, er P "rotate_left" 326 119, er P "right_turn_helps" 335 126, er P "left_turn_helps" 344 133, er P "settle" 356 140, er P "settle_up" 364 147, er P "add_above" 372 154, er P "find_interval" 384 161, er P "leftmost" 391 168, er P "rightmost" 398 175, er P "following" 405 182, er P "preceding" 412 189, er P "put_behind" 421 196, er P "put_ahead" 431 203, er P "split_at" 442 210, er P "drop_interval" 454 217, er P "insert_interval" 465 224, er P "OverlayNode" 510 241, er P "OverlayTree" 539 262, er P "hand_down" 547 273, er P "hand_down_to" 556 280, er P "greatest_end" 565 287, er P "hang" 575 294, er P "turn_left" 584 301, er P "turn_right" 593 308, er P "is_red" 600 315, er P "colour_inserted" 612 322, er P "turned_inward" 622 329, er P "put_node" 633 336, er P "first_below" 640 343, er P "take_place" 650 350, er P "drop_node" 663 357, er P "colour_dropped" 673 364, er P "sibling_of" 681 371, er P "turn_towards" 690 378, er P "lightened" 703 385, er P "nodes_between" 715 392, er P "eq" 725 399, er P "plist_find" 734 406, er P "plist_get" 743 413, er P "plist_with" 753 420, er P "holds_pair" 763 427, er P "same_plist" 773 434, er P "PropRules" 820 458, er P "value_in" 831 469, er P "Overlay" 867 486, er P "OverlayHome" 936 535, er P "overlay_begin" 943 546, er P "overlay_end" 950 553, er P "take_out" 957 560, er P "lay" 967 567, er P "made_overlay" 980 574, er P "overlay_get" 989 581, er P "overlay_put" 1000 588, er P "of_nodes" 1006 593, er P "overlays_at" 1012 598, er P "next_overlay_change" 1024 605, er P "previous_overlay_change" 1036 612, er P "next_change" 1050 619, er P "previous_change" 1062 626, er P "TextProps" 1147 685, er P "props_of_rows" 1158 696, er P "properties_at" 1166 703, er P "join_at" 1178 710, er P "priority_of" 1191 717, er P "rank" 1201 724, er P "Ranked" 1238 748, er P "sorted_overlays" 1246 759, er P "char_property_from" 1259 766, er P "char_property" 1270 773, er P "next_char_change" 1282 780, er P "previous_char_change" 1294 787, er P "next_single_char_change" 1308 794, er P "previous_single_char_change" 1321 801, er P "NAMES" 1329 802, er P "PlainLisp" 1420 868, er P "_law_draw" 1430 879, er P "_law_value" 1437 886, er P "_law_overlay" 1455 893, er P "_law_seen" 1472 900, er P "law" 1478 905]
noncomputable def q11 : Obj := tu []
noncomputable def q13 : Obj := oc "code" (.fields (Array.mk [(sv "<module>" 182), (sv "<module>" 183), (sv "/claim/cut.py" 184), (.int 1 0), (.int 0 0), (.int 0 0), (.int 0 0), (.int 0 0), (.ref 11), (.bool false), (.int 181 0), (.ref 12), .none, .none, .none, .none, (.int 185 0), (.int 1 0), (sv "/claim/cut.py" 186)]))
noncomputable def q14 : Obj := ⟨(.type "frame"), none, .plain, Array.mk [some (.ref 13), some (.ref 3), some (.ref 3), none, some (sv "__main__" 164), none, some (.ref 0)]⟩
noncomputable def gd (m : Value) (g : Nat) (P : Params) : Obj := oc "dict" (.dict (Array.mk (de P "__name__" 165 m :: ((glob P).drop 1).take (g - 1))) g)
noncomputable def hd15 (m : Value) (g l : Nat) (P : Params) : List Obj := [boot_o_0 P, boot_o_1 P, boot_o_2 P, gd m g P, boot_o_4 P, boot_o_5 P, boot_o_6 P, boot_o_7 P, boot_o_8 P, boot_o_9 P, boot_o_10 P, q11, fi (lines.take l), q13, q14]
noncomputable def lf : Life := Life.mk [] [] [] 0 [] [] false (Array.mk []) [] 0 false false false 0 [2000, 10, 10] false 0 true [] [] 0 false
noncomputable def dr : Drawn := ⟨0, 0, 0, 0⟩
noncomputable def en : Env := { scope := pg.main.scope, locals := mainNs, globals := mainNs, cells := [], code := .ref 13, frame := some 14 }
noncomputable def cE : Code := .body bd en
noncomputable def sl (a n : Nat) : List Stmt := (bd.drop a).take n
noncomputable def st (T : Params → BT) (n t : Nat) (w : World) (os : OsState) : SharedT := ⟨T w.params, n, lf, Array.mk [], dr, t, os⟩
noncomputable def bf : List Frame := [topFrame ⟨0, 0, 0, 0⟩]
theorem fastS (w : World) (a b k : Nat) (v : Option Value) (s : SharedT) (t : Thread) : segRunT treeTable pg w a v b k s t = PySem.W.Fast.tw10110043849684766642 PySem.W.Fast.tw14364793385576792824 pg w a v b k s t := by
  rw [PySem.W.Fast.te10110043849684766642, PySem.W.Fast.te14364793385576792824]
noncomputable def T0 : Params → BT := fun P => build 10 (hd15 (sv "__main__" 164) 9 0 P)
noncomputable def S0 := st T0 15 187
noncomputable def T1 : Params → BT := fun P => build 10 (hd15 (sv "emacs.intervals" 194) 11 6 P ++ (F15 P))
noncomputable def S1 := st T1 43 230
noncomputable def T2 : Params → BT := fun P => build 10 (hd15 (sv "emacs.intervals" 194) 17 24 P ++ (F15 P ++ (F43 P)))
noncomputable def S2 := st T2 99 299
noncomputable def T3 : Params → BT := fun P => build 10 (hd15 (sv "emacs.intervals" 194) 30 63 P ++ (F15 P ++ (F43 P ++ (F99 P))))
noncomputable def S3 := st T3 190 413
noncomputable def T4 : Params → BT := fun P => build 10 (hd15 (sv "emacs.overlaytree" 466) 35 78 P ++ (F15 P ++ (F43 P ++ (F99 P ++ (F190 P)))))
noncomputable def S4 := st T4 225 468
noncomputable def T5 : Params → BT := fun P => build 10 (hd15 (sv "emacs.overlaytree" 466) 36 81 P ++ (F15 P ++ (F43 P ++ (F99 P ++ (F190 P ++ (F225 P))))))
noncomputable def S5 := st T5 246 511
noncomputable def T6 : Params → BT := fun P => build 10 (hd15 (sv "emacs.overlaytree" 466) 42 99 P ++ (F15 P ++ (F43 P ++ (F99 P ++ (F190 P ++ (F225 P ++ (F246 P)))))))
noncomputable def S6 := st T6 302 585
noncomputable def T7 : Params → BT := fun P => build 10 (hd15 (sv "emacs.overlaytree" 466) 54 135 P ++ (F15 P ++ (F43 P ++ (F99 P ++ (F190 P ++ (F225 P ++ (F246 P ++ (F302 P))))))))
noncomputable def S7 := st T7 386 704
noncomputable def T8 : Params → BT := fun P => build 10 (hd15 (sv "emacs.proprules" 774) 61 156 P ++ (F15 P ++ (F43 P ++ (F99 P ++ (F190 P ++ (F225 P ++ (F246 P ++ (F302 P ++ (F386 P)))))))))
noncomputable def S8 := st T8 435 776
noncomputable def T9 : Params → BT := fun P => build 10 (hd15 (sv "emacs.overlays" 832) 63 162 P ++ (F15 P ++ (F43 P ++ (F99 P ++ (F190 P ++ (F225 P ++ (F246 P ++ (F302 P ++ (F386 P ++ (F435 P))))))))))
noncomputable def S9 := st T9 470 834
noncomputable def T10 : Params → BT := fun P => build 10 (hd15 (sv "emacs.overlays" 832) 64 165 P ++ (F15 P ++ (F43 P ++ (F99 P ++ (F190 P ++ (F225 P ++ (F246 P ++ (F302 P ++ (F386 P ++ (F435 P ++ (F470 P)))))))))))
noncomputable def S10 := st T10 491 868
noncomputable def T11 : Params → BT := fun P => build 10 (hd15 (sv "emacs.overlays" 832) 66 171 P ++ (F15 P ++ (F43 P ++ (F99 P ++ (F190 P ++ (F225 P ++ (F246 P ++ (F302 P ++ (F386 P ++ (F435 P ++ (F470 P ++ (F491 P))))))))))))
noncomputable def S11 := st T11 547 944
noncomputable def T12 : Params → BT := fun P => build 10 (hd15 (sv "emacs.textprops" 1063) 78 207 P ++ (F15 P ++ (F43 P ++ (F99 P ++ (F190 P ++ (F225 P ++ (F246 P ++ (F302 P ++ (F386 P ++ (F435 P ++ (F470 P ++ (F491 P ++ (F547 P)))))))))))))
noncomputable def S12 := st T12 627 1065
noncomputable def T13 : Params → BT := fun P => build 10 (hd15 (sv "emacs.textprops" 1063) 79 210 P ++ (F15 P ++ (F43 P ++ (F99 P ++ (F190 P ++ (F225 P ++ (F246 P ++ (F302 P ++ (F386 P ++ (F435 P ++ (F470 P ++ (F491 P ++ (F547 P ++ (F627 P))))))))))))))
noncomputable def S13 := st T13 690 1148
noncomputable def T14 : Params → BT := fun P => build 10 (hd15 (sv "emacs.charprops" 1179) 84 225 P ++ (F15 P ++ (F43 P ++ (F99 P ++ (F190 P ++ (F225 P ++ (F246 P ++ (F302 P ++ (F386 P ++ (F435 P ++ (F470 P ++ (F491 P ++ (F547 P ++ (F627 P ++ (F690 P)))))))))))))))
noncomputable def S14 := st T14 725 1202
noncomputable def T15 : Params → BT := fun P => build 10 (hd15 (sv "emacs.charprops" 1179) 89 240 P ++ (F15 P ++ (F43 P ++ (F99 P ++ (F190 P ++ (F225 P ++ (F246 P ++ (F302 P ++ (F386 P ++ (F435 P ++ (F470 P ++ (F491 P ++ (F547 P ++ (F627 P ++ (F690 P ++ (F725 P))))))))))))))))
noncomputable def S15 := st T15 781 1283
noncomputable def T16 : Params → BT := fun P => build 10 (hd15 (sv "emacs.plainlisp" 1322) 93 249 P ++ (F15 P ++ (F43 P ++ (F99 P ++ (F190 P ++ (F225 P ++ (F246 P ++ (F302 P ++ (F386 P ++ (F435 P ++ (F470 P ++ (F491 P ++ (F547 P ++ (F627 P ++ (F690 P ++ (F725 P ++ (F781 P)))))))))))))))))
noncomputable def S16 := st T16 803 1330
noncomputable def T17 : Params → BT := fun P => build 10 (hd15 (sv "emacs.plainlisp" 1322) 94 252 P ++ (F15 P ++ (F43 P ++ (F99 P ++ (F190 P ++ (F225 P ++ (F246 P ++ (F302 P ++ (F386 P ++ (F435 P ++ (F470 P ++ (F491 P ++ (F547 P ++ (F627 P ++ (F690 P ++ (F725 P ++ (F781 P ++ (F803 P))))))))))))))))))
noncomputable def S17 := st T17 873 1421
noncomputable def T18 : Params → BT := fun P => build 10 (hd15 (sv "law_np0112_01" 1421) 99 267 P ++ (F15 P ++ (F43 P ++ (F99 P ++ (F190 P ++ (F225 P ++ (F246 P ++ (F302 P ++ (F386 P ++ (F435 P ++ (F470 P ++ (F491 P ++ (F547 P ++ (F627 P ++ (F690 P ++ (F725 P ++ (F781 P ++ (F803 P ++ (F873 P)))))))))))))))))))
noncomputable def S18 := st T18 906 1479
theorem pc1 (w : World) (os : OsState) : segRunT treeTable pg w 11 (some (.ref 6)) 1 266 (S0 w os) (piecesOf (sl 0 3) en cE ⟨0, 0, 0, 0⟩ bf) = some (.next, S1 w os, cE, ⟨5, 0, 12, 26⟩) :=
  (fastS ..).trans (by kernel_rfl)
theorem pc2 (w : World) (os : OsState) : segRunT treeTable pg w 11 (some (.ref 6)) 1 373 (S1 w os) (piecesOf (sl 3 6) en cE ⟨5, 0, 12, 26⟩ bf) = some (.next, S2 w os, cE, ⟨33, 0, 36, 25⟩) :=
  (fastS ..).trans (by kernel_rfl)
theorem pc3 (w : World) (os : OsState) : segRunT treeTable pg w 11 (some (.ref 6)) 1 401 (S2 w os) (piecesOf (sl 9 13) en cE ⟨33, 0, 36, 25⟩ bf) = some (.next, S3 w os, cE, ⟨119, 0, 124, 22⟩) :=
  (fastS ..).trans (by kernel_rfl)
theorem pc4 (w : World) (os : OsState) : segRunT treeTable pg w 11 (some (.ref 6)) 1 173 (S3 w os) (piecesOf (sl 22 6) en cE ⟨119, 0, 124, 22⟩ bf) = some (.next, S4 w os, cE, ⟨178, 0, 178, 8⟩) :=
  (fastS ..).trans (by kernel_rfl)
theorem pc5 (w : World) (os : OsState) : segRunT treeTable pg w 11 (some (.ref 6)) 1 237 (S4 w os) (piecesOf (sl 28 1) en cE ⟨178, 0, 178, 8⟩ bf) = some (.next, S5 w os, cE, ⟨179, 0, 192, 26⟩) :=
  (fastS ..).trans (by kernel_rfl)
theorem pc6 (w : World) (os : OsState) : segRunT treeTable pg w 11 (some (.ref 6)) 1 378 (S5 w os) (piecesOf (sl 29 6) en cE ⟨179, 0, 192, 26⟩ bf) = some (.next, S6 w os, cE, ⟨230, 0, 241, 33⟩) :=
  (fastS ..).trans (by kernel_rfl)
theorem pc7 (w : World) (os : OsState) : segRunT treeTable pg w 11 (some (.ref 6)) 1 384 (S6 w os) (piecesOf (sl 35 12) en cE ⟨230, 0, 241, 33⟩ bf) = some (.next, S7 w os, cE, ⟨365, 0, 390, 15⟩) :=
  (fastS ..).trans (by kernel_rfl)
theorem pc8 (w : World) (os : OsState) : segRunT treeTable pg w 11 (some (.ref 6)) 1 241 (S7 w os) (piecesOf (sl 47 9) en cE ⟨365, 0, 390, 15⟩ bf) = some (.next, S8 w os, cE, ⟨437, 0, 437, 8⟩) :=
  (fastS ..).trans (by kernel_rfl)
theorem pc9 (w : World) (os : OsState) : segRunT treeTable pg w 11 (some (.ref 6)) 1 305 (S8 w os) (piecesOf (sl 56 3) en cE ⟨437, 0, 437, 8⟩ bf) = some (.next, S9 w os, cE, ⟨460, 0, 460, 8⟩) :=
  (fastS ..).trans (by kernel_rfl)
theorem pc10 (w : World) (os : OsState) : segRunT treeTable pg w 11 (some (.ref 6)) 1 228 (S9 w os) (piecesOf (sl 59 1) en cE ⟨460, 0, 460, 8⟩ bf) = some (.next, S10 w os, cE, ⟨461, 0, 467, 23⟩) :=
  (fastS ..).trans (by kernel_rfl)
theorem pc11 (w : World) (os : OsState) : segRunT treeTable pg w 11 (some (.ref 6)) 1 388 (S10 w os) (piecesOf (sl 60 2) en cE ⟨461, 0, 467, 23⟩ bf) = some (.next, S11 w os, cE, ⟨486, 0, 488, 29⟩) :=
  (fastS ..).trans (by kernel_rfl)
theorem pc12 (w : World) (os : OsState) : segRunT treeTable pg w 11 (some (.ref 6)) 1 396 (S11 w os) (piecesOf (sl 62 14) en cE ⟨486, 0, 488, 29⟩ bf) = some (.next, S12 w os, cE, ⟨556, 0, 556, 8⟩) :=
  (fastS ..).trans (by kernel_rfl)
theorem pc13 (w : World) (os : OsState) : segRunT treeTable pg w 11 (some (.ref 6)) 1 421 (S12 w os) (piecesOf (sl 76 1) en cE ⟨556, 0, 556, 8⟩ bf) = some (.next, S13 w os, cE, ⟨557, 0, 578, 16⟩) :=
  (fastS ..).trans (by kernel_rfl)
theorem pc14 (w : World) (os : OsState) : segRunT treeTable pg w 11 (some (.ref 6)) 1 172 (S13 w os) (piecesOf (sl 77 6) en cE ⟨557, 0, 578, 16⟩ bf) = some (.next, S14 w os, cE, ⟨613, 0, 615, 92⟩) :=
  (fastS ..).trans (by kernel_rfl)
theorem pc15 (w : World) (os : OsState) : segRunT treeTable pg w 11 (some (.ref 6)) 1 387 (S14 w os) (piecesOf (sl 83 5) en cE ⟨613, 0, 615, 92⟩ bf) = some (.next, S15 w os, cE, ⟨633, 0, 636, 56⟩) :=
  (fastS ..).trans (by kernel_rfl)
theorem pc16 (w : World) (os : OsState) : segRunT treeTable pg w 11 (some (.ref 6)) 1 130 (S15 w os) (piecesOf (sl 88 5) en cE ⟨633, 0, 636, 56⟩ bf) = some (.next, S16 w os, cE, ⟨663, 0, 663, 5⟩) :=
  (fastS ..).trans (by kernel_rfl)
theorem pc17 (w : World) (os : OsState) : segRunT treeTable pg w 11 (some (.ref 6)) 1 453 (S16 w os) (piecesOf (sl 93 1) en cE ⟨663, 0, 663, 5⟩ bf) = some (.next, S17 w os, cE, ⟨664, 0, 694, 19⟩) :=
  (fastS ..).trans (by kernel_rfl)
theorem pc18 (w : World) (os : OsState) : segRunT treeTable pg w 11 (some (.ref 6)) 1 174 (S17 w os) (piecesOf (sl 94 6) en cE ⟨664, 0, 694, 19⟩ bf) = some (.next, S18 w os, cE, ⟨724, 0, 744, 95⟩) :=
  (fastS ..).trans (by kernel_rfl)
end MineH
end
section
open PySem PySem.W PyProof.Rows
namespace MineH
theorem pre (w : World) (os : OsState) : topGo treeTable pg w 11 (some (.ref 6)) 12 ⟨boot_heap w.params, Array.mk [], boot_drawn, boot_toks, os⟩ (topStub pg) = some ((S0 w os).abs, ⟨denote treeTable cE, cE, ⟨0, 0, 0, 0⟩, bf⟩) := by
  rw [PySem.W.Fast.te15667345088766844465, PySem.W.Fast.te14364793385576792824, PySem.W.Fast.te11892475500146522536]; kernel_rfl
theorem blk (w : World) (os : OsState) : segRun treeTable pg w 11 (some (.ref 6)) 1 1 (S0 w os).abs (blockOf bd en cE ⟨0, 0, 0, 0⟩ bf) = some (.next, (S0 w os).abs, cE, ⟨0, 0, 0, 0⟩) := by
  rw [PySem.W.Fast.te14374325043358763698, PySem.W.Fast.te14364793385576792824]; kernel_rfl
theorem fin_ (w : World) (os : OsState) : topRun treeTable pg w 11 (some (.ref 6)) 2 (S18 w os).abs ⟨doneF .next, cE, ⟨724, 0, 744, 95⟩, bf⟩ = some (S18 w os).abs := by kernel_rfl
theorem openP (w : World) : (fencedOpening treeTable pg w 11104).map (fun s => (s.heap, s.gens, s.drawn, s.toks)) = some (boot_heap w.params, Array.mk [], boot_drawn, boot_toks) :=
  boot_open (by kernel_rfl) (by kernel_rfl) (fun _ => by kernel_rfl) w
theorem size_ (w : World) : ((boot_heap w.params).isNs mainGlobals && (Array.mk [] : Array GenState).size == 0, (boot_heap w.params).objs.size, (boot_heap w.params).nsMap mainGlobals "__annotations__") = (true, 11, some (.ref 6)) := by kernel_rfl
theorem bd_end : bd.drop 100 = [] := by kernel_rfl
end MineH
end
section
open PySem PySem.W PyProof.Rows
namespace MineH
theorem pa {w : World} {a m n N : Nat} {s s' r : Shared} {c : Code} {pos p' : Pos} (h : segRun treeTable pg w 11 (some (.ref 6)) 1 n s (piecesOf (sl a m) en c pos bf) = some (.next, s', c, p'))
    (k : topRun treeTable pg w 11 (some (.ref 6)) N s' (restOf (bd.drop (a + m)) en c p' bf) = some r) : topRun treeTable pg w 11 (some (.ref 6)) (n + N) s (restOf (bd.drop a) en c pos bf) = some r := by
  have := piece_app (q := ⟨0, 0, 0, 0⟩) h k
  rw [show bd.drop (a + m) = (bd.drop a).drop m from (List.drop_drop ..).symm, sl, List.take_append_drop] at this
  exact this
noncomputable def ls (P : Params) : List Obj := hd15 (sv "law_np0112_01" 1421) 99 267 P ++ (F15 P ++ (F43 P ++ (F99 P ++ (F190 P ++ (F225 P ++ (F246 P ++ (F302 P ++ (F386 P ++ (F435 P ++ (F470 P ++ (F491 P ++ (F547 P ++ (F627 P ++ (F690 P ++ (F725 P ++ (F781 P ++ (F803 P ++ (F873 P))))))))))))))))))
noncomputable def H1 (P : Params) : Heap := ⟨Array.mk (ls P), lf⟩
noncomputable def Sf (w : World) (os : OsState) : Shared := ⟨H1 w.params, Array.mk [], dr, 1479, os⟩
theorem fin2 (w : World) (os : OsState) : topRun treeTable pg w 11 (some (.ref 6)) 2 (S18 w os).abs ⟨doneF .next, cE, ⟨724, 0, 744, 95⟩, bf⟩ = some (Sf w os) := by kernel_rfl
theorem run_ (w : World) (os : OsState) : topRun treeTable pg w 11 (some (.ref 6)) (12 + (1 + (266 + (373 + (401 + (173 + (237 + (378 + (384 + (241 + (305 + (228 + (388 + (396 + (421 + (172 + (387 + (130 + (453 + (174 + 2)))))))))))))))))))) ⟨boot_heap w.params, Array.mk [], boot_drawn, boot_toks, os⟩ (topStub pg) = some (Sf w os) := by
  refine go_top (pre w os) (piece_block (q := ⟨0, 0, 0, 0⟩) (blk w os) (pa (a := 0) (segRun_of (pc1 w os)) (pa (segRun_of (pc2 w os)) (pa (segRun_of (pc3 w os)) (pa (segRun_of (pc4 w os)) (pa (segRun_of (pc5 w os)) (pa (segRun_of (pc6 w os)) (pa (segRun_of (pc7 w os)) (pa (segRun_of (pc8 w os))
    (pa (segRun_of (pc9 w os)) (pa (segRun_of (pc10 w os)) (pa (segRun_of (pc11 w os)) (pa (segRun_of (pc12 w os)) (pa (segRun_of (pc13 w os)) (pa (segRun_of (pc14 w os)) (pa (segRun_of (pc15 w os)) (pa (segRun_of (pc16 w os)) (pa (segRun_of (pc17 w os)) (pa (segRun_of (pc18 w os)) ?_)))))))))))))))))))
  show topRun _ _ _ _ _ _ _ (restOf (bd.drop 100) en cE _ bf) = _
  rw [bd_end]; exact fin2 w os
noncomputable def qv : Program := view pg [0, 2, 3, 4, 5, 6, 7, 8, 9, 10, 11, 12, 13, 14, 15, 16, 17, 18, 19, 20, 21, 22, 23, 24, 25, 26, 28, 29, 30, 31, 32, 33, 34, 35, 36, 37, 38, 39, 40, 41, 42, 43, 44, 45, 46, 47, 49, 50, 51, 52, 53, 54, 56, 57, 59, 60, 61, 62, 63, 64, 65, 66, 67, 68, 69, 70, 71, 73, 74, 76, 77, 78, 79, 81, 82, 83, 84, 85, 86, 87, 88, 89, 90, 92, 93, 95, 96, 97, 98, 99]
theorem lk1 (w : World) (os : OsState) : (staticsOk (importedModules pg.main.body) (boot_heap w.params) (H1 w.params) && namesBound pg (H1 w.params) && gensDone (Sf w os) && laidKept (boot_heap w.params) (H1 w.params)) = true := by kernel_rfl
end MineH
end
section
open PySem PySem.W PyProof.Rows
namespace MineH
noncomputable abbrev rwW : RowW := OpenRow.toRowW (OpenLaw.row PySem.Challenge.rw_np0112_01)
noncomputable abbrev XtF : Shared → Bool := fun s => xlAt qv [] s && recOk (RowW.records rwW) s
noncomputable def fnm : Stmt → Option Str
  | .FunctionDef n .. => some n
  | _ => none
theorem filt {n : Str} {P : Stmt → Bool} (hP : ∀ st, P st = (fnm st == some n)) : ∀ {l : List Stmt} {st : Stmt}, (l.filterMap fnm).Nodup → st ∈ l → fnm st = some n → l.filter P = [st]
  | x :: r, st, nd, hm, he => by
    have hx : ∀ y, fnm y = some n → P y = true := fun y q => by rw [hP, q]; exact beq_self_eq_true _
    have hn : ∀ y, fnm y ≠ some n → ¬ P y = true := fun y q z => q (eq_of_beq ((hP y).symm.trans z))
    cases hm with
    | head =>
      rw [List.filterMap_cons_some he] at nd
      rw [List.filter_cons_of_pos (hx _ he), List.filter_eq_nil_iff.mpr fun y hy => hn y fun q => (List.nodup_cons.mp nd).1 (List.mem_filterMap.mpr ⟨y, hy, q⟩)]
    | tail _ hm =>
      have nx : fnm x ≠ some n := fun q => by
        rw [List.filterMap_cons_some q] at nd
        exact (List.nodup_cons.mp nd).1 (List.mem_filterMap.mpr ⟨st, hm, he⟩)
      rw [List.filter_cons_of_neg (hn _ nx)]
      refine filt hP ?_ hm he
      cases q : fnm x with
      | none => rwa [List.filterMap_cons_none q] at nd
      | some z => rw [List.filterMap_cons_some q] at nd; exact (List.nodup_cons.mp nd).2
noncomputable def okF : Stmt → Bool
  | .FunctionDef _ a _ ds _ tps _ _ _ _ => ds.isEmpty && (tps.isEmpty && (a.defaults.isEmpty && (a.kwonlyargs.isEmpty && a.kw_defaults.isEmpty)))
  | _ => true
noncomputable def rqF : Stmt → Option DefRec
  | .FunctionDef name a b _ _ _ sc _ _ pos => some ⟨name, a, b, sc, pos⟩
  | _ => none
theorem fmc {α β : Type} {f g : α → Option β} : ∀ {l : List α}, (∀ x ∈ l, f x = g x) → l.filterMap f = l.filterMap g
  | [], _ => rfl
  | a :: r, h => by
    have ih := fmc (l := r) fun x m => h x (.tail _ m)
    have e := h a (.head _)
    cases q : g a with
    | none => rw [List.filterMap_cons_none q, List.filterMap_cons_none (e.trans q), ih]
    | some z => rw [List.filterMap_cons_some q, List.filterMap_cons_some (e.trans q), ih]
theorem recs_ {p : Program} (nd : (p.main.body.filterMap fnm).Nodup) (ok : p.main.body.all okF = true) :
    recsOf p = p.main.body.filterMap rqF ∧ drecsOf p = [] ∧ wdefsOf p = [] := by
  have td : ∀ {name a b ds r tps sc ts bd pos}, Stmt.FunctionDef name a b ds r tps sc ts bd pos ∈ p.main.body → p.theDef name = some (a, b, sc) ∧ a.defaults = [] ∧ a.kwonlyargs = [] ∧ a.kw_defaults = [] := by
    intro name a b ds r tps sc ts bd pos hm
    have o := List.all_eq_true.mp ok _ hm
    simp only [okF, Bool.and_eq_true, List.isEmpty_iff] at o
    obtain ⟨o1, o2, o3, o4, o5⟩ := o
    subst o1; subst o2
    refine ⟨?_, o3, o4, o5⟩
    unfold Program.theDef
    rw [filt (n := name) (fun st => by cases st <;> rfl) nd hm rfl]
  refine ⟨fmc fun st hm => ?_, List.filterMap_eq_nil_iff.mpr fun st hm => ?_, List.filterMap_eq_nil_iff.mpr fun st hm => ?_⟩
  · cases st <;> try rfl
    obtain ⟨e, h1, h2, h3⟩ := td hm
    dsimp only; rw [e]; dsimp only; rw [h1, h2, h3]; rfl
  · cases st <;> try rfl
    obtain ⟨e, h1, h2, h3⟩ := td hm
    dsimp only; rw [e]; dsimp only; rw [h1]
  · cases st <;> try rfl
    obtain ⟨e, h1, h2, h3⟩ := td hm
    dsimp only; rw [e]; dsimp only; rw [h1, h2, h3]; rfl
noncomputable def cd (s : Str) : Nat := s.cps.toList.foldl (fun h c => h * 2097152 + c) 1
noncomputable def nds : List Nat → Bool
  | [] => true
  | a :: r => r.all (fun b => !Nat.beq a b) && nds r
theorem nds_ : ∀ {l : List Str}, nds (l.map cd) = true → l.Nodup
  | [], _ => List.nodup_nil
  | a :: r, h => List.nodup_cons.mpr ⟨fun m => by
      have z := List.all_eq_true.mp (Bool.and_eq_true_iff.mp h).1 _ (List.mem_map.mpr ⟨a, m, rfl⟩)
      rw [Nat.beq_refl] at z; exact Bool.noConfusion z, nds_ (Bool.and_eq_true_iff.mp h).2⟩
noncomputable def rq : List DefRec := qv.main.body.filterMap rqF
theorem nd_ : (qv.main.body.filterMap fnm).Nodup := nds_ (by kernel_rfl)
theorem ok_ : qv.main.body.all okF = true := by kernel_rfl
theorem hR : recsOf qv = rq := (recs_ nd_ ok_).1
theorem hD : drecsOf qv = [] := (recs_ nd_ ok_).2.1
theorem hW : wdefsOf qv = [] := (recs_ nd_ ok_).2.2
theorem hV : wlitsOf qv = ((theConstW qv (Str.ofString "NAMES")).map fun d => (Str.ofString "NAMES", d)).toList := by
  rw [Fast.te11925523677476243305]; kernel_rfl
theorem hL : looseW qv [] = [Str.ofString "NAMES"] := by
  unfold looseW looseD heldW; rw [hD, hW, hV]; kernel_rfl
theorem kb (w : World) (os : OsState) : (Sf w os).heap.bltView = bltViewBooted := by
  kernel_rfl
theorem ka (w : World) (os : OsState) : seen ((recsOf qv).map (·.name)) (ownsOf qv) [] { Sf w os with gens := #[] } = expectedOf qv := by
  unfold expectedOf; rw [hR, Fast.te5160383126252970620]; kernel_rfl
theorem kc (w : World) (os : OsState) : ((Sf w os).heap.keysOk (looseW qv []) ((recsOf qv).map (·.name)) ((litsOf qv).map (·.1)) ((clssOf qv (looseW qv [])).map (·.name)) && (Sf w os).heap.accountedOkI (importedModules pg.main.body) && (Sf w os).heap.isNs mainGlobals && (Sf w os).heap.isNs builtinsNs && tablesOk qv (Sf w os).heap && XtF (Sf w os) && (if true then (Sf w os).gens.size == 0 else !leftWithCleanup (Sf w os).gens)) = true := by
  rw [hR, hL, Fast.te10880121769531294198]; kernel_rfl
theorem kd (w : World) (os : OsState) : tabsOk qv (Sf w os) = true := by
  unfold tabsOk; rw [hR, Fast.te5930804224584009831, Fast.te5244371056499926238, Fast.te2578726214315757710, Fast.te2458874890965802552, Fast.te9649274521512697073]; kernel_rfl
theorem ke (w : World) (os : OsState) : pinSeenD qv (drecsOf qv) (Sf w os) = pinGoodD (drecsOf qv) := by
  rw [hD]; kernel_rfl
theorem kf (w : World) (os : OsState) : plainSeenE qv (looseW qv []) (Sf w os) = plainGoodE qv (looseW qv []) := by
  rw [hL]; kernel_rfl
theorem kg (w : World) (os : OsState) : plainSeenD qv [] (Sf w os) = plainGoodD qv [] := by
  kernel_rfl
theorem kh (w : World) (os : OsState) : wideSeen qv (Sf w os) = wideGood qv := by
  unfold wideSeen wideGood; rw [hW, hV]; kernel_rfl
theorem ki (w : World) (os : OsState) : clsSeenW qv [] (Sf w os) = clsGoodW qv [] := by
  kernel_rfl
theorem pe {α β : Type} {a a' : α} {b b' : β} (h : a = a') (k : b = b') : (a, b) = (a', b') := h ▸ k ▸ rfl
theorem lk2 (w : World) (os : OsState) : openSeen qv [] (importedModules pg.main.body) XtF true (Sf w os) = openGood qv [] := by
  unfold openSeen openGood
  exact pe (ka w os) (pe (kb w os) (pe (kc w os) (pe (kd w os) (pe (ke w os) (pe (kf w os) (pe (kg w os) (pe (kh w os) (ki w os))))))))
end MineH
end
section
open PySem PySem.W PyProof.Rows
namespace MineH
noncomputable def num (a : Nat) (l : List Obj) : Frag := match l with | [] => [] | o :: r => (a, o) :: num (a + 1) r
noncomputable def kp (a : Nat) : Bool := Nat.testBit 0x3183060c01b060c183060c18127060c183060c01b0604983060c180360c183060c181260c183063183060c1830600d83060c181206c093006c181260c183060c183060c183060c183060c183060c183006c0903604983060c183060c183060c183060c183060c1830600d81206c09300000 a
noncomputable def hk (P : Params) : Frag := (2, boot_o_2 P) :: (3, gd (sv "law_np0112_01" 1421) 99 P) :: (num 15 ((ls P).drop 15)).filter fun p => kp p.1
noncomputable def ks : List Addr := 2 :: 3 :: (List.range' 15 891).filter kp
theorem ks_eq (P : Params) : ks = (hk P).map (·.1) := by kernel_rfl
noncomputable abbrev Hk : Hook := kHook hk ks ks_eq
noncomputable def nf (o : Obj) : Bool := match o with
  | ⟨_, _, .freed, _⟩ => false
  | _ => true
theorem get_nf {h : Heap} {a : Nat} {o : Obj} (e : h.objs.toList[a]? = some o) (n : nf o = true) : h.get? a = some o := by
  unfold Heap.get?
  rw [← Array.getElem?_toList, e]
  obtain ⟨_, _, d, _⟩ := o
  cases d <;> first | rfl | exact Bool.noConfusion n
theorem num_at (h : Heap) (q : Nat → Bool) : ∀ (l : List Obj) (a n : Nat), h.objs.toList.drop a = l → l.length = n → l.all nf = true → ((List.range' a n).filter q).map h.get? = ((num a l).filter fun p => q p.1).map fun p => some p.2
  | [], _, _, _, e, _ => by subst e; rfl
  | o :: r, a, _, d, e, c => by
    subst e
    have h0 : h.objs.toList[a]? = some o := by rw [← Nat.add_zero a, ← List.getElem?_drop, d]; rfl
    have h1 : h.objs.toList.drop (a + 1) = r := by rw [← List.drop_drop, d]; rfl
    have ih := num_at h q r (a + 1) r.length h1 rfl (Bool.and_eq_true_iff.mp c).2
    have z := get_nf h0 (Bool.and_eq_true_iff.mp c).1
    rw [List.length_cons, List.range'_succ, List.filter_cons, show num a (o :: r) = (a, o) :: num (a + 1) r from rfl, List.filter_cons]
    by_cases w : q a = true
    · rw [if_pos w, if_pos w, List.map_cons, List.map_cons, z, ih]
    · rw [if_neg w, if_neg w, ih]
theorem len_ (P : Params) : ((ls P).drop 15).length = 891 := by kernel_rfl
theorem all_ (P : Params) : ((ls P).drop 15).all nf = true := by kernel_rfl
theorem lk3 (w : World) (os : OsState) : Hk.obs (Sf w os) = Hk.val w := by
  change ks.map (H1 w.params).get? = (hk w.params).map fun p => some p.2
  unfold ks hk
  rw [List.map_cons, List.map_cons, List.map_cons, List.map_cons, num_at (H1 w.params) kp ((ls w.params).drop 15) 15 891 rfl (len_ w.params) (all_ w.params)]
  exact List.cons_eq_cons.mpr ⟨by kernel_rfl, List.cons_eq_cons.mpr ⟨by kernel_rfl, rfl⟩⟩
theorem left : LeftO pg qv [] XtF Hk.obs Hk.val 11104 true :=
  LeftO.of_pieces openP size_ run_ (by rfl) (fun w => funext fun os => Prod.ext (lk1 w os) (Prod.ext (lk2 w os) (lk3 w os)))
end MineH
end
section
open PySem PySem.W PyProof.Rows
namespace MineH
noncomputable def bL : List Stmt := match sA 99 with | .FunctionDef _ _ b _ _ _ _ _ _ _ => b | _ => []
noncomputable def scL : Scope := match sA 99 with | .FunctionDef _ _ _ _ _ _ s _ _ _ => s | _ => default
noncomputable def dL : DefRec := { name := Str.ofString "law", params := { posonlyargs := [], args := [{ arg := Str.ofString "script", annotation := none, pos := ⟨724, 8, 724, 14⟩ }], vararg := none, kwonlyargs := [], kw_defaults := [], kwarg := none, defaults := [] }, body := bL, scope := scL, pos := ⟨724, 0, 744, 95⟩ }
theorem defOf_of {p : Program} {n : Str} {d : DefRec} (h : (recsOf p).find? (fun e => e.name == n) = some d) (e : d.params.defaults.isEmpty = true) : defOf p n = some (d, []) := by
  unfold defOf
  rw [h]
  exact if_pos e
theorem find_ : (recsOf qv).find? (fun e => e.name == PySem.Challenge.rw_np0112_01.row.name) = some dL := by rw [hR]; kernel_rfl
theorem whole_ : PySem.Challenge.rw_np0112_01.row.prog.tablesWhole = true := by
  unfold Program.tablesWhole TablesWhole.wProgram
  rw [Fast.te6116379765354995101]; kernel_rfl
theorem hd (h : WalkO qv [] (XL qv []) Hk.says rwW dL [] fun f vs => PySem.call f vs) : PySem.Challenge.rw_np0112_01.Holds := by
  refine holds_law said fun said' => holds_open (q := qv) (loose := []) (Xt := XtF) (XP := XL qv []) (Yf := Hk.obs) (Ya := Hk.val) (YP := Hk.says) (d := dL) (kwd := []) (N := 11104) left (Hook.of Hk) (Hook.keeps Hk) (fun s e => xl_of s (Bool.and_eq_true_iff.mp e).1) XL.keeps (defOf_of find_ rfl) (by kernel_rfl) (by kernel_rfl) (fun s e => recFacts_of (Bool.and_eq_true_iff.mp e).2) (by rfl) said' (by kernel_rfl) ⟨rfl, rfl, rfl, rfl, rfl, whole_⟩ ?hw h
  w_witness2
end MineH
end
section
open PySem PySem.W PyProof.Rows
namespace MineH
theorem gl1 : namesOk qv (looseW qv []) (namesW qv []) = true := by
  rw [hL, PySem.W.Fast.te17448422675489707002]; kernel_rfl
theorem gl2 : importsNone qv = true := by
  rw [PySem.W.Fast.te2458874890965802552]; kernel_rfl
end MineH
end
section
namespace Mine
inductive V where
  | none
  | bool (b : Bool)
  | int (i : Int)
  | str (s : Nat)
  | ref (a : Nat)
  | tup (vs : List V)
  | slist (vs : List V)
  deriving Inhabited
inductive O where
  | inst (c : Nat) (fs : List (Nat × V))
  | list (vs : List V)
  | dict (es : List (Int × V))
  deriving Inhabited
noncomputable abbrev St := List O
noncomputable abbrev Lo := List (Nat × V)
inductive Bop where | add | sub | mul | fdiv | fmod
inductive Cop where | eq | ne | lt | le | gt | ge | is | isn
inductive Ty where | int | bool | tuple
mutual
inductive Ex where
  | bad
  | var (x : Nat)
  | val (v : V)
  | dct
  | attr (e : Ex) (f : Nat)
  | bin (op : Bop) (a b : Ex)
  | neg (a : Ex)
  | not (a : Ex)
  | cmp (op : Cop) (a b : Ex)
  | cmp3 (o1 o2 : Cop) (a b c : Ex)
  | band (es : Exs)
  | bor (es : Exs)
  | ite (c a b : Ex)
  | tup (es : Exs)
  | lst (es : Exs)
  | idx (e i : Ex)
  | upto (e k : Ex)
  | rev (e : Ex)
  | call (f : Nat) (es : Exs)
  | new (c : Nat) (es : Exs)
  | meth (o : Ex) (n : Nat) (es : Exs)
  | lapp (o e : Ex)
  | lpop (o : Ex)
  | lext (o e : Ex)
  | nidx (e : Ex)
  | len (e : Ex)
  | abs (e : Ex)
  | min2 (a b : Ex)
  | max2 (a b : Ex)
  | minL (e : Ex)
  | maxL (e : Ex)
  | isi (t : Ty) (e : Ex)
  | srt (e o : Ex) (n : Nat)
  | comp (e : Ex) (x : Nat) (it : It)
  | compc (e : Ex) (x : Nat) (it : It) (c : Ex)
inductive Exs where
  | nil
  | cons (e : Ex) (es : Exs)
inductive It where
  | seq (e : Ex)
  | rng1 (e : Ex)
  | rng2 (a b : Ex)
end
mutual
inductive S where
  | bad
  | asg (x : Nat) (e : Ex)
  | asgT (xs : List Nat) (e : Ex)
  | asgA (o : Ex) (f : Nat) (e : Ex)
  | asgI (o i e : Ex)
  | ret (e : Ex)
  | ret0
  | ite (c : Ex) (a b : Ss)
  | whl (c : Ex) (b : Ss)
  | for1 (x : Nat) (it : It) (b : Ss)
  | forT (xs : List Nat) (it : It) (b : Ss)
  | exp (e : Ex)
inductive Ss where
  | nil
  | cons (s : S) (ss : Ss)
end
structure Fn where
  ps : List Nat
  body : Ss
structure Cl where
  init : Nat
  meths : List (Nat × Nat)
noncomputable def look {α : Type} (x : Nat) : List (Nat × α) → Option α
  | [] => .none
  | (y, v) :: r => if x = y then some v else look x r
noncomputable def put {α : Type} (x : Nat) (v : α) : List (Nat × α) → List (Nat × α)
  | [] => [(x, v)]
  | (y, w) :: r => if x = y then (y, v) :: r else (y, w) :: put x v r
noncomputable def lookI {α : Type} (x : Int) : List (Int × α) → Option α
  | [] => .none
  | (y, v) :: r => if x = y then some v else lookI x r
section
variable {α β γ δ : Type}
noncomputable def bd (x : Option (α × β)) (k : α → β → Option γ) : Option γ := @Option.rec _ (fun _ => Option γ) .none (@Prod.rec _ _ (fun _ => Option γ) k) x
noncomputable def b3 (x : Option (α × β × δ)) (k : α → β → δ → Option γ) : Option γ := @Option.rec _ (fun _ => Option γ) .none (@Prod.rec _ _ (fun _ => Option γ) fun a => @Prod.rec _ _ (fun _ => Option γ) (k a)) x
noncomputable def ob (x : Option α) (k : α → Option γ) : Option γ := @Option.rec _ (fun _ => Option γ) .none k x
noncomputable def onZ (x : Option α) (k : Option γ) : Option γ := @Option.rec _ (fun _ => Option γ) k (fun _ => .none) x
noncomputable def orO (x : Option α) (f : α → γ) (g : γ) : γ := @Option.rec _ (fun _ => γ) g f x
noncomputable def onI (v : V) (k : Int → Option γ) : Option γ := V.casesOn (motive_1 := fun _ => Option γ) v .none (fun _ => .none) k (fun _ => .none) (fun _ => .none) (fun _ => .none) (fun _ => .none)
noncomputable def onB (v : V) (k : Bool → Option γ) : Option γ := V.casesOn (motive_1 := fun _ => Option γ) v .none k (fun _ => .none) (fun _ => .none) (fun _ => .none) (fun _ => .none) (fun _ => .none)
noncomputable def onS (v : V) (k : Nat → Option γ) : Option γ := V.casesOn (motive_1 := fun _ => Option γ) v .none (fun _ => .none) (fun _ => .none) k (fun _ => .none) (fun _ => .none) (fun _ => .none)
noncomputable def onR (v : V) (k : Nat → Option γ) : Option γ := V.casesOn (motive_1 := fun _ => Option γ) v .none (fun _ => .none) (fun _ => .none) (fun _ => .none) k (fun _ => .none) (fun _ => .none)
noncomputable def onT (v : V) (k : List V → Option γ) : Option γ := V.casesOn (motive_1 := fun _ => Option γ) v .none (fun _ => .none) (fun _ => .none) (fun _ => .none) (fun _ => .none) k (fun _ => .none)
noncomputable def onN (v : V) (k : Option γ) : Option γ := V.casesOn (motive_1 := fun _ => Option γ) v k (fun _ => .none) (fun _ => .none) (fun _ => .none) (fun _ => .none) (fun _ => .none) (fun _ => .none)
noncomputable def onIn (o : O) (k : Nat → List (Nat × V) → Option γ) : Option γ := O.casesOn (motive := fun _ => Option γ) o k (fun _ => .none) (fun _ => .none)
noncomputable def onLi (o : O) (k : List V → Option γ) : Option γ := O.casesOn (motive := fun _ => Option γ) o (fun _ _ => .none) k (fun _ => .none)
end
noncomputable def V.atom : V → Bool
  | .none => true
  | .bool _ => true
  | .int _ => true
  | .str _ => true
  | _ => false
noncomputable def V.flat : V → Bool
  | .tup vs => vs.all V.atom
  | v => v.atom
noncomputable def b2i (b : Bool) : Int := if b then 1 else 0
noncomputable def atomEq (a b : V) : Bool := match a with
  | .none => (match b with
    | .none => true
    | _ => false)
  | .bool x => (match b with
    | .bool y => x == y
    | .int j => b2i x == j
    | _ => false)
  | .int i => (match b with
    | .bool y => i == b2i y
    | .int j => i == j
    | _ => false)
  | .str x => (match b with
    | .str y => x == y
    | _ => false)
  | _ => false
noncomputable def atomsEq : List V → List V → Bool
  | [], [] => true
  | a :: as, b :: bs => atomEq a b && atomsEq as bs
  | _, _ => false
noncomputable def eqA (a b : V) : Bool := match a with
  | .tup as => (match b with
    | .tup bs => atomsEq as bs
    | _ => false)
  | _ => atomEq a b
noncomputable def eqV (a b : V) : Option Bool := if a.flat && b.flat then some (eqA a b) else .none
noncomputable def ltVs : List V → List V → Option Bool
  | [], [] => some false
  | a :: as, b :: bs => onI a fun i => onI b fun j => if i = j then ltVs as bs else if as.length = bs.length then some (decide (i < j)) else .none
  | _, _ => .none
noncomputable def isNoneV (v : V) : Bool := match v with
  | .none => true
  | _ => false
noncomputable def isV (a b : V) : Option Bool := match a with
  | .none => some (isNoneV b)
  | .ref x => (match b with
    | .none => some false
    | .ref y => some (decide (x = y))
    | _ => .none)
  | _ => (match b with
    | .none => some false
    | _ => .none)
noncomputable def cmpV (op : Cop) (a b : V) : Option Bool := match op with
  | .eq => eqV a b
  | .ne => ob (eqV a b) fun r => some (!r)
  | .is => isV a b
  | .isn => ob (isV a b) fun r => some (!r)
  | .lt => onI a fun i => onI b fun j => some (decide (i < j))
  | .le => onI a fun i => onI b fun j => some (decide (i ≤ j))
  | .ge => onI a fun i => onI b fun j => some (decide (j ≤ i))
  | .gt => (match a with
    | .int i => onI b fun j => some (decide (j < i))
    | .tup as => onT b fun bs => ltVs bs as
    | _ => .none)
noncomputable def maxSeq : Nat := 4096
section
variable {γ : Type}
noncomputable def atL (st : St) (a : Nat) (k : List V → Option γ) : Option γ := ob st[a]? fun o => onLi o k
noncomputable def atI (st : St) (a : Nat) (k : Nat → List (Nat × V) → Option γ) : Option γ := ob st[a]? fun o => onIn o k
end
noncomputable def addV (a b : V) (st : St) : Option (V × St) := match a with
  | .int x => onI b fun y => some (.int (x + y), st)
  | .tup xs => onT b fun ys => if xs.length + ys.length ≤ maxSeq then some (.tup (xs ++ ys), st) else .none
  | .ref x => onR b fun y => atL st x fun xs => atL st y fun ys => if xs.length + ys.length ≤ maxSeq then some (.ref st.length, st ++ [.list (xs ++ ys)]) else .none
  | _ => .none
noncomputable def mulV (a b : V) (st : St) : Option (V × St) := match a with
  | .int x => onI b fun y => if x.natAbs < 4294967296 ∧ y.natAbs < 4294967296 then some (.int (x * y), st) else .none
  | .ref x => onI b fun y => atL st x fun vs => match vs with
    | [v] => if 0 ≤ y ∧ y ≤ 64 then some (.ref st.length, st ++ [.list (List.replicate y.toNat v)]) else .none
    | _ => .none
  | _ => .none
noncomputable def binV (op : Bop) (a b : V) (st : St) : Option (V × St) := match op with
  | .add => addV a b st
  | .mul => mulV a b st
  | .sub => onI a fun x => onI b fun y => some (.int (x - y), st)
  | .fdiv => onI a fun x => onI b fun y => if 0 < y ∧ y < 1073741824 then some (.int (x / y), st) else .none
  | .fmod => onI a fun x => onI b fun y => if 0 < y ∧ y < 1073741824 then some (.int (x % y), st) else .none
noncomputable def Ty.of (b i t : Bool) : Ty → Bool
  | .int => i
  | .bool => b
  | .tuple => t
noncomputable def isiV (t : Ty) (v : V) : Option Bool := match v with
  | .none => some false
  | .bool _ => some (t.of true true false)
  | .int _ => some (t.of false true false)
  | .tup _ => some (t.of false false true)
  | _ => .none
noncomputable def idxV (st : St) (e i : V) : Option V := onI i fun k => match e with
  | .tup vs => if 0 ≤ k ∧ k < 4294967296 then vs[k.toNat]? else .none
  | .ref a => ob st[a]? fun o => (match o with
    | .list vs => if 0 ≤ k ∧ k < 4294967296 then vs[k.toNat]? else .none
    | .dict es => lookI k es
    | _ => .none)
  | _ => .none
noncomputable def uptoV (st : St) (e k : V) : Option (V × St) := onI k fun k => match e with
  | .tup vs => if 0 ≤ k ∧ k.toNat < vs.length ∧ vs.length ≤ 4096 then some (.tup (vs.take k.toNat), st) else .none
  | .slist vs => if 0 ≤ k ∧ vs.length ≤ 4096 then some (.ref st.length, st ++ [.list (vs.take k.toNat)]) else .none
  | _ => .none
noncomputable def lenV (st : St) (v : V) : Option Int := match v with
  | .tup vs => if vs.length < 4294967296 then some vs.length else .none
  | .ref a => atL st a fun vs => if vs.length < 4294967296 then some vs.length else .none
  | _ => .none
noncomputable def listV (st : St) (v : V) : Option (List V) := onR v fun a => atL st a fun vs => if vs.length ≤ maxSeq then some vs else .none
noncomputable def attrV (st : St) (v : V) (f : Nat) : Option V := onR v fun a => atI st a fun _ fs => look f fs
noncomputable def setAttrV (cls : List Cl) (st : St) (o : V) (f : Nat) (v : V) : Option St :=
  onR o fun a => atI st a fun c fs => ob cls[c]? fun cl => onZ (look f cl.meths) (if fs.length ≤ 64 then some (st.set a (.inst c (put f v fs))) else .none)
noncomputable def setIdxV (st : St) (o i v : V) : Option St := onR o fun a => onI i fun k => ob st[a]? fun x => match x with
  | .list vs => if 0 ≤ k ∧ k < 4294967296 ∧ k.toNat < vs.length then some (st.set a (.list (vs.set k.toNat v))) else .none
  | .dict es => onZ (lookI k es) (if es.length ≤ 64 then some (st.set a (.dict (es ++ [(k, v)]))) else .none)
  | _ => .none
noncomputable def appV (st : St) (o v : V) : Option St := onR o fun a => atL st a fun vs => if vs.length ≤ maxSeq then some (st.set a (.list (vs ++ [v]))) else .none
noncomputable def popV (st : St) (o : V) : Option (V × St) := onR o fun a => atL st a fun vs => ob vs.getLast? fun v => if vs.length ≤ maxSeq then some (v, st.set a (.list vs.dropLast)) else .none
noncomputable def extV (st : St) (o e : V) : Option St := onR o fun a => onR e fun b => atL st a fun vs => atL st b fun ws =>
  if a ≠ b ∧ vs.length + ws.length ≤ maxSeq then some (st.set a (.list (vs ++ ws))) else .none
noncomputable def itemsV (st : St) (v : V) : Option (List V × Option Nat) := match v with
  | .tup vs => some (vs, .none)
  | .ref a => atL st a fun vs => some (vs, some a)
  | _ => .none
noncomputable def rangeV (a b : Int) : List V := (List.range (b - a).toNat).map fun i => V.int (a + (i : Nat))
noncomputable def intsOf : List V → Option (List Int)
  | [] => some []
  | v :: r => onI v fun i => ob (intsOf r) fun is => some (i :: is)
noncomputable def minOf : List Int → Option Int
  | [] => .none
  | x :: r => some (r.foldl min x)
noncomputable def maxOf : List Int → Option Int
  | [] => .none
  | x :: r => some (r.foldl max x)
mutual
noncomputable def V.same (a b : V) : Bool := match a with
  | .none => (match b with | .none => true | _ => false)
  | .bool x => (match b with | .bool y => x == y | _ => false)
  | .int x => (match b with | .int y => decide (x = y) | _ => false)
  | .str x => (match b with | .str y => decide (x = y) | _ => false)
  | .ref x => (match b with | .ref y => decide (x = y) | _ => false)
  | .tup x => (match b with | .tup y => V.sames x y | _ => false)
  | .slist x => (match b with | .slist y => V.sames x y | _ => false)
noncomputable def V.sames (a b : List V) : Bool := match a with
  | [] => (match b with | [] => true | _ => false)
  | x :: a => (match b with | y :: b => V.same x y && V.sames a b | _ => false)
end
theorem ff {P : Prop} (h : false = true) : P := Bool.noConfusion h
theorem tf {P : Prop} (h : true = false) : P := Bool.noConfusion h
theorem nn {α : Type} {a : α} {P : Prop} (e : none = some a) : P := nomatch e
theorem sn {α : Type} {a : α} {P : Prop} (e : some a = none) : P := nomatch e
theorem so1k {α : Type} {a c : α} {P : Prop} (e : some a = some c) (k : a = c → P) : P := k (Option.some.inj e)
theorem so2k {α β : Type} {a c : α} {b d : β} {P : Prop} (e : some (a, b) = some (c, d)) (k : a = c → b = d → P) : P := k (Prod.mk.inj (Option.some.inj e)).1 (Prod.mk.inj (Option.some.inj e)).2
theorem so2 {α β : Type} {a c : α} {b d : β} (e : some (a, b) = some (c, d)) : a = c ∧ b = d := Prod.mk.inj (Option.some.inj e)
theorem b1 {a b : Bool} (h : (a && b) = true) : a = true := (Bool.and_eq_true_iff.mp h).1
theorem b2 {a b : Bool} (h : (a && b) = true) : b = true := (Bool.and_eq_true_iff.mp h).2
mutual
theorem V.same_eq : ∀ {a b : V}, V.same a b = true → a = b
  | .none, b, h => by cases b <;> first | rfl | exact ff h
  | .bool x, b, h => by cases b <;> first | exact congrArg V.bool (eq_of_beq h) | exact ff h
  | .int x, b, h => by cases b <;> first | exact congrArg V.int (of_decide_eq_true h) | exact ff h
  | .str x, b, h => by cases b <;> first | exact congrArg V.str (of_decide_eq_true h) | exact ff h
  | .ref x, b, h => by cases b <;> first | exact congrArg V.ref (of_decide_eq_true h) | exact ff h
  | .tup x, b, h => by cases b <;> first | exact congrArg V.tup (V.sames_eq h) | exact ff h
  | .slist x, b, h => by cases b <;> first | exact congrArg V.slist (V.sames_eq h) | exact ff h
theorem V.sames_eq : ∀ {a b : List V}, V.sames a b = true → a = b
  | [], b, h => by cases b <;> first | rfl | exact ff h
  | x :: a, b, h => by
    cases b with
    | nil => exact ff h
    | cons y b => exact (V.same_eq (b1 h)).symm ▸ (V.sames_eq (b2 h)).symm ▸ rfl
end
mutual
theorem V.same_refl : ∀ a : V, V.same a a = true
  | .none => rfl
  | .bool x => beq_self_eq_true x
  | .int _ | .str _ | .ref _ => decide_eq_true rfl
  | .tup a | .slist a => V.sames_refl a
theorem V.sames_refl : ∀ a : List V, V.sames a a = true
  | [] => rfl
  | a :: as => Bool.and_eq_true_iff.mpr ⟨V.same_refl a, V.sames_refl as⟩
end
noncomputable def stays (st : St) (a : Option Nat) (vs : List V) : Bool :=
  match a with
  | .none => true
  | some a => (match st[a]? with
    | some o => (match o with
      | .list ws => V.sames vs ws
      | _ => false)
    | .none => false)
noncomputable def bindT : List Nat → List V → Lo → Option Lo
  | [], [], m => some m
  | x :: xs, v :: vs, m => bindT xs vs (put x v m)
  | _, _, _ => .none
noncomputable abbrev CallF := Nat → List V → St → Option (V × St)
noncomputable abbrev RunR := Option (Option V × Lo × St)
noncomputable def loopW (test : Lo → St → Option (V × St)) (body : Lo → St → RunR) : Nat → Lo → St → RunR
  | 0, _, _ => .none
  | k + 1, m, st => bd (test m st) fun v st1 => onB v fun t => cond t
    (b3 (body m st1) fun ov m2 st2 => orO ov (fun w => some (some w, m2, st2)) (loopW test body k m2 st2))
    (some (.none, m, st1))
noncomputable def loopF (a : Option Nat) (all : List V) (bnd : V → Lo → Option Lo) (body : Lo → St → RunR) : List V → Lo → St → RunR
  | [], m, st => some (.none, m, st)
  | v :: vs, m, st => ob (bnd v m) fun m1 => b3 (body m1 st) fun ov m2 st2 => orO ov (fun w => some (some w, m2, st2))
    (if stays st2 a all then loopF a all bnd body vs m2 st2 else .none)
noncomputable def loopC (a : Option Nat) (all : List V) (x : Nat) (elt : Lo → St → Option (V × St)) (cond' : Lo → St → Option (V × St)) : List V → Lo → St → Option (List V × St)
  | [], _, st => some ([], st)
  | v :: vs, m, st => bd (cond' (put x v m) st) fun u st1 => onB u fun t => cond t
    (bd (elt (put x v m) st1) fun w st2 => if stays st2 a all then bd (loopC a all x elt cond' vs m st2) fun ws st3 => some (w :: ws, st3) else .none)
    (if stays st1 a all then loopC a all x elt cond' vs m st1 else .none)
noncomputable def keysOf (C : CallF) (f : Nat) (self : V) (a : Nat) (all : List V) : List V → St → Option (List (List V) × St)
  | [], st => some ([], st)
  | v :: vs, st => bd (C f [self, v] st) fun u st1 => onT u fun k =>
    if stays st1 (some a) all then bd (keysOf C f self a all vs st1) fun ks st2 => some (k :: ks, st2) else .none
noncomputable def isIntV : V → Bool
  | .int _ => true
  | _ => false
noncomputable def okKeys : List (List V) → Bool
  | [] => true
  | k :: r => k.all isIntV && k.length == 5 && r.all (fun k' => !(V.sames k k')) && okKeys r
noncomputable def insK (k : List V) (v : V) : List (List V × V) → Option (List (List V × V))
  | [] => some [(k, v)]
  | p :: r => ob (ltVs k p.1) fun t => cond t (ob (insK k v r) fun q => some (p :: q))
    (ob (ltVs p.1 k) fun u => cond u (some ((k, v) :: p :: r)) .none)
noncomputable def sortK : List (List V × V) → Option (List (List V × V))
  | [] => some []
  | p :: r => ob (sortK r) fun q => insK p.1 p.2 q
section
variable (cls : List Cl) (nid : List (Nat × Int)) (C : CallF)
noncomputable def srtV (n a b : Nat) (st2 : St) : Option (V × St) :=
  ob st2[b]? fun o => onIn o fun c fs => ob st2[a]? fun l => onLi l fun vs => onZ (look n fs) (ob cls[c]? fun cl => ob (look n cl.meths) fun f =>
    if vs.length ≤ 5 then bd (keysOf C f (.ref b) a vs vs st2) fun ks st3 => if okKeys ks then ob (sortK (ks.zip vs)) fun out => some (.ref st3.length, st3 ++ [.list (out.map (·.2))]) else .none else .none)
noncomputable abbrev XE := Lo → St → Option (V × St)
noncomputable abbrev XL := (Lo → St → Option (List V × St)) × (Lo → St → Option (V × St)) × (Lo → St → Option (V × St))
noncomputable abbrev XI := Lo → St → Option (List V × Option Nat × St)
noncomputable def g0 : XE := (fun _ _ => .none)
noncomputable def g1 : Nat → XE := (fun x => fun m st => ob (look x m) fun v => some (v, st))
noncomputable def g2 : V → XE := (fun v => fun _ st => some (v, st))
noncomputable def g3 : XE := (fun _ st => some (.ref st.length, st ++ [.dict []]))
noncomputable def g4 : Ex → Nat → XE → XE := (fun e f ie => fun m st => bd (ie m st) fun o st1 => ob (attrV st1 o f) fun v => some (v, st1))
noncomputable def g5 : Bop → Ex → Ex → XE → XE → XE := (fun op a b ia ib => fun m st => bd (ia m st) fun x st1 => bd (ib m st1) fun y st2 => binV op x y st2)
noncomputable def g6 : Ex → XE → XE := (fun a ia => fun m st => bd (ia m st) fun v st1 => onI v fun i => some (.int (-i), st1))
noncomputable def g7 : Ex → XE → XE := (fun a ia => fun m st => bd (ia m st) fun v st1 => onB v fun b => some (.bool (!b), st1))
noncomputable def g8 : Cop → Ex → Ex → XE → XE → XE := (fun op a b ia ib => fun m st => bd (ia m st) fun x st1 => bd (ib m st1) fun y st2 => ob (cmpV op x y) fun r => some (.bool r, st2))
noncomputable def g9 : Cop → Cop → Ex → Ex → Ex → XE → XE → XE → XE := (fun o1 o2 a b c ia ib ic => fun m st => bd (ia m st) fun x st1 => bd (ib m st1) fun y st2 => ob (cmpV o1 x y) fun t => cond t (bd (ic m st2) fun z st3 => ob (cmpV o2 y z) fun r => some (.bool r, st3)) (some (.bool false, st2)))
noncomputable def g10 : Exs → XL → XE := (fun es ies => fun m st => ies.2.1 m st)
noncomputable def g11 : Exs → XL → XE := (fun es ies => fun m st => ies.2.2 m st)
noncomputable def g12 : Ex → Ex → Ex → XE → XE → XE → XE := (fun c a b ic ia ib => fun m st => bd (ic m st) fun v st1 => onB v fun t => cond t (ia m st1) (ib m st1))
noncomputable def g13 : Exs → XL → XE := (fun es ies => fun m st => bd (ies.1 m st) fun vs st1 => some (.tup vs, st1))
noncomputable def g14 : Exs → XL → XE := (fun es ies => fun m st => bd (ies.1 m st) fun vs st1 => some (.ref st1.length, st1 ++ [.list vs]))
noncomputable def g15 : Ex → Ex → XE → XE → XE := (fun e i ie ii => fun m st => bd (ie m st) fun o st1 => bd (ii m st1) fun k st2 => ob (idxV st2 o k) fun v => some (v, st2))
noncomputable def g16 : Ex → Ex → XE → XE → XE := (fun e i ie ii => fun m st => bd (ie m st) fun o st1 => bd (ii m st1) fun k st2 => uptoV st2 o k)
noncomputable def g17 : Ex → XE → XE := (fun e ie => fun m st => bd (ie m st) fun o st1 => ob (listV st1 o) fun vs => some (.ref st1.length, st1 ++ [.list vs.reverse]))
noncomputable def g18 : Nat → Exs → XL → XE := (fun f es ies => fun m st => bd (ies.1 m st) fun vs st1 => C f vs st1)
noncomputable def g19 : Nat → Exs → XL → XE := (fun c es ies => fun m st => bd (ies.1 m st) fun vs st1 => ob cls[c]? fun cl => bd (C cl.init (.ref st1.length :: vs) (st1 ++ [.inst c []])) fun u st2 => onN u (some (.ref st1.length, st2)))
noncomputable def g20 : Ex → Nat → Exs → XE → XL → XE := (fun o n es io ies => fun m st => bd (io m st) fun v st1 => onR v fun a => ob st1[a]? fun x => onIn x fun c fs => onZ (look n fs) (ob cls[c]? fun cl => ob (look n cl.meths) fun f => bd (ies.1 m st1) fun vs st2 => C f (.ref a :: vs) st2))
noncomputable def g21 : Ex → Ex → XE → XE → XE := (fun o e io ie => fun m st => bd (io m st) fun l st1 => ob (listV st1 l) fun _ => bd (ie m st1) fun v st2 => ob (appV st2 l v) fun st3 => some (.none, st3))
noncomputable def g22 : Ex → XE → XE := (fun o io => fun m st => bd (io m st) fun l st1 => popV st1 l)
noncomputable def g23 : Ex → Ex → XE → XE → XE := (fun o e io ie => fun m st => bd (io m st) fun l st1 => ob (listV st1 l) fun _ => bd (ie m st1) fun v st2 => ob (extV st2 l v) fun st3 => some (.none, st3))
noncomputable def g24 : Ex → XE → XE := (fun e ie => fun m st => bd (ie m st) fun v st1 => onS v fun s => ob (look s nid) fun k => some (.int k, st1))
noncomputable def g25 : Ex → XE → XE := (fun e ie => fun m st => bd (ie m st) fun o st1 => ob (lenV st1 o) fun k => some (.int k, st1))
noncomputable def g26 : Ex → XE → XE := (fun e ie => fun m st => bd (ie m st) fun v st1 => onI v fun i => some (.int i.natAbs, st1))
noncomputable def g27 : Ex → Ex → XE → XE → XE := (fun a b ia ib => fun m st => bd (ia m st) fun u st1 => onI u fun x => bd (ib m st1) fun v st2 => onI v fun y => some (.int (min x y), st2))
noncomputable def g28 : Ex → Ex → XE → XE → XE := (fun a b ia ib => fun m st => bd (ia m st) fun u st1 => onI u fun x => bd (ib m st1) fun v st2 => onI v fun y => some (.int (max x y), st2))
noncomputable def g29 : Ex → XE → XE := (fun e ie => fun m st => bd (ie m st) fun o st1 => ob (listV st1 o) fun vs => ob (intsOf vs) fun is => ob (minOf is) fun k => some (.int k, st1))
noncomputable def g30 : Ex → XE → XE := (fun e ie => fun m st => bd (ie m st) fun o st1 => ob (listV st1 o) fun vs => ob (intsOf vs) fun is => ob (maxOf is) fun k => some (.int k, st1))
noncomputable def g31 : Ty → Ex → XE → XE := (fun t e ie => fun m st => bd (ie m st) fun v st1 => ob (isiV t v) fun b => some (.bool b, st1))
noncomputable def g32 : Ex → Ex → Nat → XE → XE → XE := (fun e o n ie io => fun m st => bd (ie m st) fun u st1 => onR u fun a => bd (io m st1) fun v st2 => onR v fun b => srtV cls C n a b st2)
noncomputable def g33 : Ex → Nat → It → XE → XI → XE := (fun e x it ie iit => fun m st => b3 (iit m st) fun vs a st1 => if vs.length ≤ maxSeq then bd (loopC a vs x (ie) (fun _ s => some (.bool true, s)) vs m st1) fun ws st2 => some (.ref st2.length, st2 ++ [.list ws]) else .none)
noncomputable def g34 : Ex → Nat → It → Ex → XE → XI → XE → XE := (fun e x it c ie iit ic => fun m st => b3 (iit m st) fun vs a st1 => if vs.length ≤ maxSeq then bd (loopC a vs x (ie) (ic) vs m st1) fun ws st2 => some (.ref st2.length, st2 ++ [.list ws]) else .none)
noncomputable def g35 : XL := ((fun _ st => some ([], st), fun _ st => some (.bool true, st), fun _ st => some (.bool false, st)))
noncomputable def g36 : Ex → Exs → XE → XL → XL := (fun e es ie ies => (fun m st => bd (ie m st) fun v st1 => bd (ies.1 m st1) fun vs st2 => some (v :: vs, st2), fun m st => bd (ie m st) fun v st1 => onB v fun t => cond t (ies.2.1 m st1) (some (.bool false, st1)), fun m st => bd (ie m st) fun v st1 => onB v fun t => cond t (some (.bool true, st1)) (ies.2.2 m st1)))
noncomputable def g37 : Ex → XE → XI := (fun e ie => fun m st => bd (ie m st) fun o st1 => bd (itemsV st1 o) fun vs a => some (vs, a, st1))
noncomputable def g38 : Ex → XE → XI := (fun e ie => fun m st => bd (ie m st) fun v st1 => onI v fun b => if 0 ≤ b ∧ b < 4294967296 then some (rangeV 0 b, .none, st1) else .none)
noncomputable def g39 : Ex → Ex → XE → XE → XI := (fun x y ix iy => fun m st => bd (ix m st) fun u st1 => onI u fun a => bd (iy m st1) fun v st2 => onI v fun b => if 0 ≤ a ∧ a < 4294967296 ∧ 0 ≤ b ∧ b < 4294967296 then some (rangeV a b, .none, st2) else .none)
noncomputable def evE (e : Ex) : XE := Ex.rec (motive_1 := fun _ => XE) (motive_2 := fun _ => XL) (motive_3 := fun _ => XI) g0 g1 g2 g3 g4 g5 g6 g7 g8 g9 g10 g11 g12 g13 g14 g15 g16 g17 (g18 C) (g19 cls C) (g20 cls C) g21 g22 g23 (g24 nid) g25 g26 g27 g28 g29 g30 g31 (g32 cls C) g33 g34 g35 g36 g37 g38 g39 e
noncomputable def evX (e : Exs) : XL := Exs.rec (motive_1 := fun _ => XE) (motive_2 := fun _ => XL) (motive_3 := fun _ => XI) g0 g1 g2 g3 g4 g5 g6 g7 g8 g9 g10 g11 g12 g13 g14 g15 g16 g17 (g18 C) (g19 cls C) (g20 cls C) g21 g22 g23 (g24 nid) g25 g26 g27 g28 g29 g30 g31 (g32 cls C) g33 g34 g35 g36 g37 g38 g39 e
noncomputable def evEs (e : Exs) : Lo → St → Option (List V × St) := (evX cls nid C e).1
noncomputable def evAnd (e : Exs) : XE := (evX cls nid C e).2.1
noncomputable def evOr (e : Exs) : XE := (evX cls nid C e).2.2
noncomputable def evIt (e : It) : XI := It.rec (motive_1 := fun _ => XE) (motive_2 := fun _ => XL) (motive_3 := fun _ => XI) g0 g1 g2 g3 g4 g5 g6 g7 g8 g9 g10 g11 g12 g13 g14 g15 g16 g17 (g18 C) (g19 cls C) (g20 cls C) g21 g22 g23 (g24 nid) g25 g26 g27 g28 g29 g30 g31 (g32 cls C) g33 g34 g35 g36 g37 g38 g39 e
noncomputable abbrev XS := Lo → St → RunR
noncomputable def h0 : XS := (fun _ _ => .none)
noncomputable def h1 : Nat → Ex → XS := (fun x e => fun m st => bd (evE cls nid C e m st) fun v st1 => some (.none, put x v m, st1))
noncomputable def h2 : List Nat → Ex → XS := (fun xs e => fun m st => bd (evE cls nid C e m st) fun v st1 => onT v fun vs => ob (bindT xs vs m) fun m1 => some (.none, m1, st1))
noncomputable def h3 : Ex → Nat → Ex → XS := (fun o f e => fun m st => bd (evE cls nid C e m st) fun v st1 => bd (evE cls nid C o m st1) fun p st2 => ob (setAttrV cls st2 p f v) fun st3 => some (.none, m, st3))
noncomputable def h4 : Ex → Ex → Ex → XS := (fun o i e => fun m st => bd (evE cls nid C e m st) fun v st1 => bd (evE cls nid C o m st1) fun p st2 => bd (evE cls nid C i m st2) fun k st3 => ob (setIdxV st3 p k v) fun st4 => some (.none, m, st4))
noncomputable def h5 : Ex → XS := (fun e => fun m st => bd (evE cls nid C e m st) fun v st1 => some (some v, m, st1))
noncomputable def h6 : XS := (fun m st => some (some .none, m, st))
noncomputable def h7 : Ex → Ss → Ss → XS → XS → XS := (fun c a b ia ib => fun m st => bd (evE cls nid C c m st) fun v st1 => onB v fun t => cond t (ia m st1) (ib m st1))
noncomputable def h8 : Ex → Ss → XS → XS := (fun c b ib => fun m st => loopW (evE cls nid C c) (ib) 64 m st)
noncomputable def h9 : Nat → It → Ss → XS → XS := (fun x it b ib => fun m st => b3 (evIt cls nid C it m st) fun vs a st1 => if vs.length ≤ maxSeq then loopF a vs (fun v m => some (put x v m)) (ib) vs m st1 else .none)
noncomputable def h10 : List Nat → It → Ss → XS → XS := (fun xs it b ib => fun m st => b3 (evIt cls nid C it m st) fun vs a st1 => if vs.length ≤ maxSeq then loopF a vs (fun v m => onT v fun ws => bindT xs ws m) (ib) vs m st1 else .none)
noncomputable def h11 : Ex → XS := (fun e => fun m st => bd (evE cls nid C e m st) fun _ st1 => some (.none, m, st1))
noncomputable def h12 : XS := (fun m st => some (.none, m, st))
noncomputable def h13 : S → Ss → XS → XS → XS := (fun s ss is iss => fun m st => b3 (is m st) fun ov m1 st1 => orO ov (fun v => some (some v, m1, st1)) (iss m1 st1))
noncomputable def exS (e : S) : XS := S.rec (motive_1 := fun _ => XS) (motive_2 := fun _ => XS) h0 (h1 cls nid C) (h2 cls nid C) (h3 cls nid C) (h4 cls nid C) (h5 cls nid C) h6 (h7 cls nid C) (h8 cls nid C) (h9 cls nid C) (h10 cls nid C) (h11 cls nid C) h12 h13 e
noncomputable def exSs (e : Ss) : XS := Ss.rec (motive_1 := fun _ => XS) (motive_2 := fun _ => XS) h0 (h1 cls nid C) (h2 cls nid C) (h3 cls nid C) (h4 cls nid C) (h5 cls nid C) h6 (h7 cls nid C) (h8 cls nid C) (h9 cls nid C) (h10 cls nid C) (h11 cls nid C) h12 h13 e
end
noncomputable def callN (cls : List Cl) (nid : List (Nat × Int)) (fns : List Fn) : Nat → CallF
  | 0, _, _, _ => .none
  | d + 1, f, args, st => ob fns[f]? fun F => if F.ps.length = args.length then b3 (exSs cls nid (callN cls nid fns d) F.body (F.ps.zip args) st) fun ov _ st1 => orO ov (fun v => some (v, st1)) (some (.none, st1)) else .none
end Mine
end
local macro_rules | `(tactic| cases $x:ident) => `(tactic| first | exact Mine.ff $x | exact Mine.nn $x | exact Mine.sn $x | exact Mine.tf $x | (refine Mine.so2k $x ?_; intro h1 h2; subst h1; subst h2) | (refine Mine.so1k $x ?_; intro h1; subst h1) | rcases $x:ident)
section
namespace Mine
noncomputable def nmTab : List String := ["self", "total", "plist", "parent", "right", "left", "length", "root", "node", "tree", "other", "son", "difference", "top", "waiting", "here", "many", "at", "begin", "ahead", "own", "fresh", "rest", "moved", "above", "number", "end", "front_advance", "rear_advance", "is_red", "offset", "limit", "count", "path", "found", "uncle", "is_left", "one", "value", "lisp", "defaults", "priority", "evaporate", "rear_nonsticky", "rear-nonsticky", "front_sticky", "front-sticky", "category", "true", "nil", "rules", "home", "overlays", "overlay", "changed", "is_nil", "nodes", "last", "place", "first", "props", "rows", "pair", "second", "key", "plists", "name", "deck", "my_rows", "my_held", "way", "chars", "best", "mine", "script", "earlier", "seen", "later", "runs", "cell"]
noncomputable def B_Interval_init : Ss := (.cons (.asgA (.var 0) 1 (.var 1)) (.cons (.asgA (.var 0) 2 (.var 2)) (.cons (.asgA (.var 0) 5 (.val .none)) (.cons (.asgA (.var 0) 4 (.val .none)) (.cons (.asgA (.var 0) 3 (.val .none)) .nil)))))
noncomputable def B_IntervalTree_init : Ss := (.cons (.asgA (.var 0) 7 (.ite (.cmp .gt (.var 6) (.val (.int 0))) (.new 0 (.cons (.var 6) (.cons (.var 2) .nil))) (.val .none))) .nil)
noncomputable def B_total_of : Ss := (.cons (.ret (.ite (.cmp .is (.var 8) (.val .none)) (.val (.int 0)) (.attr (.var 8) 1))) .nil)
noncomputable def B_own_length : Ss := (.cons (.ret (.bin .sub (.bin .sub (.attr (.var 8) 1) (.call 2 (.cons (.attr (.var 8) 5) .nil))) (.call 2 (.cons (.attr (.var 8) 4) .nil)))) .nil)
noncomputable def B_text_length : Ss := (.cons (.ret (.call 2 (.cons (.attr (.var 9) 7) .nil))) .nil)
noncomputable def B_put_in_stead : Ss := (.cons (.asg 3 (.attr (.var 8) 3)) (.cons (.ite (.cmp .isn (.var 10) (.val .none)) (.cons (.asgA (.var 10) 3 (.var 3)) .nil) .nil) (.cons (.ite (.cmp .is (.var 3) (.val .none)) (.cons (.asgA (.var 9) 7 (.var 10)) .nil) (.cons (.ite (.cmp .is (.attr (.var 3) 5) (.var 8)) (.cons (.asgA (.var 3) 5 (.var 10)) .nil) (.cons (.asgA (.var 3) 4 (.var 10)) .nil)) .nil)) .nil)))
noncomputable def B_set_left : Ss := (.cons (.asgA (.var 8) 5 (.var 11)) (.cons (.ite (.cmp .isn (.var 11) (.val .none)) (.cons (.asgA (.var 11) 3 (.var 8)) .nil) .nil) .nil))
noncomputable def B_set_right : Ss := (.cons (.asgA (.var 8) 4 (.var 11)) (.cons (.ite (.cmp .isn (.var 11) (.val .none)) (.cons (.asgA (.var 11) 3 (.var 8)) .nil) .nil) .nil))
noncomputable def B_rotate_right : Ss := (.cons (.asg 11 (.attr (.var 8) 5)) (.cons (.exp (.call 5 (.cons (.var 9) (.cons (.var 8) (.cons (.var 11) .nil))))) (.cons (.asg 1 (.attr (.var 8) 1)) (.cons (.asgA (.var 8) 1 (.bin .add (.bin .sub (.attr (.var 8) 1) (.attr (.var 11) 1)) (.call 2 (.cons (.attr (.var 11) 4) .nil)))) (.cons (.exp (.call 6 (.cons (.var 8) (.cons (.attr (.var 11) 4) .nil)))) (.cons (.exp (.call 7 (.cons (.var 11) (.cons (.var 8) .nil)))) (.cons (.asgA (.var 11) 1 (.var 1)) (.cons (.ret (.var 11)) .nil))))))))
noncomputable def B_rotate_left : Ss := (.cons (.asg 11 (.attr (.var 8) 4)) (.cons (.exp (.call 5 (.cons (.var 9) (.cons (.var 8) (.cons (.var 11) .nil))))) (.cons (.asg 1 (.attr (.var 8) 1)) (.cons (.asgA (.var 8) 1 (.bin .add (.bin .sub (.attr (.var 8) 1) (.attr (.var 11) 1)) (.call 2 (.cons (.attr (.var 11) 5) .nil)))) (.cons (.exp (.call 7 (.cons (.var 8) (.cons (.attr (.var 11) 5) .nil)))) (.cons (.exp (.call 6 (.cons (.var 11) (.cons (.var 8) .nil)))) (.cons (.asgA (.var 11) 1 (.var 1)) (.cons (.ret (.var 11)) .nil))))))))
noncomputable def B_right_turn_helps : Ss := (.cons (.asg 11 (.attr (.var 8) 5)) (.cons (.asg 12 (.bin .sub (.call 2 (.cons (.var 11) .nil)) (.call 2 (.cons (.attr (.var 8) 4) .nil)))) (.cons (.ite (.cmp .le (.var 12) (.val (.int 0))) (.cons (.ret (.val (.bool false))) .nil) .nil) (.cons (.ret (.cmp .lt (.abs (.bin .sub (.call 2 (.cons (.attr (.var 11) 5) .nil)) (.bin .add (.bin .sub (.attr (.var 8) 1) (.attr (.var 11) 1)) (.call 2 (.cons (.attr (.var 11) 4) .nil))))) (.var 12))) .nil))))
noncomputable def B_left_turn_helps : Ss := (.cons (.asg 11 (.attr (.var 8) 4)) (.cons (.asg 12 (.bin .sub (.call 2 (.cons (.var 11) .nil)) (.call 2 (.cons (.attr (.var 8) 5) .nil)))) (.cons (.ite (.cmp .le (.var 12) (.val (.int 0))) (.cons (.ret (.val (.bool false))) .nil) .nil) (.cons (.ret (.cmp .lt (.abs (.bin .sub (.call 2 (.cons (.attr (.var 11) 4) .nil)) (.bin .add (.bin .sub (.attr (.var 8) 1) (.attr (.var 11) 1)) (.call 2 (.cons (.attr (.var 11) 5) .nil))))) (.var 12))) .nil))))
noncomputable def B_settle : Ss := (.cons (.asg 14 (.lst (.cons (.var 8) .nil))) (.cons (.asg 13 (.var 8)) (.cons (.whl (.cmp .gt (.len (.var 14)) (.val (.int 0))) (.cons (.asg 15 (.lpop (.var 14))) (.cons (.ite (.call 10 (.cons (.var 15) .nil)) (.cons (.asg 11 (.call 8 (.cons (.var 9) (.cons (.var 15) .nil)))) (.cons (.asg 13 (.ite (.cmp .is (.var 15) (.var 13)) (.var 11) (.var 13))) (.cons (.exp (.lext (.var 14) (.lst (.cons (.var 11) (.cons (.var 15) .nil))))) .nil))) (.cons (.ite (.call 11 (.cons (.var 15) .nil)) (.cons (.asg 11 (.call 9 (.cons (.var 9) (.cons (.var 15) .nil)))) (.cons (.asg 13 (.ite (.cmp .is (.var 15) (.var 13)) (.var 11) (.var 13))) (.cons (.exp (.lext (.var 14) (.lst (.cons (.var 11) (.cons (.var 15) .nil))))) .nil))) .nil) .nil)) .nil))) (.cons (.ret (.var 13)) .nil))))
noncomputable def B_settle_up : Ss := (.cons (.whl (.cmp .isn (.var 8) (.val .none)) (.cons (.asg 8 (.attr (.call 12 (.cons (.var 9) (.cons (.var 8) .nil))) 3)) .nil)) .nil)
noncomputable def B_add_above : Ss := (.cons (.whl (.cmp .isn (.var 8) (.val .none)) (.cons (.asgA (.var 8) 1 (.bin .add (.attr (.var 8) 1) (.var 16))) (.cons (.asg 8 (.attr (.var 8) 3)) .nil))) .nil)
noncomputable def B_find_interval : Ss := (.cons (.asg 8 (.attr (.var 9) 7)) (.cons (.asg 18 (.val (.int 0))) (.cons (.whl (.val (.bool true)) (.cons (.asg 19 (.call 2 (.cons (.attr (.var 8) 5) .nil))) (.cons (.asg 20 (.call 3 (.cons (.var 8) .nil))) (.cons (.ite (.cmp .lt (.var 17) (.bin .add (.var 18) (.var 19))) (.cons (.asg 8 (.attr (.var 8) 5)) .nil) (.cons (.ite (.cmp .lt (.var 17) (.bin .add (.bin .add (.var 18) (.var 19)) (.var 20))) (.cons (.ret (.tup (.cons (.var 8) (.cons (.bin .add (.var 18) (.var 19)) .nil)))) .nil) (.cons (.asg 18 (.bin .add (.bin .add (.var 18) (.var 19)) (.var 20))) (.cons (.asg 8 (.attr (.var 8) 4)) .nil))) .nil)) .nil)))) .nil)))
noncomputable def B_leftmost : Ss := (.cons (.whl (.cmp .isn (.attr (.var 8) 5) (.val .none)) (.cons (.asg 8 (.attr (.var 8) 5)) .nil)) (.cons (.ret (.var 8)) .nil))
noncomputable def B_rightmost : Ss := (.cons (.whl (.cmp .isn (.attr (.var 8) 4) (.val .none)) (.cons (.asg 8 (.attr (.var 8) 4)) .nil)) (.cons (.ret (.var 8)) .nil))
noncomputable def B_following : Ss := (.cons (.ite (.cmp .isn (.attr (.var 8) 4) (.val .none)) (.cons (.ret (.call 16 (.cons (.attr (.var 8) 4) .nil))) .nil) .nil) (.cons (.whl (.band (.cons (.cmp .isn (.attr (.var 8) 3) (.val .none)) (.cons (.cmp .is (.attr (.attr (.var 8) 3) 4) (.var 8)) .nil))) (.cons (.asg 8 (.attr (.var 8) 3)) .nil)) (.cons (.ret (.attr (.var 8) 3)) .nil)))
noncomputable def B_preceding : Ss := (.cons (.ite (.cmp .isn (.attr (.var 8) 5) (.val .none)) (.cons (.ret (.call 17 (.cons (.attr (.var 8) 5) .nil))) .nil) .nil) (.cons (.whl (.band (.cons (.cmp .isn (.attr (.var 8) 3) (.val .none)) (.cons (.cmp .is (.attr (.attr (.var 8) 3) 5) (.var 8)) .nil))) (.cons (.asg 8 (.attr (.var 8) 3)) .nil)) (.cons (.ret (.attr (.var 8) 3)) .nil)))
noncomputable def B_put_behind : Ss := (.cons (.ite (.cmp .is (.attr (.var 8) 4) (.val .none)) (.cons (.exp (.call 7 (.cons (.var 8) (.cons (.var 21) .nil)))) .nil) (.cons (.asg 8 (.call 16 (.cons (.attr (.var 8) 4) .nil))) (.cons (.exp (.call 6 (.cons (.var 8) (.cons (.var 21) .nil)))) .nil))) (.cons (.exp (.call 14 (.cons (.attr (.var 21) 3) (.cons (.attr (.var 21) 1) .nil)))) (.cons (.exp (.call 13 (.cons (.var 9) (.cons (.attr (.var 21) 3) .nil)))) .nil)))
noncomputable def B_split_at : Ss := (.cons (.ite (.not (.cmp3 .lt .lt (.val (.int 0)) (.var 17) (.call 4 (.cons (.var 9) .nil)))) (.cons .ret0 .nil) .nil) (.cons (.asgT [8, 18] (.call 15 (.cons (.var 9) (.cons (.var 17) .nil)))) (.cons (.ite (.cmp .eq (.var 18) (.var 17)) (.cons .ret0 .nil) .nil) (.cons (.asg 22 (.bin .sub (.call 3 (.cons (.var 8) .nil)) (.bin .sub (.var 17) (.var 18)))) (.cons (.exp (.call 14 (.cons (.var 8) (.cons (.bin .sub (.val (.int 0)) (.var 22)) .nil)))) (.cons (.exp (.call 20 (.cons (.var 9) (.cons (.var 8) (.cons (.new 0 (.cons (.var 22) (.cons (.attr (.var 8) 2) .nil))) .nil))))) .nil))))))
noncomputable def B_drop_interval : Ss := (.cons (.exp (.call 14 (.cons (.attr (.var 8) 3) (.cons (.bin .sub (.val (.int 0)) (.call 3 (.cons (.var 8) .nil))) .nil)))) (.cons (.asg 24 (.attr (.var 8) 3)) (.cons (.ite (.bor (.cons (.cmp .is (.attr (.var 8) 5) (.val .none)) (.cons (.cmp .is (.attr (.var 8) 4) (.val .none)) .nil))) (.cons (.asg 11 (.ite (.cmp .is (.attr (.var 8) 4) (.val .none)) (.attr (.var 8) 5) (.attr (.var 8) 4))) (.cons (.exp (.call 5 (.cons (.var 9) (.cons (.var 8) (.cons (.var 11) .nil))))) (.cons (.exp (.call 13 (.cons (.var 9) (.cons (.var 24) .nil)))) (.cons .ret0 .nil)))) .nil) (.cons (.asg 23 (.attr (.var 8) 5)) (.cons (.asg 15 (.call 16 (.cons (.attr (.var 8) 4) .nil))) (.cons (.exp (.call 5 (.cons (.var 9) (.cons (.var 8) (.cons (.attr (.var 8) 4) .nil))))) (.cons (.exp (.call 6 (.cons (.var 15) (.cons (.var 23) .nil)))) (.cons (.whl (.cmp .isn (.var 15) (.var 24)) (.cons (.asgA (.var 15) 1 (.bin .add (.attr (.var 15) 1) (.attr (.var 23) 1))) (.cons (.asg 15 (.attr (.var 15) 3)) .nil))) (.cons (.exp (.call 13 (.cons (.var 9) (.cons (.attr (.var 23) 3) .nil)))) .nil)))))))))
noncomputable def B_insert_interval : Ss := (.cons (.ite (.cmp .eq (.var 16) (.val (.int 0))) (.cons .ret0 .nil) .nil) (.cons (.asg 21 (.new 0 (.cons (.var 16) (.cons (.var 2) .nil)))) (.cons (.ite (.cmp .is (.attr (.var 9) 7) (.val .none)) (.cons (.asgA (.var 9) 7 (.var 21)) (.cons .ret0 .nil)) .nil) (.cons (.exp (.call 21 (.cons (.var 9) (.cons (.var 17) .nil)))) (.cons (.ite (.cmp .eq (.var 17) (.call 4 (.cons (.var 9) .nil))) (.cons (.exp (.call 20 (.cons (.var 9) (.cons (.call 17 (.cons (.attr (.var 9) 7) .nil)) (.cons (.var 21) .nil))))) .nil) (.cons (.exp .bad) .nil)) .nil)))))
noncomputable def B_OverlayNode_init : Ss := (.cons (.asgA (.var 0) 25 (.var 25)) (.cons (.asgA (.var 0) 18 (.var 18)) (.cons (.asgA (.var 0) 26 (.var 26)) (.cons (.asgA (.var 0) 27 (.var 27)) (.cons (.asgA (.var 0) 28 (.var 28)) (.cons (.asgA (.var 0) 31 (.var 26)) (.cons (.asgA (.var 0) 30 (.val (.int 0))) (.cons (.asgA (.var 0) 29 (.val (.bool false))) (.cons (.asgA (.var 0) 5 (.val .none)) (.cons (.asgA (.var 0) 4 (.val .none)) (.cons (.asgA (.var 0) 3 (.val .none)) .nil)))))))))))
noncomputable def B_OverlayTree_init : Ss := (.cons (.asgA (.var 0) 7 (.val .none)) (.cons (.asgA (.var 0) 32 (.val (.int 0))) .nil))
noncomputable def B_hand_down : Ss := (.cons (.ite (.cmp .eq (.attr (.var 8) 30) (.val (.int 0))) (.cons .ret0 .nil) .nil) (.cons (.asgA (.var 8) 18 (.bin .add (.attr (.var 8) 18) (.attr (.var 8) 30))) (.cons (.asgA (.var 8) 26 (.bin .add (.attr (.var 8) 26) (.attr (.var 8) 30))) (.cons (.asgA (.var 8) 31 (.bin .add (.attr (.var 8) 31) (.attr (.var 8) 30))) (.cons (.for1 11 (.seq (.tup (.cons (.attr (.var 8) 5) (.cons (.attr (.var 8) 4) .nil)))) (.cons (.ite (.cmp .isn (.var 11) (.val .none)) (.cons (.asgA (.var 11) 30 (.bin .add (.attr (.var 11) 30) (.attr (.var 8) 30))) .nil) .nil) .nil)) (.cons (.asgA (.var 8) 30 (.val (.int 0))) .nil))))))
noncomputable def B_hand_down_to : Ss := (.cons (.asg 33 (.lst .nil)) (.cons (.whl (.cmp .isn (.var 8) (.val .none)) (.cons (.exp (.lapp (.var 33) (.var 8))) (.cons (.asg 8 (.attr (.var 8) 3)) .nil))) (.cons (.for1 15 (.seq (.rev (.var 33))) (.cons (.exp (.call 26 (.cons (.var 15) .nil))) .nil)) .nil)))
noncomputable def B_greatest_end : Ss := (.cons (.asg 34 (.attr (.var 8) 26)) (.cons (.for1 11 (.seq (.tup (.cons (.attr (.var 8) 5) (.cons (.attr (.var 8) 4) .nil)))) (.cons (.ite (.cmp .isn (.var 11) (.val .none)) (.cons (.asg 34 (.max2 (.var 34) (.bin .add (.attr (.var 11) 31) (.attr (.var 11) 30)))) .nil) .nil) .nil)) (.cons (.ret (.var 34)) .nil)))
noncomputable def B_hang : Ss := (.cons (.ite (.cmp .is (.var 3) (.val .none)) (.cons (.asgA (.var 9) 7 (.var 10)) .nil) (.cons (.ite (.cmp .is (.attr (.var 3) 5) (.var 8)) (.cons (.asgA (.var 3) 5 (.var 10)) .nil) (.cons (.asgA (.var 3) 4 (.var 10)) .nil)) .nil)) (.cons (.ite (.cmp .isn (.var 10) (.val .none)) (.cons (.asgA (.var 10) 3 (.var 3)) .nil) .nil) .nil))
noncomputable def B_turn_left : Ss := (.cons (.asg 11 (.attr (.var 8) 4)) (.cons (.exp (.call 26 (.cons (.var 8) .nil))) (.cons (.exp (.call 26 (.cons (.var 11) .nil))) (.cons (.asgA (.var 8) 4 (.attr (.var 11) 5)) (.cons (.ite (.cmp .isn (.attr (.var 11) 5) (.val .none)) (.cons (.asgA (.attr (.var 11) 5) 3 (.var 8)) .nil) .nil) (.cons (.exp (.call 29 (.cons (.var 9) (.cons (.attr (.var 8) 3) (.cons (.var 8) (.cons (.var 11) .nil)))))) (.cons (.asgA (.var 11) 5 (.var 8)) (.cons (.asgA (.var 8) 3 (.var 11)) (.cons (.asgA (.var 8) 31 (.call 28 (.cons (.var 8) .nil))) (.cons (.asgA (.var 11) 31 (.call 28 (.cons (.var 11) .nil))) .nil))))))))))
noncomputable def B_turn_right : Ss := (.cons (.asg 11 (.attr (.var 8) 5)) (.cons (.exp (.call 26 (.cons (.var 8) .nil))) (.cons (.exp (.call 26 (.cons (.var 11) .nil))) (.cons (.asgA (.var 8) 5 (.attr (.var 11) 4)) (.cons (.ite (.cmp .isn (.attr (.var 11) 4) (.val .none)) (.cons (.asgA (.attr (.var 11) 4) 3 (.var 8)) .nil) .nil) (.cons (.exp (.call 29 (.cons (.var 9) (.cons (.attr (.var 8) 3) (.cons (.var 8) (.cons (.var 11) .nil)))))) (.cons (.asgA (.var 11) 4 (.var 8)) (.cons (.asgA (.var 8) 3 (.var 11)) (.cons (.asgA (.var 8) 31 (.call 28 (.cons (.var 8) .nil))) (.cons (.asgA (.var 11) 31 (.call 28 (.cons (.var 11) .nil))) .nil))))))))))
noncomputable def B_is_red : Ss := (.cons (.ret (.band (.cons (.cmp .isn (.var 8) (.val .none)) (.cons (.attr (.var 8) 29) .nil)))) .nil)
noncomputable def B_colour_inserted : Ss := (.cons (.whl (.call 32 (.cons (.attr (.var 8) 3) .nil)) (.cons (.asg 3 (.attr (.var 8) 3)) (.cons (.asg 24 (.attr (.var 3) 3)) (.cons (.asg 36 (.cmp .is (.attr (.var 24) 5) (.var 3))) (.cons (.asg 35 (.ite (.var 36) (.attr (.var 24) 4) (.attr (.var 24) 5))) (.cons (.ite (.call 32 (.cons (.var 35) .nil)) (.cons (.asgA (.var 3) 29 (.val (.bool false))) (.cons (.asgA (.var 35) 29 (.val (.bool false))) (.cons (.asgA (.var 24) 29 (.val (.bool true))) (.cons (.asg 8 (.var 24)) .nil)))) (.cons (.asg 8 (.call 34 (.cons (.var 9) (.cons (.var 8) (.cons (.var 36) .nil))))) (.cons (.asgA (.attr (.var 8) 3) 29 (.val (.bool false))) (.cons (.asgA (.var 24) 29 (.val (.bool true))) (.cons (.ite (.var 36) (.cons (.exp (.call 31 (.cons (.var 9) (.cons (.var 24) .nil)))) .nil) (.cons (.exp (.call 30 (.cons (.var 9) (.cons (.var 24) .nil)))) .nil)) .nil))))) .nil)))))) (.cons (.asgA (.attr (.var 9) 7) 29 (.val (.bool false))) .nil))
noncomputable def B_turned_inward : Ss := (.cons (.asg 3 (.attr (.var 8) 3)) (.cons (.ite (.band (.cons (.var 36) (.cons (.cmp .is (.attr (.var 3) 4) (.var 8)) .nil))) (.cons (.exp (.call 30 (.cons (.var 9) (.cons (.var 3) .nil)))) (.cons (.ret (.var 3)) .nil)) .nil) (.cons (.ite (.band (.cons (.not (.var 36)) (.cons (.cmp .is (.attr (.var 3) 5) (.var 8)) .nil))) (.cons (.exp (.call 31 (.cons (.var 9) (.cons (.var 3) .nil)))) (.cons (.ret (.var 3)) .nil)) .nil) (.cons (.ret (.var 8)) .nil))))
noncomputable def B_put_node : Ss := (.cons (.asgA (.var 9) 32 (.bin .add (.attr (.var 9) 32) (.val (.int 1)))) (.cons (.asgA (.var 8) 5 (.val .none)) (.cons (.asgA (.var 8) 4 (.val .none)) (.cons (.asgA (.var 8) 3 (.val .none)) (.cons (.asgA (.var 8) 30 (.val (.int 0))) (.cons (.asgA (.var 8) 31 (.attr (.var 8) 26)) (.cons (.ite (.cmp .is (.attr (.var 9) 7) (.val .none)) (.cons (.asgA (.var 8) 29 (.val (.bool false))) (.cons (.asgA (.var 9) 7 (.var 8)) (.cons .ret0 .nil))) .nil) (.cons (.asg 15 (.attr (.var 9) 7)) (.cons (.asg 3 (.val .none)) (.cons (.asg 36 (.val (.bool false))) (.cons (.whl (.cmp .isn (.var 15) (.val .none)) (.cons (.exp (.call 26 (.cons (.var 15) .nil))) (.cons (.asgA (.var 15) 31 (.max2 (.attr (.var 15) 31) (.attr (.var 8) 26))) (.cons (.asg 3 (.var 15)) (.cons (.asg 36 (.cmp .le (.attr (.var 8) 18) (.attr (.var 15) 18))) (.cons (.asg 15 (.ite (.var 36) (.attr (.var 15) 5) (.attr (.var 15) 4))) .nil)))))) (.cons (.asgA (.var 8) 3 (.var 3)) (.cons (.ite (.var 36) (.cons (.asgA (.var 3) 5 (.var 8)) .nil) (.cons (.asgA (.var 3) 4 (.var 8)) .nil)) (.cons (.asgA (.var 8) 29 (.val (.bool true))) (.cons (.exp (.call 33 (.cons (.var 9) (.cons (.var 8) .nil)))) .nil)))))))))))))))
noncomputable def B_nodes_between : Ss := (.cons (.asg 34 (.lst .nil)) (.cons (.asg 14 (.lst .nil)) (.cons (.asg 8 (.attr (.var 9) 7)) (.cons (.whl (.bor (.cons (.cmp .isn (.var 8) (.val .none)) (.cons (.cmp .gt (.len (.var 14)) (.val (.int 0))) .nil))) (.cons (.whl (.cmp .isn (.var 8) (.val .none)) (.cons (.exp (.call 26 (.cons (.var 8) .nil))) (.cons (.ite (.cmp .lt (.attr (.var 8) 31) (.var 18)) (.cons (.asg 8 (.val .none)) .nil) (.cons (.exp (.lapp (.var 14) (.var 8))) (.cons (.asg 8 (.attr (.var 8) 5)) .nil))) .nil))) (.cons (.ite (.cmp .gt (.len (.var 14)) (.val (.int 0))) (.cons (.asg 8 (.lpop (.var 14))) (.cons (.ite (.band (.cons (.cmp .le (.attr (.var 8) 18) (.var 26)) (.cons (.cmp .ge (.attr (.var 8) 26) (.var 18)) .nil))) (.cons (.exp (.lapp (.var 34) (.var 8))) .nil) .nil) (.cons (.asg 8 (.ite (.cmp .le (.attr (.var 8) 18) (.var 26)) (.attr (.var 8) 4) (.val .none))) .nil))) .nil) .nil))) (.cons (.ret (.var 34)) .nil)))))
noncomputable def B_eq : Ss := (.cons (.ite (.bor (.cons (.isi .bool (.var 37)) (.cons (.isi .bool (.var 10)) .nil))) (.cons (.ret (.band (.cons (.isi .bool (.var 37)) (.cons (.isi .bool (.var 10)) (.cons (.cmp .eq (.var 37) (.var 10)) .nil))))) .nil) .nil) (.cons (.ret (.cmp .eq (.var 37) (.var 10))) .nil))
noncomputable def B_plist_find : Ss := (.cons (.for1 17 (.rng1 (.len (.var 2))) (.cons (.ite (.cmp .eq (.idx (.idx (.var 2) (.var 17)) (.val (.int 0))) (.var 25)) (.cons (.ret (.var 17)) .nil) .nil) .nil)) (.cons (.ret (.neg (.val (.int 1)))) .nil))
noncomputable def B_plist_get : Ss := (.cons (.asg 17 (.call 38 (.cons (.var 2) (.cons (.var 25) .nil)))) (.cons (.ret (.ite (.cmp .ge (.var 17) (.val (.int 0))) (.tup (.cons (.idx (.idx (.var 2) (.var 17)) (.val (.int 1))) .nil)) (.val .none))) .nil))
noncomputable def B_plist_with : Ss := (.cons (.asg 17 (.call 38 (.cons (.var 2) (.cons (.var 25) .nil)))) (.cons (.ite (.cmp .lt (.var 17) (.val (.int 0))) (.cons (.ret (.bin .add (.var 2) (.lst (.cons (.tup (.cons (.var 25) (.cons (.var 38) .nil))) .nil)))) .nil) .nil) (.cons (.ret (.bin .add (.bin .add (.upto (.var 2) (.var 17)) (.lst (.cons (.tup (.cons (.var 25) (.cons (.var 38) .nil))) .nil))) .bad)) .nil)))
noncomputable def B_holds_pair : Ss := (.cons (.asg 17 (.call 38 (.cons (.var 2) (.cons (.var 25) .nil)))) (.cons (.ret (.band (.cons (.cmp .ge (.var 17) (.val (.int 0))) (.cons (.call 37 (.cons (.idx (.idx (.var 2) (.var 17)) (.val (.int 1))) (.cons (.var 38) .nil))) .nil)))) .nil))
noncomputable def B_same_plist : Ss := (.cons (.ite (.cmp .ne (.len (.var 37)) (.len (.var 10))) (.cons (.ret (.val (.bool false))) .nil) .nil) (.cons (.forT [25, 38] (.seq (.var 37)) (.cons (.ite (.not (.call 41 (.cons (.var 10) (.cons (.var 25) (.cons (.var 38) .nil))))) (.cons (.ret (.val (.bool false))) .nil) .nil) .nil)) (.cons (.ret (.val (.bool true))) .nil)))
noncomputable def B_PropRules_init : Ss := (.cons (.asgA (.var 0) 39 (.var 39)) (.cons (.asgA (.var 0) 49 (.attr (.var 39) 49)) (.cons (.asgA (.var 0) 48 (.attr (.var 39) 48)) (.cons (.asgA (.var 0) 47 (.meth (.var 39) 25 (.cons (.val (.str 47)) .nil))) (.cons (.asgA (.var 0) 45 (.meth (.var 39) 25 (.cons (.val (.str 46)) .nil))) (.cons (.asgA (.var 0) 43 (.meth (.var 39) 25 (.cons (.val (.str 44)) .nil))) (.cons (.asgA (.var 0) 42 (.meth (.var 39) 25 (.cons (.val (.str 42)) .nil))) (.cons (.asgA (.var 0) 41 (.meth (.var 39) 25 (.cons (.val (.str 41)) .nil))) (.cons (.asgA (.var 0) 40 .dct) .nil)))))))))
noncomputable def B_PropRules_is_nil : Ss := (.cons (.ret (.call 37 (.cons (.var 38) (.cons (.attr (.var 0) 49) .nil)))) .nil)
noncomputable def B_value_in : Ss := (.cons (.asg 34 (.call 39 (.cons (.var 2) (.cons (.var 25) .nil)))) (.cons (.ite (.cmp .is (.var 34) (.val .none)) (.cons (.asg 47 (.call 39 (.cons (.var 2) (.cons (.attr (.var 50) 47) .nil)))) (.cons (.ite (.band (.cons (.cmp .isn (.var 47) (.val .none)) (.cons (.cmp .ge .bad (.val (.int 0))) .nil))) (.cons (.asg 34 .bad) .nil) .nil) .nil)) .nil) (.cons (.ret (.ite (.cmp .is (.var 34) (.val .none)) (.attr (.var 50) 49) (.idx (.var 34) (.val (.int 0))))) .nil)))
noncomputable def B_Overlay_init : Ss := (.cons (.asgA (.var 0) 25 (.var 25)) (.cons (.asgA (.var 0) 8 (.new 2 (.cons (.var 25) (.cons (.val (.int 0)) (.cons (.val (.int 0)) (.cons (.var 27) (.cons (.var 28) .nil))))))) (.cons (.asgA (.var 0) 51 (.val .none)) (.cons (.asgA (.var 0) 2 (.lst .nil)) .nil))))
noncomputable def B_OverlayHome_init : Ss := (.cons (.asgA (.var 0) 9 (.new 3 .nil)) (.cons (.asgA (.var 0) 52 .dct) (.cons (.asgA (.var 0) 50 (.var 50)) .nil)))
noncomputable def B_overlay_begin : Ss := (.cons (.exp (.call 27 (.cons (.attr (.var 53) 8) .nil))) (.cons (.ret (.attr (.attr (.var 53) 8) 18)) .nil))
noncomputable def B_overlay_end : Ss := (.cons (.exp (.call 27 (.cons (.attr (.var 53) 8) .nil))) (.cons (.ret (.attr (.attr (.var 53) 8) 26)) .nil))
noncomputable def B_take_out : Ss := (.cons (.ite (.cmp .isn (.attr (.var 53) 51) (.val .none)) (.cons (.exp .bad) (.cons (.exp .bad) (.cons (.asgA (.var 53) 51 (.val .none)) .nil))) .nil) .nil)
noncomputable def B_lay : Ss := (.cons (.exp (.call 50 (.cons (.var 53) .nil))) (.cons (.asgA (.attr (.var 53) 8) 18 (.min2 (.var 18) (.var 26))) (.cons (.asgA (.attr (.var 53) 8) 26 (.max2 (.var 18) (.var 26))) (.cons (.asgA (.var 53) 51 (.var 51)) (.cons (.asgI (.attr (.var 51) 52) (.attr (.var 53) 25) (.var 53)) (.cons (.exp (.call 35 (.cons (.attr (.var 51) 9) (.cons (.attr (.var 53) 8) .nil)))) .nil))))))
noncomputable def B_made_overlay : Ss := (.cons (.asg 34 (.new 5 (.cons (.var 25) (.cons (.var 27) (.cons (.var 28) .nil))))) (.cons (.exp (.call 51 (.cons (.var 34) (.cons (.var 51) (.cons (.var 18) (.cons (.var 26) .nil)))))) (.cons (.ret (.var 34)) .nil)))
noncomputable def B_overlay_get : Ss := (.cons (.ret (.call 45 (.cons (.var 50) (.cons (.attr (.var 53) 2) (.cons (.var 25) .nil))))) .nil)
noncomputable def B_overlay_put : Ss := (.cons (.asg 54 (.not (.call 41 (.cons (.attr (.var 53) 2) (.cons (.var 25) (.cons (.var 38) .nil)))))) (.cons (.ite (.var 54) (.cons (.asgA (.var 53) 2 (.call 40 (.cons (.attr (.var 53) 2) (.cons (.var 25) (.cons (.var 38) .nil))))) .nil) .nil) (.cons (.ite (.band (.cons (.cmp .eq (.var 25) (.attr (.var 50) 42)) (.cons (.not (.meth (.var 50) 55 (.cons (.var 38) .nil))) (.cons (.cmp .isn (.attr (.var 53) 51) (.val .none)) .nil)))) (.cons (.ite (.cmp .eq (.call 48 (.cons (.var 53) .nil)) (.call 49 (.cons (.var 53) .nil))) (.cons (.exp (.call 50 (.cons (.var 53) .nil))) .nil) .nil) .nil) .nil) (.cons (.ret (.var 54)) .nil))))
noncomputable def B_of_nodes : Ss := (.cons (.ret (.comp (.idx (.attr (.var 51) 52) (.attr (.var 8) 25)) 8 (.seq (.var 56)))) .nil)
noncomputable def B_overlays_at : Ss := (.cons (.ret (.call 55 (.cons (.var 51) (.cons (.compc (.var 8) 8 (.seq (.call 36 (.cons (.attr (.var 51) 9) (.cons (.var 17) (.cons (.var 17) .nil))))) (.cmp3 .le .lt (.attr (.var 8) 18) (.var 17) (.attr (.var 8) 26))) .nil)))) .nil)
noncomputable def B_next_overlay_change : Ss := (.cons (.asg 34 (.var 57)) (.cons (.for1 8 (.seq (.call 36 (.cons (.attr (.var 51) 9) (.cons (.var 17) (.cons (.var 57) .nil))))) (.cons (.for1 58 (.seq (.tup (.cons (.attr (.var 8) 18) (.cons (.attr (.var 8) 26) .nil)))) (.cons (.ite (.cmp3 .lt .lt (.var 17) (.var 58) (.var 34)) (.cons (.asg 34 (.var 58)) .nil) .nil) .nil)) .nil)) (.cons (.ret (.var 34)) .nil)))
noncomputable def B_previous_overlay_change : Ss := (.cons (.asg 34 (.var 59)) (.cons (.for1 8 (.seq (.call 36 (.cons (.attr (.var 51) 9) (.cons (.var 59) (.cons (.var 17) .nil))))) (.cons (.for1 58 (.seq (.tup (.cons (.attr (.var 8) 18) (.cons (.attr (.var 8) 26) .nil)))) (.cons (.ite (.cmp3 .lt .lt (.var 34) (.var 58) (.var 17)) (.cons (.asg 34 (.var 58)) .nil) .nil) .nil)) .nil)) (.cons (.ret (.var 34)) .nil)))
noncomputable def B_next_change : Ss := (.cons (.ite (.cmp .ge (.var 17) (.call 4 (.cons (.attr (.var 60) 9) .nil))) (.cons (.ret (.val .none)) .nil) .nil) (.cons (.asgT [8, 18] (.call 15 (.cons (.attr (.var 60) 9) (.cons (.var 17) .nil)))) (.cons (.asg 2 (.attr (.var 8) 2)) (.cons (.whl (.band (.cons (.cmp .isn (.var 8) (.val .none)) (.cons (.call 42 (.cons (.attr (.var 8) 2) (.cons (.var 2) .nil))) .nil))) (.cons (.asg 18 (.bin .add (.var 18) (.call 3 (.cons (.var 8) .nil)))) (.cons (.asg 8 (.call 18 (.cons (.var 8) .nil))) .nil))) (.cons (.ret (.ite (.bor (.cons (.cmp .is (.var 8) (.val .none)) (.cons (.cmp .ge (.var 18) (.var 31)) .nil))) (.val .none) (.var 18))) .nil)))))
noncomputable def B_previous_change : Ss := (.cons (.ite (.cmp .le (.var 17) (.val (.int 0))) (.cons (.ret (.val .none)) .nil) .nil) (.cons (.asgT [8, 18] (.call 15 (.cons (.attr (.var 60) 9) (.cons (.bin .sub (.var 17) (.val (.int 1))) .nil)))) (.cons (.asg 2 (.attr (.var 8) 2)) (.cons (.asg 8 (.call 19 (.cons (.var 8) .nil))) (.cons (.whl (.band (.cons (.cmp .isn (.var 8) (.val .none)) (.cons (.call 42 (.cons (.attr (.var 8) 2) (.cons (.var 2) .nil))) .nil))) (.cons (.asg 18 (.bin .sub (.var 18) (.call 3 (.cons (.var 8) .nil)))) (.cons (.asg 8 (.call 19 (.cons (.var 8) .nil))) .nil))) (.cons (.ret (.ite (.bor (.cons (.cmp .is (.var 8) (.val .none)) (.cons (.cmp .le (.var 18) (.var 31)) .nil))) (.val .none) (.var 18))) .nil))))))
noncomputable def B_TextProps_init : Ss := (.cons (.asgA (.var 0) 9 (.new 1 (.cons (.var 6) (.cons (.lst .nil) .nil)))) .nil)
noncomputable def B_props_of_rows : Ss := (.cons (.asg 34 (.new 7 (.cons (.val (.int 0)) .nil))) (.cons (.asg 17 (.val (.int 0))) (.cons (.forT [16, 2] (.seq (.var 61)) (.cons (.exp (.call 23 (.cons (.attr (.var 34) 9) (.cons (.var 17) (.cons (.var 16) (.cons (.var 2) .nil)))))) (.cons (.exp (.call 64 (.cons (.var 34) (.cons (.var 17) .nil)))) (.cons (.asg 17 (.bin .add (.var 17) (.var 16))) .nil)))) (.cons (.ret (.var 34)) .nil))))
noncomputable def B_properties_at : Ss := (.cons (.ite (.cmp .ge (.var 17) (.call 4 (.cons (.attr (.var 60) 9) .nil))) (.cons (.ret (.lst .nil)) .nil) .nil) (.cons (.ret (.attr (.idx (.call 15 (.cons (.attr (.var 60) 9) (.cons (.var 17) .nil))) (.val (.int 0))) 2)) .nil))
noncomputable def B_join_at : Ss := (.cons (.ite (.not (.cmp3 .lt .lt (.val (.int 0)) (.var 17) (.call 4 (.cons (.attr (.var 60) 9) .nil)))) (.cons .ret0 .nil) .nil) (.cons (.asgT [8, 18] (.call 15 (.cons (.attr (.var 60) 9) (.cons (.var 17) .nil)))) (.cons (.ite (.cmp .ne (.var 18) (.var 17)) (.cons .ret0 .nil) .nil) (.cons (.asg 19 (.call 19 (.cons (.var 8) .nil))) (.cons (.ite (.call 42 (.cons (.attr (.var 19) 2) (.cons (.attr (.var 8) 2) .nil))) (.cons (.asg 16 (.call 3 (.cons (.var 8) .nil))) (.cons (.exp (.call 22 (.cons (.attr (.var 60) 9) (.cons (.var 8) .nil)))) (.cons (.exp (.call 14 (.cons (.var 19) (.cons (.var 16) .nil)))) (.cons (.exp (.call 13 (.cons (.attr (.var 60) 9) (.cons (.var 19) .nil)))) .nil)))) .nil) .nil)))))
noncomputable def B_priority_of : Ss := (.cons (.asg 38 (.call 53 (.cons (.var 50) (.cons (.var 53) (.cons (.attr (.var 50) 41) .nil))))) (.cons (.ite (.isi .int (.var 38)) (.cons (.ret (.tup (.cons (.var 38) (.cons (.val (.int 0)) .nil)))) .nil) .nil) (.cons (.asg 62 (.meth (.attr (.var 50) 39) 62 (.cons (.var 38) .nil))) (.cons (.ite (.cmp .is (.var 62) (.val .none)) (.cons (.ret (.tup (.cons (.val (.int 0)) (.cons (.val (.int 0)) .nil)))) .nil) .nil) (.cons (.asg 59 (.ite (.isi .int (.idx (.var 62) (.val (.int 0)))) (.idx (.var 62) (.val (.int 0))) (.val (.int 0)))) (.cons (.ret (.tup (.cons (.var 59) (.cons (.ite (.isi .int (.idx (.var 62) (.val (.int 1)))) (.idx (.var 62) (.val (.int 1))) (.val (.int 0))) .nil)))) .nil))))))
noncomputable def B_rank : Ss := (.cons (.asgT [59, 63] (.call 65 (.cons (.var 50) (.cons (.var 53) .nil)))) (.cons (.ret (.tup (.cons (.var 59) (.cons (.var 63) (.cons (.call 48 (.cons (.var 53) .nil)) (.cons (.bin .sub (.val (.int 0)) (.call 49 (.cons (.var 53) .nil))) (.cons (.attr (.var 53) 25) .nil))))))) .nil))
noncomputable def B_Ranked_init : Ss := (.cons (.asgA (.var 0) 50 (.var 50)) .nil)
noncomputable def B_Ranked_key : Ss := (.cons (.ret (.call 66 (.cons (.attr (.var 0) 50) (.cons (.var 53) .nil)))) .nil)
noncomputable def B_sorted_overlays : Ss := (.cons (.ret (.srt (.var 52) (.new 8 (.cons (.var 50) .nil)) 64)) .nil)
noncomputable def B_char_property_from : Ss := (.cons (.for1 53 (.seq (.call 69 (.cons (.var 50) (.cons (.call 56 (.cons (.var 51) (.cons (.var 17) .nil))) .nil)))) (.cons (.asg 38 (.call 53 (.cons (.var 50) (.cons (.var 53) (.cons (.var 25) .nil))))) (.cons (.ite (.not (.meth (.var 50) 55 (.cons (.var 38) .nil))) (.cons (.ret (.tup (.cons (.var 38) (.cons (.var 53) .nil)))) .nil) .nil) .nil))) (.cons (.ret (.tup (.cons (.call 45 (.cons (.var 50) (.cons (.call 63 (.cons (.var 60) (.cons (.var 17) .nil))) (.cons (.var 25) .nil)))) (.cons (.val .none) .nil)))) .nil))
noncomputable def B_char_property : Ss := (.cons (.ret (.idx (.call 70 (.cons (.var 50) (.cons (.var 51) (.cons (.var 60) (.cons (.var 17) (.cons (.var 25) .nil)))))) (.val (.int 0)))) .nil)
noncomputable def B_next_char_change : Ss := (.cons (.asg 34 (.call 59 (.cons (.var 60) (.cons (.var 17) (.cons (.var 57) .nil))))) (.cons (.asg 10 (.call 57 (.cons (.var 51) (.cons (.var 17) (.cons (.var 57) .nil))))) (.cons (.ret (.ite (.cmp .is (.var 34) (.val .none)) (.var 10) (.min2 (.var 34) (.var 10)))) .nil)))
noncomputable def B_previous_char_change : Ss := (.cons (.asg 34 (.call 60 (.cons (.var 60) (.cons (.var 17) (.cons (.var 59) .nil))))) (.cons (.asg 10 (.call 58 (.cons (.var 51) (.cons (.var 17) (.cons (.var 59) .nil))))) (.cons (.ret (.ite (.cmp .is (.var 34) (.val .none)) (.var 10) (.max2 (.var 34) (.var 10)))) .nil)))
noncomputable def B_next_single_char_change : Ss := (.cons (.asg 57 (.call 4 (.cons (.attr (.var 60) 9) .nil))) (.cons (.asg 38 (.call 71 (.cons (.var 50) (.cons (.var 51) (.cons (.var 60) (.cons (.var 17) (.cons (.var 25) .nil))))))) (.cons (.whl (.cmp .lt (.var 17) (.var 31)) (.cons (.asg 17 (.call 72 (.cons (.var 51) (.cons (.var 60) (.cons (.var 17) (.cons (.var 57) .nil)))))) (.cons (.ite (.bor (.cons (.cmp .ge (.var 17) (.var 31)) (.cons (.cmp .ge (.var 17) (.var 57)) .nil))) (.cons (.ret (.min2 (.var 31) (.var 57))) .nil) .nil) (.cons (.ite (.not (.call 37 (.cons (.call 71 (.cons (.var 50) (.cons (.var 51) (.cons (.var 60) (.cons (.var 17) (.cons (.var 25) .nil)))))) (.cons (.var 38) .nil)))) (.cons (.ret (.var 17)) .nil) .nil) .nil)))) (.cons (.ret (.var 17)) .nil))))
noncomputable def B_previous_single_char_change : Ss := (.cons (.ite (.cmp .le (.var 17) (.var 31)) (.cons (.ret (.var 17)) .nil) .nil) (.cons (.asg 38 (.call 71 (.cons (.var 50) (.cons (.var 51) (.cons (.var 60) (.cons (.bin .sub (.var 17) (.val (.int 1))) (.cons (.var 25) .nil))))))) (.cons (.whl (.cmp .gt (.var 17) (.var 31)) (.cons (.asg 17 (.call 73 (.cons (.var 51) (.cons (.var 60) (.cons (.var 17) (.cons (.val (.int 0)) .nil)))))) (.cons (.ite (.cmp .le (.var 17) (.var 31)) (.cons (.ret (.var 31)) .nil) .nil) (.cons (.ite (.not (.call 37 (.cons (.call 71 (.cons (.var 50) (.cons (.var 51) (.cons (.var 60) (.cons (.bin .sub (.var 17) (.val (.int 1))) (.cons (.var 25) .nil)))))) (.cons (.var 38) .nil)))) (.cons (.ret (.var 17)) .nil) .nil) .nil)))) (.cons (.ret (.var 17)) .nil))))
noncomputable def B_PlainLisp_init : Ss := (.cons (.asgA (.var 0) 59 (.var 59)) (.cons (.asgA (.var 0) 49 (.val .none)) (.cons (.asgA (.var 0) 48 (.val (.bool true))) (.cons (.asgA (.var 0) 65 .dct) .nil))))
noncomputable def B_PlainLisp_number : Ss := (.cons (.ret (.bin .add (.attr (.var 0) 59) (.nidx (.var 66)))) .nil)
noncomputable def B_PlainLisp_pair : Ss := (.cons (.ret (.ite (.band (.cons (.isi .tuple (.var 38)) (.cons (.cmp .eq (.idx (.var 38) (.val (.int 0))) (.val (.str 62))) .nil))) (.tup (.cons (.idx (.var 38) (.val (.int 1))) (.cons (.idx (.var 38) (.val (.int 2))) .nil))) (.val .none))) .nil)
noncomputable def B_law_draw : Ss := (.cons (.asgI (.var 67) (.val (.int 1)) (.bin .add (.idx (.var 67) (.val (.int 1))) (.val (.int 1)))) (.cons (.ite (.cmp .le (.idx (.var 67) (.val (.int 1))) (.len (.idx (.var 67) (.val (.int 0))))) (.cons (.ret (.bin .fmod (.idx (.idx (.var 67) (.val (.int 0))) (.bin .sub (.idx (.var 67) (.val (.int 1))) (.val (.int 1)))) (.var 16))) .nil) .nil) (.cons (.ret (.bin .fmod (.bin .fdiv (.bin .add (.bin .add (.bin .mul (.bin .mul (.idx (.var 67) (.val (.int 1))) (.idx (.var 67) (.val (.int 1)))) (.val (.int 41))) (.bin .mul (.val (.int 13)) (.idx (.var 67) (.val (.int 1))))) (.bin .mul (.val (.int 5)) (.len (.idx (.var 67) (.val (.int 0)))))) (.val (.int 3))) (.var 16))) .nil)))
noncomputable def B_law_value : Ss := (.cons (.ret (.idx (.lst (.cons (.val .none) (.cons (.val (.int 1)) (.cons (.val (.bool true)) (.cons (.val (.int 2)) .nil))))) (.call 79 (.cons (.var 67) (.cons (.val (.int 4)) .nil))))) .nil)
noncomputable def B_law_overlay : Ss := (.cons (.asgT [18, 16] (.tup (.cons (.call 79 (.cons (.var 67) (.cons (.val (.int 10)) .nil))) (.cons (.call 79 (.cons (.var 67) (.cons (.val (.int 5)) .nil))) .nil)))) (.cons (.asg 37 (.call 52 (.cons (.var 51) (.cons (.var 25) (.cons (.var 18) (.cons (.min2 (.val (.int 10)) (.bin .add (.var 18) (.var 16))) (.cons (.val (.bool false)) (.cons (.val (.bool false)) .nil)))))))) (.cons (.asgT [70, 59, 63] (.tup (.cons (.call 79 (.cons (.var 67) (.cons (.val (.int 3)) .nil))) (.cons (.call 79 (.cons (.var 67) (.cons (.val (.int 3)) .nil))) (.cons (.call 79 (.cons (.var 67) (.cons (.val (.int 2)) .nil))) .nil))))) (.cons (.ite (.cmp .eq (.var 70) (.val (.int 1))) (.cons (.exp (.call 54 (.cons (.attr (.var 51) 50) (.cons (.var 37) (.cons (.val (.int 104)) (.cons (.var 59) .nil)))))) .nil) .nil) (.cons (.ite (.cmp .eq (.var 70) (.val (.int 2))) (.cons (.exp (.call 54 (.cons (.attr (.var 51) 50) (.cons (.var 37) (.cons (.val (.int 104)) (.cons (.tup (.cons (.val (.str 62)) (.cons (.var 59) (.cons (.var 63) .nil)))) .nil)))))) .nil) .nil) (.cons (.asg 41 (.idx (.lst (.cons (.tup (.cons (.val (.int 0)) (.cons (.val (.int 0)) .nil))) (.cons (.tup (.cons (.var 59) (.cons (.val (.int 0)) .nil))) (.cons (.tup (.cons (.var 59) (.cons (.var 63) .nil))) .nil)))) (.var 70))) (.cons (.asg 69 (.val .none)) (.cons (.ite (.cmp .gt (.call 79 (.cons (.var 67) (.cons (.val (.int 4)) .nil))) (.val (.int 0))) (.cons (.asg 69 (.tup (.cons (.call 80 (.cons (.var 67) .nil)) .nil))) (.cons (.exp (.call 54 (.cons (.attr (.var 51) 50) (.cons (.var 37) (.cons (.val (.int 7)) (.cons (.idx (.var 69) (.val (.int 0))) .nil)))))) .nil)) .nil) (.cons (.exp (.lapp (.var 68) (.tup (.cons (.var 18) (.cons (.min2 (.val (.int 10)) (.bin .add (.var 18) (.var 16))) (.cons (.var 41) (.cons (.var 69) (.cons (.var 25) .nil)))))))) .nil)))))))))
noncomputable def B_law_seen : Ss := (.cons (.asgT [34, 72] (.tup (.cons (.ite (.cmp .lt (.var 17) (.len (.var 71))) (.idx (.var 71) (.var 17)) (.val .none)) (.cons (.val .none) .nil)))) (.cons (.forT [18, 26, 41, 69, 25] (.seq (.var 68)) (.cons (.asg 73 (.bin .add (.var 41) (.tup (.cons (.var 18) (.cons (.bin .sub (.val (.int 0)) (.var 26)) (.cons (.var 25) .nil)))))) (.cons (.ite (.band (.cons (.cmp3 .le .lt (.var 18) (.var 17) (.var 26)) (.cons (.cmp .isn (.var 69) (.val .none)) (.cons (.cmp .isn (.idx (.var 69) (.val (.int 0))) (.val .none)) (.cons (.bor (.cons (.cmp .is (.var 72) (.val .none)) (.cons (.cmp .gt (.var 73) (.var 72)) .nil))) .nil))))) (.cons (.asgT [34, 72] (.tup (.cons (.idx (.var 69) (.val (.int 0))) (.cons (.var 73) .nil)))) .nil) .nil) .nil))) (.cons (.ret (.tup (.cons (.isi .bool (.var 34)) (.cons (.var 34) (.cons (.ite (.cmp .is (.var 72) (.val .none)) (.neg (.val (.int 1))) (.idx (.var 72) (.val (.int 4)))) .nil))))) .nil)))
noncomputable def B_law : Ss := (.cons (.asg 67 (.lst (.cons (.comp (.abs (.var 79)) 79 (.seq (.upto (.var 74) (.val (.int 63))))) (.cons (.val (.int 0)) .nil)))) (.cons (.asgT [51, 68, 71, 78] (.tup (.cons (.new 6 (.cons (.new 4 (.cons (.new 9 (.cons (.val (.int 100)) .nil)) .nil)) .nil)) (.cons (.lst .nil) (.cons (.lst .nil) (.cons (.lst .nil) .nil)))))) (.cons (.for1 16 (.seq (.idx (.lst (.cons (.tup (.cons (.val (.int 10)) .nil)) (.cons (.tup (.cons (.val (.int 4)) (.cons (.val (.int 6)) .nil))) (.cons (.tup (.cons (.val (.int 2)) (.cons (.val (.int 5)) (.cons (.val (.int 3)) .nil)))) .nil)))) (.call 79 (.cons (.var 67) (.cons (.val (.int 3)) .nil))))) (.cons (.asg 38 (.call 80 (.cons (.var 67) .nil))) (.cons (.exp (.lapp (.var 78) (.tup (.cons (.var 16) (.cons (.ite (.bor (.cons (.cmp .gt (.call 79 (.cons (.var 67) (.cons (.val (.int 3)) .nil))) (.val (.int 0))) (.cons (.cmp .isn (.var 38) (.val .none)) .nil))) (.lst (.cons (.tup (.cons (.val (.int 7)) (.cons (.var 38) .nil))) .nil)) (.lst .nil)) .nil))))) (.cons (.exp (.lext (.var 71) (.bin .mul (.lst (.cons (.var 38) .nil)) (.var 16)))) .nil)))) (.cons (.asg 60 (.call 62 (.cons (.var 78) .nil))) (.cons (.for1 25 (.rng1 (.call 79 (.cons (.var 67) (.cons (.val (.int 6)) .nil)))) (.cons (.exp (.call 81 (.cons (.var 67) (.cons (.var 51) (.cons (.var 68) (.cons (.var 25) .nil)))))) .nil)) (.cons (.asg 76 (.comp (.call 82 (.cons (.var 71) (.cons (.var 68) (.cons (.var 17) .nil)))) 17 (.rng1 (.val (.int 11))))) (.cons (.for1 17 (.rng1 (.val (.int 11))) (.cons (.asgT [38, 37] (.call 70 (.cons (.attr (.var 51) 50) (.cons (.var 51) (.cons (.var 60) (.cons (.var 17) (.cons (.val (.int 7)) .nil))))))) (.cons (.ite (.cmp .ne (.tup (.cons (.isi .bool (.var 38)) (.cons (.var 38) (.cons (.ite (.cmp .is (.var 37) (.val .none)) (.neg (.val (.int 1))) (.attr (.var 37) 25)) .nil)))) (.idx (.var 76) (.var 17))) (.cons (.ret (.val (.bool false))) .nil) .nil) .nil))) (.cons (.asg 17 (.call 79 (.cons (.var 67) (.cons (.val (.int 10)) .nil)))) (.cons (.asg 77 (.compc (.var 58) 58 (.rng2 (.bin .add (.var 17) (.val (.int 1))) (.val (.int 10))) (.cmp .ne (.upto (.idx (.var 76) (.var 58)) (.val (.int 2))) (.upto (.idx (.var 76) (.var 17)) (.val (.int 2)))))) (.cons (.ite (.cmp .ne (.call 74 (.cons (.attr (.var 51) 50) (.cons (.var 51) (.cons (.var 60) (.cons (.var 17) (.cons (.val (.int 7)) (.cons (.val (.int 10)) .nil))))))) (.minL (.bin .add (.var 77) (.lst (.cons (.val (.int 10)) .nil))))) (.cons (.ret (.val (.bool false))) .nil) .nil) (.cons (.asg 75 (.ite (.cmp .gt (.var 17) (.val (.int 0))) (.compc (.var 58) 58 (.rng2 (.val (.int 1)) (.var 17)) (.cmp .ne (.upto (.idx (.var 76) (.bin .sub (.var 58) (.val (.int 1)))) (.val (.int 2))) (.upto (.idx (.var 76) (.bin .sub (.var 17) (.val (.int 1)))) (.val (.int 2))))) (.lst .nil))) (.cons (.ret (.cmp .eq (.call 75 (.cons (.attr (.var 51) 50) (.cons (.var 51) (.cons (.var 60) (.cons (.var 17) (.cons (.val (.int 7)) (.cons (.val (.int 0)) .nil))))))) (.maxL (.bin .add (.var 75) (.lst (.cons (.val (.int 0)) .nil)))))) .nil))))))))))))
noncomputable def fns : List Fn := [⟨[0, 1, 2], B_Interval_init⟩,
  ⟨[0, 6, 2], B_IntervalTree_init⟩,
  ⟨[8], B_total_of⟩,
  ⟨[8], B_own_length⟩,
  ⟨[9], B_text_length⟩,
  ⟨[9, 8, 10], B_put_in_stead⟩,
  ⟨[8, 11], B_set_left⟩,
  ⟨[8, 11], B_set_right⟩,
  ⟨[9, 8], B_rotate_right⟩,
  ⟨[9, 8], B_rotate_left⟩,
  ⟨[8], B_right_turn_helps⟩,
  ⟨[8], B_left_turn_helps⟩,
  ⟨[9, 8], B_settle⟩,
  ⟨[9, 8], B_settle_up⟩,
  ⟨[8, 16], B_add_above⟩,
  ⟨[9, 17], B_find_interval⟩,
  ⟨[8], B_leftmost⟩,
  ⟨[8], B_rightmost⟩,
  ⟨[8], B_following⟩,
  ⟨[8], B_preceding⟩,
  ⟨[9, 8, 21], B_put_behind⟩,
  ⟨[9, 17], B_split_at⟩,
  ⟨[9, 8], B_drop_interval⟩,
  ⟨[9, 17, 16, 2], B_insert_interval⟩,
  ⟨[0, 25, 18, 26, 27, 28], B_OverlayNode_init⟩,
  ⟨[0], B_OverlayTree_init⟩,
  ⟨[8], B_hand_down⟩,
  ⟨[8], B_hand_down_to⟩,
  ⟨[8], B_greatest_end⟩,
  ⟨[9, 3, 8, 10], B_hang⟩,
  ⟨[9, 8], B_turn_left⟩,
  ⟨[9, 8], B_turn_right⟩,
  ⟨[8], B_is_red⟩,
  ⟨[9, 8], B_colour_inserted⟩,
  ⟨[9, 8, 36], B_turned_inward⟩,
  ⟨[9, 8], B_put_node⟩,
  ⟨[9, 18, 26], B_nodes_between⟩,
  ⟨[37, 10], B_eq⟩,
  ⟨[2, 25], B_plist_find⟩,
  ⟨[2, 25], B_plist_get⟩,
  ⟨[2, 25, 38], B_plist_with⟩,
  ⟨[2, 25, 38], B_holds_pair⟩,
  ⟨[37, 10], B_same_plist⟩,
  ⟨[0, 39], B_PropRules_init⟩,
  ⟨[0, 38], B_PropRules_is_nil⟩,
  ⟨[50, 2, 25], B_value_in⟩,
  ⟨[0, 25, 27, 28], B_Overlay_init⟩,
  ⟨[0, 50], B_OverlayHome_init⟩,
  ⟨[53], B_overlay_begin⟩,
  ⟨[53], B_overlay_end⟩,
  ⟨[53], B_take_out⟩,
  ⟨[53, 51, 18, 26], B_lay⟩,
  ⟨[51, 25, 18, 26, 27, 28], B_made_overlay⟩,
  ⟨[50, 53, 25], B_overlay_get⟩,
  ⟨[50, 53, 25, 38], B_overlay_put⟩,
  ⟨[51, 56], B_of_nodes⟩,
  ⟨[51, 17], B_overlays_at⟩,
  ⟨[51, 17, 57], B_next_overlay_change⟩,
  ⟨[51, 17, 59], B_previous_overlay_change⟩,
  ⟨[60, 17, 31], B_next_change⟩,
  ⟨[60, 17, 31], B_previous_change⟩,
  ⟨[0, 6], B_TextProps_init⟩,
  ⟨[61], B_props_of_rows⟩,
  ⟨[60, 17], B_properties_at⟩,
  ⟨[60, 17], B_join_at⟩,
  ⟨[50, 53], B_priority_of⟩,
  ⟨[50, 53], B_rank⟩,
  ⟨[0, 50], B_Ranked_init⟩,
  ⟨[0, 53], B_Ranked_key⟩,
  ⟨[50, 52], B_sorted_overlays⟩,
  ⟨[50, 51, 60, 17, 25], B_char_property_from⟩,
  ⟨[50, 51, 60, 17, 25], B_char_property⟩,
  ⟨[51, 60, 17, 57], B_next_char_change⟩,
  ⟨[51, 60, 17, 59], B_previous_char_change⟩,
  ⟨[50, 51, 60, 17, 25, 31], B_next_single_char_change⟩,
  ⟨[50, 51, 60, 17, 25, 31], B_previous_single_char_change⟩,
  ⟨[0, 59], B_PlainLisp_init⟩,
  ⟨[0, 66], B_PlainLisp_number⟩,
  ⟨[0, 38], B_PlainLisp_pair⟩,
  ⟨[67, 16], B_law_draw⟩,
  ⟨[67], B_law_value⟩,
  ⟨[67, 51, 68, 25], B_law_overlay⟩,
  ⟨[71, 68, 17], B_law_seen⟩,
  ⟨[74], B_law⟩]
noncomputable def fnNames : List String := ["Interval.__init__", "IntervalTree.__init__", "total_of", "own_length", "text_length", "put_in_stead", "set_left", "set_right", "rotate_right", "rotate_left", "right_turn_helps", "left_turn_helps", "settle", "settle_up", "add_above", "find_interval", "leftmost", "rightmost", "following", "preceding", "put_behind", "split_at", "drop_interval", "insert_interval", "OverlayNode.__init__", "OverlayTree.__init__", "hand_down", "hand_down_to", "greatest_end", "hang", "turn_left", "turn_right", "is_red", "colour_inserted", "turned_inward", "put_node", "nodes_between", "eq", "plist_find", "plist_get", "plist_with", "holds_pair", "same_plist", "PropRules.__init__", "PropRules.is_nil", "value_in", "Overlay.__init__", "OverlayHome.__init__", "overlay_begin", "overlay_end", "take_out", "lay", "made_overlay", "overlay_get", "overlay_put", "of_nodes", "overlays_at", "next_overlay_change", "previous_overlay_change", "next_change", "previous_change", "TextProps.__init__", "props_of_rows", "properties_at", "join_at", "priority_of", "rank", "Ranked.__init__", "Ranked.key", "sorted_overlays", "char_property_from", "char_property", "next_char_change", "previous_char_change", "next_single_char_change", "previous_single_char_change", "PlainLisp.__init__", "PlainLisp.number", "PlainLisp.pair", "_law_draw", "_law_value", "_law_overlay", "_law_seen", "law"]
noncomputable def clss : List Cl := [⟨0, []⟩,
  ⟨1, []⟩,
  ⟨24, []⟩,
  ⟨25, []⟩,
  ⟨43, [(55, 44)]⟩,
  ⟨46, []⟩,
  ⟨47, []⟩,
  ⟨61, []⟩,
  ⟨67, [(64, 68)]⟩,
  ⟨76, [(25, 77), (62, 78)]⟩]
noncomputable def clsNames : List String := ["Interval", "IntervalTree", "OverlayNode", "OverlayTree", "PropRules", "Overlay", "OverlayHome", "TextProps", "Ranked", "PlainLisp"]
noncomputable def attrIds : List Nat := [1, 2, 3, 4, 5, 7, 8, 9, 18, 25, 26, 27, 28, 29, 30, 31, 32, 39, 40, 41, 42, 43, 45, 47, 48, 49, 50, 51, 52, 59, 62, 65]
noncomputable def methIds : List Nat := [0, 1, 24, 25, 43, 44, 46, 47, 61, 67, 68, 76, 77, 78]
noncomputable def nidxTab : List (Nat × Int) := [(47, 0), (46, 1), (44, 2), (42, 3), (41, 4)]
noncomputable def caT : List Nat := [38, 59, 241, 262, 458, 486, 535, 685, 748, 868]
noncomputable def faT : List Nat := [35, 56, 70, 77, 84, 91, 98, 105, 112, 119, 126, 133, 140, 147, 154, 161, 168, 175, 182, 189, 196, 210, 217, 224, 238, 259, 273, 280, 287, 294, 301, 308, 315, 322, 329, 336, 392, 399, 406, 413, 420, 427, 434, 448, 455, 469, 483, 504, 546, 553, 560, 567, 574, 581, 588, 593, 598, 605, 612, 619, 626, 640, 696, 703, 710, 717, 724, 738, 745, 759, 766, 773, 780, 787, 794, 801, 816, 823, 858, 879, 886, 893, 900, 905]
noncomputable def namesAt : Nat := 802
noncomputable def ca (c : Nat) : Nat := caT.getD c 0
noncomputable def fa (f : Nat) : Nat := faT.getD f 0
noncomputable def gk (c f : Nat) : Bool := attrIds.contains f && (match clss[c]? with | some cl => (look f cl.meths).isNone | .none => false)
noncomputable abbrev C (d : Nat) : CallF := callN clss nidxTab fns d
end Mine
end
section
namespace Mine
section
variable {cls : List Cl} {nid : List (Nat × Int)} {C : CallF} {m : Lo} {st : St}
section
variable {α β γ δ : Type} {a : α} {b : β} {c : δ}
theorem bd_s {k : α → β → Option γ} : bd (some (a, b)) k = k a b := rfl
theorem b3_s {k : α → β → δ → Option γ} : b3 (some (a, b, c)) k = k a b c := rfl
theorem ob_s {k : α → Option γ} : ob (some a) k = k a := rfl
theorem onZ_n {k : Option γ} : onZ (none : Option α) k = k := rfl
theorem orO_s {f : α → γ} {g : γ} : orO (some a) f g = f a := rfl
theorem orO_n {f : α → γ} {g : γ} : orO none f g = g := rfl
theorem onI_i {i : Int} {k : Int → Option γ} : onI (.int i) k = k i := rfl
theorem onB_b {i : Bool} {k : Bool → Option γ} : onB (.bool i) k = k i := rfl
theorem onS_s {i : Nat} {k : Nat → Option γ} : onS (.str i) k = k i := rfl
theorem onR_r {i : Nat} {k : Nat → Option γ} : onR (.ref i) k = k i := rfl
theorem onT_t {i : List V} {k : List V → Option γ} : onT (.tup i) k = k i := rfl
theorem onN_n {k : Option γ} : onN .none k = k := rfl
theorem onIn_i {i : Nat} {fs : List (Nat × V)} {k : Nat → List (Nat × V) → Option γ} : onIn (.inst i fs) k = k i fs := rfl
theorem onLi_l {vs : List V} {k : List V → Option γ} : onLi (.list vs) k = k vs := rfl
end
theorem evE_var {x : Nat} : evE cls nid C (.var x) m st = (ob (look x m) fun v => some (v, st)) := rfl
theorem evE_val {v : V} : evE cls nid C (.val v) m st = (some (v, st)) := rfl
theorem evE_dct  : evE cls nid C (.dct) m st = (some (.ref st.length, st ++ [.dict []])) := rfl
theorem evE_attr {e : Ex} {f : Nat} : evE cls nid C (.attr e f) m st = (bd (evE cls nid C e m st) fun o st1 => ob (attrV st1 o f) fun v => some (v, st1)) := rfl
theorem evE_bin {op : Bop} {a : Ex} {b : Ex} : evE cls nid C (.bin op a b) m st = (bd (evE cls nid C a m st) fun x st1 => bd (evE cls nid C b m st1) fun y st2 => binV op x y st2) := rfl
theorem evE_neg {a : Ex} : evE cls nid C (.neg a) m st = (bd (evE cls nid C a m st) fun v st1 => onI v fun i => some (.int (-i), st1)) := rfl
theorem evE_not {a : Ex} : evE cls nid C (.not a) m st = (bd (evE cls nid C a m st) fun v st1 => onB v fun b => some (.bool (!b), st1)) := rfl
theorem evE_cmp {op : Cop} {a : Ex} {b : Ex} : evE cls nid C (.cmp op a b) m st = (bd (evE cls nid C a m st) fun x st1 => bd (evE cls nid C b m st1) fun y st2 => ob (cmpV op x y) fun r => some (.bool r, st2)) := rfl
theorem evE_cmp3 {o1 : Cop} {o2 : Cop} {a : Ex} {b : Ex} {c : Ex} : evE cls nid C (.cmp3 o1 o2 a b c) m st = (bd (evE cls nid C a m st) fun x st1 => bd (evE cls nid C b m st1) fun y st2 => ob (cmpV o1 x y) fun t => cond t
    (bd (evE cls nid C c m st2) fun z st3 => ob (cmpV o2 y z) fun r => some (.bool r, st3)) (some (.bool false, st2))) := rfl
theorem evE_band {es : Exs} : evE cls nid C (.band es) m st = (evAnd cls nid C es m st) := rfl
theorem evE_bor {es : Exs} : evE cls nid C (.bor es) m st = (evOr cls nid C es m st) := rfl
theorem evE_ite {c : Ex} {a : Ex} {b : Ex} : evE cls nid C (.ite c a b) m st = (bd (evE cls nid C c m st) fun v st1 => onB v fun t => cond t (evE cls nid C a m st1) (evE cls nid C b m st1)) := rfl
theorem evE_tup {es : Exs} : evE cls nid C (.tup es) m st = (bd (evEs cls nid C es m st) fun vs st1 => some (.tup vs, st1)) := rfl
theorem evE_lst {es : Exs} : evE cls nid C (.lst es) m st = (bd (evEs cls nid C es m st) fun vs st1 => some (.ref st1.length, st1 ++ [.list vs])) := rfl
theorem evE_idx {e : Ex} {i : Ex} : evE cls nid C (.idx e i) m st = (bd (evE cls nid C e m st) fun o st1 => bd (evE cls nid C i m st1) fun k st2 => ob (idxV st2 o k) fun v => some (v, st2)) := rfl
theorem evE_upto {e : Ex} {i : Ex} : evE cls nid C (.upto e i) m st = (bd (evE cls nid C e m st) fun o st1 => bd (evE cls nid C i m st1) fun k st2 => uptoV st2 o k) := rfl
theorem evE_rev {e : Ex} : evE cls nid C (.rev e) m st = (bd (evE cls nid C e m st) fun o st1 => ob (listV st1 o) fun vs => some (.ref st1.length, st1 ++ [.list vs.reverse])) := rfl
theorem evE_call {f : Nat} {es : Exs} : evE cls nid C (.call f es) m st = (bd (evEs cls nid C es m st) fun vs st1 => C f vs st1) := rfl
theorem evE_new {c : Nat} {es : Exs} : evE cls nid C (.new c es) m st = (bd (evEs cls nid C es m st) fun vs st1 => ob cls[c]? fun cl => bd (C cl.init (.ref st1.length :: vs) (st1 ++ [.inst c []])) fun u st2 => onN u (some (.ref st1.length, st2))) := rfl
theorem evE_meth {o : Ex} {n : Nat} {es : Exs} : evE cls nid C (.meth o n es) m st = (bd (evE cls nid C o m st) fun v st1 => onR v fun a => ob st1[a]? fun x => onIn x fun c fs => onZ (look n fs) (ob cls[c]? fun cl => ob (look n cl.meths) fun f =>
    bd (evEs cls nid C es m st1) fun vs st2 => C f (.ref a :: vs) st2)) := rfl
theorem evE_lapp {o : Ex} {e : Ex} : evE cls nid C (.lapp o e) m st = (bd (evE cls nid C o m st) fun l st1 => ob (listV st1 l) fun _ => bd (evE cls nid C e m st1) fun v st2 => ob (appV st2 l v) fun st3 => some (.none, st3)) := rfl
theorem evE_lpop {o : Ex} : evE cls nid C (.lpop o) m st = (bd (evE cls nid C o m st) fun l st1 => popV st1 l) := rfl
theorem evE_lext {o : Ex} {e : Ex} : evE cls nid C (.lext o e) m st = (bd (evE cls nid C o m st) fun l st1 => ob (listV st1 l) fun _ => bd (evE cls nid C e m st1) fun v st2 => ob (extV st2 l v) fun st3 => some (.none, st3)) := rfl
theorem evE_nidx {e : Ex} : evE cls nid C (.nidx e) m st = (bd (evE cls nid C e m st) fun v st1 => onS v fun s => ob (look s nid) fun k => some (.int k, st1)) := rfl
theorem evE_len {e : Ex} : evE cls nid C (.len e) m st = (bd (evE cls nid C e m st) fun o st1 => ob (lenV st1 o) fun k => some (.int k, st1)) := rfl
theorem evE_abs {e : Ex} : evE cls nid C (.abs e) m st = (bd (evE cls nid C e m st) fun v st1 => onI v fun i => some (.int i.natAbs, st1)) := rfl
theorem evE_min2 {a : Ex} {b : Ex} : evE cls nid C (.min2 a b) m st = (bd (evE cls nid C a m st) fun u st1 => onI u fun x => bd (evE cls nid C b m st1) fun v st2 => onI v fun y => some (.int (min x y), st2)) := rfl
theorem evE_max2 {a : Ex} {b : Ex} : evE cls nid C (.max2 a b) m st = (bd (evE cls nid C a m st) fun u st1 => onI u fun x => bd (evE cls nid C b m st1) fun v st2 => onI v fun y => some (.int (max x y), st2)) := rfl
theorem evE_minL {e : Ex} : evE cls nid C (.minL e) m st = (bd (evE cls nid C e m st) fun o st1 => ob (listV st1 o) fun vs => ob (intsOf vs) fun is => ob (minOf is) fun k => some (.int k, st1)) := rfl
theorem evE_maxL {e : Ex} : evE cls nid C (.maxL e) m st = (bd (evE cls nid C e m st) fun o st1 => ob (listV st1 o) fun vs => ob (intsOf vs) fun is => ob (maxOf is) fun k => some (.int k, st1)) := rfl
theorem evE_isi {t : Ty} {e : Ex} : evE cls nid C (.isi t e) m st = (bd (evE cls nid C e m st) fun v st1 => ob (isiV t v) fun b => some (.bool b, st1)) := rfl
theorem evE_srt {e : Ex} {o : Ex} {n : Nat} : evE cls nid C (.srt e o n) m st = (bd (evE cls nid C e m st) fun u st1 => onR u fun a => bd (evE cls nid C o m st1) fun v st2 => onR v fun b => srtV cls C n a b st2) := rfl
theorem evE_comp {e : Ex} {x : Nat} {it : It} : evE cls nid C (.comp e x it) m st = (b3 (evIt cls nid C it m st) fun vs a st1 => if vs.length ≤ maxSeq then bd (loopC a vs x (evE cls nid C e) (fun _ s => some (.bool true, s)) vs m st1) fun ws st2 => some (.ref st2.length, st2 ++ [.list ws]) else .none) := rfl
theorem evE_compc {e : Ex} {x : Nat} {it : It} {c : Ex} : evE cls nid C (.compc e x it c) m st = (b3 (evIt cls nid C it m st) fun vs a st1 => if vs.length ≤ maxSeq then bd (loopC a vs x (evE cls nid C e) (evE cls nid C c) vs m st1) fun ws st2 => some (.ref st2.length, st2 ++ [.list ws]) else .none) := rfl
theorem evEs_nil  : evEs cls nid C (.nil) m st = (some ([], st)) := rfl
theorem evEs_cons {e : Ex} {es : Exs} : evEs cls nid C (.cons e es) m st = (bd (evE cls nid C e m st) fun v st1 => bd (evEs cls nid C es m st1) fun vs st2 => some (v :: vs, st2)) := rfl
theorem evAnd_nil  : evAnd cls nid C (.nil) m st = (some (.bool true, st)) := rfl
theorem evAnd_cons {e : Ex} {es : Exs} : evAnd cls nid C (.cons e es) m st = (bd (evE cls nid C e m st) fun v st1 => onB v fun t => cond t (evAnd cls nid C es m st1) (some (.bool false, st1))) := rfl
theorem evOr_nil  : evOr cls nid C (.nil) m st = (some (.bool false, st)) := rfl
theorem evOr_cons {e : Ex} {es : Exs} : evOr cls nid C (.cons e es) m st = (bd (evE cls nid C e m st) fun v st1 => onB v fun t => cond t (some (.bool true, st1)) (evOr cls nid C es m st1)) := rfl
theorem evIt_seq {e : Ex} : evIt cls nid C (.seq e) m st = (bd (evE cls nid C e m st) fun o st1 => bd (itemsV st1 o) fun vs a => some (vs, a, st1)) := rfl
theorem evIt_rng1 {e : Ex} : evIt cls nid C (.rng1 e) m st = (bd (evE cls nid C e m st) fun v st1 => onI v fun b => if 0 ≤ b ∧ b < 4294967296 then some (rangeV 0 b, .none, st1) else .none) := rfl
theorem evIt_rng2 {x : Ex} {y : Ex} : evIt cls nid C (.rng2 x y) m st = (bd (evE cls nid C x m st) fun u st1 => onI u fun a => bd (evE cls nid C y m st1) fun v st2 => onI v fun b => if 0 ≤ a ∧ a < 4294967296 ∧ 0 ≤ b ∧ b < 4294967296 then some (rangeV a b, .none, st2) else .none) := rfl
theorem exS_asg {x : Nat} {e : Ex} : exS cls nid C (.asg x e) m st = (bd (evE cls nid C e m st) fun v st1 => some (.none, put x v m, st1)) := rfl
theorem exS_asgT {xs : List Nat} {e : Ex} : exS cls nid C (.asgT xs e) m st = (bd (evE cls nid C e m st) fun v st1 => onT v fun vs => ob (bindT xs vs m) fun m1 => some (.none, m1, st1)) := rfl
theorem exS_asgA {o : Ex} {f : Nat} {e : Ex} : exS cls nid C (.asgA o f e) m st = (bd (evE cls nid C e m st) fun v st1 => bd (evE cls nid C o m st1) fun p st2 => ob (setAttrV cls st2 p f v) fun st3 => some (.none, m, st3)) := rfl
theorem exS_asgI {o : Ex} {i : Ex} {e : Ex} : exS cls nid C (.asgI o i e) m st = (bd (evE cls nid C e m st) fun v st1 => bd (evE cls nid C o m st1) fun p st2 => bd (evE cls nid C i m st2) fun k st3 => ob (setIdxV st3 p k v) fun st4 => some (.none, m, st4)) := rfl
theorem exS_ret {e : Ex} : exS cls nid C (.ret e) m st = (bd (evE cls nid C e m st) fun v st1 => some (some v, m, st1)) := rfl
theorem exS_ret0  : exS cls nid C (.ret0) m st = (some (some .none, m, st)) := rfl
theorem exS_ite {c : Ex} {a : Ss} {b : Ss} : exS cls nid C (.ite c a b) m st = (bd (evE cls nid C c m st) fun v st1 => onB v fun t => cond t (exSs cls nid C a m st1) (exSs cls nid C b m st1)) := rfl
theorem exS_whl {c : Ex} {b : Ss} : exS cls nid C (.whl c b) m st = (loopW (evE cls nid C c) (exSs cls nid C b) 64 m st) := rfl
theorem exS_for1 {x : Nat} {it : It} {b : Ss} : exS cls nid C (.for1 x it b) m st = (b3 (evIt cls nid C it m st) fun vs a st1 => if vs.length ≤ maxSeq then loopF a vs (fun v m => some (put x v m)) (exSs cls nid C b) vs m st1 else .none) := rfl
theorem exS_forT {xs : List Nat} {it : It} {b : Ss} : exS cls nid C (.forT xs it b) m st = (b3 (evIt cls nid C it m st) fun vs a st1 => if vs.length ≤ maxSeq then loopF a vs (fun v m => onT v fun ws => bindT xs ws m) (exSs cls nid C b) vs m st1 else .none) := rfl
theorem exS_exp {e : Ex} : exS cls nid C (.exp e) m st = (bd (evE cls nid C e m st) fun _ st1 => some (.none, m, st1)) := rfl
theorem exSs_nil  : exSs cls nid C (.nil) m st = (some (.none, m, st)) := rfl
theorem exSs_cons {s : S} {ss : Ss} : exSs cls nid C (.cons s ss) m st = (b3 (exS cls nid C s m st) fun ov m1 st1 => orO ov (fun v => some (some v, m1, st1)) (exSs cls nid C ss m1 st1)) := rfl
theorem atL_of {γ : Type} {st : St} {a : Nat} {vs : List V} {k : List V → Option γ} (h : st[a]? = some (.list vs)) : atL st a k = k vs := by
  unfold atL
  rw [h]; rfl
theorem atI_of {γ : Type} {st : St} {a c : Nat} {fs : List (Nat × V)} {k : Nat → List (Nat × V) → Option γ} (h : st[a]? = some (.inst c fs)) : atI st a k = k c fs := by
  unfold atI
  rw [h]; rfl
theorem items_of {st : St} {a : Nat} {vs : List V} (h : st[a]? = some (.list vs)) : itemsV st (.ref a) = some (vs, some a) := atL_of h
theorem list_of {st : St} {a : Nat} {vs : List V} (h : st[a]? = some (.list vs)) (g : vs.length ≤ maxSeq) : listV st (.ref a) = some vs := (atL_of h).trans (if_pos g)
end
end Mine
end
section
open PySem PySem.W PySem.Calls PyProof.Rows
namespace Mine
noncomputable def nmS (k : Nat) : Str := Str.ofString (nmTab.getD k "")
noncomputable abbrev nmN : Nat := 80
theorem nm_nodup : (nmTab.map Str.ofString).Nodup ∧ nmTab.length = nmN := by decide +kernel
theorem nmS_inj {x y : Nat} (hx : x < nmN) (hy : y < nmN) (e : nmS x = nmS y) : x = y := by
  have hx' : x < (nmTab.map Str.ofString).length := by rw [List.length_map, nm_nodup.2]; exact hx
  have hy' : y < (nmTab.map Str.ofString).length := by rw [List.length_map, nm_nodup.2]; exact hy
  have g : ∀ k (h : k < (nmTab.map Str.ofString).length), nmS k = (nmTab.map Str.ofString)[k] := fun k h => by
    rw [List.length_map] at h
    simp [nmS, List.getD, List.getElem?_eq_getElem h]
  rw [g x hx', g y hy'] at e
  have P := List.pairwise_iff_getElem.mp nm_nodup.1
  rcases Nat.lt_trichotomy x y with q | q | q
  · exact absurd e (P x y hx' hy' q)
  · exact q
  · exact absurd e.symm (P y x hy' hx' q)
mutual
inductive VR (B h : Heap) (ρ : List (Addr × Addr)) : V → Value → Prop where
  | none : VR B h ρ .none .none
  | bool (b : Bool) : VR B h ρ (.bool b) (.bool b)
  | int (i : Int) (t : Tok) : VR B h ρ (.int i) (.int i t)
  | str (s : Nat) (t : Tok) : s < nmN → VR B h ρ (.str s) (.str (nmS s) t)
  | ref {a : Nat} {p : Addr × Addr} : ρ[a]? = some p → VR B h ρ (.ref a) (.ref p.1)
  | tup {vs : List V} {x : Addr} {ws : List Value} : IsTup h x ws.toArray → VRs B h ρ vs ws → VR B h ρ (.tup vs) (.ref x)
  | slist {vs : List V} {x : Addr} {ws : List Value} : B.IsList x ws.toArray → VRs B h ρ vs ws → VR B h ρ (.slist vs) (.ref x)
inductive VRs (B h : Heap) (ρ : List (Addr × Addr)) : List V → List Value → Prop where
  | nil : VRs B h ρ [] []
  | cons {v : V} {w : Value} {vs : List V} {ws : List Value} : VR B h ρ v w → VRs B h ρ vs ws → VRs B h ρ (v :: vs) (w :: ws)
end
inductive ER (B h : Heap) (ρ : List (Addr × Addr)) : List (Nat × V) → List DictEntry → Prop where
  | nil : ER B h ρ [] []
  | cons {k : Nat} {v : V} {w : Value} {hs : Int} {t : Tok} {fs : List (Nat × V)} {es : List DictEntry} : k < nmN → VR B h ρ v w → ER B h ρ fs es → ER B h ρ ((k, v) :: fs) (⟨hs, .str (nmS k) t, w⟩ :: es)
inductive OR (B h : Heap) (ρ : List (Addr × Addr)) : O → Addr × Addr → Prop where
  | inst {c : Nat} {fs : List (Nat × V)} {x dx : Addr} {es : List DictEntry} {n : Nat} : h.get? x = some (instObj (ca c) dx) → h.get? dx = some (dictOf es n) → ER B h ρ fs es → (∀ f v, look f fs = some v → gk c f = true) → OR B h ρ (.inst c fs) (x, dx)
  | list {vs : List V} {x : Addr} {ws : List Value} {n : Nat} : h.get? x = some (seqObj "list" ws.toArray n) → VRs B h ρ vs ws → OR B h ρ (.list vs) (x, x)
  | dict {fs : List (Int × V)} {x : Addr} {f : Int → Option Value} : h.IntMap x f → h.DictLe x fs.length → (∀ k v, lookI k fs = some v → ∃ w, f k = some w ∧ VR B h ρ v w) → OR B h ρ (.dict fs) (x, x)
noncomputable def Foot (ρ : List (Addr × Addr)) (b : Addr) : Prop := ∃ (a : Nat) (p : Addr × Addr), ρ[a]? = some p ∧ (b = p.1 ∨ b = p.2)
structure Rel (B : Heap) (ρ : List (Addr × Addr)) (st : St) (h : Heap) : Prop where
  len : ρ.length = st.length
  objs : ∀ (a : Nat) (o : O) (p : Addr × Addr), st[a]? = some o → ρ[a]? = some p → OR B h ρ o p
  inj : ∀ (a b : Nat) (p q : Addr × Addr), ρ[a]? = some p → ρ[b]? = some q → a ≠ b → p.1 ≠ q.1 ∧ p.1 ≠ q.2 ∧ p.2 ≠ q.1 ∧ p.2 ≠ q.2
  fresh : ∀ b, Foot ρ b → B.get? b = none
  base : ∀ b o, B.get? b = some o → h.get? b = some o
  size : B.objs.size ≤ h.objs.size
structure Nx (ρ : List (Addr × Addr)) (U : Addr → Prop) (h : Heap) (ρ' : List (Addr × Addr)) (h' : Heap) : Prop where
  pre : ρ <+: ρ'
  keep : ∀ b o, h.get? b = some o → ¬ Foot ρ b → ¬ U b → h'.get? b = some o
  grow : ∀ b, Foot ρ' b → Foot ρ b ∨ h.get? b = none
theorem pre_get {α : Type} {l l' : List α} (h : l <+: l') {a : Nat} {p : α} (e : l[a]? = some p) : l'[a]? = some p := by
  obtain ⟨t, rfl⟩ := h
  have hl : a < l.length := by
    rcases Nat.lt_or_ge a l.length with q | q
    · exact q
    · rw [List.getElem?_eq_none q] at e; cases e
  rw [List.getElem?_append_left hl]; exact e
theorem Foot.pre {ρ ρ' : List (Addr × Addr)} {b : Addr} (h : ρ <+: ρ') (x : Foot ρ b) : Foot ρ' b := by
  obtain ⟨a, p, e, q⟩ := x
  exact ⟨a, p, pre_get h e, q⟩
section
variable {B h h' h'' : Heap} {ρ ρ' ρ'' : List (Addr × Addr)} {st st' : St} {U : Addr → Prop}
theorem OR.pair {o : O} {p : Addr × Addr} (W : OR B h ρ o p) : ∃ o1 o2, h.get? p.1 = some o1 ∧ h.get? p.2 = some o2 ∧ o1.cls ≠ .type "tuple" ∧ o2.cls ≠ .type "tuple" := by
  induction W with
  | inst h1 h2 _ _ => exact ⟨_, _, h1, h2, nofun, show Value.type "dict" ≠ _ by decide⟩
  | list h1 _ => exact ⟨_, _, h1, h1, show Value.type "list" ≠ _ by decide, show Value.type "list" ≠ _ by decide⟩
  | dict h1 _ _ =>
    obtain ⟨o', _, _, h2, h3, _⟩ := h1
    have : o'.cls ≠ .type "tuple" := by rw [h3]; decide
    exact ⟨_, _, h2, h2, this, this⟩
theorem Rel.foot_at {b : Addr} (R : Rel B ρ st h) (x : Foot ρ b) : ∃ o, h.get? b = some o ∧ o.cls ≠ .type "tuple" := by
  obtain ⟨a, p, hp, q⟩ := x
  have W := R.objs a _ p (List.getElem?_eq_getElem (R.len ▸ (List.getElem?_eq_some_iff.mp hp).1)) hp
  obtain ⟨o1, o2, h1, h2, n1, n2⟩ := W.pair
  rcases q with q | q
  · exact ⟨o1, q ▸ h1, n1⟩
  · exact ⟨o2, q ▸ h2, n2⟩
theorem Rel.foot_not {b : Addr} {o : Obj} (R : Rel B ρ st h) (x : Foot ρ b) (e : h.get? b = some o) : o.cls ≠ .type "tuple" := by
  obtain ⟨o', h1, n⟩ := R.foot_at x
  rw [h1] at e; exact Option.some.inj e ▸ n
theorem Rel.foot_some {b : Addr} (R : Rel B ρ st h) (x : Foot ρ b) : ∃ o, h.get? b = some o := Exists.elim (R.foot_at x) fun o q => ⟨o, q.1⟩
theorem Nx.refl : Nx ρ U h ρ h := ⟨List.prefix_refl _, fun _ _ e _ _ => e, fun _ x => .inl x⟩
end
section
variable {B h h' : Heap} {ρ ρ' : List (Addr × Addr)} (hp : ρ <+: ρ') (ht : ∀ x ws, IsTup h x ws → IsTup h' x ws)
include hp ht
theorem VR.mono {v : V} {w : Value} (R : VR B h ρ v w) : VR B h' ρ' v w :=
  VR.rec (motive_1 := fun v w _ => VR B h' ρ' v w) (motive_2 := fun vs ws _ => VRs B h' ρ' vs ws) .none .bool .int .str (fun e => .ref (pre_get hp e)) (fun a _ i => .tup (ht _ _ a) i) (fun a _ i => .slist a i) .nil (fun _ _ i j => .cons i j) R
theorem VRs.mono {v : List V} {w : List Value} (R : VRs B h ρ v w) : VRs B h' ρ' v w :=
  VRs.rec (motive_1 := fun v w _ => VR B h' ρ' v w) (motive_2 := fun vs ws _ => VRs B h' ρ' vs ws) .none .bool .int .str (fun e => .ref (pre_get hp e)) (fun a _ i => .tup (ht _ _ a) i) (fun a _ i => .slist a i) .nil (fun _ _ i j => .cons i j) R
theorem ER.mono {fs : List (Nat × V)} {es : List DictEntry} (R : ER B h ρ fs es) : ER B h' ρ' fs es :=
  ER.rec (motive := fun v w _ => ER B h' ρ' v w) .nil (fun q a _ i => .cons q (a.mono hp ht) i) R
theorem OR.mono {o : O} {p : Addr × Addr} (W : OR B h ρ o p) : (∀ x, h.get? p.1 = some x → h'.get? p.1 = some x) → (∀ x, h.get? p.2 = some x → h'.get? p.2 = some x) → OR B h' ρ' o p := by
  induction W with
  | inst g1 g2 g3 g4 => exact fun k1 k2 => .inst (k1 _ g1) (k2 _ g2) (g3.mono hp ht) g4
  | list g1 g2 => exact fun k1 _ => .list (k1 _ g1) (g2.mono hp ht)
  | dict g1 g2 g3 =>
    obtain ⟨o', es', ep', q1, q2⟩ := id g1
    exact fun k1 _ => .dict ⟨o', es', ep', k1 _ q1, q2⟩ (g2.of_same q1 (k1 _ q1)) fun k v e => Exists.elim (g3 k v e) fun z q => ⟨z, q.1, q.2.mono hp ht⟩
end
noncomputable def Fm (env : Env) (b : Addr) : Prop := b = env.locals ∨ ∃ y, env.cells.lookup y = some b
structure FrR (B : Heap) (ρ : List (Addr × Addr)) (env : Env) (m : Lo) (h : Heap) : Prop where
  kind : env.scope.kind = .function
  glob : env.globals = mainGlobals
  blt : env.builtins = builtinsNs
  ns : ∃ mm, h.Ns env.locals mm ∧ ∀ x v, x < nmN → look x m = some v → env.kindOf (nmS x) = some .local → ∃ w, mm (nmS x) = some w ∧ VR B h ρ v w
  cel : ∀ x v, x < nmN → look x m = some v → env.kindOf (nmS x) = some .cell ∨ env.kindOf (nmS x) = some .free →
    ∃ c o w, env.cells.lookup (nmS x) = some c ∧ h.get? c = some o ∧ o.data = .cell (some w) ∧ VR B h ρ v w
  celok : ∀ y c, env.cells.lookup y = some c → ∃ o v0, h.get? c = some o ∧ o.data = .cell v0
  has : ∀ y, env.kindOf y = some .cell → ∃ c, env.cells.lookup y = some c
  one : ∀ y z c, env.cells.lookup y = some c → env.cells.lookup z = some c → y = z
  new : ∀ b, Fm env b → B.get? b = none ∧ ¬ Foot ρ b
  above : B.objs.size ≤ env.locals
structure Cx (B : Heap) (ρ : List (Addr × Addr)) (st : St) (env : Env) (m : Lo) (h : Heap) : Prop where
  rel : Rel B ρ st h
  fr : FrR B ρ env m h
section
variable {B h h' h'' : Heap} {ρ ρ' ρ'' : List (Addr × Addr)} {st st' st'' : St} {env : Env} {m m' : Lo} {U : Addr → Prop}
theorem FrR.fm_at {b : Addr} (F : FrR B ρ env m h) (x : Fm env b) : ∃ o, h.get? b = some o ∧ ∀ xs n, o.data ≠ .seq xs n := by
  rcases x with e | ⟨y, hy⟩
  · obtain ⟨mm, ⟨o', es, ep, ho, hd', _⟩, _⟩ := F.ns
    exact ⟨o', e ▸ ho, fun xs n hd => nomatch hd'.symm.trans hd⟩
  · obtain ⟨o', v0, ho, hd'⟩ := F.celok y b hy
    exact ⟨o', ho, fun xs n hd => nomatch hd'.symm.trans hd⟩
theorem FrR.fm_not {b : Addr} {o : Obj} (F : FrR B ρ env m h) (x : Fm env b) (e : h.get? b = some o) : ∀ xs n, o.data ≠ .seq xs n := by
  obtain ⟨o', h1, n⟩ := F.fm_at x
  rw [h1] at e; exact Option.some.inj e ▸ n
theorem FrR.fm_some {b : Addr} (F : FrR B ρ env m h) (x : Fm env b) : ∃ o, h.get? b = some o := Exists.elim (F.fm_at x) fun o q => ⟨o, q.1⟩
theorem FrR.turn {mm : Str → Option Value} (F : FrR B ρ env m h) (hn : h'.Ns env.locals mm) (hv : ∀ x v, x < nmN → look x m = some v → env.kindOf (nmS x) = some .local → ∃ w, mm (nmS x) = some w ∧ VR B h ρ v w)
    (vr : ∀ v w, VR B h ρ v w → VR B h' ρ' v w) (kc : ∀ y c o, env.cells.lookup y = some c → h.get? c = some o → h'.get? c = some o) (nw : ∀ b, Fm env b → ¬ Foot ρ' b) : FrR B ρ' env m h' :=
  ⟨F.kind, F.glob, F.blt, ⟨mm, hn, fun x v hx e hl => Exists.elim (hv x v hx e hl) fun z g => ⟨z, g.1, vr _ _ g.2⟩⟩,
    fun x v hx e hl => by obtain ⟨c, o, z, g1, g2, g3, g4⟩ := F.cel x v hx e hl; exact ⟨c, o, z, g1, kc _ _ _ g1 g2, g3, vr _ _ g4⟩,
    fun y c hy => by obtain ⟨o, v0, g1, g2⟩ := F.celok y c hy; exact ⟨o, v0, kc _ _ _ hy g1, g2⟩, F.has, F.one, fun b f => ⟨(F.new b f).1, nw b f⟩, F.above⟩
theorem FrR.cell_ne (F : FrR B ρ env m h) {y : Str} {c : Addr} (hy : env.cells.lookup y = some c) : c ≠ env.locals := fun z => by
  obtain ⟨o, v0, h1, h2⟩ := F.celok y c hy
  obtain ⟨mm0, ⟨o', es, ep, h3, h4, _⟩, _⟩ := F.ns
  rw [z, h3] at h1; rw [← Option.some.inj h1, h4] at h2; nomatch h2
theorem Cx.tup {x : Addr} {ws : Array Value} (X : Cx B ρ st env m h) (N : Nx ρ (Fm env) h ρ' h') (t : IsTup h x ws) : IsTup h' x ws := by
  obtain ⟨o, ho, hc, n, hd⟩ := t
  refine ⟨o, N.keep x o ho (fun f => X.rel.foot_not f ho hc) (fun f => X.fr.fm_not f ho _ _ hd), hc, n, hd⟩
theorem Rel.tup {x : Addr} {ws : Array Value} (X : Rel B ρ st h) (N : Nx ρ (fun _ => False) h ρ' h') (t : IsTup h x ws) : IsTup h' x ws := by
  obtain ⟨o, ho, hc, n, hd⟩ := t
  exact ⟨o, N.keep x o ho (fun f => X.foot_not f ho hc) (fun f => f), hc, n, hd⟩
theorem Cx.vr {v : V} {w : Value} (X : Cx B ρ st env m h) (N : Nx ρ (Fm env) h ρ' h') (x : VR B h ρ v w) : VR B h' ρ' v w := x.mono N.pre fun _ _ t => X.tup N t
theorem Cx.vrs {v : List V} {w : List Value} (X : Cx B ρ st env m h) (N : Nx ρ (Fm env) h ρ' h') (x : VRs B h ρ v w) : VRs B h' ρ' v w := x.mono N.pre fun _ _ t => X.tup N t
theorem Cx.stay {b : Addr} {o : Obj} (X : Cx B ρ st env m h) (N : Nx ρ (Fm env) h ρ' h') (X' : Cx B ρ' st' env m' h') (e : h.get? b = some o) : ∃ o', h'.get? b = some o' := by
  by_cases f : Foot ρ b
  · exact X'.rel.foot_some (f.pre N.pre)
  · by_cases g : Fm env b
    · exact X'.fr.fm_some g
    · exact ⟨o, N.keep b o e f g⟩
theorem Cx.gone {b : Addr} (X : Cx B ρ st env m h) (N : Nx ρ (Fm env) h ρ' h') (X' : Cx B ρ' st' env m' h') (e : h'.get? b = none) : h.get? b = none := by
  cases q : h.get? b with
  | none => rfl
  | some o => obtain ⟨o', h1⟩ := X.stay N X' q; rw [h1] at e; cases e
theorem Nx.trans (X : Cx B ρ st env m h) (N : Nx ρ (Fm env) h ρ' h') (X' : Cx B ρ' st' env m' h') (N' : Nx ρ' (Fm env) h' ρ'' h'') : Nx ρ (Fm env) h ρ'' h'' := by
  refine ⟨List.IsPrefix.trans N.pre N'.pre, fun b o e f g => ?_, fun b f => ?_⟩
  · refine N'.keep b o (N.keep b o e f g) (fun f' => ?_) g
    rcases N.grow b f' with q | q
    · exact f q
    · rw [e] at q; cases q
  · rcases N'.grow b f with q | q
    · exact N.grow b q
    · exact .inr (X.gone N X' q)
end
end Mine
end
section
open PySem PySem.W PySem.Calls PyProof.Rows
namespace Mine
noncomputable abbrev Nk := List (Str × NameKind)
noncomputable def kindL (ns : Nk) (id : Str) : Bool := decide (ns.lookup id = some .local) || decide (ns.lookup id = some .cell)
noncomputable def kindV (ns : Nk) (id : Str) : Bool := kindL ns id || decide (ns.lookup id = some .free)
theorem or_el {a b : Bool} {P : Prop} (h : (a || b) = true) (k1 : a = true → P) (k2 : b = true → P) : P := by
  cases a with
  | true => exact k1 rfl
  | false => exact k2 h
theorem kindL_el {ns : Nk} {id : Str} {P : Prop} (h : kindL ns id = true) (k1 : ns.lookup id = some .local → P) (k2 : ns.lookup id = some .cell → P) : P := or_el h (fun h => k1 (of_decide_eq_true h)) fun h => k2 (of_decide_eq_true h)
theorem kindV_el {ns : Nk} {id : Str} {P : Prop} (h : kindV ns id = true) (k1 : ns.lookup id = some .local → P) (k2 : ns.lookup id = some .cell → P) (k3 : ns.lookup id = some .free → P) : P := or_el h (fun h => kindL_el h k1 k2) fun h => k3 (of_decide_eq_true h)
theorem kindL_local {ns : Nk} {id : Str} (h : ns.lookup id = some .local) : kindL ns id = true := Bool.or_eq_true_iff.mpr (.inl (decide_eq_true h))
noncomputable def kindG (ns : Nk) (id : Str) : Bool := ns.lookup id == some .globalImplicit
noncomputable def nodbg (id : Str) : Bool := !(id == ("__debug__" : Str)) && !(id == ("__classdict__" : Str))
noncomputable def isA (n : Nat) (a : Expr) : Bool := decide (a.ctorIdx = n)
noncomputable def plainA (a : Expr) : Bool := !isA 22 a && !isA 26 a
noncomputable def notSet (a : Expr) : Bool := !isA 7 a
noncomputable def isName (a : Expr) : Bool := isA 23 a
noncomputable def opOf : Bop → Operator
  | .add => .Add
  | .sub => .Sub
  | .mul => .Mult
  | .fdiv => .FloorDiv
  | .fmod => .Mod
noncomputable def copOf : Cop → CmpOp
  | .eq => .Eq
  | .ne => .NotEq
  | .lt => .Lt
  | .le => .LtE
  | .gt => .Gt
  | .ge => .GtE
  | .is => .Is
  | .isn => .IsNot
noncomputable def tyN : Ty → Str
  | .int => "int"
  | .bool => "bool"
  | .tuple => "tuple"
noncomputable def gl (ns : Nk) (id x : Str) : Bool := id == x && kindG ns id && nodbg id
noncomputable def fnm (f : Nat) : Str := Str.ofString (fnNames.getD f "")
noncomputable def cnm (c : Nat) : Str := Str.ofString (clsNames.getD c "")
noncomputable def nmOk (k : Nat) (x : Str) : Bool := decide (k < nmN) && x == nmS k
noncomputable def compOk (ns cn : Nk) (x : Nat) (id : Str) : Bool :=
  nmOk x id && nodbg id && !(id == (".0" : Str)) && decide (cn.map (·.1)).Nodup && (cn.all fun p => (p.1 == (".0" : Str) && p.2 == .local) || (p.1 == id && p.2 == .local) || (p.2 == .free && ns.lookup p.1 == some .cell) || p.2 == .globalImplicit) && cn.lookup id == some .local
noncomputable def cnOf (ns cn : Nk) : Nk := cn.map fun (n, k) => if k == .free && ns.lookup n == some .cell then (n, .cell) else (n, k)
theorem vw_el {P c : Prop} [Decidable c] {f : c → Bool} (h : (if q : c then f q else false) = true) (k : ∀ q, f q = true → P) : P := by
  by_cases q : c
  · rw [dif_pos q] at h; exact k q h
  · rw [dif_neg q] at h; exact ff h
section
variable {P : Prop} {a b c d e f g : Bool}
theorem and2 (h : (a && b) = true) (k : a = true → b = true → P) : P := k (b1 h) (b2 h)
theorem and3 (h : (a && (b && c)) = true) (k : a = true → b = true → c = true → P) : P := and2 h fun x h => and2 h (k x)
theorem and4 (h : (a && (b && (c && d))) = true) (k : a = true → b = true → c = true → d = true → P) : P := and2 h fun x h => and3 h (k x)
theorem and5 (h : (a && (b && (c && (d && e)))) = true) (k : a = true → b = true → c = true → d = true → e = true → P) : P := and2 h fun x h => and4 h (k x)
theorem and6 (h : (a && (b && (c && (d && (e && f))))) = true) (k : a = true → b = true → c = true → d = true → e = true → f = true → P) : P := and2 h fun x h => and5 h (k x)
theorem and7 (h : (a && (b && (c && (d && (e && (f && g)))))) = true) (k : a = true → b = true → c = true → d = true → e = true → f = true → g = true → P) : P := and2 h fun x h => and6 h (k x)
end
@[elab_as_elim] theorem dec_el {α : Type} {M : α → Prop} {a b : α} [DecidableEq α] (h : decide (a = b) = true) (k : M b) : M a := (of_decide_eq_true h).symm ▸ k
@[elab_as_elim] theorem str_el {M : Str → Prop} {a b : Str} (h : (a == b) = true) (k : M b) : M a := (eq_of_beq h).symm ▸ k
@[elab_as_elim] theorem nm_el {M : Str → Prop} {n : Nat} {x : Str} (h : nmOk n x = true) (k : n < nmN → M (nmS n)) : M x := str_el (b2 h) (k (of_decide_eq_true (b1 h)))
theorem no_ {b : Bool} (h : (!b) = true) : b = false := by cases b <;> first | rfl | exact ff h
noncomputable def aName (a : Expr) (f : Str → Pos → Bool) : Bool := if q : a.ctorIdx = 23 then @Expr.Name.elim (fun _ => Bool) a q f else false
@[elab_as_elim] theorem aName_el {M : Expr → Prop} {a : Expr} {f : Str → Pos → Bool} (h : aName a f = true) (k : ∀ x p, f x p = true → M (.Name x p)) : M a :=
  vw_el h fun q h => @Expr.Name.elim (fun a => ∀ q : a.ctorIdx = 23, @Expr.Name.elim (fun _ => Bool) a q f = true → M a) a q (fun x p _ h => k x p h) q h
noncomputable def aConstant (a : Expr) (f : Const → Nat → Pos → Bool) : Bool := if q : a.ctorIdx = 19 then @Expr.Constant.elim (fun _ => Bool) a q f else false
@[elab_as_elim] theorem aConstant_el {M : Expr → Prop} {a : Expr} {f : Const → Nat → Pos → Bool} (h : aConstant a f = true) (k : ∀ c n p, f c n p = true → M (.Constant c n p)) : M a :=
  vw_el h fun q h => @Expr.Constant.elim (fun a => ∀ q : a.ctorIdx = 19, @Expr.Constant.elim (fun _ => Bool) a q f = true → M a) a q (fun c n p _ h => k c n p h) q h
noncomputable def aDict (a : Expr) (f : (List (Option Expr)) → (List Expr) → Pos → Bool) : Bool := if q : a.ctorIdx = 6 then @Expr.Dict.elim (fun _ => Bool) a q f else false
@[elab_as_elim] theorem aDict_el {M : Expr → Prop} {a : Expr} {f : (List (Option Expr)) → (List Expr) → Pos → Bool} (h : aDict a f = true) (k : ∀ l v p, f l v p = true → M (.Dict l v p)) : M a :=
  vw_el h fun q h => @Expr.Dict.elim (fun a => ∀ q : a.ctorIdx = 6, @Expr.Dict.elim (fun _ => Bool) a q f = true → M a) a q (fun l v p _ h => k l v p h) q h
noncomputable def aAttribute (a : Expr) (f : Expr → Str → Pos → Bool) : Bool := if q : a.ctorIdx = 20 then @Expr.Attribute.elim (fun _ => Bool) a q f else false
@[elab_as_elim] theorem aAttribute_el {M : Expr → Prop} {a : Expr} {f : Expr → Str → Pos → Bool} (h : aAttribute a f = true) (k : ∀ b x p, f b x p = true → M (.Attribute b x p)) : M a :=
  vw_el h fun q h => @Expr.Attribute.elim (fun a => ∀ q : a.ctorIdx = 20, @Expr.Attribute.elim (fun _ => Bool) a q f = true → M a) a q (fun b x p _ h => k b x p h) q h
noncomputable def aBinOp (a : Expr) (f : Expr → Operator → Expr → Pos → Bool) : Bool := if q : a.ctorIdx = 2 then @Expr.BinOp.elim (fun _ => Bool) a q f else false
@[elab_as_elim] theorem aBinOp_el {M : Expr → Prop} {a : Expr} {f : Expr → Operator → Expr → Pos → Bool} (h : aBinOp a f = true) (k : ∀ l o r p, f l o r p = true → M (.BinOp l o r p)) : M a :=
  vw_el h fun q h => @Expr.BinOp.elim (fun a => ∀ q : a.ctorIdx = 2, @Expr.BinOp.elim (fun _ => Bool) a q f = true → M a) a q (fun l o r p _ h => k l o r p h) q h
noncomputable def aUnaryOp (a : Expr) (f : UnaryOp → Expr → Pos → Bool) : Bool := if q : a.ctorIdx = 3 then @Expr.UnaryOp.elim (fun _ => Bool) a q f else false
@[elab_as_elim] theorem aUnaryOp_el {M : Expr → Prop} {a : Expr} {f : UnaryOp → Expr → Pos → Bool} (h : aUnaryOp a f = true) (k : ∀ o x p, f o x p = true → M (.UnaryOp o x p)) : M a :=
  vw_el h fun q h => @Expr.UnaryOp.elim (fun a => ∀ q : a.ctorIdx = 3, @Expr.UnaryOp.elim (fun _ => Bool) a q f = true → M a) a q (fun o x p _ h => k o x p h) q h
noncomputable def aCompare (a : Expr) (f : Expr → (List CmpOp) → (List Expr) → Pos → Bool) : Bool := if q : a.ctorIdx = 15 then @Expr.Compare.elim (fun _ => Bool) a q f else false
@[elab_as_elim] theorem aCompare_el {M : Expr → Prop} {a : Expr} {f : Expr → (List CmpOp) → (List Expr) → Pos → Bool} (h : aCompare a f = true) (k : ∀ l o r p, f l o r p = true → M (.Compare l o r p)) : M a :=
  vw_el h fun q h => @Expr.Compare.elim (fun a => ∀ q : a.ctorIdx = 15, @Expr.Compare.elim (fun _ => Bool) a q f = true → M a) a q (fun l o r p _ h => k l o r p h) q h
noncomputable def aBoolOp (a : Expr) (f : BoolOp → (List Expr) → Pos → Bool) : Bool := if q : a.ctorIdx = 0 then @Expr.BoolOp.elim (fun _ => Bool) a q f else false
@[elab_as_elim] theorem aBoolOp_el {M : Expr → Prop} {a : Expr} {f : BoolOp → (List Expr) → Pos → Bool} (h : aBoolOp a f = true) (k : ∀ o l p, f o l p = true → M (.BoolOp o l p)) : M a :=
  vw_el h fun q h => @Expr.BoolOp.elim (fun a => ∀ q : a.ctorIdx = 0, @Expr.BoolOp.elim (fun _ => Bool) a q f = true → M a) a q (fun o l p _ h => k o l p h) q h
noncomputable def aIfExp (a : Expr) (f : Expr → Expr → Expr → Pos → Bool) : Bool := if q : a.ctorIdx = 5 then @Expr.IfExp.elim (fun _ => Bool) a q f else false
@[elab_as_elim] theorem aIfExp_el {M : Expr → Prop} {a : Expr} {f : Expr → Expr → Expr → Pos → Bool} (h : aIfExp a f = true) (k : ∀ t x y p, f t x y p = true → M (.IfExp t x y p)) : M a :=
  vw_el h fun q h => @Expr.IfExp.elim (fun a => ∀ q : a.ctorIdx = 5, @Expr.IfExp.elim (fun _ => Bool) a q f = true → M a) a q (fun t x y p _ h => k t x y p h) q h
noncomputable def aTuple (a : Expr) (f : (List Expr) → Nat → Pos → Bool) : Bool := if q : a.ctorIdx = 25 then @Expr.Tuple.elim (fun _ => Bool) a q f else false
@[elab_as_elim] theorem aTuple_el {M : Expr → Prop} {a : Expr} {f : (List Expr) → Nat → Pos → Bool} (h : aTuple a f = true) (k : ∀ l n p, f l n p = true → M (.Tuple l n p)) : M a :=
  vw_el h fun q h => @Expr.Tuple.elim (fun a => ∀ q : a.ctorIdx = 25, @Expr.Tuple.elim (fun _ => Bool) a q f = true → M a) a q (fun l n p _ h => k l n p h) q h
noncomputable def aList (a : Expr) (f : (List Expr) → Pos → Bool) : Bool := if q : a.ctorIdx = 24 then @Expr.List.elim (fun _ => Bool) a q f else false
@[elab_as_elim] theorem aList_el {M : Expr → Prop} {a : Expr} {f : (List Expr) → Pos → Bool} (h : aList a f = true) (k : ∀ l p, f l p = true → M (.List l p)) : M a :=
  vw_el h fun q h => @Expr.List.elim (fun a => ∀ q : a.ctorIdx = 24, @Expr.List.elim (fun _ => Bool) a q f = true → M a) a q (fun l p _ h => k l p h) q h
noncomputable def aSubscript (a : Expr) (f : Expr → Expr → Pos → Bool) : Bool := if q : a.ctorIdx = 21 then @Expr.Subscript.elim (fun _ => Bool) a q f else false
@[elab_as_elim] theorem aSubscript_el {M : Expr → Prop} {a : Expr} {f : Expr → Expr → Pos → Bool} (h : aSubscript a f = true) (k : ∀ x y p, f x y p = true → M (.Subscript x y p)) : M a :=
  vw_el h fun q h => @Expr.Subscript.elim (fun a => ∀ q : a.ctorIdx = 21, @Expr.Subscript.elim (fun _ => Bool) a q f = true → M a) a q (fun x y p _ h => k x y p h) q h
noncomputable def aSlice (a : Expr) (f : (Option Expr) → (Option Expr) → (Option Expr) → Pos → Bool) : Bool := if q : a.ctorIdx = 26 then @Expr.Slice.elim (fun _ => Bool) a q f else false
@[elab_as_elim] theorem aSlice_el {M : Expr → Prop} {a : Expr} {f : (Option Expr) → (Option Expr) → (Option Expr) → Pos → Bool} (h : aSlice a f = true) (k : ∀ l u s p, f l u s p = true → M (.Slice l u s p)) : M a :=
  vw_el h fun q h => @Expr.Slice.elim (fun a => ∀ q : a.ctorIdx = 26, @Expr.Slice.elim (fun _ => Bool) a q f = true → M a) a q (fun l u s p _ h => k l u s p h) q h
noncomputable def aCall (a : Expr) (f : Expr → (List Expr) → (List Keyword) → Pos → Bool) : Bool := if q : a.ctorIdx = 16 then @Expr.Call.elim (fun _ => Bool) a q f else false
@[elab_as_elim] theorem aCall_el {M : Expr → Prop} {a : Expr} {f : Expr → (List Expr) → (List Keyword) → Pos → Bool} (h : aCall a f = true) (k : ∀ g l w p, f g l w p = true → M (.Call g l w p)) : M a :=
  vw_el h fun q h => @Expr.Call.elim (fun a => ∀ q : a.ctorIdx = 16, @Expr.Call.elim (fun _ => Bool) a q f = true → M a) a q (fun g l w p _ h => k g l w p h) q h
noncomputable def aListComp (a : Expr) (f : Expr → (List Comprehension) → Scope → Pos → Bool) : Bool := if q : a.ctorIdx = 8 then @Expr.ListComp.elim (fun _ => Bool) a q f else false
@[elab_as_elim] theorem aListComp_el {M : Expr → Prop} {a : Expr} {f : Expr → (List Comprehension) → Scope → Pos → Bool} (h : aListComp a f = true) (k : ∀ e g s p, f e g s p = true → M (.ListComp e g s p)) : M a :=
  vw_el h fun q h => @Expr.ListComp.elim (fun a => ∀ q : a.ctorIdx = 8, @Expr.ListComp.elim (fun _ => Bool) a q f = true → M a) a q (fun e g s p _ h => k e g s p h) q h
noncomputable def sAssign (a : Stmt) (f : (List Expr) → Expr → Pos → Bool) : Bool := if q : a.ctorIdx = 5 then @Stmt.Assign.elim (fun _ => Bool) a q f else false
@[elab_as_elim] theorem sAssign_el {M : Stmt → Prop} {a : Stmt} {f : (List Expr) → Expr → Pos → Bool} (h : sAssign a f = true) (k : ∀ t v p, f t v p = true → M (.Assign t v p)) : M a :=
  vw_el h fun q h => @Stmt.Assign.elim (fun a => ∀ q : a.ctorIdx = 5, @Stmt.Assign.elim (fun _ => Bool) a q f = true → M a) a q (fun t v p _ h => k t v p h) q h
noncomputable def sReturn (a : Stmt) (f : (Option Expr) → Pos → Bool) : Bool := if q : a.ctorIdx = 3 then @Stmt.Return.elim (fun _ => Bool) a q f else false
@[elab_as_elim] theorem sReturn_el {M : Stmt → Prop} {a : Stmt} {f : (Option Expr) → Pos → Bool} (h : sReturn a f = true) (k : ∀ v p, f v p = true → M (.Return v p)) : M a :=
  vw_el h fun q h => @Stmt.Return.elim (fun a => ∀ q : a.ctorIdx = 3, @Stmt.Return.elim (fun _ => Bool) a q f = true → M a) a q (fun v p _ h => k v p h) q h
noncomputable def sIf (a : Stmt) (f : Expr → (List Stmt) → (List Stmt) → Pos → Bool) : Bool := if q : a.ctorIdx = 12 then @Stmt.If.elim (fun _ => Bool) a q f else false
@[elab_as_elim] theorem sIf_el {M : Stmt → Prop} {a : Stmt} {f : Expr → (List Stmt) → (List Stmt) → Pos → Bool} (h : sIf a f = true) (k : ∀ t x y p, f t x y p = true → M (.If t x y p)) : M a :=
  vw_el h fun q h => @Stmt.If.elim (fun a => ∀ q : a.ctorIdx = 12, @Stmt.If.elim (fun _ => Bool) a q f = true → M a) a q (fun t x y p _ h => k t x y p h) q h
noncomputable def sWhile (a : Stmt) (f : Expr → (List Stmt) → (List Stmt) → Pos → Bool) : Bool := if q : a.ctorIdx = 11 then @Stmt.While.elim (fun _ => Bool) a q f else false
@[elab_as_elim] theorem sWhile_el {M : Stmt → Prop} {a : Stmt} {f : Expr → (List Stmt) → (List Stmt) → Pos → Bool} (h : sWhile a f = true) (k : ∀ t x y p, f t x y p = true → M (.While t x y p)) : M a :=
  vw_el h fun q h => @Stmt.While.elim (fun a => ∀ q : a.ctorIdx = 11, @Stmt.While.elim (fun _ => Bool) a q f = true → M a) a q (fun t x y p _ h => k t x y p h) q h
noncomputable def sFor (a : Stmt) (f : Expr → Expr → (List Stmt) → (List Stmt) → Pos → Bool) : Bool := if q : a.ctorIdx = 9 then @Stmt.For.elim (fun _ => Bool) a q f else false
@[elab_as_elim] theorem sFor_el {M : Stmt → Prop} {a : Stmt} {f : Expr → Expr → (List Stmt) → (List Stmt) → Pos → Bool} (h : sFor a f = true) (k : ∀ t i x y p, f t i x y p = true → M (.For t i x y p)) : M a :=
  vw_el h fun q h => @Stmt.For.elim (fun a => ∀ q : a.ctorIdx = 9, @Stmt.For.elim (fun _ => Bool) a q f = true → M a) a q (fun t i x y p _ h => k t i x y p h) q h
noncomputable def sExpr (a : Stmt) (f : Expr → Pos → Bool) : Bool := if q : a.ctorIdx = 24 then @Stmt.Expr.elim (fun _ => Bool) a q f else false
@[elab_as_elim] theorem sExpr_el {M : Stmt → Prop} {a : Stmt} {f : Expr → Pos → Bool} (h : sExpr a f = true) (k : ∀ v p, f v p = true → M (.Expr v p)) : M a :=
  vw_el h fun q h => @Stmt.Expr.elim (fun a => ∀ q : a.ctorIdx = 24, @Stmt.Expr.elim (fun _ => Bool) a q f = true → M a) a q (fun v p _ h => k v p h) q h
section
variable {α : Type}
noncomputable def aOne (l : List α) (f : α → Bool) : Bool := match l with | [x] => f x | _ => false
noncomputable def aTwo (l : List α) (f : α → α → Bool) : Bool := match l with | [x, y] => f x y | _ => false
@[elab_as_elim] theorem aOne_el {M : List α → Prop} {f : α → Bool} : ∀ {l : List α}, aOne l f = true → (∀ x, f x = true → M [x]) → M l
  | [_], h, k => k _ h
  | [], h, _ | _ :: _ :: _, h, _ => ff h
@[elab_as_elim] theorem aTwo_el {M : List α → Prop} {f : α → α → Bool} : ∀ {l : List α}, aTwo l f = true → (∀ x y, f x y = true → M [x, y]) → M l
  | [_, _], h, k => k _ _ h
  | [], h, _ | [_], h, _ | _ :: _ :: _ :: _, h, _ => ff h
@[elab_as_elim] theorem nil_el {M : List α → Prop} : ∀ {l : List α}, l.isEmpty = true → M [] → M l
  | [], _, k => k
@[elab_as_elim] theorem none_el {M : Option α → Prop} : ∀ {o : Option α}, o.isNone = true → M none → M o
  | none, _, k => k
@[elab_as_elim] theorem any_el {M : Option α → Prop} {f : α → Bool} : ∀ {o : Option α}, o.any f = true → (∀ x, f x = true → M (some x)) → M o
  | some _, h, k => k _ h
end
noncomputable def aC (a : Expr) (f : Str → List Expr → Bool) : Bool := aCall a fun g l k _ => k.isEmpty && aName g fun x _ => f x l
noncomputable def aC1 (a : Expr) (f : Str → Expr → Bool) : Bool := aC a fun x l => aOne l (f x)
noncomputable def aC2 (a : Expr) (f : Str → Expr → Expr → Bool) : Bool := aC a fun x l => aTwo l (f x)
@[elab_as_elim] theorem aC_el {M : Expr → Prop} {a : Expr} {f : Str → List Expr → Bool} (h : aC a f = true) (k : ∀ x p l pos, f x l = true → M (.Call (.Name x p) l [] pos)) : M a :=
  aCall_el h fun g l kw pos h => nil_el (M := fun kw => M (.Call g l kw pos)) (b1 h) (aName_el (M := fun g => M (.Call g l [] pos)) (b2 h) fun x p h => k x p l pos h)
@[elab_as_elim] theorem aC1_el {M : Expr → Prop} {a : Expr} {f : Str → Expr → Bool} (h : aC1 a f = true) (k : ∀ x p y pos, f x y = true → M (.Call (.Name x p) [y] [] pos)) : M a :=
  aC_el h fun x p l pos h => aOne_el (M := fun l => M (.Call (.Name x p) l [] pos)) h fun y h => k x p y pos h
@[elab_as_elim] theorem aC2_el {M : Expr → Prop} {a : Expr} {f : Str → Expr → Expr → Bool} (h : aC2 a f = true) (k : ∀ x p y z pos, f x y z = true → M (.Call (.Name x p) [y, z] [] pos)) : M a :=
  aC_el h fun x p l pos h => aTwo_el (M := fun l => M (.Call (.Name x p) l [] pos)) h fun y z h => k x p y z pos h
noncomputable def aM (a : Expr) (f : Expr → Str → List Expr → Bool) : Bool := aCall a fun g l k p => k.isEmpty && aAttribute g fun b x ap => (ap.endLine == p.line) && f b x l
@[elab_as_elim] theorem aM_el {M : Expr → Prop} {a : Expr} {f : Expr → Str → List Expr → Bool} (h : aM a f = true) (k : ∀ b x ap l pos, (ap.endLine == pos.line) = true → f b x l = true → M (.Call (.Attribute b x ap) l [] pos)) : M a :=
  aCall_el h fun g l kw pos h => nil_el (M := fun kw => M (.Call g l kw pos)) (b1 h) (aAttribute_el (M := fun g => M (.Call g l [] pos)) (b2 h) fun b x ap h => k b x ap l pos (b1 h) (b2 h))
noncomputable def valM (v : V) (c : Const) : Bool := match v with
  | .none => decide (c = .none)
  | .bool b => decide (c = .bool b)
  | .int i => decide (c = .int i)
  | .str s => (match c with | .str x => nmOk s x | _ => false)
  | _ => false
noncomputable def aM1 (a : Expr) : Bool := aUnaryOp a fun o x _ => decide (o = .USub) && aConstant x fun c _ _ => decide (c = .int 1)
@[elab_as_elim] theorem aM1_el {M : Expr → Prop} {a : Expr} (h : aM1 a = true) (k : ∀ n p p', M (.UnaryOp .USub (.Constant (.int 1) n p) p')) : M a :=
  aUnaryOp_el h fun o x p' h => dec_el (M := fun o => M (.UnaryOp o x p')) (b1 h) (aConstant_el (M := fun x => M (.UnaryOp .USub x p')) (b2 h) fun c n p h => dec_el (M := fun c => M (.UnaryOp .USub (.Constant c n p) p')) h (k n p p'))
noncomputable def aKey (l : List Keyword) (f : Expr → Str → Bool) : Bool := aTwo l fun q r => decide (q.arg = some "key") && (decide (r.arg = some "reverse") && (aAttribute q.value fun b x _ => aConstant r.value fun c _ _ => decide (c = .bool true) && f b x))
@[elab_as_elim] theorem aKey_el {M : List Keyword → Prop} {l : List Keyword} {f : Expr → Str → Bool} (h : aKey l f = true) (k : ∀ b x pa k1 k0 pc k2, f b x = true → M [⟨some "key", .Attribute b x pa, k1⟩, ⟨some "reverse", .Constant (.bool true) k0 pc, k2⟩]) : M l :=
  aTwo_el h fun ⟨qa, qv, qp⟩ ⟨ra, rv, rp⟩ h => and3 h fun h1 h2 h3 => dec_el (M := fun qa => M [⟨qa, qv, qp⟩, ⟨ra, rv, rp⟩]) h1 (dec_el (M := fun ra => M [⟨_, qv, qp⟩, ⟨ra, rv, rp⟩]) h2
    (aAttribute_el (M := fun qv => M [⟨_, qv, qp⟩, ⟨_, rv, rp⟩]) h3 fun b x pa h => aConstant_el (M := fun rv => M [⟨_, .Attribute b x pa, qp⟩, ⟨_, rv, rp⟩]) h fun c k0 pc h =>
      dec_el (M := fun c => M [⟨_, .Attribute b x pa, qp⟩, ⟨_, .Constant c k0 pc, rp⟩]) (b1 h) (k b x pa qp k0 pc rp (b2 h))))
noncomputable def aGen (l : List Comprehension) (f : Str → Expr → List Expr → Bool) : Bool := aOne l fun c => decide (c.is_async = 0) && aName c.target fun x _ => f x c.iter c.ifs
@[elab_as_elim] theorem aGen_el {M : List Comprehension → Prop} {l : List Comprehension} {f : Str → Expr → List Expr → Bool} (h : aGen l f = true) (k : ∀ x p i fs, f x i fs = true → M [⟨.Name x p, i, fs, 0⟩]) : M l :=
  aOne_el h fun ⟨t, i, fs, n⟩ h => dec_el (M := fun n => M [⟨t, i, fs, n⟩]) (b1 h) (aName_el (M := fun t => M [⟨t, i, fs, 0⟩]) (b2 h) fun x p h => k x p i fs h)
noncomputable def scOk (ns : Nk) (sc : Scope) (x : Nat) (id : Str) : Bool := compOk ns sc.names x id && (decide (sc.kind = .function) && (!sc.isGenerator && !sc.isCoroutine))
noncomputable def notBare (a : Expr) : Bool := !(aCall a fun g l k _ => isName g && (l.isEmpty && k.isEmpty))
mutual
noncomputable def mE (ns : Nk) (e : Ex) (a : Expr) : Bool := match e with
  | .bad => true
  | .var x => aName a fun id _ => nmOk x id && (kindV ns id && nodbg id)
  | .val v => aConstant a fun c _ _ => valM v c
  | .dct => aDict a fun k v _ => k.isEmpty && v.isEmpty
  | .attr e f => aAttribute a fun b x _ => notBare b && (nmOk f x && mE ns e b)
  | .bin op x y => aBinOp a fun l o r _ => decide (o = opOf op) && (mE ns x l && mE ns y r)
  | .neg x => aUnaryOp a fun o y _ => decide (o = .USub) && mE ns x y
  | .not x => aUnaryOp a fun o y _ => decide (o = .Not) && mE ns x y
  | .cmp op x y => aCompare a fun l os rs _ => aOne os fun o => aOne rs fun r => decide (o = copOf op) && (!behindInMarks (copOf op) r && (mE ns x l && mE ns y r))
  | .cmp3 o1 o2 x y z => aCompare a fun l os rs _ => aTwo os fun p1 p2 => aTwo rs fun r1 r2 => decide (p1 = copOf o1) && (decide (p2 = copOf o2) && (!behindInMarks (copOf o2) r2 && (mE ns x l && (mE ns y r1 && mE ns z r2))))
  | .band es => aBoolOp a fun o l _ => decide (o = .And) && (mEs ns es l && !l.isEmpty)
  | .bor es => aBoolOp a fun o l _ => decide (o = .Or) && (mEs ns es l && !l.isEmpty)
  | .ite c x y => aIfExp a fun t u v _ => mE ns c t && (mE ns x u && mE ns y v)
  | .tup es => aTuple a fun l _ _ => decide (l.length ≤ 64) && mEs ns es l
  | .lst es => aList a fun l _ => decide (l.length ≤ 64) && mEs ns es l
  | .idx e i => aSubscript a fun x y _ => plainA y && (mE ns e x && mE ns i y)
  | .upto e k => aSubscript a fun x y _ => aSlice y fun l u s _ => l.isNone && (s.isNone && (u.any fun u => mE ns e x && mE ns k u))
  | .rev e => aSubscript a fun x y _ => aSlice y fun l u s _ => l.isNone && (u.isNone && (mE ns e x && s.any aM1))
  | .call f es => aC a fun id l => gl ns id (fnm f) && (!methIds.contains f && mEs ns es l)
  | .new c es => aC a fun id l => gl ns id (cnm c) && mEs ns es l
  | .meth o n es => aM a fun b x l => notBare b && (nmOk n x && (decide (l.length < 20) && (mE ns o b && mEs ns es l)))
  | .lapp o e => aM a fun b x l => aOne l fun y => notBare b && (x == "append" && (plainA y && (mE ns o b && mE ns e y)))
  | .lpop o => aM a fun b x l => l.isEmpty && (notBare b && (x == "pop" && mE ns o b))
  | .lext o e => aM a fun b x l => aOne l fun y => notBare b && (x == "extend" && (plainA y && (mE ns o b && mE ns e y)))
  | .nidx e => aM a fun b x l => aName b fun id _ => aOne l fun y => gl ns id "NAMES" && (x == "index" && (plainA y && mE ns e y))
  | .len e => aC1 a fun id y => gl ns id "len" && (plainA y && mE ns e y)
  | .abs e => aC1 a fun id y => gl ns id "abs" && (plainA y && mE ns e y)
  | .min2 x y => aC2 a fun id u v => gl ns id "min" && (plainA u && (plainA v && (mE ns x u && mE ns y v)))
  | .max2 x y => aC2 a fun id u v => gl ns id "max" && (plainA u && (plainA v && (mE ns x u && mE ns y v)))
  | .minL e => aC1 a fun id y => gl ns id "min" && (plainA y && mE ns e y)
  | .maxL e => aC1 a fun id y => gl ns id "max" && (plainA y && mE ns e y)
  | .isi t e => aC2 a fun id u v => aName v fun tn _ => gl ns id "isinstance" && (plainA u && (tn == tyN t && (kindG ns tn && mE ns e u)))
  | .srt e o n => aCall a fun g l k _ => aName g fun id _ => aOne l fun y => aKey k fun b x => gl ns id "sorted" && (plainA y && (notBare b && (nmOk n x && (!(copiedNames.contains x) && (mE ns e y && mE ns o b)))))
  | .comp e x it => aListComp a fun q g sc _ => aGen g fun id i fs => fs.isEmpty && (scOk ns sc x id && (mI ns it i && mE (cnOf ns sc.names) e q))
  | .compc e x it c => aListComp a fun q g sc _ => aGen g fun id i fs => aOne fs fun cnd => scOk ns sc x id && (mI ns it i && (mE (cnOf ns sc.names) e q && mE (cnOf ns sc.names) c cnd))
noncomputable def mEs (ns : Nk) (es : Exs) (l : List Expr) : Bool := match es with
  | .nil => l.isEmpty
  | .cons e es => (match l with
    | a :: l => plainA a && (mE ns e a && mEs ns es l)
    | [] => false)
noncomputable def mI (ns : Nk) (i : It) (a : Expr) : Bool := match i with
  | .seq e => plainA a && (notSet a && mE ns e a)
  | .rng1 e => aC1 a fun id y => gl ns id "range" && (plainA y && mE ns e y)
  | .rng2 x y => aC2 a fun id u v => gl ns id "range" && (plainA u && (plainA v && (mE ns x u && mE ns y v)))
end
noncomputable def asgOk (a : Expr) : Bool := !isA 9 a && !isA 10 a
noncomputable def notComp (a : Expr) : Bool := !isA 8 a && asgOk a
noncomputable def asgTok (a : Expr) : Bool := !isA 25 a || aTuple a fun vs _ _ => vs.all (foldedForSure 8) || !(vs.all (constantsAlone 8))
noncomputable def mT (ns : Nk) : List Nat → List Expr → Bool
  | [], l => l.isEmpty
  | x :: xs, l => (match l with
    | t :: ts => (aName t fun id _ => nmOk x id && kindL ns id) && mT ns xs ts
    | [] => false)
noncomputable def expOk (a : Expr) : Bool := isA 16 a
noncomputable def sA1 (a : Stmt) (f : Expr → Expr → Bool) : Bool := sAssign a fun t v _ => aOne t fun t => f t v
@[elab_as_elim] theorem sA1_el {M : Stmt → Prop} {a : Stmt} {f : Expr → Expr → Bool} (h : sA1 a f = true) (k : ∀ t v p, f t v = true → M (.Assign [t] v p)) : M a :=
  sAssign_el h fun l v p h => aOne_el (M := fun l => M (.Assign l v p)) h fun t h => k t v p h
mutual
noncomputable def mS (ns : Nk) (s : S) (a : Stmt) : Bool := match s with
  | .bad => true
  | .asg x e => sA1 a fun t v => aName t fun id _ => nmOk x id && (kindL ns id && (plainA v && (asgOk v && mE ns e v)))
  | .asgT xs e => sA1 a fun t v => aTuple t fun ts _ _ => mT ns xs ts && (plainA v && (notComp v && (asgTok v && mE ns e v)))
  | .asgA o f e => sA1 a fun t v => aAttribute t fun b x _ => nmOk f x && (attrIds.contains f && (plainA v && (notComp v && (mE ns o b && mE ns e v))))
  | .asgI o i e => sA1 a fun t v => aSubscript t fun b j _ => plainA v && (plainA j && (notComp v && (mE ns o b && (mE ns i j && mE ns e v))))
  | .ret e => sReturn a fun q _ => q.any fun v => plainA v && mE ns e v
  | .ret0 => sReturn a fun q _ => q.isNone
  | .ite c x y => sIf a fun t u v _ => mE ns c t && (mSs ns x u && mSs ns y v)
  | .whl c b => sWhile a fun t x y _ => y.isEmpty && (mE ns c t && mSs ns b x)
  | .for1 x it b => sFor a fun t i u y _ => y.isEmpty && aName t fun id _ => nmOk x id && (kindL ns id && (mI ns it i && mSs ns b u))
  | .forT xs it b => sFor a fun t i u y _ => y.isEmpty && aTuple t fun ts _ _ => mT ns xs ts && (mI ns it i && mSs ns b u)
  | .exp e => sExpr a fun v _ => plainA v && (expOk v && mE ns e v)
noncomputable def mSs (ns : Nk) (ss : Ss) (l : List Stmt) : Bool := match ss with
  | .nil => l.isEmpty
  | .cons s ss => (match l with
    | a :: l => mS ns s a && mSs ns ss l
    | [] => false)
end
structure Room (d : Nat) (A : Around) : Prop where
  hd : A.handled = none
  dp : A.depth + 8 * d + 16 < recursionLimit
  un : A.units + 64 * d + 256 ≤ cLine
structure RoomC (d : Nat) (A : Around) : Prop where
  hd : A.handled = none
  dp : A.depth + 8 * d + 12 < recursionLimit
  un : A.units + 64 * d + 200 ≤ cLine
theorem Room.c {d : Nat} {A : Around} (h : Room d A) : RoomC d A := ⟨h.hd, by have := h.dp; omega, by have := h.un; omega⟩
section
variable (prog : Program) (w : World) (B : Heap)
noncomputable def EvOk (d : Nat) (env : Env) (a : Expr) (m : Lo) (st : St) (v : V) (st' : St) : Prop :=
  ∀ (A : Around) (ρ : List (Addr × Addr)) (s : Shared) (Q E : Value → Shared → Prop), Room d A → Cx B ρ st env m s.heap →
    (∀ ρ' x h' tk', Cx B ρ' st' env m h' → Nx ρ (Fm env) s.heap ρ' h' → VR B h' ρ' v x → Q x { s with heap := h', toks := tk' }) →
    wpAny (model prog w) A (eval a env) Q E s
noncomputable def EvsOk (d : Nat) (env : Env) (as : List Expr) (m : Lo) (st : St) (vs : List V) (st' : St) : Prop :=
  ∀ (A : Around) (ρ : List (Addr × Addr)) (s : Shared) (pos : Pos) (Q : List Value → Shared → Prop) (E : Value → Shared → Prop), Room d A → Cx B ρ st env m s.heap →
    (∀ ρ' xs h' tk', Cx B ρ' st' env m h' → Nx ρ (Fm env) s.heap ρ' h' → VRs B h' ρ' vs xs → Q xs { s with heap := h', toks := tk' }) →
    wpAny (model prog w) A (spliced (backTo pos (starEach as env))) Q E s
noncomputable def TrOk (d : Nat) (env : Env) (a : Expr) (m : Lo) (st : St) (b : Bool) (st' : St) : Prop :=
  ∀ (A : Around) (ρ : List (Addr × Addr)) (s : Shared) (Q : Bool → Shared → Prop) (E : Value → Shared → Prop), Room d A → Cx B ρ st env m s.heap →
    (∀ ρ' h' tk', Cx B ρ' st' env m h' → Nx ρ (Fm env) s.heap ρ' h' → Q b { s with heap := h', toks := tk' }) →
    wpAny (model prog w) A (isTrue a env (eval a env)) Q E s
noncomputable def CallOk (d : Nat) (f : Addr) (args : List V) (st : St) (v : V) (st' : St) : Prop :=
  ∀ (A : Around) (ρ : List (Addr × Addr)) (s : Shared) (xs : List Value) (R : Result → Shared → Prop), RoomC d A → Rel B ρ st s.heap → VRs B s.heap ρ args xs →
    (∀ ρ' x h' tk', Rel B ρ' st' h' → Nx ρ (fun _ => False) s.heap ρ' h' → VR B h' ρ' v x → R (.ok (.ret x)) { s with heap := h', toks := tk' }) →
    codeAny (model prog w) A (.call (.ref f) ⟨xs, []⟩) R s
noncomputable def FlOf : Option V → Value → Flow → Prop
  | .none, _, f => f = .next
  | some _, x, f => f = .ret x
noncomputable def ExOk (d : Nat) (env : Env) (as : List Stmt) (m : Lo) (st : St) (r : Option V) (m' : Lo) (st' : St) : Prop :=
  ∀ (A : Around) (ρ : List (Addr × Addr)) (s : Shared) (Q : Flow → Shared → Prop) (E : Value → Shared → Prop), Room d A → Cx B ρ st env m s.heap →
    (∀ ρ' f h' tk', Cx B ρ' st' env m' h' → Nx ρ (Fm env) s.heap ρ' h' →
      (match r with | .none => f = .next | some v => ∃ x, f = .ret x ∧ VR B h' ρ' v x) → Q f { s with heap := h', toks := tk' }) →
    wpAny (model prog w) A (execs as env) Q E s
end
theorem Cx.toks {B : Heap} {ρ : List (Addr × Addr)} {st : St} {env : Env} {m : Lo} {h : Heap} (X : Cx B ρ st env m h) : Cx B ρ st env m h := X
section
variable {prog : Program} {w : World} {B : Heap} {d : Nat} {env : Env} {m : Lo} {st st1 st2 st' : St}
theorem ok_var {x : Nat} {v : V} {pos : Pos} (e : look x m = some v) (hx : x < nmN) (hk : kindV env.scope.names (nmS x) = true) (hm : nodbg (nmS x) = true) : EvOk prog w B d env (.Name (nmS x) pos) m st v st := fun A ρ s Q E hR X k =>
  have fin : ∀ z, VR B s.heap ρ v z → Q z s := fun z hz => k ρ z s.heap s.toks X Nx.refl hz
  wpAny_Name (kindV_el hk (fun hl => let ⟨mm, hn, hv⟩ := X.fr.ns; let ⟨z, h1, h2⟩ := hv x v hx e hl; wpAny_loadName_local X.fr.kind hl hn h1 (fin z h2))
    (fun hl => let ⟨c, o, z, h1, h2, h3, h4⟩ := X.fr.cel x v hx e (.inl hl); wpAny_loadName_cell X.fr.kind hl h1 ⟨o, h2, h3⟩ (fin z h4))
    (fun hl => let ⟨c, o, z, h1, h2, h3, h4⟩ := X.fr.cel x v hx e (.inr hl); wpAny_loadName_free X.fr.kind hl h1 ⟨o, h2, h3⟩ (fin z h4) (no_ (b2 hm)))) (no_ (b1 hm))
theorem ok_none {k : Nat} {pos : Pos} : EvOk prog w B d env (.Constant .none k pos) m st .none st := fun _ ρ s _ _ _ X k => wpAny_Constant_none (k ρ _ s.heap s.toks X Nx.refl .none)
theorem ok_bool {b : Bool} {k : Nat} {pos : Pos} : EvOk prog w B d env (.Constant (.bool b) k pos) m st (.bool b) st := fun _ ρ s _ _ _ X k => wpAny_Constant_bool (k ρ _ s.heap s.toks X Nx.refl (.bool b))
theorem ok_int {i : Int} {k : Nat} {pos : Pos} : EvOk prog w B d env (.Constant (.int i) k pos) m st (.int i) st := fun _ ρ s _ _ _ X k => wpAny_Constant_int (k ρ _ s.heap (s.toks + 1) X Nx.refl (.int i _))
theorem ok_str {i : Nat} {k : Nat} {pos : Pos} (hx : i < nmN) : EvOk prog w B d env (.Constant (.str (nmS i)) k pos) m st (.str i) st := fun _ ρ s _ _ _ X k =>
  Constant_str (k ρ _ s.heap (s.toks + 1) X Nx.refl (.str i _ hx))
end
end Mine
end
section
open PySem PySem.W PySem.Calls PyProof.Rows
namespace Mine
section
variable {α β γ δ : Type} {Q : γ → Prop}
noncomputable def P1 (Q : γ → Prop) (x : Option γ) : Prop := ∀ y, x = some y → Q y
theorem P1.no : P1 Q none := fun _ e => nomatch e
theorem P1.of {y : γ} (q : Q y) : P1 Q (some y) := fun _ e => Option.some.inj e ▸ q
theorem P1.self {x : Option γ} : P1 (fun y => x = some y) x := fun _ e => e
theorem P1.ob {x : Option α} {k : α → Option γ} (hk : ∀ a, x = some a → P1 Q (k a)) : P1 Q (Mine.ob x k) := by
  cases x with
  | none => exact P1.no
  | some a => exact hk a rfl
theorem P1.obp {x : Option α} {k : α → Option γ} {R : α → Prop} (hx : P1 R x) (hk : ∀ a, R a → P1 Q (k a)) : P1 Q (Mine.ob x k) := P1.ob fun a e => hk a (hx a e)
theorem P1.bd {x : Option (α × β)} {k : α → β → Option γ} {R : α × β → Prop} (hx : P1 R x) (hk : ∀ a b, R (a, b) → P1 Q (k a b)) : P1 Q (Mine.bd x k) := by
  cases x with
  | none => exact P1.no
  | some p => exact hk p.1 p.2 (hx p rfl)
theorem P1.b3 {x : Option (α × β × δ)} {k : α → β → δ → Option γ} {R : α × β × δ → Prop} (hx : P1 R x) (hk : ∀ a b c, R (a, b, c) → P1 Q (k a b c)) : P1 Q (Mine.b3 x k) := by
  cases x with
  | none => exact P1.no
  | some p => exact hk p.1 p.2.1 p.2.2 (hx p rfl)
theorem P1.orO {x : Option α} {f : α → Option γ} {g : Option γ} (h1 : ∀ a, x = some a → P1 Q (f a)) (h2 : x = none → P1 Q g) : P1 Q (Mine.orO x f g) := by
  cases x with
  | none => exact h2 rfl
  | some a => exact h1 a rfl
theorem P1.onZ {x : Option α} {k : Option γ} (hk : x = none → P1 Q k) : P1 Q (Mine.onZ x k) := by
  cases x with
  | none => exact hk rfl
  | some a => exact P1.no
theorem P1.if {c : Prop} [Decidable c] {r : Option γ} (hk : c → P1 Q r) : P1 Q (if c then r else none) := by
  by_cases q : c
  · rw [if_pos q]; exact hk q
  · rw [if_neg q]; exact P1.no
theorem P1.cd {t : Bool} {a b : Option γ} (ha : t = true → P1 Q a) (hb : t = false → P1 Q b) : P1 Q (cond t a b) := by
  cases t with
  | true => exact ha rfl
  | false => exact hb rfl
theorem P1.onI {v : V} {k : Int → Option γ} (hk : ∀ i, v = .int i → P1 Q (k i)) : P1 Q (Mine.onI v k) := by cases v <;> first | exact hk _ rfl | exact P1.no
theorem P1.onB {v : V} {k : Bool → Option γ} (hk : ∀ i, v = .bool i → P1 Q (k i)) : P1 Q (Mine.onB v k) := by cases v <;> first | exact hk _ rfl | exact P1.no
theorem P1.onS {v : V} {k : Nat → Option γ} (hk : ∀ i, v = .str i → P1 Q (k i)) : P1 Q (Mine.onS v k) := by cases v <;> first | exact hk _ rfl | exact P1.no
theorem P1.onR {v : V} {k : Nat → Option γ} (hk : ∀ i, v = .ref i → P1 Q (k i)) : P1 Q (Mine.onR v k) := by cases v <;> first | exact hk _ rfl | exact P1.no
theorem P1.onT {v : V} {k : List V → Option γ} (hk : ∀ i, v = .tup i → P1 Q (k i)) : P1 Q (Mine.onT v k) := by cases v <;> first | exact hk _ rfl | exact P1.no
theorem P1.onN {v : V} {k : Option γ} (hk : v = .none → P1 Q k) : P1 Q (Mine.onN v k) := by cases v <;> first | exact hk rfl | exact P1.no
theorem P1.atL {st : St} {a : Nat} {k : List V → Option γ} (hk : ∀ vs, st[a]? = some (.list vs) → P1 Q (k vs)) : P1 Q (Mine.atL st a k) := P1.ob fun o e => by
  cases o with
  | list vs => exact hk vs e
  | _ => exact P1.no
theorem P1.atI {st : St} {a : Nat} {k : Nat → List (Nat × V) → Option γ} (hk : ∀ c fs, st[a]? = some (.inst c fs) → P1 Q (k c fs)) : P1 Q (Mine.atI st a k) := P1.ob fun o e => by
  cases o with
  | inst c fs => exact hk c fs e
  | _ => exact P1.no
end
section
variable {B h : Heap} {ρ : List (Addr × Addr)} {x : Value} {M : Value → Prop}
@[elab_as_elim] theorem VR.elI {i : Int} (R : VR B h ρ (.int i) x) (k : ∀ t, M (.int i t)) : M x := by cases R; exact k _
@[elab_as_elim] theorem VR.elB {b : Bool} (R : VR B h ρ (.bool b) x) (k : M (.bool b)) : M x := by cases R; exact k
@[elab_as_elim] theorem VR.elN (R : VR B h ρ .none x) (k : M .none) : M x := by cases R; exact k
@[elab_as_elim] theorem VR.elS {i : Nat} (R : VR B h ρ (.str i) x) (k : ∀ t, i < nmN → M (.str (nmS i) t)) : M x := by cases R with | str _ t q => exact k t q
@[elab_as_elim] theorem VR.elR {a : Nat} (R : VR B h ρ (.ref a) x) (k : ∀ p, ρ[a]? = some p → M (.ref p.1)) : M x := by cases R with | ref q => exact k _ q
@[elab_as_elim] theorem VR.elT {vs : List V} (R : VR B h ρ (.tup vs) x) (k : ∀ y ws, IsTup h y ws.toArray → VRs B h ρ vs ws → M (.ref y)) : M x := by cases R with | tup t r => exact k _ _ t r
@[elab_as_elim] theorem VR.elL {vs : List V} (R : VR B h ρ (.slist vs) x) (k : ∀ y ws, B.IsList y ws.toArray → VRs B h ρ vs ws → M (.ref y)) : M x := by cases R with | slist t r => exact k _ _ t r
@[elab_as_elim] theorem VRs.elC {v : V} {vs : List V} {ws : List Value} {M : List Value → Prop} (R : VRs B h ρ (v :: vs) ws) (k : ∀ w ws, VR B h ρ v w → VRs B h ρ vs ws → M (w :: ws)) : M ws := by cases R with | cons a b => exact k _ _ a b
@[elab_as_elim] theorem VRs.elN {ws : List Value} {M : List Value → Prop} (R : VRs B h ρ [] ws) (k : M []) : M ws := by cases R; exact k
section
variable {v : V}
@[elab_as_elim] theorem VR.toI {i : Int} (R : VR B h ρ v x) (e : v = .int i) (k : ∀ t, M (.int i t)) : M x := (e ▸ R : VR B h ρ (.int i) x).elI k
@[elab_as_elim] theorem VR.toB {b : Bool} (R : VR B h ρ v x) (e : v = .bool b) (k : M (.bool b)) : M x := (e ▸ R : VR B h ρ (.bool b) x).elB k
@[elab_as_elim] theorem VR.toN (R : VR B h ρ v x) (e : v = .none) (k : M .none) : M x := (e ▸ R : VR B h ρ .none x).elN k
@[elab_as_elim] theorem VR.toS {i : Nat} (R : VR B h ρ v x) (e : v = .str i) (k : ∀ t, i < nmN → M (.str (nmS i) t)) : M x := (e ▸ R : VR B h ρ (.str i) x).elS k
@[elab_as_elim] theorem VR.toR {a : Nat} (R : VR B h ρ v x) (e : v = .ref a) (k : ∀ p, ρ[a]? = some p → M (.ref p.1)) : M x := (e ▸ R : VR B h ρ (.ref a) x).elR k
@[elab_as_elim] theorem VR.toT {vs : List V} (R : VR B h ρ v x) (e : v = .tup vs) (k : ∀ y ws, IsTup h y ws.toArray → VRs B h ρ vs ws → M (.ref y)) : M x := (e ▸ R : VR B h ρ (.tup vs) x).elT k
end
end
noncomputable def toPyA : V → PyData
    | .bool b => .bool b
    | .int i => .int i
    | .str s => .str (nmS s)
    | _ => .none
noncomputable def toPy : V → PyData
  | .tup vs => .tuple (vs.map toPyA)
  | v => toPyA v
theorem strOk_nm {s : Nat} (h : s < nmN) : PyData.strOk (nmS s) = true := by
  have all : ∀ k, k < 80 → PyData.strOk (nmS k) = true := by decide +kernel
  exact all s h
section
variable {B h : Heap} {ρ : List (Addr × Addr)}
theorem atom_el {M : V → Prop} {v : V} (ha : v.atom = true) (kn : M .none) (kb : ∀ b, M (.bool b)) (ki : ∀ i, M (.int i)) (ks : ∀ s, M (.str s)) : M v := by
  cases v <;> first | exact kn | exact kb _ | exact ki _ | exact ks _ | exact ff ha
theorem atom_reads {v : V} {x : Value} (ha : v.atom = true) : VR B h ρ v x → Reads h x (toPyA v) [] ∧ (toPyA v).canLay0 = true ∧ (toPyA v).depth = 0 ∧ toPy v = toPyA v :=
  atom_el (M := fun v => VR B h ρ v x → Reads h x (toPyA v) [] ∧ (toPyA v).canLay0 = true ∧ (toPyA v).depth = 0 ∧ toPy v = toPyA v) ha
    (fun R => R.elN ⟨.none, rfl, rfl, rfl⟩) (fun b R => R.elB ⟨.bool b, rfl, rfl, rfl⟩) (fun i R => R.elI fun t => ⟨.int i t, rfl, rfl, rfl⟩) (fun s R => R.elS fun t q => ⟨.str _ t, strOk_nm q, rfl, rfl⟩)
theorem atoms_reads : ∀ {vs : List V} {xs : List Value}, vs.all V.atom = true → VRs B h ρ vs xs → ReadsAll h xs (vs.map toPyA) [] ∧ PyData.canLayAll0 (vs.map toPyA) = true ∧ PyData.depthAll (vs.map toPyA) = 0
  | [], _, _, R => R.elN ⟨.nil, rfl, rfl⟩
  | v :: vs, xs, ha, R => R.elC (M := fun xs => ReadsAll h xs ((v :: vs).map toPyA) [] ∧ PyData.canLayAll0 ((v :: vs).map toPyA) = true ∧ PyData.depthAll ((v :: vs).map toPyA) = 0) fun w ws R Rs =>
    have A := atom_reads (b1 ha) R
    have C := atoms_reads (b2 ha) Rs
    ⟨.cons (as := []) (bs := []) A.1 C.1, Bool.and_eq_true_iff.mpr ⟨A.2.1, C.2.1⟩, show max _ _ = 0 by rw [A.2.2.1, C.2.2]; rfl⟩
theorem flat_el {M : V → Prop} {v : V} (ha : v.flat = true) (ka : ∀ v, v.atom = true → M v) (kt : ∀ vs, vs.all V.atom = true → M (.tup vs)) : M v := by
  cases v <;> first | exact kt _ ha | exact ka _ ha
theorem flat_reads {v : V} {x : Value} (ha : v.flat = true) : VR B h ρ v x → Reads h x (toPy v) [] ∧ SeqAt.shaped (toPy v) = true :=
  flat_el (M := fun v => VR B h ρ v x → Reads h x (toPy v) [] ∧ SeqAt.shaped (toPy v) = true) ha
    (fun v ha R => have A := atom_reads ha R
      ⟨A.2.2.2 ▸ A.1, Bool.and_eq_true_iff.mpr ⟨A.2.2.2 ▸ A.2.1, decide_eq_true (by rw [A.2.2.2, A.2.2.1]; exact Nat.zero_le _)⟩⟩)
    fun vs ha R => R.elT fun y ws t Rs => by
      obtain ⟨o, ho, hc, n, hd⟩ := t
      have A := atoms_reads ha Rs
      exact ⟨.tuple ho hc hd A.1, Bool.and_eq_true_iff.mpr ⟨A.2.1, decide_eq_true (show _ + 1 ≤ 64 by rw [A.2.2]; decide)⟩⟩
theorem atomEq_py {a b : V} (ha : a.atom = true) (hb : b.atom = true) (wa : ∀ s, a = .str s → s < nmN) (wb : ∀ s, b = .str s → s < nmN) : PyData.eqv (toPyA a) (toPyA b) = atomEq a b := by
  cases a <;> first | exact ff ha | skip
  case str s =>
    cases b <;> first | exact ff hb | rfl | skip
    rename_i s'
    show (nmS s == nmS s') = (s == s')
    by_cases e : s = s'
    · rw [e, beq_self_eq_true, beq_self_eq_true]
    · rw [beq_eq_false_iff_ne.mpr e, beq_eq_false_iff_ne.mpr fun z => e (nmS_inj (wa s rfl) (wb s' rfl) z)]
  all_goals (cases b <;> first | exact ff hb | rfl)
theorem str_lt {v : V} {x : Value} (R : VR B h ρ v x) (s : Nat) (e : v = .str s) : s < nmN := (e ▸ R : VR B h ρ (.str s) x).elS (M := fun _ => s < nmN) fun _ q => q
theorem atomsEq_py : ∀ {as bs : List V} {xs ys : List Value}, as.all V.atom = true → bs.all V.atom = true → VRs B h ρ as xs → VRs B h ρ bs ys → PyData.eqvAll (as.map toPyA) (bs.map toPyA) = atomsEq as bs
  | [], [], _, _, _, _, _, _ => rfl
  | [], _ :: _, _, _, _, _, _, _ => rfl
  | _ :: _, [], _, _, _, _, _, _ => rfl
  | a :: as, b :: bs, xs, ys, ha, hb, R, R' => R.elC (M := fun _ => PyData.eqvAll ((a :: as).map toPyA) ((b :: bs).map toPyA) = atomsEq (a :: as) (b :: bs)) fun _ _ R Rs => R'.elC (M := fun _ => _) fun _ _ R' Rs' => by
    show (PyData.eqv (toPyA a) (toPyA b) && PyData.eqvAll (as.map toPyA) (bs.map toPyA)) = (atomEq a b && atomsEq as bs)
    rw [atomEq_py (b1 ha) (b1 hb) (str_lt R) (str_lt R'), atomsEq_py (b2 ha) (b2 hb) Rs Rs']
theorem eqA_py {a b : V} {x y : Value} (ha : a.flat = true) (hb : b.flat = true) (R : VR B h ρ a x) (R' : VR B h ρ b y) : PyData.eqv (toPy a) (toPy b) = eqA a b := by
  cases a <;> first | exact ff ha | skip
  case tup as =>
    cases b <;> first | exact ff hb | rfl | skip
    exact R.elT (M := fun _ => _) fun _ _ _ Rs => R'.elT (M := fun _ => _) fun _ _ _ Rs' => atomsEq_py ha hb Rs Rs'
  all_goals (cases b <;> first | exact ff hb | rfl | exact atomEq_py (by exact ha) (by exact hb) (str_lt R) (str_lt R'))
end
section
variable {prog : Program} {w : World} {B : Heap} {A : Around} {ρ : List (Addr × Addr)} {st : St} {s : Shared} {E Q : Value → Shared → Prop} {d : Nat}
theorem rel_lt {a : Nat} {p : Addr × Addr} {h : Heap} (X : Rel B ρ st h) (e : ρ[a]? = some p) : ∃ o, st[a]? = some o :=
  ⟨_, List.getElem?_eq_getElem (X.len ▸ (List.getElem?_eq_some_iff.mp e).1)⟩
theorem Rel.at1 {a : Nat} {p : Addr × Addr} {h : Heap} (X : Rel B ρ st h) (e : ρ[a]? = some p) : ∃ o, h.get? p.1 = some o ∧ o.cls ≠ .type "tuple" :=
  Exists.elim (X.foot_some ⟨a, p, e, .inl rfl⟩) fun o ho => ⟨o, ho, X.foot_not ⟨a, p, e, .inl rfl⟩ ho⟩
theorem isNone_ok {h : Heap} {v : V} {x : Value} (R : VR B h ρ v x) : plainIs .none x = true ∧ (Value.none == x) = isNoneV v ∧ plainIs x .none = true ∧ (x == Value.none) = isNoneV v := by
  cases R <;> exact ⟨rfl, rfl, rfl, rfl⟩
theorem isV_ok {a b : V} {x y : Value} {R : Bool → Shared → Prop} (X : Rel B ρ st s.heap) (Ra : VR B s.heap ρ a x) (Rb : VR B s.heap ρ b y) :
    P1 (fun r => R r s → wpAny (model prog w) A (isSame x y) R E s) (isV a b) := by
  have nl : ∀ {v : V}, VR B s.heap ρ v x → R (isNoneV v) s → wpAny (model prog w) A (isSame x .none) R E s := fun Rv q => wpAny_isSame_plain (isNone_ok Rv).2.2.1 ((isNone_ok Rv).2.2.2.symm ▸ q)
  cases a
  case none => exact P1.of (Ra.elN fun q => wpAny_isSame_plain (isNone_ok Rb).1 ((isNone_ok Rb).2.1.symm ▸ q))
  case ref i =>
    cases b
    case none => exact P1.of (Rb.elN (nl Ra))
    case ref j =>
      refine P1.of (Ra.elR fun p hp => Rb.elR fun r hr q => ?_)
      by_cases z : i = j
      · rw [z, hr] at hp; cases hp
        rw [decide_eq_true z] at q
        exact wpAny_isSame_ref_self q
      · rw [decide_eq_false z] at q
        obtain ⟨ox, h1, h2⟩ := X.at1 hp
        obtain ⟨oy, h3, _⟩ := X.at1 hr
        exact wpAny_isSame_ref_other (X.inj i j p r hp hr z).1 h1 h3 h2 q
    all_goals exact P1.no
  all_goals (cases b <;> first | exact P1.no | exact P1.of (Rb.elN (nl Ra)))
end
end Mine
end
section
open PySem PySem.W PySem.Calls PyProof.Rows
namespace Mine
section
variable {prog : Program} {w : World} {A : Around} {B : Heap} {ρ : List (Addr × Addr)}
theorem gt_loop {M : Model} {h0 : Heap} {E : Value → Shared → Prop} {s : Shared} {R : Option PySem.Fin × Unit → Shared → Prop} {body : (Value × Value) → (Option PySem.Fin × Unit) → Sem (ForInStep (Option PySem.Fin × Unit))}
    (hb : ∀ (a b : Int) (t u : Tok) (R' : ForInStep (Option PySem.Fin × Unit) → Shared → Prop),
      (a = b → R' (.yield (none, ())) s) → (a ≠ b → R' (.done (some (.done (.ret (.bool (decide (b < a))))), ())) s) → wpAny M A (body ((.int a t, .int b u)) (none, ())) R' E s) :
    ∀ {as bs : List V} {xs ys : List Value}, VRs B h0 ρ as xs → VRs B h0 ρ bs ys →
      P1 (fun r => (as.length = bs.length → r = false → R (none, ()) s) → R (some (.done (.ret (.bool r))), ()) s → wpAny M A (forIn (xs.zip ys) (none, ()) body) R E s) (ltVs bs as)
  | [], [], _, _, Ra, _ => P1.of (Ra.elN fun q _ => wpAny_pure (q rfl rfl))
  | [], _ :: _, _, _, _, _ => P1.no
  | _ :: _, [], _, _, _, _ => P1.no
  | a :: as, b :: bs, _, _, Ra, Rb => Ra.elC fun x xs A1 Ra => Rb.elC fun y ys B1 Rb => by
    show P1 _ (onI b fun j => onI a fun i => _)
    refine P1.onI fun j ej => P1.onI fun i ei => B1.toI ej fun u => A1.toI ei fun t => ?_
    have go : ∀ {r : Bool}, (i = j → (as.length = bs.length → r = false → R (none, ()) s) → R (some (.done (.ret (.bool r))), ()) s → wpAny M A (forIn (xs.zip ys) (none, ()) body) R E s) → (i ≠ j → r = decide (j < i)) →
        ((a :: as).length = (b :: bs).length → r = false → R (none, ()) s) → R (some (.done (.ret (.bool r))), ()) s → wpAny M A (forIn ((Value.int i t, Value.int j u) :: xs.zip ys) (none, ()) body) R E s := fun k1 k2 q1 q2 => by
      rw [List.forIn_cons]
      exact wpAny_bind (hb i j t u _ (fun e => k1 e (fun l => q1 (congrArg (· + 1) l)) q2) fun e => wpAny_pure (k2 e ▸ q2))
    by_cases q : j = i
    · rw [if_pos q]
      exact fun r e => go (fun _ => gt_loop hb Ra Rb r e) fun z => absurd q.symm z
    · rw [if_neg q]
      exact P1.if fun _ => P1.of (go (fun z => absurd z.symm q) fun _ => rfl)
theorem vrs_len {B h : Heap} {ρ : List (Addr × Addr)} : ∀ {vs : List V} {xs : List Value}, VRs B h ρ vs xs → xs.length = vs.length
  | [], _, R => R.elN rfl
  | _ :: _, _, R => R.elC fun _ _ _ R => congrArg (· + 1) (vrs_len R)
theorem tup_gt_ok {h0 : Heap} {E Q : Value → Shared → Prop} {as bs : List V} {x y : Addr} {s : Shared} {xs ys : List Value} (hx : IsTup s.heap x xs.toArray) (hy : IsTup s.heap y ys.toArray) (Ra : VRs B h0 ρ as xs) (Rb : VRs B h0 ρ bs ys)
    (hu : A.units < cLine) : P1 (fun r => Q (.bool r) s → wpAny (model prog w) A (compareOp .Gt (.ref x) (.ref y)) Q E s) (ltVs bs as) := by
  intro r e q
  show wpAny _ _ (richCompare .Gt (.ref x) (.ref y)) Q E s
  refine wpAny_richCompare_same_room (hu := hu) (op := .Gt) (T := "tuple") hx.typeIs hy.typeIs PySem.F.slot_tuple_gt (wpAny_call_entry PySem.F.slot_tuple_gt hx.typeIs PySem.F.entry_tuple_gt ?_ (PySem.F.args_tuple_gt_2 _ _))
  have L1 : Looks (model prog w) s.heap (isInstance (.ref y) (.type "tuple")) true := by
    obtain ⟨⟨c, d, da, sl⟩, h2, rfl, n2, rfl⟩ := hy
    unfold isInstance
    exact Looks.andThen (a := Value.type "tuple") ((Looks.ld (part := some headPart) h2).andThen .now) (Looks.of_pure (by rw [isSubtype_type]; kernel_rfl))
  have T : ∀ {z : Addr} {zs : List Value}, IsTup s.heap z zs.toArray → Looks (model prog w) s.heap (Builtin.Tuple.tupleItemsOf (.ref z)) zs.toArray := fun h A Q E s k q => by
    obtain ⟨o, h1, h2⟩ := h
    exact tupleItemsOf_ ⟨o, k _ _ h1, h2⟩ q
  have T1 := T hx
  have T2 := T hy
  obtain ⟨h, g, d, tk, os⟩ := s
  dsimp only at L1 T1 T2 q
  unfold Builtin.«tuple.__gt__»
  repeat lk
  show wpAny _ _ (forIn (xs.zip ys) (none, ()) (fun (p : Value × Value) (_ : Option PySem.Fin × Unit) => _)) _ _ _
  refine gt_loop ?_ Ra Rb r e (fun l hr => ?_) (wpAny_pure ⟨_, rfl, nofun, q⟩)
  · intro a b t u R' q1 q2
    refine wpAny_bind (wpAny_eqBool_int ?_)
    by_cases hab : a = b
    · rw [beq_iff_eq.mpr hab]
      exact wpAny_pure (q1 hab)
    · rw [beq_eq_false_iff_ne.mpr hab]
      refine wpAny_bind (wpAny_rule (wpAny_bind ?_))
      exact wpAny_mono (gt_int (Q := fun v s' => v = .bool (decide (b < a)) ∧ s' = _) (E := E) ⟨rfl, rfl⟩) (fun v s' hv => hv.1.symm ▸ hv.2.symm ▸ wpAny_bind (wpAny_pure (wpAny_pure (q2 hab)))) fun _ _ x => x
  · show wpAny _ _ (ret (Builtin.Tuple.tupleCompareSizes CmpOp.Gt xs.toArray.size ys.toArray.size)) _ _ _
    have hs : xs.toArray.size = ys.toArray.size := (vrs_len Ra).trans (l.trans (vrs_len Rb).symm)
    rw [hs, show Builtin.Tuple.tupleCompareSizes CmpOp.Gt ys.toArray.size ys.toArray.size = .bool false by simp [Builtin.Tuple.tupleCompareSizes], ← hr]
    exact wpAny_pure ⟨_, rfl, nofun, q⟩
variable {st : St} {s : Shared} {E Q : Value → Shared → Prop}
theorem eqV_ok {a b : V} {x y : Value} (Ra : VR B s.heap ρ a x) (Rb : VR B s.heap ρ b y) (hu : A.units + 64 < cLine) :
    P1 (fun r => (Q (.bool r) s → wpAny (model prog w) A (compareOp .Eq x y) Q E s) ∧ (Q (.bool !r) s → wpAny (model prog w) A (compareOp .NotEq x y) Q E s)) (eqV a b) := P1.if fun hf => P1.of <| by
  obtain ⟨r1, s1⟩ := flat_reads (b1 hf) Ra
  obtain ⟨r2, s2⟩ := flat_reads (b2 hf) Rb
  rw [← eqA_py (b1 hf) (b2 hf) Ra Rb]
  exact ⟨eq_dataH r1 r2 s1 s2 hu, ne_dataH r1 r2 s1 s2 hu⟩
theorem cmp_ok {op : Cop} {a b : V} {x y : Value} (X : Rel B ρ st s.heap) (Ra : VR B s.heap ρ a x) (Rb : VR B s.heap ρ b y)
    (hu : A.units + 64 < cLine) : P1 (fun r => Q (.bool r) s → wpAny (model prog w) A (compareOp (copOf op) x y) Q E s) (cmpV op a b) := match op with
  | .eq => fun r e => (eqV_ok Ra Rb hu r e).1
  | .ne => P1.obp (eqV_ok Ra Rb hu) fun r h => P1.of h.2
  | .is => fun r e q => wpAny_bind (isV_ok X Ra Rb r e (wpAny_pure q))
  | .isn => P1.obp (isV_ok X Ra Rb) fun r h => P1.of fun q => wpAny_bind (h (wpAny_pure q))
  | .lt => P1.onI fun i e => P1.onI fun j f => Ra.toI e fun t => Rb.toI f fun u => P1.of lt_int
  | .le => P1.onI fun i e => P1.onI fun j f => Ra.toI e fun t => Rb.toI f fun u => P1.of le_int
  | .ge => P1.onI fun i e => P1.onI fun j f => Ra.toI e fun t => Rb.toI f fun u => P1.of ge_int
  | .gt => match a, Ra with
    | .int i, Ra => Ra.elI fun t => P1.onI fun j f => Rb.toI f fun u => P1.of gt_int
    | .tup as, Ra => by
      refine Ra.elT fun _ _ t1 R1 => ?_
      show P1 _ (onT b fun bs => ltVs bs as)
      exact P1.onT fun _ f => Rb.toT f fun _ _ t2 R2 => tup_gt_ok t1 t2 R1 R2 (Nat.lt_of_le_of_lt (Nat.le_add_right _ _) hu)
    | .none, _ | .bool _, _ | .str _, _ | .ref _, _ | .slist _, _ => P1.no
end
end Mine
end
section
open PySem PySem.W PySem.Calls PyProof.Rows
namespace Mine
noncomputable def clsM (K : Frag) (c : Nat) (cl : Cl) : Bool :=
  (findIn K (.ref (ca c)) "__init__" == some (some (.ref (fa cl.init)))) && (isFn K (.ref (fa cl.init)) &&
    cl.meths.all fun p => (findIn K (.ref (ca c)) (nmS p.1) == some (some (.ref (fa p.2)))) && (isFn K (.ref (fa p.2)) && fnIn K (fa p.2)))
noncomputable def clsChk (K : Frag) (c : Nat) : Bool :=
  plainGet K (ca c) Str.empty && (hasDictIn K (ca c) && ((findIn K (.ref (ca c)) "__setattr__" == some (some (.builtin "object.__setattr__"))) && (plainOver K (ca c) && (makesIn K (ca c) &&
  ((nsIn K mainGlobals (cnm c) == some (some (.ref (ca c)))) && (keepIn K (.ref (ca c)) && ((clss[c]?).any (clsM K c) &&
  attrIds.all fun f => !gk c f || ((findIn K (.ref (ca c)) (nmS f) == some none) && (takerIn K (ca c) (nmS f) == some none)))))))))
noncomputable def onSt (b : FuncBody) (g : List Stmt → Bool) : Bool := match b with
  | .stmts b => g b
  | _ => false
theorem onSt_el {P : Prop} {g : List Stmt → Bool} {b : FuncBody} (h : onSt b g = true) (k : ∀ l, b = .stmts l → g l = true → P) : P := by
  rcases b
  · exact k _ rfl h
  · exact ff h
noncomputable def fdChk (K : Frag) (fd : FuncData) (F : Fn) : Bool :=
  onSt fd.body (mSs fd.scope.names F.body) && (fd.params.posonlyargs.isEmpty && ((fd.params.args.map (·.arg) == F.ps.map nmS) && (fd.params.vararg.isNone && (fd.params.kwonlyargs.isEmpty && (fd.params.kwarg.isNone &&
  ((fd.defaults == .none) && ((fd.globals == mainGlobals) && (fd.closure.isEmpty && ((fd.builtins == builtinsNs) && ((fd.scope.kind == .function) && (!fd.scope.isGenerator && (!fd.scope.isCoroutine && (codeIn K fd.code fd.qualname &&
  (F.ps.all (fun p => decide (p < nmN) && kindL fd.scope.names (nmS p)) && decide F.ps.Nodup))))))))))))))
noncomputable def onFn (o : Option Obj) (g : FuncData → Bool) : Bool := match o with
  | some ⟨_, _, .func fd, _⟩ => g fd
  | _ => false
noncomputable def fnChk (K : Frag) (f : Nat) (F : Fn) : Bool := onFn (K.lookup (fa f)) fun fd =>
  (specialIn K (.ref (fa f)) "__get__" == some (some (.builtin "function.__get__"))) && ((takesIn K (.ref (fa f)) == some false) && (keepIn K (.ref (fa f)) && fdChk K fd F))
theorem onFn_el {P : Prop} {g : FuncData → Bool} {o : Option Obj} (h : onFn o g = true) (k : ∀ c dd fd sl, o = some ⟨c, dd, .func fd, sl⟩ → g fd = true → P) : P := by
  cases o with
  | none => exact ff h
  | some o =>
    obtain ⟨c, dd, da, sl⟩ := o
    cases da <;> first | exact k _ _ _ _ rfl h | exact ff h
noncomputable def fnGChk (K : Frag) (f : Nat) : Bool := methIds.contains f || (nsIn K mainGlobals (fnm f) == some (some (.ref (fa f))))
noncomputable def bltNames : List String := ["len", "abs", "min", "max", "isinstance", "sorted", "range", "int", "bool", "tuple"]
noncomputable def bltChk (K : Frag) (x : String) : Bool := nsIn K mainGlobals (Str.ofString x) == some none
noncomputable def strOf (v : Value) : Option Str := match v with
  | .str s _ => some s
  | _ => none
theorem strOf_el {v : Value} {y : Str} (e : strOf v = some y) : ∃ t, v = .str y t := by
  rcases v <;> first | exact nn e | exact ⟨_, congrArg (fun z => Value.str z _) (Option.some.inj e)⟩
noncomputable def onTup (o : Option Obj) (f : List Value → Bool) : Bool := match o with
  | some ⟨c, none, .seq vs _, _⟩ => (match c with | .type x => x == "tuple" && f vs.toList | _ => false)
  | _ => false
theorem onTup_el {P : Prop} {f : List Value → Bool} {o : Option Obj} (h : onTup o f = true) (k : ∀ vs n sl, o = some ⟨.type "tuple", none, .seq vs n, sl⟩ → f vs.toList = true → P) : P := by
  rcases o with _ | ⟨c, dd, da, sl⟩
  · exact ff h
  rcases dd with _ | dd
  · rcases da <;> first | exact ff h | skip
    rcases c <;> first | exact ff h | skip
    exact k _ _ _ (congrArg (fun x => some (⟨.type x, none, _, _⟩ : Obj)) (eq_of_beq (b1 h))) (b2 h)
  · exact ff h
noncomputable def nmsL : List Str := [Str.ofString "category", Str.ofString "front-sticky", Str.ofString "rear-nonsticky", Str.ofString "evaporate", Str.ofString "priority"]
noncomputable def namesChk (K : Frag) : Bool := (nsIn K mainGlobals "NAMES" == some (some (.ref namesAt))) && onTup (K.lookup namesAt) fun vs => vs.map strOf == nmsL.map some
structure Stat (K : Frag) (P : Program) (loose : List Str) (mg mb : Str → Option Value) (B : Heap) : Prop where
  X : K.In B
  T : TopRead P loose mg mb B
  cls : ∀ c, c < 10 → clsChk K c = true
  fn : ∀ f F, fns[f]? = some F → fnChk K f F = true
  fnG : ∀ f, f < fns.length → fnGChk K f = true
  blt : ∀ x ∈ bltNames, bltChk K x = true
  names : namesChk K = true
structure ClsOk (K : Frag) (c : Nat) (cl : Cl) : Prop where
  plain : plainGet K (ca c) Str.empty = true
  dict : hasDictIn K (ca c) = true
  seta : findIn K (.ref (ca c)) "__setattr__" = some (some (.builtin "object.__setattr__"))
  over : plainOver K (ca c) = true
  makes : makesIn K (ca c) = true
  glob : nsIn K mainGlobals (cnm c) = some (some (.ref (ca c)))
  keep : keepIn K (.ref (ca c)) = true
  init : findIn K (.ref (ca c)) "__init__" = some (some (.ref (fa cl.init)))
  initF : isFn K (.ref (fa cl.init)) = true
  meth : ∀ n f, look n cl.meths = some f → findIn K (.ref (ca c)) (nmS n) = some (some (.ref (fa f))) ∧ isFn K (.ref (fa f)) = true ∧ fnIn K (fa f) = true
  attr : ∀ f, gk c f = true → findIn K (.ref (ca c)) (nmS f) = some none ∧ takerIn K (ca c) (nmS f) = some none
theorem look_in {α : Type} {x : Nat} {v : α} : ∀ {m : List (Nat × α)}, look x m = some v → (x, v) ∈ m
  | [], e => nn e
  | (y, w) :: m, e => by
    simp only [look] at e
    by_cases q : x = y
    · rw [if_pos q] at e; rw [q, Option.some.inj e]; exact .head _
    · rw [if_neg q] at e; exact .tail _ (look_in e)
section
variable {prog : Program} {w : World} {K : Frag} {P : Program} {loose : List Str} {mg mb : Str → Option Value} {B : Heap} {A : Around} {ρ : List (Addr × Addr)} {d : Nat} {env : Env} {m : Lo} {st st1 st2 st' : St}
theorem Stat.cl {c : Nat} {cl : Cl} (S : Stat K P loose mg mb B) (h : clss[c]? = some cl) : ClsOk K c cl :=
  have h1 := S.cls c (List.getElem?_eq_some_iff.mp h).1
  have h2 := b2 h1; have h3 := b2 h2; have h4 := b2 h3; have h5 := b2 h4; have h6 := b2 h5; have h7 := b2 h6; have h8 := b2 h7
  have m1 : clsM K c cl = true := (h ▸ b1 h8 : (some cl).any (clsM K c) = true)
  ⟨b1 h1, b1 h2, eq_of_beq (b1 h3), b1 h4, b1 h5, eq_of_beq (b1 h6), b1 h7, eq_of_beq (b1 m1), b1 (b2 m1),
    fun n f e => have z := List.all_eq_true.mp (b2 (b2 m1)) _ (look_in e); ⟨eq_of_beq (b1 z), b1 (b2 z), b2 (b2 z)⟩,
    fun f e => have z := List.all_eq_true.mp (b2 h8) f (List.contains_iff_mem.mp (b1 e)); or_el z (fun q => tf (e.symm.trans (no_ q))) fun q => ⟨eq_of_beq (b1 q), eq_of_beq (b2 q)⟩⟩
theorem Rel.inK {h : Heap} (S : Stat K P loose mg mb B) (X : Rel B ρ st h) : K.In h := S.X.keeps X.base
section
variable {h : Heap}
theorem OR.el {o : O} {p : Addr × Addr} {P : Prop} (W : OR B h ρ o p) : (∀ c fs es n, o = .inst c fs → h.get? p.1 = some (instObj (ca c) p.2) → h.get? p.2 = some (dictOf es n) → ER B h ρ fs es → (∀ f v, look f fs = some v → gk c f = true) → P) →
    (∀ vs ws n, o = .list vs → p.2 = p.1 → h.get? p.1 = some (seqObj "list" ws.toArray n) → VRs B h ρ vs ws → P) → (∀ fs f, o = .dict fs → p.2 = p.1 → h.IntMap p.1 f → h.DictLe p.1 fs.length → (∀ k v, lookI k fs = some v → ∃ w, f k = some w ∧ VR B h ρ v w) → P) → P := by
  induction W with
  | inst a b c d => exact fun k _ _ => k _ _ _ _ rfl a b c d
  | list a b => exact fun _ k _ => k _ _ _ rfl rfl a b
  | dict a b c => exact fun _ _ k => k _ _ rfl rfl a b c
theorem OR.elIn {c : Nat} {fs : List (Nat × V)} {p : Addr × Addr} {P : Prop} (W : OR B h ρ (.inst c fs) p) (k : ∀ es n, h.get? p.1 = some (instObj (ca c) p.2) → h.get? p.2 = some (dictOf es n) → ER B h ρ fs es → (∀ f v, look f fs = some v → gk c f = true) → P) : P :=
  W.el (fun c' fs' es n e a b => by obtain ⟨e1, e2⟩ := O.inst.inj e; subst e1; subst e2; exact k es n a b) (fun _ _ _ e => nomatch e) (fun _ _ e => nomatch e)
theorem OR.elLi {vs : List V} {p : Addr × Addr} {P : Prop} (W : OR B h ρ (.list vs) p) (k : ∀ ws n, p.2 = p.1 → h.get? p.1 = some (seqObj "list" ws.toArray n) → VRs B h ρ vs ws → P) : P :=
  W.el (fun _ _ _ _ e => nomatch e) (fun _ ws n e => O.list.inj e ▸ k ws n) (fun _ _ e => nomatch e)
theorem OR.elDi {fs : List (Int × V)} {p : Addr × Addr} {P : Prop} (W : OR B h ρ (.dict fs) p) (k : ∀ f, p.2 = p.1 → h.IntMap p.1 f → h.DictLe p.1 fs.length → (∀ k v, lookI k fs = some v → ∃ w, f k = some w ∧ VR B h ρ v w) → P) : P :=
  W.el (fun _ _ _ _ e => nomatch e) (fun _ _ _ e => nomatch e) (fun _ f e => O.dict.inj e ▸ k f)
@[elab_as_elim] theorem ER.elC {k : Nat} {v : V} {fs : List (Nat × V)} {es : List DictEntry} {M : List DictEntry → Prop} (R : ER B h ρ ((k, v) :: fs) es) (kk : ∀ hs t w es, k < nmN → VR B h ρ v w → ER B h ρ fs es → M (⟨hs, .str (nmS k) t, w⟩ :: es)) : M es := by
  cases R with | cons a b c => exact kk _ _ _ _ a b c
@[elab_as_elim] theorem ER.elN {es : List DictEntry} {M : List DictEntry → Prop} (R : ER B h ρ [] es) (k : M []) : M es := by cases R; exact k
end
theorem nm_beq {f k : Nat} (hf : f < nmN) (hk : k < nmN) : (nmS k == nmS f) = decide (f = k) := by
  by_cases q : f = k
  · rw [q, beq_self_eq_true, decide_eq_true rfl]
  · rw [decide_eq_false q, beq_eq_false_iff_ne]; exact fun z => q (nmS_inj hf hk z.symm)
theorem getL_c {f k : Nat} {hs : Int} {t : Tok} {x : Value} {es : List DictEntry} (hf : f < nmN) (hk : k < nmN) : getL (nmS f) (⟨hs, .str (nmS k) t, x⟩ :: es) = if f = k then some (some x) else getL (nmS f) es := by
  by_cases q : f = k
  · rw [if_pos q, q]; simp [getL, Value.isStr]
  · rw [if_neg q]; unfold getL; simp [Value.isStr, nm_beq hf hk, q, DictEntry.refKey]
theorem er_get {h : Heap} {f : Nat} (hf : f < nmN) : ∀ {fs : List (Nat × V)} {es : List DictEntry}, ER B h ρ fs es →
    match look f fs with | some v => ∃ x, getL (nmS f) es = some (some x) ∧ VR B h ρ v x | none => getL (nmS f) es = some none
  | [], _, R => R.elN rfl
  | (k, v) :: fs, _, R => R.elC fun hs t x es hk R Rs => by
    rw [getL_c hf hk]
    simp only [look]
    by_cases q : f = k
    · rw [if_pos q, if_pos q]; exact ⟨x, rfl, R⟩
    · rw [if_neg q, if_neg q]; exact er_get hf Rs
theorem er_some {h : Heap} {f : Nat} {v : V} {fs : List (Nat × V)} {es : List DictEntry} (hf : f < nmN) (R : ER B h ρ fs es) (e : look f fs = some v) : ∃ x, getL (nmS f) es = some (some x) ∧ VR B h ρ v x := by
  have := er_get hf R; rw [e] at this; exact this
theorem er_none {h : Heap} {f : Nat} {fs : List (Nat × V)} {es : List DictEntry} (hf : f < nmN) (R : ER B h ρ fs es) (e : look f fs = none) : getL (nmS f) es = some none := by
  have := er_get hf R; rw [e] at this; exact this
theorem vr_handed {h : Heap} {v : V} {x : Value} (R : VR B h ρ v x) : handedIn x = true := by induction R using VR.rec (motive_2 := fun _ _ _ => True) <;> first | rfl | trivial
theorem gk_cl {c f : Nat} (h : gk c f = true) : ∃ cl, clss[c]? = some cl := by
  have z := b2 h
  cases q : clss[c]? with
  | none => rw [q] at z; exact ff z
  | some cl => exact ⟨cl, rfl⟩
theorem attr_get {o : V} {f : Nat} {x : Value} {s : Shared} {Q E : Value → Shared → Prop} {expr : Bool} (S : Stat K P loose mg mb B) (X : Rel B ρ st s.heap) (hf : f < nmN) (R : VR B s.heap ρ o x) :
    P1 (fun v => (∀ y, VR B s.heap ρ v y → Q y { s with toks := s.toks + 1 }) → wpAny (model prog w) A (getAttr x (nmS f) expr) Q E s) (attrV st o f) :=
  P1.onR fun a ea => R.toR ea fun p hp => P1.atI fun c fs hs v e q => (X.objs a _ p hs hp).elIn fun es n h1 h2 h3 h4 => by
    obtain ⟨cl, hc⟩ := gk_cl (h4 f v e)
    obtain ⟨y, g1, g2⟩ := er_some hf h3 e
    exact get_value (X.inK S) ⟨h1, rfl, rfl, h2⟩ (plainGet_of (name := Str.empty) (S.cl hc).plain).1 (findObj_own (attr := none) (S.cl hc).dict ((S.cl hc).attr f (h4 f v e)).1 rfl (by exact g1)) (vr_handed g2) (q y g2)
theorem base_whole {a : Expr} {x : Str} {whole : Sem Value} (h : notBare a = true) : attributeBase a x env whole = whole := by
  rcases a
  case Call f l k p =>
    rcases f
    case Name id q =>
      rcases l with _ | ⟨_, _⟩
      · rcases k with _ | ⟨_, _⟩
        · exact ff h
        · rfl
      · rfl
    all_goals rfl
  all_goals rfl
theorem ok_attr {a : Expr} {pos : Pos} {o : V} {f : Nat} (S : Stat K P loose mg mb B) (hb : notBare a = true) (hf : f < nmN) (H : EvOk prog w B d env a m st o st1) :
    P1 (fun v => EvOk prog w B d env (.Attribute a (nmS f) pos) m st v st1) (attrV st1 o f) := fun v e A ρ s Q E hR X k =>
  Attribute_any_ (H A ρ s _ E hR X fun ρ' y h' tk' X' N' R' => attr_get S X'.rel hf R' v e fun z hz => k ρ' z h' (tk' + 1) X' N' hz) (by rw [arm_eval_Attribute, base_whole hb])
theorem global_get {x : Str} {v : Value} {pos : Pos} {s : Shared} {Q E : Value → Shared → Prop} (S : Stat K P loose mg mb B) (X : Cx B ρ st env m s.heap) (e : nsIn K mainGlobals x = some (some v)) (hg : gl env.scope.names x x = true) (q : Q v s) :
    wpAny (model prog w) A (eval (.Name x pos) env) Q E s :=
  Name_function_global X.fr.kind (eq_of_beq (b2 (b1 hg))) (loadGlobal_global (by rw [X.fr.glob]; exact S.T.g.keeps X.rel.base) (mg_of S.X S.T.g e) q) (no_ (b1 (b2 hg)))
theorem builtin_get {x : Str} {v : Value} {pos : Pos} {s : Shared} {Q E : Value → Shared → Prop} (S : Stat K P loose mg mb B) (X : Cx B ρ st env m s.heap) (e : nsIn K mainGlobals x = some none) (hv : bootBuiltins x = some v) (hn : x ≠ "__name__")
    (hg : gl env.scope.names x x = true) (q : Q v s) : wpAny (model prog w) A (eval (.Name x pos) env) Q E s :=
  Name_function_global X.fr.kind (eq_of_beq (b2 (b1 hg))) (loadGlobal_builtin (by rw [X.fr.glob]; exact S.T.g.keeps X.rel.base) (mg_none_of S.X S.T.g e) (by rw [X.fr.blt]; exact S.T.b.keeps X.rel.base) ((S.T.builtins x hn).trans hv) q) (no_ (b1 (b2 hg)))
end
end Mine
end
section
open PySem PySem.W PySem.Calls PyProof.Rows
namespace Mine
noncomputable def allNews (B h : Heap) (L : Addr) : List (Addr × Obj) := (List.range h.objs.size).filterMap fun b => if b = L ∨ (B.get? b).isSome = true then none else (h.get? b).map fun o => (b, o)
section
variable {B h h' : Heap} {L b : Addr} {o : Obj}
theorem someOr {α : Type} (x : Option α) : x = none ∨ ∃ a, x = some a := by
  cases x with
  | none => exact .inl rfl
  | some a => exact .inr ⟨a, rfl⟩
theorem ite_some {α : Type} {c : Prop} [Decidable c] {x : Option α} {a : α} {P : Prop} (e : (if c then none else x) = some a) (k : ¬ c → x = some a → P) : P := by
  by_cases q : c
  · rw [if_pos q] at e; exact nn e
  · rw [if_neg q] at e; exact k q e
theorem mem_allNews : (b, o) ∈ allNews B h L ↔ h.get? b = some o ∧ b ≠ L ∧ B.get? b = none := by
  refine List.mem_filterMap.trans ⟨fun z => ?_, fun z => ⟨b, List.mem_range.mpr (Heap.lt_size z.1), ?_⟩⟩
  · obtain ⟨a, _, e⟩ := z
    refine ite_some e fun q e => ?_
    obtain ⟨o', h1, h2⟩ := Option.map_eq_some_iff.mp e
    rw [← (Prod.mk.inj h2).1, ← (Prod.mk.inj h2).2]
    exact ⟨h1, fun z => q (.inl z), (someOr _).resolve_right fun z => q (.inr (z.choose_spec ▸ rfl))⟩
  · rw [if_neg fun q => q.elim z.2.1 fun y => by rw [z.2.2] at y; exact ff y, z.1]; rfl
theorem allNews_news : News B L h (allNews B h L) := fun p hp => by
  have := mem_allNews.mp (show (p.1, p.2) ∈ _ from hp)
  exact ⟨this.1, this.2.1, this.2.2⟩
theorem allNews_nodup : ((allNews B h L).map (·.1)).Nodup := by
  unfold allNews
  rw [List.map_filterMap]
  refine List.Pairwise.filterMap _ (R := (· ≠ ·)) ?_ List.nodup_range
  have g : ∀ {c z}, Option.map (fun p : Addr × Obj => p.1) (if c = L ∨ (B.get? c).isSome = true then none else (h.get? c).map fun o => (c, o)) = some z → z = c := fun e => by
    obtain ⟨p, h1, h2⟩ := Option.map_eq_some_iff.mp e
    refine ite_some h1 fun _ h1 => ?_
    obtain ⟨o', _, h4⟩ := Option.map_eq_some_iff.mp h1
    exact h2.symm.trans (congrArg (·.1) h4.symm)
  exact fun a a' hne x hx y hy => g hx ▸ g hy ▸ hne
theorem allNews_kept {news : List (Addr × Obj)} (F : ∀ b o, B.get? b = some o → h'.get? b = some o) (hB : ∀ b o, B.get? b = some o → h.get? b = some o) (N : News B L h' (news ++ allNews B h L)) :
    ∀ b o, h.get? b = some o → b ≠ L → h'.get? b = some o := fun b o e hL =>
  (someOr (B.get? b)).elim (fun q => (N (b, o) (List.mem_append_right _ (mem_allNews.mpr ⟨e, hL, q⟩))).1) fun q => Option.some.inj ((hB b _ q.choose_spec).symm.trans e) ▸ F b _ q.choose_spec
end
section
variable {B h h' : Heap} {ρ ρ' : List (Addr × Addr)} {st : St} {env : Env} {m : Lo}
theorem Cx.frame (X : Cx B ρ st env m h) : ∃ mm, Fr B env.locals h mm ∧ ∀ x v, x < nmN → look x m = some v → env.kindOf (nmS x) = some .local → ∃ w, mm (nmS x) = some w ∧ VR B h ρ v w :=
  X.fr.ns.elim fun mm q => ⟨mm, ⟨q.1, X.rel.base, X.fr.above⟩, q.2⟩
theorem Cx.after {mm : Str → Option Value} (X : Cx B ρ st env m h) (hn : h'.Ns env.locals mm) (hv : ∀ x v, x < nmN → look x m = some v → env.kindOf (nmS x) = some .local → ∃ w, mm (nmS x) = some w ∧ VR B h ρ v w)
    (k : ∀ b o, h.get? b = some o → b ≠ env.locals → h'.get? b = some o) : Cx B ρ st env m h' ∧ Nx ρ (Fm env) h ρ h' := by
  have nL : ¬ Foot ρ env.locals := (X.fr.new _ (.inl rfl)).2
  have ht : ∀ x ws, IsTup h x ws → IsTup h' x ws := fun x ws t => by
    obtain ⟨o, ho, hc, n, hd⟩ := t
    exact ⟨o, k x o ho (fun z => X.fr.fm_not (.inl z) ho _ _ hd), hc, n, hd⟩
  have vr : ∀ {v w}, VR B h ρ v w → VR B h' ρ v w := fun R => R.mono (List.prefix_refl _) ht
  have kf : ∀ {b}, Foot ρ b → ∀ o, h.get? b = some o → h'.get? b = some o := fun f o e => k _ _ e fun z => nL (z ▸ f)
  exact ⟨⟨⟨X.rel.len, fun a o p h1 h2 => (X.rel.objs a o p h1 h2).mono (List.prefix_refl _) ht (kf ⟨a, p, h2, .inl rfl⟩) (kf ⟨a, p, h2, .inr rfl⟩), X.rel.inj, X.rel.fresh,
    fun b o e => k b o (X.rel.base b o e) fun z => nn ((X.fr.new _ (.inl rfl)).1.symm.trans (z ▸ e)), Nat.le_trans X.fr.above (Nat.le_of_lt hn.lt)⟩,
    X.fr.turn hn hv (fun _ _ => vr) (fun y c o hy e => k c o e (X.fr.cell_ne hy)) fun b f => (X.fr.new b f).2⟩, List.prefix_refl _, fun b o e _ g => k b o e fun z => g (.inl z), fun b f => .inl f⟩
theorem get_app {α : Type} {l : List α} {p q : α} {a : Nat} {P : Prop} (e : (l ++ [p])[a]? = some q) (k1 : l[a]? = some q → P) (k2 : a = l.length → q = p → P) : P := by
  rcases Nat.lt_trichotomy a l.length with z | z | z
  · rw [List.getElem?_append_left z] at e; exact k1 e
  · subst z; rw [List.getElem?_append_right (Nat.le_refl _), Nat.sub_self] at e; exact k2 rfl (Option.some.inj e).symm
  · rw [List.getElem?_eq_none (by rw [List.length_append]; exact z)] at e; exact nn e
theorem Foot.app {p : Addr × Addr} {b : Addr} {P : Prop} (f : Foot (ρ ++ [p]) b) (k1 : Foot ρ b → P) (k2 : b = p.1 ∨ b = p.2 → P) : P := by
  obtain ⟨a, q, e, z⟩ := f
  exact get_app e (fun e => k1 ⟨a, q, e, z⟩) fun _ e => k2 (by rw [e] at z; exact z)
theorem Cx.add {o : O} {p : Addr × Addr} (X : Cx B ρ st env m h) (ho : OR B h (ρ ++ [p]) o p) (h1 : B.get? p.1 = none ∧ ¬ Foot ρ p.1 ∧ ¬ Fm env p.1) (h2 : B.get? p.2 = none ∧ ¬ Foot ρ p.2 ∧ ¬ Fm env p.2) :
    Cx B (ρ ++ [p]) (st ++ [o]) env m h := by
  have pr : ρ <+: ρ ++ [p] := List.prefix_append _ _
  have ht : ∀ x ws, IsTup h x ws → IsTup h x ws := fun _ _ t => t
  obtain ⟨mm, hn, hv⟩ := X.fr.ns
  have n1 : ∀ {b : Nat} {q : Addr × Addr} {z : Addr}, ρ[b]? = some q → (q.1 = z ∨ q.2 = z) → Foot ρ z := fun g e => ⟨_, _, g, e.imp Eq.symm Eq.symm⟩
  refine ⟨⟨by rw [List.length_append, List.length_append, X.rel.len]; rfl, fun a o' q e1 e2 => get_app e2 (fun e => ?_) fun z1 z2 => ?_, fun a b q r e1 e2 hab => get_app e1 (fun g1 => get_app e2 (fun g2 => X.rel.inj a b q r g1 g2 hab) fun _ z => ?_) fun ha z => get_app e2 (fun g2 => ?_) fun hb _ => absurd (ha.trans hb.symm) hab,
    fun b f => f.app (X.rel.fresh b) fun z => z.elim (fun z => z ▸ h1.1) fun z => z ▸ h2.1, X.rel.base, X.rel.size⟩,
    X.fr.turn hn hv (fun _ _ R => R.mono pr ht) (fun _ _ _ _ e => e) fun b f g => g.app (X.fr.new _ f).2 fun z => z.elim (fun z => h1.2.2 (z ▸ f)) fun z => h2.2.2 (z ▸ f)⟩
  · exact get_app e1 (fun e1 => (X.rel.objs a o' q e1 e).mono pr ht (fun _ e => e) fun _ e => e) fun z _ => by rw [z, ← X.rel.len, List.getElem?_eq_none (Nat.le_refl _)] at e; exact nn e
  · rw [z1, X.rel.len, List.getElem?_append_right (Nat.le_refl _), Nat.sub_self] at e1
    exact Option.some.inj e1 ▸ z2 ▸ ho
  · subst z; exact ⟨fun e => h1.2.1 (n1 g1 (.inl e)), fun e => h2.2.1 (n1 g1 (.inl e)), fun e => h1.2.1 (n1 g1 (.inr e)), fun e => h2.2.1 (n1 g1 (.inr e))⟩
  · subst z; exact ⟨fun e => h1.2.1 (n1 g2 (.inl e.symm)), fun e => h1.2.1 (n1 g2 (.inr e.symm)), fun e => h2.2.1 (n1 g2 (.inl e.symm)), fun e => h2.2.1 (n1 g2 (.inr e.symm))⟩
theorem Nx.add {U : Addr → Prop} {p : Addr × Addr} (N : Nx ρ U h ρ' h') (h1 : h.get? p.1 = none) (h2 : h.get? p.2 = none) : Nx ρ U h (ρ' ++ [p]) h' :=
  ⟨N.pre.trans (List.prefix_append _ _), N.keep, fun b f => f.app (N.grow b) fun z => .inr (z.elim (fun z => z ▸ h1) fun z => z ▸ h2)⟩
theorem Cx.free {x : Addr} (X : Cx B ρ st env m h) (e : h.get? x = none) : B.get? x = none ∧ ¬ Foot ρ x ∧ ¬ Fm env x :=
  ⟨(someOr _).resolve_right fun q => nn (e.symm.trans (X.rel.base x _ q.choose_spec)), fun f => nn (e.symm.trans (X.rel.foot_some f).choose_spec), fun f => nn (e.symm.trans (X.fr.fm_some f).choose_spec)⟩
theorem Cx.push (X : Cx B ρ st env m h) (o : Obj) : Cx B ρ st env m (h.push o) ∧ Nx ρ (Fm env) h ρ (h.push o) :=
  X.frame.elim fun _ q => X.after (q.1.push o).ns q.2 fun _ _ e _ => Heap.get?_push_of_some _ e
theorem get_size (h : Heap) : h.get? h.objs.size = none := (someOr _).resolve_right fun q => Nat.lt_irrefl _ (Heap.lt_size q.choose_spec)
theorem Cx.pushList {vs : List V} {ws : List Value} (X : Cx B ρ st env m h) (R : VRs B h ρ vs ws) :
    Cx B (ρ ++ [(h.objs.size, h.objs.size)]) (st ++ [.list vs]) env m (h.push (seqObj "list" ws.toArray 0)) ∧ Nx ρ (Fm env) h (ρ ++ [(h.objs.size, h.objs.size)]) (h.push (seqObj "list" ws.toArray 0)) := by
  obtain ⟨X', N⟩ := X.push (seqObj "list" ws.toArray 0)
  have fr := X.free (get_size h)
  exact ⟨X'.add (.list (Heap.get?_push_size _ rfl) ((X.vrs N R).mono (List.prefix_append _ _) fun _ _ t => t)) fr fr, N.add (get_size h) (get_size h)⟩
end
end Mine
end
section
open PySem PySem.W PySem.Calls PyProof.Rows
namespace Mine
section
variable {prog : Program} {w : World} {K : Frag} {P : Program} {loose : List Str} {mg mb : Str → Option Value} {B : Heap} {A : Around} {ρ : List (Addr × Addr)} {d : Nat} {env : Env} {m : Lo} {st st1 st2 st3 st' : St}
theorem Room.u {d : Nat} {A : Around} (h : Room d A) : A.units + 64 < cLine := by have := h.un; omega
theorem ok_then {a : Expr} {v : V} {s : Shared} {Q E : Value → Shared → Prop} (H : EvOk prog w B d env a m st v st1) (hR : Room d A) (X : Cx B ρ st env m s.heap)
    (k : ∀ ρ' x h' tk', Cx B ρ' st1 env m h' → Nx ρ (Fm env) s.heap ρ' h' → VR B h' ρ' v x → Q x { s with heap := h', toks := tk' }) : wpAny (model prog w) A (eval a env) Q E s := H A ρ s Q E hR X k
theorem ev2 {a b : Expr} {x y : V} {s : Shared} {Q : Value → Value → Shared → Prop} {E : Value → Shared → Prop} (Ha : EvOk prog w B d env a m st x st1) (Hb : EvOk prog w B d env b m st1 y st2) (hR : Room d A) (X : Cx B ρ st env m s.heap)
    (k : ∀ ρ' x1 x2 h' tk', Cx B ρ' st2 env m h' → Nx ρ (Fm env) s.heap ρ' h' → VR B h' ρ' x x1 → VR B h' ρ' y x2 → Q x1 x2 { s with heap := h', toks := tk' }) :
    wpAny (model prog w) A (eval a env) (fun x1 s1 => wpAny (model prog w) A (eval b env) (fun x2 s2 => Q x1 x2 s2) E s1) E s :=
  ok_then Ha hR X fun _ _ _ _ X1 N1 R1 => ok_then Hb hR X1 fun ρ2 _ h2 tk2 X2 N2 R2 => k ρ2 _ _ h2 tk2 X2 (Nx.trans X N1 X1 N2) (X1.vr N2 R1) R2
theorem ok_not {a : Expr} {pos : Pos} {b : Bool} (H : EvOk prog w B d env a m st (.bool b) st1) : EvOk prog w B d env (.UnaryOp .Not a pos) m st (.bool (!b)) st1 :=
  fun _ _ _ _ _ hR X k => wpAny_UnaryOp (ok_then H hR X fun ρ' _ h' tk' X' N' R' => R'.elB (not_of (wpAny_truthy_bool (k ρ' _ h' tk' X' N' (.bool _)))))
theorem ok_neg {a : Expr} {pos : Pos} {i : Int} (H : EvOk prog w B d env a m st (.int i) st1) : EvOk prog w B d env (.UnaryOp .USub a pos) m st (.int (-i)) st1 :=
  fun _ _ _ _ _ hR X k => wpAny_UnaryOp (ok_then H hR X fun ρ' _ h' _ X' N' R' => R'.elI fun _ => neg_int (k ρ' _ h' _ X' N' (.int _ _)))
theorem ok_cmp {a b : Expr} {op : Cop} {pos : Pos} {x y : V} (Ha : EvOk prog w B d env a m st x st1) (Hb : EvOk prog w B d env b m st1 y st2) (hm : behindInMarks (copOf op) b = false) :
    P1 (fun r => EvOk prog w B d env (.Compare a [copOf op] [b] pos) m st (.bool r) st2) (cmpV op x y) :=
  fun r e _ _ _ _ _ hR X k => wpAny_Compare1 (ev2 Ha Hb hR X fun ρ2 _ _ h2 tk2 X2 N2 R1 R2 => cmp_ok X2.rel R1 R2 hR.u r e (k ρ2 _ h2 tk2 X2 N2 (.bool r))) hm
theorem tr_cmp {a b : Expr} {op : Cop} {pos : Pos} {x y : V} (Ha : EvOk prog w B d env a m st x st1) (Hb : EvOk prog w B d env b m st1 y st2) (hm : behindInMarks (copOf op) b = false) :
    P1 (fun r => TrOk prog w B d env (.Compare a [copOf op] [b] pos) m st r st2) (cmpV op x y) := fun r e A ρ s Q E hR X k => by
  rw [isTrue_Compare1, markedBehindIn_of_false hm]
  exact wpAny_bind (ok_then Ha hR X fun _ _ _ _ X1 N1 R1 => wpAny_bind (wpAny_holding (ok_then Hb hR X1 fun ρ2 x2 h2 tk2 X2 N2 R2 => wpAny_bind (wpAny_standAt (wpAny_bind (wpAny_operate' (cmp_ok X2.rel (X1.vr N2 R1) R2 hR.u r e
    (wpAny_holding (wpAny_truthy_bool (k ρ2 h2 tk2 X2 (Nx.trans X N1 X1 N2)))))))))))
theorem chain_pre {γ : Type} {F G : Value → Sem γ} {Q : γ → Shared → Prop} {E : Value → Shared → Prop} {s : Shared} {a b : Expr} {op : Cop} {pos : Pos} {x y : V} (Ha : EvOk prog w B d env a m st x st1) (Hb : EvOk prog w B d env b m st1 y st2) (hR : Room d A) (X : Cx B ρ st env m s.heap) :
    P1 (fun t => (∀ ρ' x2 h' tk', Cx B ρ' st2 env m h' → Nx ρ (Fm env) s.heap ρ' h' → VR B h' ρ' y x2 → wpAny (model prog w) A (if t = true then F x2 else G (.bool t)) Q E { s with heap := h', toks := tk' }) →
      wpAny (model prog w) A (do let x1 ← eval a env; let x2 ← holding [x1] (eval b env); standAt pos; let c ← holding [x1, x2] (compareOp (copOf op) x1 x2); release [x1, x2] [c]; if ← holding [c, x2] (truthy c) then F x2 else G c) Q E s) (cmpV op x y) := fun _ e k =>
  wpAny_bind (ok_then Ha hR X fun _ _ _ _ X1 N1 R1 => wpAny_bind (wpAny_holding (ok_then Hb hR X1 fun ρ2 x2 h2 tk2 X2 N2 R2 => wpAny_bind (wpAny_standAt (wpAny_bind (wpAny_holding (cmp_ok X2.rel (X1.vr N2 R1) R2 hR.u _ e
    (wpAny_bind (wpAny_release' (wpAny_bind (wpAny_holding (wpAny_truthy_bool (k ρ2 x2 h2 tk2 X2 (Nx.trans X N1 X1 N2) R2)))))))))))) )
theorem marks2 {p1 p2 : CmpOp} {b c : Expr} {env : Env} (hm : behindInMarks p2 c = false) : markedEach [p1, p2] [b, c] (evalEach [b, c] env) = [eval b env, eval c env] :=
  show [eval b env, markedBehindIn p2 c (eval c env)] = _ from congrArg (fun z => [eval b env, z]) (markedBehindIn_of_false hm)
theorem ok_cmp3 {a b c : Expr} {o1 o2 : Cop} {pos : Pos} {x y : V} {r : Bool} (Ha : EvOk prog w B d env a m st x st1) (Hb : EvOk prog w B d env b m st1 y st2) (hm : behindInMarks (copOf o2) c = false)
    {t : Bool} (et : cmpV o1 x y = some t) (e : bif t then ∃ z, EvOk prog w B d env c m st2 z st3 ∧ cmpV o2 y z = some r else r = false ∧ st3 = st2) :
    EvOk prog w B d env (.Compare a [copOf o1, copOf o2] [b, c] pos) m st (.bool r) st3 ∧ TrOk prog w B d env (.Compare a [copOf o1, copOf o2] [b, c] pos) m st r st3 := by
  constructor
  · intro A ρ s Q E hR X k
    rw [arm_eval_Compare, marks2 hm]
    refine chain_pre (F := fun v => compareChain pos v [copOf o2] [eval c env]) (G := pure) (pos := pos) Ha Hb hR X t et fun ρ2 x2 h2 tk2 X2 N2 R2 => ?_
    rcases t
    · obtain ⟨e1, e2⟩ := e
      subst e1; exact wpAny_pure (k ρ2 _ h2 tk2 (e2 ▸ X2) N2 (.bool false))
    · obtain ⟨z, Hc, e2⟩ := e
      exact wpAny_bind (wpAny_holding (ok_then Hc hR X2 fun ρ3 x3 g3 tk3 X3 N3 R3 => wpAny_bind (wpAny_standAt (wpAny_operate' (cmp_ok X3.rel (X2.vr N3 R2) R3 hR.u r e2 (k ρ3 _ g3 tk3 X3 (Nx.trans X N2 X2 N3) (.bool r)))))))
  · intro A ρ s Q E hR X k
    rw [arm_isTrue_Compare, marks2 hm]
    refine chain_pre (F := fun v => testChain pos v [copOf o2] [eval c env]) (G := fun _ => pure false) (pos := pos) Ha Hb hR X t et fun ρ2 x2 h2 tk2 X2 N2 R2 => ?_
    rcases t
    · obtain ⟨e1, e2⟩ := e
      exact wpAny_pure (e1 ▸ k ρ2 h2 tk2 (e2 ▸ X2) N2)
    · obtain ⟨z, Hc, e2⟩ := e
      exact wpAny_bind (wpAny_holding (ok_then Hc hR X2 fun ρ3 x3 g3 tk3 X3 N3 R3 => wpAny_bind (wpAny_standAt (wpAny_bind (wpAny_operate' (cmp_ok X3.rel (X2.vr N3 R2) R3 hR.u r e2 (wpAny_holding (wpAny_truthy_bool (k ρ3 g3 tk3 X3 (Nx.trans X N2 X2 N3))))))))))
theorem tr_not {a : Expr} {pos : Pos} {b : Bool} (H : TrOk prog w B d env a m st b st1) : TrOk prog w B d env (.UnaryOp .Not a pos) m st (!b) st1 :=
  fun A ρ s _ E hR X k => isTrue_not (H A ρ s _ E hR X k)
theorem ok_ite {c a b : Expr} {pos : Pos} {t : Bool} {v : V} (Hc : TrOk prog w B d env c m st t st1) (H : EvOk prog w B d env (bif t then a else b) m st1 v st2) : EvOk prog w B d env (.IfExp c a b pos) m st v st2 :=
  fun A ρ s Q E hR X k => wpAny_IfExp (Hc A ρ s _ E hR X fun ρ' h' tk' X' N' => by
    have := ok_then (s := { s with heap := h', toks := tk' }) (Q := Q) (E := E) H hR X' fun ρ2 x h2 tk2 X2 N2 R2 => k ρ2 x h2 tk2 X2 (Nx.trans X N' X' N2) R2
    rcases t <;> exact this)
theorem tr_ite {c a b : Expr} {pos : Pos} {t r : Bool} (Hc : TrOk prog w B d env c m st t st1) (H : TrOk prog w B d env (bif t then a else b) m st1 r st2) : TrOk prog w B d env (.IfExp c a b pos) m st r st2 :=
  fun A ρ s Q E hR X k => isTrue_IfExp (Hc A ρ s _ E hR X fun ρ' h' tk' X' N' => by
    have := H A ρ' { s with heap := h', toks := tk' } Q E hR X' fun ρ2 h2 tk2 X2 N2 => k ρ2 h2 tk2 X2 (Nx.trans X N' X' N2)
    rcases t <;> exact this)
noncomputable def trPlain (a : Expr) : Bool := !isA 0 a && (!isA 5 a && (!isA 15 a && !aUnaryOp a fun o _ _ => decide (o = .Not)))
theorem tr_plain {a : Expr} {b : Bool} (hp : trPlain a = true) (H : EvOk prog w B d env a m st (.bool b) st1) : TrOk prog w B d env a m st b st1 :=
  fun A ρ s Q E hR X k => isTrue_plain (ok_then H hR X fun ρ' x h' tk' X' N' R' => R'.elB (wpAny_truthy_bool (k ρ' h' tk' X' N'))) (by
    rcases a <;> first | rfl | exact ff hp | skip
    rename_i o _ _
    rcases o <;> first | rfl | exact ff hp)
theorem ok_and1 {a : Expr} {pos : Pos} {op : BoolOp} {v : V} (H : EvOk prog w B d env a m st v st1) : EvOk prog w B d env (.BoolOp op [a] pos) m st v st1 := H
theorem tr_and1 {a : Expr} {pos : Pos} {op : BoolOp} {b : Bool} (H : TrOk prog w B d env a m st b st1) : TrOk prog w B d env (.BoolOp op [a] pos) m st b st1 := by
  intro A ρ s Q E hR X k
  rw [arm_isTrue_BoolOp, arm_allTrue_cons]
  refine wpAny_bind (H A ρ s _ E hR X fun ρ' h' tk' X' N' => ?_)
  rcases op <;> rcases b <;> exact wpAny_pure (k ρ' h' tk' X' N')
noncomputable def isAnd : BoolOp → Bool
  | .And => true
  | .Or => false
theorem ok_and2 {a b : Expr} {r : List Expr} {pos : Pos} {op : BoolOp} {t : Bool} {s : Shared} {Q E : Value → Shared → Prop} (H : EvOk prog w B d env a m st (.bool t) st1) (hR : Room d A) (X : Cx B ρ st env m s.heap)
    (k : ∀ ρ' h' tk', Cx B ρ' st1 env m h' → Nx ρ (Fm env) s.heap ρ' h' → wpAny (model prog w) A (if isAnd op = t then eval (.BoolOp op (b :: r) pos) env else pure (.bool t)) Q E { s with heap := h', toks := tk' }) : wpAny (model prog w) A (eval (.BoolOp op (a :: b :: r) pos) env) Q E s := by
  rw [arm_eval_BoolOp]
  show wpAny _ _ (do
    let v ← eval a env
    standAt pos
    let t ← holding [v] (truthy v)
    match op, t with
    | .And, false | .Or, true => pure v
    | _, _ => boolOp pos op (evalEach (b :: r) env)) _ _ _
  refine wpAny_bind (ok_then H hR X fun ρ' x h' tk' X' N' R' => R'.elB (wpAny_bind (wpAny_standAt (wpAny_bind (wpAny_holding (wpAny_truthy_bool ?_))))))
  have := k ρ' h' tk' X' N'
  rcases op <;> rcases t <;> exact this
theorem ok_andgo {a b : Expr} {r : List Expr} {pos : Pos} {op : BoolOp} {v : V} (H : EvOk prog w B d env a m st (.bool (isAnd op)) st1) (H2 : EvOk prog w B d env (.BoolOp op (b :: r) pos) m st1 v st2) :
    EvOk prog w B d env (.BoolOp op (a :: b :: r) pos) m st v st2 :=
  fun _ _ _ _ _ hR X k => ok_and2 H hR X fun _ _ _ X' N' => by rw [if_pos rfl]; exact ok_then H2 hR X' fun ρ2 x h2 tk2 X2 N2 R2 => k ρ2 x h2 tk2 X2 (Nx.trans X N' X' N2) R2
theorem ok_andstop {a b : Expr} {r : List Expr} {pos : Pos} {op : BoolOp} (H : EvOk prog w B d env a m st (.bool (!isAnd op)) st1) :
    EvOk prog w B d env (.BoolOp op (a :: b :: r) pos) m st (.bool (!isAnd op)) st1 :=
  fun _ _ _ _ _ hR X k => ok_and2 H hR X fun ρ' h' tk' X' N' => by rw [if_neg (by rcases op <;> exact Bool.noConfusion)]; exact wpAny_pure (k ρ' _ h' tk' X' N' (.bool _))
theorem tr_andgo {a : Expr} {r : List Expr} {pos : Pos} {op : BoolOp} {v : Bool} (H : TrOk prog w B d env a m st (isAnd op) st1) (H2 : TrOk prog w B d env (.BoolOp op r pos) m st1 v st2) :
    TrOk prog w B d env (.BoolOp op (a :: r) pos) m st v st2 := by
  intro A ρ s Q E hR X k
  rw [arm_isTrue_BoolOp, arm_allTrue_cons]
  refine wpAny_bind (H A ρ s _ E hR X fun ρ' h' tk' X' N' => ?_)
  have := H2 A ρ' { s with heap := h', toks := tk' } Q E hR X' fun ρ2 h2 tk2 X2 N2 => k ρ2 h2 tk2 X2 (Nx.trans X N' X' N2)
  rcases op <;> exact this
theorem tr_andstop {a : Expr} {r : List Expr} {pos : Pos} {op : BoolOp} (H : TrOk prog w B d env a m st (!isAnd op) st1) :
    TrOk prog w B d env (.BoolOp op (a :: r) pos) m st (!isAnd op) st1 := by
  intro A ρ s Q E hR X k
  rw [arm_isTrue_BoolOp, arm_allTrue_cons]
  refine wpAny_bind (H A ρ s _ E hR X fun ρ' h' tk' X' N' => ?_)
  rcases op <;> exact wpAny_pure (k ρ' h' tk' X' N')
theorem oks_nil : EvsOk prog w B d env [] m st [] st := fun _ ρ s _ _ _ _ X k => spliced_nil (k ρ [] s.heap s.toks X Nx.refl .nil)
theorem star_cons {a : Expr} (h : plainA a = true) (l : List Expr) (env : Env) : starEach (a :: l) env = (false, eval a env) :: starEach l env := by
  rcases a <;> first | rfl | exact ff h
theorem oks_cons {a : Expr} {l : List Expr} {v : V} {vs : List V} (hp : plainA a = true) (H : EvOk prog w B d env a m st v st1) (Hs : EvsOk prog w B d env l m st1 vs st2) : EvsOk prog w B d env (a :: l) m st (v :: vs) st2 := by
  intro A ρ s pos Q E hR X k
  rw [star_cons hp]
  exact spliced_cons (ok_then H hR X fun ρ1 x1 h1 tk1 X1 N1 R1 => Hs A ρ1 _ pos _ _ hR X1 fun ρ2 x2 h2 tk2 X2 N2 R2 => k ρ2 _ h2 tk2 X2 (Nx.trans X N1 X1 N2) (.cons (X1.vr N2 R1) R2))
end
end Mine
end
section
open PySem PySem.W PySem.Calls PyProof.Rows
namespace Mine
section
variable {prog : Program} {w : World} {K : Frag} {P : Program} {loose : List Str} {mg mb : Str → Option Value} {B : Heap} {A : Around} {ρ : List (Addr × Addr)} {d : Nat} {env : Env} {m : Lo} {st st1 st2 st3 st' : St}
theorem line_is : (4096 : Nat) ≤ sizeLine := by rw [sizeLine_eq]; decide
theorem len_line {B h : Heap} {ρ : List (Addr × Addr)} {vs : List V} {xs : List Value} (R : VRs B h ρ vs xs) (hl : vs.length ≤ 4096) : xs.length ≤ sizeLine := vrs_len R ▸ Nat.le_trans hl line_is
theorem len_lineA {B h : Heap} {ρ : List (Addr × Addr)} {vs : List V} {xs : List Value} (R : VRs B h ρ vs xs) (hl : vs.length ≤ 4096) : xs.toArray.size ≤ sizeLine := len_line R hl
theorem le64 {n : Nat} (h : n ≤ 64) : n ≤ 4096 := Nat.le_trans h (by decide)
theorem lo63 {k : Int} (h : 0 ≤ k) : -(2 ^ 63) ≤ k := Int.le_trans (by decide) h
theorem hi63 {k : Int} (h : k < 4294967296) : k < 2 ^ 63 := Int.lt_trans h (by decide)
theorem seq_ix {k : Int} {n : Nat} (h : 0 ≤ k) (g : k.toNat < n) : seqIndex? k n = some k.toNat := by
  have : ¬ k < 0 := by omega
  unfold seqIndex?
  simp [this]; omega
theorem app_get {α : Type} {l : List α} {p : α} {n : Nat} (h : l.length = n) : (l ++ [p])[n]? = some p := h ▸ List.getElem?_concat_length
theorem Rel.ref {h h' : Heap} {p : Addr × Addr} (X : Rel B ρ st h) : VR B h' (ρ ++ [p]) (.ref st.length) (.ref p.1) := .ref (app_get X.len)
theorem ok_tup {es : List Expr} {k0 : Nat} {pos : Pos} {vs : List V} (hl : vs.length ≤ 64) (H : EvsOk prog w B d env es m st vs st1) : EvOk prog w B d env (.Tuple es k0 pos) m st (.tup vs) st1 := fun A ρ s Q E hR X k =>
  Tuple_ (H A ρ s _ _ _ hR X fun ρ' xs h' tk' X' N' R' => by
    obtain ⟨X2, N2⟩ := X'.push ({ cls := .type "tuple", data := .seq xs.toArray } : Obj)
    exact wpAny_newTuple (k ρ' _ _ tk' X2 (Nx.trans X N' X' N2) (.tup (IsTup.new _ _) (X'.vrs N2 R'))) (len_line R' (le64 hl)))
theorem ok_lst {es : List Expr} {pos : Pos} {vs : List V} (hl : vs.length ≤ 64) (H : EvsOk prog w B d env es m st vs st1) : EvOk prog w B d env (.List es pos) m st (.ref st1.length) (st1 ++ [.list vs]) := fun A ρ s Q E hR X k =>
  List_ (H A ρ s _ _ _ hR X fun ρ' xs h' tk' X' N' R' => by
    obtain ⟨X2, N2⟩ := X'.pushList R'
    exact wpAny_newList (k _ _ _ tk' X2 (Nx.trans X N' X' N2) X'.rel.ref) (len_line R' (le64 hl)))
theorem ok_dct {pos : Pos} : EvOk prog w B d env (.Dict [] [] pos) m st (.ref st.length) (st ++ [.dict []]) := fun A ρ s Q E hR X k => by
  obtain ⟨X2, N2⟩ := X.push ({ cls := .type "dict", data := .dict #[] } : Obj)
  have fr := X.free (get_size s.heap)
  exact wpAny_Dict_empty (k _ _ _ s.toks (X2.add (o := .dict []) (p := (s.heap.objs.size, s.heap.objs.size)) (.dict (Heap.IntMap.new s.heap) (fun o es ep h1 h2 => by
    rw [Heap.get?_push_size _ rfl] at h1; rw [← Option.some.inj h1] at h2; cases h2; exact Nat.le_refl _) (fun k v e => nn e)) fr fr) (N2.add (get_size _) (get_size _)) X.rel.ref)
theorem vrs_get {B h : Heap} {ρ : List (Addr × Addr)} : ∀ {vs : List V} {xs : List Value} {i : Nat} {v : V}, VRs B h ρ vs xs → vs[i]? = some v → ∃ x, xs[i]? = some x ∧ VR B h ρ v x
  | [], _, _, _, _, e => nn e
  | _ :: _, _, 0, _, R, e => R.elC fun x _ R _ => ⟨x, rfl, Option.some.inj e ▸ R⟩
  | _ :: _, _, i + 1, _, R, e => R.elC fun _ _ _ Rs => vrs_get (i := i) Rs e
theorem OR.isL {h : Heap} {vs : List V} {p : Addr × Addr} {P : Prop} (W : OR B h ρ (.list vs) p) (k : ∀ ws, h.IsList p.1 ws.toArray → VRs B h ρ vs ws → P) : P := W.elLi fun ws n _ g Rs => k ws ⟨_, g, rfl, n, rfl⟩ Rs
theorem sub_plain {slice : Expr} (hs : plainA slice = true) (o i : Value) : subscripted slice false o i = operate [o, i] (getItem o i) := by
  rcases slice <;> first | rfl | exact ff hs
theorem ok_idx {a b : Expr} {pos : Pos} {o i : V} (hb : plainA b = true) (Ha : EvOk prog w B d env a m st o st1) (Hb : EvOk prog w B d env b m st1 i st2) : P1 (fun v => EvOk prog w B d env (.Subscript a b pos) m st v st2) (idxV st2 o i) :=
  P1.onI fun kk ei => by
  rcases o <;> first | exact P1.no | skip
  · show P1 _ (ob st2[_]? fun o => _)
    refine P1.ob fun o eo => ?_
    rcases o
    · exact P1.no
    · show P1 _ (if _ then _ else none)
      refine P1.if fun hk v e A ρ s Q E hR X k => Subscript_ (ev2 Ha Hb hR X fun ρ2 _ _ h2 tk2 X2 N2 R1 R2 => R2.toI ei fun t => R1.elR fun p hp => (X2.rel.objs _ _ p eo hp).isL fun ws g Rs => ?_)
      obtain ⟨x, g1, g2⟩ := vrs_get Rs e
      exact tail_any g.typeIs slot_list_getitem.lookup (wpAny_getItem_list g hk.1 (hi63 hk.2) (List.getElem?_toArray.trans g1) (k ρ2 x h2 _ X2 N2 g2)) (sub_plain hb _ _)
    · refine fun v e A ρ s Q E hR X k => Subscript_ (ev2 Ha Hb hR X fun ρ2 _ _ h2 tk2 X2 N2 R1 R2 => R2.toI ei fun t => R1.elR fun p hp => (X2.rel.objs _ _ p eo hp).elDi fun f _ g1 _ g3 => ?_)
      obtain ⟨x, q1, q2⟩ := g3 kk v e
      exact tail_any (s := { s with heap := h2, toks := tk2 }) (Heap.IntMap.typeIs (s := { s with heap := h2, toks := tk2 }) g1) slot_dict_getitem.lookup (wpAny_getItem_intMap g1 q1 (k ρ2 x h2 _ X2 N2 q2)) (sub_plain hb _ _)
  · show P1 _ (if _ then _ else none)
    refine P1.if fun hk v e A ρ s Q E hR X k => Subscript_ (ev2 Ha Hb hR X fun ρ2 _ _ h2 tk2 X2 N2 R1 R2 => R2.toI ei fun t => R1.elT fun y ws g Rs => ?_)
    obtain ⟨x, g1, g2⟩ := vrs_get Rs e
    exact item_tupleT g (lo63 hk.1) (hi63 hk.2) (seq_ix hk.1 (List.getElem?_eq_some_iff.mp g1).1) g1 (k ρ2 x h2 _ X2 N2 g2) (sub_plain hb _ _)
end
end Mine
end
section
open PySem PySem.W PySem.Calls PyProof.Rows
namespace Mine
section
variable {B h h' : Heap} {ρ ρ' : List (Addr × Addr)} {st : St} {env : Env} {m : Lo}
theorem Cx.set {mm : Str → Option Value} {a : Nat} {o' : O} {p : Addr × Addr} {x : Addr} (X : Cx B ρ st env m h) (ha : ρ[a]? = some p) (hx : x = p.1 ∨ x = p.2) (hn : h'.Ns env.locals mm)
    (hv : ∀ x v, x < nmN → look x m = some v → env.kindOf (nmS x) = some .local → ∃ w, mm (nmS x) = some w ∧ VR B h ρ v w)
    (k : ∀ b o, h.get? b = some o → b ≠ env.locals → b ≠ x → h'.get? b = some o) (ho : (∀ v w, VR B h ρ v w → VR B h' ρ v w) → OR B h' ρ o' p) : Cx B ρ (st.set a o') env m h' ∧ Nx ρ (Fm env) h ρ h' := by
  have fx : Foot ρ x := ⟨a, p, ha, hx⟩
  have nL : ¬ Foot ρ env.locals := (X.fr.new _ (.inl rfl)).2
  have ht : ∀ y ws, IsTup h y ws → IsTup h' y ws := fun y ws t => by
    obtain ⟨o, hy, hc, n, hd⟩ := t
    exact ⟨o, k y o hy (fun z => X.fr.fm_not (.inl z) hy _ _ hd) (fun z => X.rel.foot_not (z ▸ fx) hy hc), hc, n, hd⟩
  have vr : ∀ v w, VR B h ρ v w → VR B h' ρ v w := fun _ _ R => R.mono (List.prefix_refl _) ht
  have kf : ∀ {b}, Foot ρ b → b ≠ x → ∀ o, h.get? b = some o → h'.get? b = some o := fun f q o e => k _ _ e (fun z => nL (z ▸ f)) q
  refine ⟨⟨⟨by rw [List.length_set]; exact X.rel.len, fun b o q e1 e2 => ?_, X.rel.inj, X.rel.fresh, fun b o e => k b o (X.rel.base b o e) (fun z => nn ((X.fr.new _ (.inl rfl)).1.symm.trans (z ▸ e))) fun z => nn ((X.rel.fresh x fx).symm.trans (z ▸ e)), Nat.le_trans X.fr.above (Nat.le_of_lt hn.lt)⟩,
    X.fr.turn hn hv vr (fun y c o hy e => k c o e (X.fr.cell_ne hy) fun z => (X.fr.new _ (.inr ⟨_, hy⟩)).2 (z ▸ fx)) fun b f => (X.fr.new b f).2⟩, List.prefix_refl _, fun b o e f g => k b o e (fun z => g (.inl z)) (fun z => f (z ▸ fx)), fun b f => .inl f⟩
  by_cases hb : a = b
  · rw [← hb, List.getElem?_set_self (X.rel.len ▸ (List.getElem?_eq_some_iff.mp ha).1)] at e1
    rw [← hb, ha] at e2
    exact Option.some.inj e1 ▸ Option.some.inj e2 ▸ ho vr
  · rw [List.getElem?_set_ne hb] at e1
    obtain ⟨i1, i2, i3, i4⟩ := X.rel.inj a b p q ha e2 hb
    exact (X.rel.objs b o q e1 e2).mono (List.prefix_refl _) ht (kf ⟨b, q, e2, .inl rfl⟩ fun z => hx.elim (fun y => i1 (y.symm.trans z.symm)) fun y => i3 (y.symm.trans z.symm)) (kf ⟨b, q, e2, .inr rfl⟩ fun z => hx.elim (fun y => i2 (y.symm.trans z.symm)) fun y => i4 (y.symm.trans z.symm))
theorem Cx.setSame {a : Nat} {o' : O} {p : Addr × Addr} {x : Addr} (X : Cx B ρ st env m h) (ha : ρ[a]? = some p) (hx : x = p.1 ∨ x = p.2) (hs : Heap.SameBut x h h')
    (ho : (∀ v w, VR B h ρ v w → VR B h' ρ v w) → OR B h' ρ o' p) : Cx B ρ (st.set a o') env m h' ∧ Nx ρ (Fm env) h ρ h' :=
  X.frame.elim fun _ q => X.set ha hx (q.1.ns.sameBut hs fun z => (X.fr.new _ (.inl rfl)).2 (z ▸ ⟨a, p, ha, hx⟩)) q.2 (fun b _ e _ q => (hs.2 b q).trans e) ho
end
section
variable {B h h' : Heap} {ρ ρ' : List (Addr × Addr)} {vs vs' : List V} {ws ws' : List Value}
theorem VRs.ind {M : List V → List Value → Prop} (R : VRs B h ρ vs ws) (n : M [] []) (c : ∀ {v w vs ws}, VR B h ρ v w → VRs B h ρ vs ws → M vs ws → M (v :: vs) (w :: ws)) : M vs ws :=
  VRs.rec (motive_1 := fun _ _ _ => True) (motive_2 := fun vs ws _ => M vs ws) trivial (fun _ => trivial) (fun _ _ => trivial) (fun _ _ _ => trivial) (fun _ => trivial) (fun _ _ _ => trivial) (fun _ _ _ => trivial) n (fun a r _ i => c a r i) R
theorem VRs.map (f : ∀ v w, VR B h ρ v w → VR B h' ρ' v w) (R : VRs B h ρ vs ws) : VRs B h' ρ' vs ws := R.ind .nil fun a _ i => .cons (f _ _ a) i
theorem VRs.append (R : VRs B h ρ vs ws) (R' : VRs B h ρ vs' ws') : VRs B h ρ (vs ++ vs') (ws ++ ws') := R.ind (M := fun vs ws => VRs B h ρ (vs ++ vs') (ws ++ ws')) R' fun a _ i => .cons a i
theorem VRs.take (n : Nat) (R : VRs B h ρ vs ws) : VRs B h ρ (vs.take n) (ws.take n) :=
  R.ind (M := fun vs ws => ∀ n, VRs B h ρ (vs.take n) (ws.take n)) (fun n => by rcases n <;> exact .nil) (fun a _ i n => by
    rcases n with _ | n
    · exact .nil
    · exact .cons a (i n)) n
theorem VRs.rev (R : VRs B h ρ vs ws) : VRs B h ρ vs.reverse ws.reverse := R.ind (M := fun vs ws => VRs B h ρ vs.reverse ws.reverse) .nil fun a _ i => by
  rw [List.reverse_cons, List.reverse_cons]; exact i.append (.cons a .nil)
theorem VRs.set {v : V} {w : Value} (R : VR B h ρ v w) (n : Nat) (Rs : VRs B h ρ vs ws) : VRs B h ρ (vs.set n v) (ws.set n w) :=
  Rs.ind (M := fun vs ws => ∀ n, VRs B h ρ (vs.set n v) (ws.set n w)) (fun _ => .nil) (fun a r i n => by
    rcases n with _ | n
    · exact .cons R r
    · exact .cons a (i n)) n
theorem VRs.rep {v : V} {w : Value} (R : VR B h ρ v w) (n : Nat) : VRs B h ρ (List.replicate n v) (List.replicate n w) := by
  induction n with
  | zero => exact .nil
  | succ n i => exact .cons R i
end
theorem rep_fold (w0 : Value) (n : Nat) : ∀ (acc : Array Value), List.foldl (fun x1 x2 => x1 ++ x2) acc (List.replicate n #[w0]) = acc ++ (List.replicate n w0).toArray := by
  induction n with
  | zero => exact fun _ => Array.append_empty.symm
  | succ n ih => exact fun acc => (ih _).trans (Array.append_assoc.trans (congrArg _ (List.append_toArray [w0] _)))
section
variable {prog : Program} {w : World} {K : Frag} {P : Program} {loose : List Str} {mg mb : Str → Option Value} {B : Heap} {A : Around} {ρ : List (Addr × Addr)} {d : Nat} {env : Env} {m : Lo} {st st1 st2 st3 st' : St} {s : Shared} {Q E : Value → Shared → Prop}
theorem add_get {x y : V} {x1 x2 : Value} (X : Cx B ρ st env m s.heap) (R1 : VR B s.heap ρ x x1) (R2 : VR B s.heap ρ y x2) :
    P1 (fun p => (∀ ρ' z h' tk', Cx B ρ' p.2 env m h' → Nx ρ (Fm env) s.heap ρ' h' → VR B h' ρ' p.1 z → Q z { s with heap := h', toks := tk' }) → wpAny (model prog w) A (binaryOp .Add x1 x2) Q E s) (addV x y st) := by
  rcases x <;> first | exact P1.no | skip
  · exact P1.onI fun j ej => R1.elI fun t => R2.toI ej fun u => P1.of fun k => add_int (k ρ _ s.heap _ X Nx.refl (.int _ _))
  · exact P1.onR fun y ey => P1.atL fun xs ex => P1.atL fun ys ey' => P1.if fun hq => R1.elR fun p hp => R2.toR ey fun q hq' => (X.rel.objs _ _ p ex hp).elLi fun w1 n1 _ g1 r1 => (X.rel.objs _ _ q ey' hq').elLi fun w2 n2 _ g2 r2 => P1.of fun k => by
      obtain ⟨X3, N3⟩ := X.pushList (r1.append r2)
      exact PySem.P.add_list g1 g2 (k _ _ _ _ (List.append_toArray w1 w2 ▸ X3) (List.append_toArray w1 w2 ▸ N3) X.rel.ref) (by rw [List.size_toArray, List.size_toArray, vrs_len r1, vrs_len r2]; exact Nat.le_trans hq line_is)
  · exact P1.onT fun ys ey => P1.if fun hq => R1.elT fun y1 w1 t1 r1 => R2.toT ey fun y2 w2 t2 r2 => P1.of fun k => X.frame.elim fun _ F =>
      add_tuples F.1 (allNews_news (B := B)) t1 t2 (fun z => k ρ _ _ _ X Nx.refl (.tup t2 (by have r := r1.append r2; rw [z] at r; exact r))) (fun _ z => k ρ _ _ _ X Nx.refl (.tup t1 (by have r := r1.append r2; rw [z, List.append_nil] at r; exact r))) (fun _ _ h' F' N' => by
        obtain ⟨X3, N3⟩ := X.after F'.ns F.2 (allNews_kept (news := [_]) F'.keep X.rel.base N')
        exact k ρ _ h' _ X3 N3 (.tup ⟨_, (N' _ (.head _)).1, rfl, _, rfl⟩ (X.vrs N3 (r1.append r2)))) (by rw [vrs_len r1, vrs_len r2]; exact Nat.le_trans hq line_is)
theorem mul_get {x y : V} {x1 x2 : Value} (X : Cx B ρ st env m s.heap) (R1 : VR B s.heap ρ x x1) (R2 : VR B s.heap ρ y x2) :
    P1 (fun p => (∀ ρ' z h' tk', Cx B ρ' p.2 env m h' → Nx ρ (Fm env) s.heap ρ' h' → VR B h' ρ' p.1 z → Q z { s with heap := h', toks := tk' }) → wpAny (model prog w) A (binaryOp .Mult x1 x2) Q E s) (mulV x y st) := by
  rcases x <;> first | exact P1.no | skip
  · exact P1.onI fun j ej => P1.if fun hq => R1.elI fun t => R2.toI ej fun u => P1.of fun k => mul_int (k ρ _ s.heap _ X Nx.refl (.int _ _)) (IntMulOk.of_left (intBits_le_64 (by omega) (by omega)))
  · refine P1.onI fun j ej => P1.atL fun vs ex => R1.elR fun p hp => R2.toI ej fun u => (X.rel.objs _ _ p ex hp).elLi fun w1 n1 _ g1 r1 => ?_
    rcases vs with _ | ⟨v0, _ | _⟩ <;> first | exact P1.no | skip
    show P1 _ (if _ then _ else none)
    refine P1.if fun hq => P1.of fun k => X.frame.elim fun _ F => r1.elC (M := fun w1 => s.heap.get? p.1 = some (seqObj "list" w1.toArray n1) → _) (fun w0 _ R0 Rn => Rn.elN fun g1 => ?_) g1
    refine mul_list F.1 (allNews_news (B := B)) g1 (by omega) (by omega) (show 1 * _ ≤ _ by omega) fun h' F' N' => ?_
    obtain ⟨X3, N3⟩ := X.after F'.ns F.2 (allNews_kept (news := [_]) F'.keep X.rel.base N')
    have ho : h'.get? s.heap.objs.size = some (seqObj "list" (List.replicate j.toNat w0).toArray 0) := (N' _ (.head _)).1.trans (congrArg (fun z => some (seqObj "list" z 0)) ((rep_fold w0 j.toNat #[]).trans Array.empty_append))
    have fr := X.free (get_size s.heap)
    exact k _ _ h' _ (X3.add (o := .list (List.replicate j.toNat v0)) (p := (s.heap.objs.size, s.heap.objs.size)) (.list ho (VRs.rep ((X.vr N3 R0).mono (List.prefix_append _ _) fun _ _ t => t) _)) fr fr) (N3.add (get_size _) (get_size _)) X.rel.ref
theorem bin_get {op : Bop} {x y : V} {x1 x2 : Value} (X : Cx B ρ st env m s.heap) (R1 : VR B s.heap ρ x x1) (R2 : VR B s.heap ρ y x2) :
    P1 (fun p => (∀ ρ' z h' tk', Cx B ρ' p.2 env m h' → Nx ρ (Fm env) s.heap ρ' h' → VR B h' ρ' p.1 z → Q z { s with heap := h', toks := tk' }) → wpAny (model prog w) A (binaryOp (opOf op) x1 x2) Q E s) (binV op x y st) := by
  rcases op
  · exact add_get X R1 R2
  · exact P1.onI fun i ei => P1.onI fun j ej => R1.toI ei fun t => R2.toI ej fun u => P1.of fun k => sub_int (k ρ _ s.heap _ X Nx.refl (.int _ _))
  · exact mul_get X R1 R2
  · exact P1.onI fun i ei => P1.onI fun j ej => P1.if fun hq => R1.toI ei fun t => R2.toI ej fun u => P1.of fun k =>
      floordiv_int (Int.ne_of_gt hq.1) (k ρ _ s.heap _ X Nx.refl (Int.fdiv_eq_ediv_of_nonneg _ (Int.le_of_lt hq.1) ▸ .int _ _)) (Or.inl (PyProof.noPylong_small (by omega)))
  · exact P1.onI fun i ei => P1.onI fun j ej => P1.if fun hq => R1.toI ei fun t => R2.toI ej fun u => P1.of fun k =>
      mod_int' (Int.ne_of_gt hq.1) (k ρ _ s.heap _ X Nx.refl (Int.fmod_eq_emod_of_nonneg _ (Int.le_of_lt hq.1) ▸ .int _ _))
theorem ok_bin {a b : Expr} {op : Bop} {pos : Pos} {x y : V} (Ha : EvOk prog w B d env a m st x st1) (Hb : EvOk prog w B d env b m st1 y st2) : P1 (fun p => EvOk prog w B d env (.BinOp a (opOf op) b pos) m st p.1 p.2) (binV op x y st2) :=
  fun p e _ _ _ _ _ hR X k => wpAny_BinOp (ev2 Ha Hb hR X fun _ _ _ _ _ X2 N2 R1 R2 => bin_get X2 R1 R2 p e fun ρ' z h' tk' X' N' => k ρ' z h' tk' X' (Nx.trans X N2 X2 N'))
end
end Mine
end
section
open PySem PySem.W PySem.Calls PyProof.Rows
namespace Mine
theorem mkB {a b : Bool} (h : a = true) (g : b = true) : (a && b) = true := Bool.and_eq_true_iff.mpr ⟨h, g⟩
section
variable {prog : Program} {w : World} {K : Frag} {P : Program} {loose : List Str} {mg mb : Str → Option Value} {B : Heap} {A : Around} {ρ : List (Addr × Addr)} {d : Nat} {env : Env} {m : Lo} {st st1 st2 st3 st' : St}
theorem star_ex {pos : Pos} {a : Expr} (l : List Expr) (h : plainA a = true) : backTo pos (starEach (a :: l) env) = (false, eval a env) :: backTo pos (starEach l env) := congrArg (backTo pos) (star_cons h l env)
theorem back_plain {pos : Pos} {l : List Expr} : l.all plainA = true → (backTo pos (starEach l env)).any (·.1) = false ∧ (backTo pos (starEach l env)).all (fun x => !x.1) = true := by
  induction l with
  | nil => exact fun _ => ⟨rfl, rfl⟩
  | cons a l ih => exact fun h => star_ex l (b1 h) ▸ ih (b2 h)
theorem ev_args {pos : Pos} {f : Value} {l : List Expr} {s : Shared} {Q : Args → Shared → Prop} {E : Value → Shared → Prop} (hp : l.all plainA = true)
    (h : wpAny (model prog w) A (spliced (backTo pos (starEach l env))) (fun vs s₁ => Q ⟨vs, []⟩ s₁) E s) : wpAny (model prog w) A (evalArgs f true (backTo pos (starEach l env)) []) Q E s := by
  rcases l with _ | ⟨a, l⟩
  · show wpAny _ _ (spliced (backTo pos (starEach [] env)) >>= _) Q E s
    exact wpAny_bind (wpAny_mono h (fun vs s' h' => wpAny_bind (wpAny_pure (wpAny_holding (wpAny_bind (wpAny_pure (wpAny_bind (wpAny_pure (wpAny_pure h')))))))) fun _ _ x => x)
  · rw [star_ex l (b1 hp)] at h ⊢
    exact evalArgs_plain h
theorem cw_blt {pos : Pos} {id : String} {first : List Value} {l : List Expr} {s : Shared} {Q E : Value → Shared → Prop} (hp : l.all plainA = true)
    (h : wpAny (model prog w) A (spliced (backTo pos (starEach l env))) (fun vs s₁ => wpAny (model prog w) A (call (.builtin id) (first ++ vs)) Q E s₁) E s) :
    wpAny (model prog w) A (callWith pos (.builtin id) first (backTo pos (starEach l env)) []) Q E s := callWith_builtin (back_plain hp).1 (ev_args hp h)
theorem cw_K {pos : Pos} {f : Value} {first : List Value} {l : List Expr} {s : Shared} {Q E : Value → Shared → Prop} (hp : l.all plainA = true) (hk : keepIn K f = true)
    (h : wpAny (model prog w) A (spliced (backTo pos (starEach l env))) (fun vs s₁ => K.In s₁.heap ∧ wpAny (model prog w) A (call f (first ++ vs)) Q E s₁) E s) :
    wpAny (model prog w) A (callWith pos f first (backTo pos (starEach l env)) []) Q E s := callWith_of (by rw [(back_plain hp).1]; rfl) (keeps_K hk) (ev_args hp h)
theorem meth_call {a : Expr} {x : Str} {apos pos : Pos} {l : List Expr} {s : Shared} {Q E : Value → Shared → Prop} (hb : ∀ whole, attributeBase a x env whole = whole) (hl : (apos.endLine == pos.line) = true) (hp : l.all plainA = true) (hn : l.length < 30)
    (h : wpAny (model prog w) A (eval a env) (fun ov s₁ => wpAny (model prog w) A (getMethod ov x (do return (← importBound a env).getD true)) (fun fx s₂ => wpAny (model prog w) A (callWith pos fx.1 fx.2 (backTo pos (starEach l env)) []) Q E s₂) E s₁) E s) :
    wpAny (model prog w) A (eval (.Call (.Attribute a x apos) l [] pos) env) Q E s := by
  rw [arm_eval_Call, hb]
  have hform : methodCallForm (l.length + ([] : List Keyword).length) (backTo pos (starEach l env)) (backToKw pos (keywordEach [] env)) = true := mkB (mkB (back_plain hp).2 rfl) (decide_eq_true hn)
  have hpos : methodCallPos true a env apos pos = pure pos := if_pos (Bool.or_eq_true_iff.mpr (.inr hl))
  refine wpAny_bind (wpAny_mono h (fun ov s₁ h₁ => wpAny_bind (wpAny_standAt ?_)) fun _ _ e => e)
  show wpAny _ _ (do
    let fx ← holding [ov] (calleeOf (methodCallForm (l.length + ([] : List Keyword).length) (backTo pos (starEach l env)) (backToKw pos (keywordEach [] env))) a env ov x)
    let callPos ← methodCallPos (methodCallForm (l.length + ([] : List Keyword).length) (backTo pos (starEach l env)) (backToKw pos (keywordEach [] env))) a env apos pos
    callWith callPos fx.1 fx.2 (backTo pos (starEach l env)) []) _ _ _
  rw [hform, hpos]
  exact wpAny_bind (wpAny_holding (wpAny_mono h₁ (fun fx s₂ h₂ => wpAny_bind (wpAny_pure h₂)) fun _ _ e => e))
theorem mEs_plain {ns : Nk} (es : Exs) : ∀ {l : List Expr}, mEs ns es l = true → l.all plainA = true :=
  es.rec (motive_1 := fun _ => True) (motive_3 := fun _ => True) (motive_2 := fun es => ∀ {l : List Expr}, mEs ns es l = true → l.all plainA = true) trivial (fun _ => trivial) (fun _ => trivial) trivial (fun _ _ _ => trivial) (fun _ _ _ _ _ => trivial) (fun _ _ => trivial) (fun _ _ => trivial)
    (fun _ _ _ _ _ => trivial) (fun _ _ _ _ _ _ _ _ => trivial) (fun _ _ => trivial) (fun _ _ => trivial) (fun _ _ _ _ _ _ => trivial) (fun _ _ => trivial) (fun _ _ => trivial) (fun _ _ _ _ => trivial) (fun _ _ _ _ => trivial) (fun _ _ => trivial) (fun _ _ _ => trivial) (fun _ _ _ => trivial)
    (fun _ _ _ _ _ => trivial) (fun _ _ _ _ => trivial) (fun _ _ => trivial) (fun _ _ _ _ => trivial) (fun _ _ => trivial) (fun _ _ => trivial) (fun _ _ => trivial) (fun _ _ _ _ => trivial) (fun _ _ _ _ => trivial) (fun _ _ => trivial) (fun _ _ => trivial)
    (fun _ _ _ => trivial) (fun _ _ _ _ _ => trivial) (fun _ _ _ _ _ => trivial) (fun _ _ _ _ _ _ _ => trivial) (fun {l} h => by rcases l; exact rfl; exact ff h) (fun e es _ ih l h => by
      rcases l
      · exact ff h
      · exact mkB (b1 h) (ih (b2 (b2 h)))) (fun _ _ => trivial) (fun _ _ => trivial) (fun _ _ _ _ => trivial)
theorem list_turn {h : Heap} {l : Addr} {xs ys : List Value} {n : Nat} {f : Array Value → Array Value} (ho : h.get? l = some (seqObj "list" xs.toArray n)) (e : f xs.toArray = ys.toArray) :
    ∃ n', (h.update l (Obj.mapSeq f)).get? l = some (seqObj "list" ys.toArray n') := by
  have hm : Obj.mapSeq f (seqObj "list" xs.toArray n) = seqObj "list" ys.toArray (if ys.toArray.size == xs.toArray.size then n else n + 1) := e ▸ rfl
  exact ⟨_, by rw [Heap.get?_update_self _ ho (by rw [hm]; rfl), hm]⟩
theorem Cx.turnL {h : Heap} {i n : Nat} {p : Addr × Addr} {vs : List V} {ws ws' : List Value} {f : Array Value → Array Value} (X : Cx B ρ st env m h) (hp : ρ[i]? = some p) (hpp : p.2 = p.1) (g : h.get? p.1 = some (seqObj "list" ws.toArray n)) (e : f ws.toArray = ws'.toArray) (R : VRs B h ρ vs ws') :
    Cx B ρ (st.set i (.list vs)) env m (h.update p.1 (Obj.mapSeq f)) ∧ Nx ρ (Fm env) h ρ (h.update p.1 (Obj.mapSeq f)) := by
  obtain ⟨n', g3⟩ := list_turn g e
  obtain ⟨p1, p2⟩ := p
  have z : p2 = p1 := hpp
  subst z
  exact X.setSame hp (.inl rfl) (Heap.SameBut.update _ _ _) fun up => .list g3 (R.map up)
theorem listV_at {v : V} : P1 (fun vs => ∃ i, v = .ref i ∧ st[i]? = some (.list vs) ∧ vs.length ≤ 4096) (listV st v) := P1.onR fun i e => P1.atL fun _ h => P1.if fun z => P1.of ⟨i, e, h, z⟩
theorem lm_call {a : Expr} {x : String} {id : String} {apos pos : Pos} {v : V} {vs0 : List V} {l : List Expr} {s : Shared} {Q E : Value → Shared → Prop} (hb : notBare a = true) (hl : (apos.endLine == pos.line) = true) (hp : l.all plainA = true) (hn : l.length < 30) (sl : Slot "list" (Str.ofString x) id) (ty : typeOf (.builtin id) = pure (.type "method_descriptor"))
    (Ha : EvOk prog w B d env a m st v st1) (e1 : listV st1 v = some vs0) (hR : Room d A) (X : Cx B ρ st env m s.heap)
    (k : ∀ ρ1 i p h1 tk1, v = .ref i → st1[i]? = some (.list vs0) → vs0.length ≤ 4096 → ρ1[i]? = some p → Cx B ρ1 st1 env m h1 → Nx ρ (Fm env) s.heap ρ1 h1 →
      wpAny (model prog w) A (spliced (backTo pos (starEach l env))) (fun vs s₁ => wpAny (model prog w) A (call (.builtin id) (.ref p.1 :: vs)) Q E s₁) E { s with heap := h1, toks := tk1 }) :
    wpAny (model prog w) A (eval (.Call (.Attribute a (Str.ofString x) apos) l [] pos) env) Q E s := by
  obtain ⟨i, ei, e2, z⟩ := listV_at _ e1
  refine meth_call (fun _ => base_whole hb) hl hp hn (ok_then Ha hR X fun ρ1 x1 h1 tk1 X1 N1 R1 => R1.toR ei fun p ha => (X1.rel.objs _ _ p e2 ha).elLi fun ws n _ g _ => ?_)
  exact getMethod_list_of sl ty ⟨_, g, rfl, _, rfl⟩ ⟨_, g, rfl⟩ (cw_blt hp (k ρ1 i p h1 tk1 ei e2 z ha X1 N1))
theorem ok_lapp {a b : Expr} {apos pos : Pos} {v l : V} {vs0 : List V} (hb : notBare a = true) (hl : (apos.endLine == pos.line) = true) (hp : plainA b = true) (Ha : EvOk prog w B d env a m st l st1) (e1 : listV st1 l = some vs0)
    (Hb : EvOk prog w B d env b m st1 v st2) : P1 (fun st3 => EvOk prog w B d env (.Call (.Attribute a "append" apos) [b] [] pos) m st .none st3) (appV st2 l v) :=
  P1.onR fun i ei => P1.atL fun vs e2 => P1.if fun hz => P1.of fun A ρ s Q E hR X k => lm_call hb hl (mkB hp rfl) (Nat.le_add_left 2 28) PySem.F.slot_list_append PySem.F.type_list_append Ha e1 hR X fun ρ1 i' p h1 tk1 ei' _ _ ha X1 N1 => by
    have z : i' = i := V.ref.inj (ei'.symm.trans ei)
    subst z
    rw [star_ex [] hp]
    refine spliced_cons (ok_then Hb hR X1 fun ρ2 x2 h2 tk2 X2 N2 R2 => spliced_nil ((X2.rel.objs _ _ p e2 (pre_get N2.pre ha)).elLi fun ws n hpp g Rs => ?_))
    obtain ⟨X3, N3⟩ := X2.turnL (f := fun xs => xs.push x2) (ws' := ws ++ [x2]) (pre_get N2.pre ha) hpp g (List.push_toArray ..) (Rs.append (.cons R2 .nil))
    exact call_meets PySem.F.slot_list_append ⟨_, g, rfl⟩ PySem.F.entry_list_append (PySem.F.args_list_append_2 _ _) (list_append p.1 ws.toArray n x2 (len_lineA Rs hz)) ⟨g, k ρ2 _ _ _ X3 (Nx.trans X (Nx.trans X N1 X1 N2) X2 N3) .none⟩
theorem ok_lext {a b : Expr} {apos pos : Pos} {v l : V} {vs0 : List V} (hb : notBare a = true) (hl : (apos.endLine == pos.line) = true) (hp : plainA b = true) (Ha : EvOk prog w B d env a m st l st1) (e1 : listV st1 l = some vs0)
    (Hb : EvOk prog w B d env b m st1 v st2) : P1 (fun st3 => EvOk prog w B d env (.Call (.Attribute a "extend" apos) [b] [] pos) m st .none st3) (extV st2 l v) :=
  P1.onR fun i ei => P1.onR fun j ej => P1.atL fun vs e2 => P1.atL fun us e4 => P1.if fun hz => P1.of fun A ρ s Q E hR X k => lm_call hb hl (mkB hp rfl) (Nat.le_add_left 2 28) PySem.F.slot_list_extend PySem.F.type_list_extend Ha e1 hR X fun ρ1 i' p h1 tk1 ei' _ _ ha X1 N1 => by
    have z : i' = i := V.ref.inj (ei'.symm.trans ei)
    subst z
    rw [star_ex [] hp]
    refine spliced_cons (ok_then Hb hR X1 fun ρ2 x2 h2 tk2 X2 N2 R2 => spliced_nil ((X2.rel.objs _ _ p e2 (pre_get N2.pre ha)).elLi fun ws n hpp g Rs => R2.toR ej fun r hr => (X2.rel.objs _ _ r e4 hr).elLi fun us' nu _ g4 Ru => ?_))
    have hz' : ws.toArray.size + us'.toArray.size ≤ sizeLine := by rw [List.size_toArray, List.size_toArray, vrs_len Rs, vrs_len Ru]; exact Nat.le_trans hz.2 line_is
    obtain ⟨X3, N3⟩ := X2.turnL (f := fun xs => xs ++ us'.toArray) (ws' := ws ++ us') (pre_get N2.pre ha) hpp g (List.append_toArray ..) (Rs.append Ru)
    exact call_meets PySem.F.slot_list_extend ⟨_, g, rfl⟩ PySem.F.entry_list_extend (PySem.F.args_list_extend_2 _ _) (AutoSeq1.list_extend_list_list_0 p.1 ws.toArray n r.1 us'.toArray nu (extend_door hz') (Nat.le_trans (Nat.le_add_right _ _) hz')) ⟨g, g4, k ρ2 _ _ _ X3 (Nx.trans X (Nx.trans X N1 X1 N2) X2 N3) .none⟩
theorem erase_last {ws : List Value} {x : Value} (e : ws[ws.length - 1]? = some x) : ws.toArray.eraseIdxIfInBounds (ws.toArray.size - 1) = ws.dropLast.toArray := by
  rcases ws with _ | ⟨a, ws⟩
  · exact nn e
  · simp [Array.eraseIdxIfInBounds, List.eraseIdx_eq_dropLast]
theorem ok_lpop {a : Expr} {apos pos : Pos} {l : V} (hb : notBare a = true) (hl : (apos.endLine == pos.line) = true) (Ha : EvOk prog w B d env a m st l st1) : P1 (fun p => EvOk prog w B d env (.Call (.Attribute a "pop" apos) [] [] pos) m st p.1 p.2) (popV st1 l) :=
  P1.onR fun i ei => P1.atL fun vs e2 => P1.ob fun v e => P1.if fun hz => P1.of fun A ρ s Q E hR X k => lm_call (vs0 := vs) hb hl rfl (Nat.le_add_left 1 29) PySem.F.slot_list_pop PySem.F.type_list_pop Ha (by rw [ei]; show atL st1 i _ = _; unfold atL; rw [e2]; exact if_pos hz) hR X fun ρ1 i' p h1 tk1 ei' _ _ ha X1 N1 => by
    have z : i' = i := V.ref.inj (ei'.symm.trans ei)
    subst z
    refine spliced_nil ((X1.rel.objs _ _ p e2 ha).elLi fun ws n hpp g Rs => ?_)
    obtain ⟨x, q, R2⟩ := vrs_get Rs (List.getLast?_eq_getElem?.symm.trans e)
    rw [← vrs_len Rs] at q
    obtain ⟨X3, N3⟩ := X1.turnL (f := fun xs => xs.eraseIdxIfInBounds (ws.toArray.size - 1)) (ws' := ws.dropLast) (vs := vs.dropLast) ha hpp g (erase_last q) (by rw [List.dropLast_eq_take, List.dropLast_eq_take, vrs_len Rs]; exact Rs.take _)
    exact call_meets PySem.F.slot_list_pop ⟨_, g, rfl⟩ PySem.F.entry_list_pop (PySem.F.args_list_pop_1 _) (PySem.MeetsSeq.list_pop_last p.1 ws.toArray n x (List.getElem?_toArray.trans q) (len_lineA Rs hz)) ⟨g, k ρ1 _ _ _ X3 (Nx.trans X N1 X1 N3) (X1.vr N3 R2)⟩
end
end Mine
end
section
open PySem PySem.W PySem.Calls PyProof.Rows
namespace Mine
theorem gl_el {M : Str → Prop} {ns : Nk} {id x : Str} (h : gl ns id x = true) (k : gl ns x x = true → M x) : M id := by
  have e := eq_of_beq (b1 (b1 h))
  subst e; exact k h
theorem fold_of {le : Int → Int → Prop} {f : Int → Int → Int} (hr : ∀ a, le a a) (ht : ∀ {a b c}, le a b → le b c → le a c) (h1 : ∀ a b, le (f a b) a) (h2 : ∀ a b, le (f a b) b) (hf : ∀ a b, f a b = a ∨ f a b = b) (r : List Int) :
    ∀ x, r.foldl f x ∈ x :: r ∧ ∀ a ∈ x :: r, le (r.foldl f x) a := by
  induction r with
  | nil => exact fun x => ⟨.head _, fun a h => List.mem_singleton.mp h ▸ hr _⟩
  | cons y r ih =>
    intro x
    obtain ⟨i1, i2⟩ := ih (f x y)
    have i3 := i2 _ (.head _)
    refine ⟨(List.mem_cons.mp i1).elim (fun e => (hf x y).elim (fun z => ?_) fun z => ?_) fun q => .tail _ (.tail _ q), fun a h => (List.mem_cons.mp h).elim (fun e => by rw [e]; exact ht i3 (h1 x y)) fun h => (List.mem_cons.mp h).elim (fun e => by rw [e]; exact ht i3 (h2 x y)) fun h => i2 a (.tail _ h)⟩
    · exact (e.trans z : List.foldl f x (y :: r) = x).symm ▸ .head _
    · exact (e.trans z : List.foldl f x (y :: r) = y).symm ▸ .tail _ (.head _)
theorem fold_min (r : List Int) (x : Int) : r.foldl min x ∈ x :: r ∧ ∀ a ∈ x :: r, r.foldl min x ≤ a := fold_of (le := (· ≤ ·)) Int.le_refl Int.le_trans Int.min_le_left Int.min_le_right (fun a b => (Int.le_total a b).imp Int.min_eq_left Int.min_eq_right) r x
theorem fold_max (r : List Int) (x : Int) : r.foldl max x ∈ x :: r ∧ ∀ a ∈ x :: r, a ≤ r.foldl max x := fold_of (le := fun a b => b ≤ a) Int.le_refl (fun h g => Int.le_trans g h) Int.le_max_left Int.le_max_right (fun a b => (Int.le_total b a).imp Int.max_eq_left Int.max_eq_right) r x
section
variable {prog : Program} {w : World} {K : Frag} {P : Program} {loose : List Str} {mg mb : Str → Option Value} {B : Heap} {A : Around} {ρ : List (Addr × Addr)} {d : Nat} {env : Env} {m : Lo} {st st1 st2 st3 st' : St}
theorem blt_call {id : Str} {x : String} {y : String} {p pos : Pos} {l : List Expr} {s : Shared} {Q E : Value → Shared → Prop} (S : Stat K P loose mg mb B) (X : Cx B ρ st env m s.heap) (hg : gl env.scope.names id (Str.ofString x) = true)
    (hx : x ∈ bltNames) (hv : bootBuiltins (Str.ofString x) = some (.builtin y)) (hn : Str.ofString x ≠ "__name__") (hp : l.all plainA = true)
    (h : wpAny (model prog w) A (spliced (backTo pos (starEach l env))) (fun vs s₁ => wpAny (model prog w) A (call (.builtin y) vs) Q E s₁) E s) :
    wpAny (model prog w) A (eval (.Call (.Name id p) l [] pos) env) Q E s :=
  Call_Name rfl (gl_el (M := fun id => wpAny (model prog w) A (eval (.Name id p) env) _ E s) hg fun hg => builtin_get S X (eq_of_beq (S.blt x hx)) hv hn hg (cw_blt hp h))
theorem sp1 {a : Expr} {pos : Pos} {v : V} {s : Shared} {Q : List Value → Shared → Prop} {E : Value → Shared → Prop} (hp : plainA a = true) (H : EvOk prog w B d env a m st v st1) (hR : Room d A) (X : Cx B ρ st env m s.heap)
    (k : ∀ ρ' x h' tk', Cx B ρ' st1 env m h' → Nx ρ (Fm env) s.heap ρ' h' → VR B h' ρ' v x → Q [x] { s with heap := h', toks := tk' }) : wpAny (model prog w) A (spliced (backTo pos (starEach [a] env))) Q E s := by
  rw [star_ex [] hp]
  exact spliced_cons (ok_then H hR X fun ρ' x h' tk' X' N' R' => spliced_nil (k ρ' x h' tk' X' N' R'))
theorem sp2 {a b : Expr} {pos : Pos} {v u : V} {s : Shared} {Q : List Value → Shared → Prop} {E : Value → Shared → Prop} (hp : plainA a = true) (hq : plainA b = true) (H : EvOk prog w B d env a m st v st1) (H2 : EvOk prog w B d env b m st1 u st2) (hR : Room d A) (X : Cx B ρ st env m s.heap)
    (k : ∀ ρ' x y h' tk', Cx B ρ' st2 env m h' → Nx ρ (Fm env) s.heap ρ' h' → VR B h' ρ' v x → VR B h' ρ' u y → Q [x, y] { s with heap := h', toks := tk' }) : wpAny (model prog w) A (spliced (backTo pos (starEach [a, b] env))) Q E s := by
  rw [star_ex [b] hp, star_ex [] hq]
  exact spliced_cons (ok_then H hR X fun ρ1 x h1 tk1 X1 N1 R1 => spliced_cons (ok_then H2 hR X1 fun ρ2 y h2 tk2 X2 N2 R2 => spliced_nil (k ρ2 x y h2 tk2 X2 (Nx.trans X N1 X1 N2) (X1.vr N2 R1) R2)))
theorem fit63 {h : Heap} {vs : List V} {ws : List Value} (R : VRs B h ρ vs ws) (hq : vs.length < 4294967296) : (ws.toArray.size : Int) < 2 ^ 63 := by
  show (ws.length : Int) < _
  rw [vrs_len R]; exact hi63 (Int.ofNat_lt.mpr hq)
theorem vr_len {h : Heap} {vs : List V} {ws : List Value} {tk : Tok} (R : VRs B h ρ vs ws) : VR B h ρ (.int vs.length) (.int ws.toArray.size tk) := by
  show VR B h ρ _ (.int (ws.length : Nat) tk)
  rw [vrs_len R]; exact .int _ _
theorem ok_len {a : Expr} {id : Str} {p pos : Pos} {v : V} (S : Stat K P loose mg mb B) (hg : gl env.scope.names id (Str.ofString "len") = true) (hp : plainA a = true) (H : EvOk prog w B d env a m st v st1) :
    P1 (fun k0 => EvOk prog w B d env (.Call (.Name id p) [a] [] pos) m st (.int k0) st1) (lenV st1 v) := by
  have go : ∀ {k0 : Int}, (∀ {A ρ s} {Q E : Value → Shared → Prop} {x}, Cx B ρ st1 env m s.heap → VR B s.heap ρ v x → (∀ t tk, VR B s.heap ρ (.int k0) t → Q t { s with toks := tk }) → wpAny (model prog w) A (call (.builtin "len") [x]) Q E s) → EvOk prog w B d env (.Call (.Name id p) [a] [] pos) m st (.int k0) st1 :=
    fun g A ρ s Q E hR X k => blt_call S X hg (by decide) (by rfl) (by decide) (mkB hp rfl) (sp1 hp H hR X fun ρ' x h' tk' X' N' R' => g (s := { s with heap := h', toks := tk' }) X' R' fun t tk R => k ρ' t h' tk X' N' R)
  rcases v <;> first | exact P1.no | skip
  · exact P1.atL fun vs e => P1.if fun hq => P1.of (go fun X' R' k => R'.elR fun p ha => (X'.rel.objs _ _ p e ha).isL fun ws g Rs => PyProof.Rows.len_list g (fit63 Rs hq) (k _ _ (vr_len Rs)))
  · exact P1.if fun hq => P1.of (go fun X' R' k => R'.elT fun _ ws g Rs => len_tuple g (fit63 Rs hq) (k _ _ (vr_len Rs)))
theorem ok_abs {a : Expr} {id : Str} {p pos : Pos} {i : Int} (S : Stat K P loose mg mb B) (hg : gl env.scope.names id (Str.ofString "abs") = true) (hp : plainA a = true) (H : EvOk prog w B d env a m st (.int i) st1) :
    EvOk prog w B d env (.Call (.Name id p) [a] [] pos) m st (.int i.natAbs) st1 := fun A ρ s Q E hR X k =>
  blt_call S X hg (by decide) (by rfl) (by decide) (mkB hp rfl) (sp1 hp H hR X fun ρ' x h' tk' X' N' R' => R'.elI fun t => call_abs_int fun u tk => by
    have : (if i < 0 then -i else i) = (i.natAbs : Int) := by split <;> omega
    rw [this]; exact k ρ' _ h' tk X' N' (.int _ _))
theorem min_is {i j : Int} : (if j < i then j else i) = min i j := by
  rw [Int.min_def]; split <;> split <;> omega
theorem max_is {i j : Int} : (if j > i then j else i) = max i j := by
  rw [Int.max_def]; split <;> split <;> omega
theorem ok_min2 {a b : Expr} {id : Str} {p pos : Pos} {i j : Int} (S : Stat K P loose mg mb B) (hg : gl env.scope.names id (Str.ofString "min") = true) (hp : plainA a = true) (hq : plainA b = true) (H : EvOk prog w B d env a m st (.int i) st1) (H2 : EvOk prog w B d env b m st1 (.int j) st2) :
    EvOk prog w B d env (.Call (.Name id p) [a, b] [] pos) m st (.int (min i j)) st2 := fun A ρ s Q E hR X k =>
  blt_call S X hg (by decide) (by rfl) (by decide) (mkB hp (mkB hq rfl)) (sp2 hp hq H H2 hR X fun ρ' x y h' tk' X' N' R1 R2 => R1.elI fun t => R2.elI fun u => X'.frame.elim fun _ F =>
    min_two_N hR.hd F.1 (allNews_news (B := B)) fun h2 tk F' N2 => by
      obtain ⟨X3, N3⟩ := X'.after F'.ns F.2 (allNews_kept (news := []) F'.keep X'.rel.base N2)
      exact k ρ' _ h2 tk X3 (Nx.trans X N' X' N3) (min_is ▸ .int _ _))
theorem ok_max2 {a b : Expr} {id : Str} {p pos : Pos} {i j : Int} (S : Stat K P loose mg mb B) (hg : gl env.scope.names id (Str.ofString "max") = true) (hp : plainA a = true) (hq : plainA b = true) (H : EvOk prog w B d env a m st (.int i) st1) (H2 : EvOk prog w B d env b m st1 (.int j) st2) :
    EvOk prog w B d env (.Call (.Name id p) [a, b] [] pos) m st (.int (max i j)) st2 := fun A ρ s Q E hR X k =>
  blt_call S X hg (by decide) (by rfl) (by decide) (mkB hp (mkB hq rfl)) (sp2 hp hq H H2 hR X fun ρ' x y h' tk' X' N' R1 R2 => R1.elI fun t => R2.elI fun u => X'.frame.elim fun _ F =>
    max_two_N hR.hd F.1 (allNews_news (B := B)) fun h2 tk F' N2 => by
      obtain ⟨X3, N3⟩ := X'.after F'.ns F.2 (allNews_kept (news := []) F'.keep X'.rel.base N2)
      exact k ρ' _ h2 tk X3 (Nx.trans X N' X' N3) (max_is ▸ .int _ _))
theorem ints_are {h : Heap} : ∀ {vs : List V} {ws : List Value}, VRs B h ρ vs ws → P1 (IntsAre ws) (intsOf vs)
  | [], _, R => R.elN (P1.of .nil)
  | _ :: _, _, R => R.elC fun _ _ A R => P1.onI fun _ ei => P1.obp (ints_are R) fun _ h => P1.of (A.toI ei fun _ => .cons _ _ h)
theorem ok_minL {a : Expr} {id : Str} {p pos : Pos} {v : V} (S : Stat K P loose mg mb B) (hg : gl env.scope.names id (Str.ofString "min") = true) (hp : plainA a = true) (H : EvOk prog w B d env a m st v st1) :
    P1 (fun p' => EvOk prog w B d env (.Call (.Name id p) [a] [] pos) m st p'.1 p'.2) (ob (listV st1 v) fun vs => ob (intsOf vs) fun is => ob (minOf is) fun k => some (.int k, st1)) :=
  P1.ob fun vs e => P1.ob fun is e1 => by
  rcases is with _ | ⟨i0, r⟩
  · exact P1.no
  · refine P1.of fun A ρ s Q E hR X k => blt_call S X hg (by decide) (by rfl) (by decide) (mkB hp rfl) (sp1 hp H hR X fun ρ' x h' tk' X' N' R' => ?_)
    obtain ⟨i, ei, e2, _⟩ := listV_at _ e
    refine R'.toR ei fun q ha => (X'.rel.objs _ _ q e2 ha).isL fun ws g Rs => X'.frame.elim fun _ F => min_list_N hR.hd F.1 (allNews_news (B := B)) (vs := ws) g (ints_are Rs _ e1) (Nat.succ_pos _) fun h2 M t tk F' N2 hM hle => ?_
    obtain ⟨X3, N3⟩ := X'.after F'.ns F.2 (allNews_kept (news := []) F'.keep X'.rel.base N2)
    obtain ⟨h1, h3⟩ := fold_min r i0
    exact k ρ' _ h2 tk X3 (Nx.trans X N' X' N3) (Int.le_antisymm (hle _ h1) (h3 _ hM) ▸ .int _ _)
theorem ok_maxL {a : Expr} {id : Str} {p pos : Pos} {v : V} (S : Stat K P loose mg mb B) (hg : gl env.scope.names id (Str.ofString "max") = true) (hp : plainA a = true) (H : EvOk prog w B d env a m st v st1) :
    P1 (fun p' => EvOk prog w B d env (.Call (.Name id p) [a] [] pos) m st p'.1 p'.2) (ob (listV st1 v) fun vs => ob (intsOf vs) fun is => ob (maxOf is) fun k => some (.int k, st1)) :=
  P1.ob fun vs e => P1.ob fun is e1 => by
  rcases is with _ | ⟨i0, r⟩
  · exact P1.no
  · refine P1.of fun A ρ s Q E hR X k => blt_call S X hg (by decide) (by rfl) (by decide) (mkB hp rfl) (sp1 hp H hR X fun ρ' x h' tk' X' N' R' => ?_)
    obtain ⟨i, ei, e2, _⟩ := listV_at _ e
    refine R'.toR ei fun q ha => (X'.rel.objs _ _ q e2 ha).isL fun ws g Rs => X'.frame.elim fun _ F => max_list_N hR.hd F.1 (allNews_news (B := B)) (vs := ws) g (ints_are Rs _ e1) (Nat.succ_pos _) fun h2 M t tk F' N2 hM hle => ?_
    obtain ⟨X3, N3⟩ := X'.after F'.ns F.2 (allNews_kept (news := []) F'.keep X'.rel.base N2)
    obtain ⟨h1, h3⟩ := fold_max r i0
    exact k ρ' _ h2 tk X3 (Nx.trans X N' X' N3) (Int.le_antisymm (h3 _ hM) (hle _ h1) ▸ .int _ _)
end
end Mine
end
section
open PySem PySem.W PySem.Calls PyProof.Rows
namespace Mine
section
variable {prog : Program} {w : World} {K : Frag} {P : Program} {loose : List Str} {mg mb : Str → Option Value} {B : Heap} {A : Around} {ρ : List (Addr × Addr)} {d : Nat} {env : Env} {m : Lo} {st st1 st2 st3 st' : St}
noncomputable def tyS : Ty → String
  | .int => "int"
  | .bool => "bool"
  | .tuple => "tuple"
theorem isi_call {t : Ty} {v : V} {x : Value} {s : Shared} {Q E : Value → Shared → Prop} (R : VR B s.heap ρ v x) :
    P1 (fun b => (∀ tk, Q (.bool b) { s with toks := tk }) → wpAny (model prog w) A (call (.builtin "isinstance") [x, .type (tyS t)]) Q E s) (isiV t v) := by
  rcases v <;> first | exact P1.no | skip
  · exact P1.of fun k => R.elN (M := fun x => wpAny (model prog w) A (call (.builtin "isinstance") [x, .type (tyS t)]) Q E s) (by
      rcases t
      · exact IsiPair.NoneType_int (k _)
      · exact IsiPair.NoneType_bool (k _)
      · exact IsiPair.NoneType_tuple (k _))
  · exact P1.of fun k => R.elB (M := fun x => wpAny (model prog w) A (call (.builtin "isinstance") [x, .type (tyS t)]) Q E s) (by
      rcases t
      · exact IsiPair.bool_int (k _)
      · exact IsiPair.bool_bool (k _)
      · exact IsiPair.bool_tuple (k _))
  · exact P1.of fun k => R.elI (M := fun x => wpAny (model prog w) A (call (.builtin "isinstance") [x, .type (tyS t)]) Q E s) fun u => by
      rcases t
      · exact IsiPair.int_int (k _)
      · exact IsiPair.int_bool (k _)
      · exact IsiPair.int_tuple (k _)
  · exact P1.of fun k => R.elT (M := fun x => wpAny (model prog w) A (call (.builtin "isinstance") [x, .type (tyS t)]) Q E s) fun y ws g _ => by
      obtain ⟨o, ho, hc, _⟩ := g
      rcases t
      · exact IsiPair.tuple_int ho hc (k _)
      · exact IsiPair.tuple_bool ho hc (k _)
      · exact IsiPair.tuple_tuple ho hc (k _)
theorem ty_is (t : Ty) : Str.ofString (tyS t) = tyN t ∧ tyS t ∈ bltNames ∧ bootBuiltins (tyN t) = some (.type (tyS t)) ∧ tyN t ≠ "__name__" ∧ nodbg (tyN t) = true := by
  rcases t <;> exact ⟨rfl, by decide, rfl, by decide, by decide⟩
theorem ok_isi {a : Expr} {id tn : Str} {p p2 pos : Pos} {v : V} {t : Ty} (S : Stat K P loose mg mb B) (hg : gl env.scope.names id (Str.ofString "isinstance") = true) (hp : plainA a = true) (ht : (tn == tyN t) = true) (hk : kindG env.scope.names tn = true)
    (H : EvOk prog w B d env a m st v st1) : P1 (fun b => EvOk prog w B d env (.Call (.Name id p) [a, .Name tn p2] [] pos) m st (.bool b) st1) (isiV t v) := fun b e A ρ s Q E hR X k =>
  blt_call S X hg (by decide) (by rfl) (by decide) (mkB hp rfl) (by
    have et := eq_of_beq ht
    subst et
    obtain ⟨f0, f1, f2, f3, f4⟩ := ty_is t
    rw [star_ex _ hp, star_ex (a := .Name (tyN t) p2) [] rfl]
    exact spliced_cons (ok_then H hR X fun ρ' x h' tk' X' N' R' => spliced_cons (builtin_get S X' (f0 ▸ eq_of_beq (S.blt _ f1)) f2 f3 (mkB (mkB (beq_self_eq_true _) hk) f4) (spliced_nil (isi_call (s := { s with heap := h', toks := tk' }) R' b e fun tk => k ρ' _ h' tk X' N' (.bool b))))))
theorem sub_upto {u : Expr} {p : Pos} (o i : Value) : subscripted (.Slice none (some u) none p) false o i = operate [i, o] (getItem o i) := rfl
theorem sub_rev {u : Expr} {p : Pos} (o i : Value) : subscripted (.Slice none none (some u) p) false o i = operate [o, i] (getItem o i) := rfl
theorem listpush {h : Heap} {vs : List V} {ws : List Value} (ob : Obj) {M : Addr → Prop} (X : Cx B ρ st env m h) (R : VRs B h ρ vs ws)
    (k : Cx B (ρ ++ [((h.push ob).objs.size, (h.push ob).objs.size)]) (st ++ [.list vs]) env m ((h.push ob).push (seqObj "list" ws.toArray 0)) → Nx ρ (Fm env) h (ρ ++ [((h.push ob).objs.size, (h.push ob).objs.size)]) ((h.push ob).push (seqObj "list" ws.toArray 0)) → M (h.push ob).objs.size) : M (h.push ob).objs.size := by
  obtain ⟨X1, N1⟩ := X.push ob
  obtain ⟨X2, N2⟩ := X1.pushList (X.vrs N1 R)
  exact k X2 (Nx.trans X N1 X1 N2)
theorem ok_rev {a : Expr} {p1 p2 p3 pos : Pos} {k0 : Nat} {v : V} (H : EvOk prog w B d env a m st v st1) :
    P1 (fun vs => EvOk prog w B d env (.Subscript a (.Slice none none (some (.UnaryOp .USub (.Constant (.int 1) k0 p3) p2)) p1) pos) m st (.ref st1.length) (st1 ++ [.list vs.reverse])) (listV st1 v) := fun vs e A ρ s Q E hR X k => by
  obtain ⟨i, ei, e1, hz⟩ := listV_at _ e
  refine Subscript_ (ok_then H hR X fun ρ1 x1 h1 tk1 X1 N1 R1 => R1.toR ei fun q ha => (X1.rel.objs _ _ q e1 ha).isL fun ws g Rs => wpAny_Slice ?_)
  rw [evalPart_none]
  refine wpAny_pure (wpAny_pure ?_)
  rw [evalPart_some]
  refine wpAny_UnaryOp (wpAny_Constant_int (neg_int ?_))
  refine tail_any (g.push _).typeIs slot_list_getitem.lookup (wpAny_getItem_list_slice (g.push _) (Heap.IsSliceOf.new ..) .none .none (.int (-1) _) (by decide) ?_ (len_lineA Rs hz)) (sub_rev _ _)
  rw [krv_pick]
  exact listpush { cls := .type "slice", data := .fields #[.none, .none, .int (-1) (tk1 + 1)] } (M := fun b => Q (.ref b) _) X1 Rs.rev fun X2 N2 => k _ _ _ (tk1 + 1 + 1) X2 (Nx.trans X N1 X1 N2) X1.rel.ref
end
end Mine
end
section
open PySem PySem.W PySem.Calls PyProof.Rows
namespace Mine
section
variable {prog : Program} {w : World} {K : Frag} {P : Program} {loose : List Str} {mg mb : Str → Option Value} {B : Heap} {A : Around} {ρ : List (Addr × Addr)} {d : Nat} {env : Env} {m : Lo} {st st1 st2 st3 st' : St}
theorem adjust_upto (b n : Nat) (hb : b ≤ n) : Builtin.Slice.sliceAdjust none (some (b : Int)) 1 (n : Int) = (0, (b : Int)) := by
  unfold Builtin.Slice.sliceAdjust
  have h1 : ¬ ((1 : Int) < 0) := by lia
  have h2 : ¬ ((b : Int) < 0) := by lia
  simp only [h1, h2, if_false]
  congr 1
  lia
theorem places_upto (b : Nat) : Builtin.Slice.slicePlaces 0 (b : Int) 1 = b := by
  unfold Builtin.Slice.slicePlaces
  have h1 : (1 : Int) > 0 := by lia
  simp only [h1, if_true, Int.ediv_one]
  split <;> lia
theorem sliceApplied_upto {E : Value → Shared → Prop} {s : Shared} {sl : Addr} {b n : Nat} {u : Tok} {Q : Int × Int × Nat → Shared → Prop} (hs : s.heap.IsSliceOf sl .none (.int b u) .none) (hb : b ≤ n) (h : Q (0, 1, b) s) :
    wpAny (model prog w) A (Builtin.Slice.sliceApplied (.ref sl) (pure (n : Int))) Q E s := by
  obtain ⟨os, hos, hcs, hds⟩ := id hs
  unfold Builtin.Slice.sliceApplied Builtin.Slice.sliceFields
  refine wpAny_bind (wpAny_bind (wpAny_field hos hds (x := .none) rfl (wpAny_bind (wpAny_field hos hds (x := .int b u) rfl (wpAny_bind (wpAny_field hos hds (x := .none) rfl (wpAny_pure ?_)))))))
  refine wpAny_bind (slicePart_none ?_)
  show wpAny _ _ (if ((1 : Int) == 0) = true then _ else _) _ _ s
  rw [if_neg (by decide)]
  refine wpAny_bind (slicePart_none (wpAny_bind (slicePart_int (wpAny_bind (wpAny_pure ?_)))))
  show wpAny _ _ (match Builtin.Slice.sliceAdjust none (some (b : Int)) 1 (n : Int) with | (lo, hi) => pure (lo, (1 : Int), Builtin.Slice.slicePlaces lo hi 1)) _ _ s
  rw [adjust_upto b n hb]
  show wpAny _ _ (pure ((0 : Int), (1 : Int), Builtin.Slice.slicePlaces 0 (b : Int) 1)) _ _ s
  rw [places_upto b]
  exact wpAny_pure h
theorem pick_upto (xs : Array Value) (b : Nat) : ((List.range b).filterMap fun (k : Nat) => xs[((0 : Int) + (k : Int) * 1).toNat]?).toArray = (xs.toList.take b).toArray := by
  have e : (fun (k : Nat) => xs[((0 : Int) + (k : Int) * 1).toNat]?) = fun k => xs[0 + k]? := by
    funext k
    have : ((0 : Int) + (k : Int) * 1).toNat = 0 + k := by lia
    rw [this]
  rw [e]
  have := pick_run xs 0 b
  rw [List.filterMap_map] at this
  have e2 : ((fun x => xs[x]?) ∘ fun x => 0 + x) = fun k => xs[0 + k]? := rfl
  rw [e2] at this
  rw [this, List.drop_zero]
theorem getItem_tuple_upto {E : Value → Shared → Prop} {s : Shared} {t sl : Addr} {items : Array Value} {b : Nat} {u : Tok} {Q : Value → Shared → Prop} (ht : IsTup s.heap t items) (hs : s.heap.IsSliceOf sl .none (.int b u) .none) (hb : b < items.size)
    (h : Q (.ref s.heap.objs.size) { s with heap := s.heap.push { cls := .type "tuple", data := .seq (items.toList.take b).toArray } })
    (hsz : items.size ≤ sizeLine) : wpAny (model prog w) A (getItem (.ref t) (.ref sl)) Q E s := by
  have hdrop : sizeOk (.seq (items.toList.take b).toArray) := by
    show (items.toList.take b).toArray.size ≤ sizeLine
    rw [List.size_toArray, List.length_take, Array.length_toList]
    lia
  obtain ⟨os, hos, hcs, hds⟩ := id hs
  have hTs : s.TypeIs (.ref sl) "slice" := ⟨os, hos, hcs⟩
  unfold getItem
  try with_reducible refine wpAny_holding ?_
  first | refine wpAny_bind (wpAny_pure ?_) | skip
  refine wpAny_bind (wpAny_sequenceKey ht.typeIs (by decide) ?_)
  refine wpAny_bind (wpAny_callSpecial?_slot (name := Str.ofString "__getitem__") ht.typeIs slot_tuple_getitem
    (wpAny_call_entry slot_tuple_getitem ht.typeIs entry_tuple_getitem ?_ (args_tuple_getitem _ _)))
  show wpAny _ _ (Builtin.Tuple.tupleItemsOf (.ref t) >>= _) _ _ s
  refine wpAny_bind (tupleItemsOf_ ht ?_)
  refine wpAny_bind (wpAny_typeOf hTs ?_)
  rw [if_pos (by decide)]
  refine wpAny_bind (sliceApplied_upto hs (Nat.le_of_lt hb) ?_)
  have hno : ¬ (((0 : Int) == 0 && (1 : Int) == 1 && b == items.size) = true) := by
    have : (b == items.size) = false := by rw [beq_eq_false_iff_ne]; lia
    rw [this]; simp
  show wpAny _ _ (if ((0 : Int) == 0 && (1 : Int) == 1 && b == items.size) = true then _ else _) _ _ s
  rw [if_neg hno, pick_upto items b]
  first
    | exact wpAny_bind (m := Builtin.Tuple.tupleExact _) (wpAny_newObj_type (wpAny_pure ⟨_, rfl, wpAny_pure h⟩) hdrop)
    | exact wpAny_bind (m := Builtin.Tuple.tupleExact _) (wpAny_newObj_type (wpAny_bind (wpAny_pure (wpAny_pure ⟨_, rfl, wpAny_pure h⟩))) hdrop)
    | exact wpAny_bind (wpAny_bind (m := Builtin.Tuple.tupleExact _) (wpAny_newObj_type (wpAny_pure (wpAny_pure ⟨_, rfl, wpAny_pure h⟩)) hdrop))
theorem ok_upto {a b : Expr} {p1 pos : Pos} {o kk : V} (H : EvOk prog w B d env a m st o st1) (H2 : EvOk prog w B d env b m st1 kk st2) :
    P1 (fun p => EvOk prog w B d env (.Subscript a (.Slice none (some b) none p1) pos) m st p.1 p.2) (uptoV st2 o kk) := P1.onI fun i ei => by
  have go : ∀ {v : V} {st3 : St}, (∀ {A : Around} {ρ : List (Addr × Addr)} {s : Shared} {Q E : Value → Shared → Prop} {sl : Addr} {t : Tok} {x : Value}, Cx B ρ st2 env m s.heap → VR B s.heap ρ o x → sl = s.heap.objs.size →
      (∀ ρ' z h', Cx B ρ' st3 env m h' → Nx ρ (Fm env) s.heap ρ' h' → VR B h' ρ' v z → Q z { s with heap := h' }) →
      wpAny (model prog w) A (subscriptTail a (.Slice none (some b) none p1) x (.ref sl)) Q E { s with heap := s.heap.push { cls := .type "slice", data := .fields #[.none, .int i t, .none] } }) →
      EvOk prog w B d env (.Subscript a (.Slice none (some b) none p1) pos) m st v st3 := fun g A ρ s Q E hR X k => by
    refine Subscript_ (ok_then H hR X fun ρ1 x1 h1 tk1 X1 N1 R1 => wpAny_Slice ?_)
    rw [evalPart_none]
    refine wpAny_pure ?_
    rw [evalPart_some]
    exact ok_then H2 hR X1 fun ρ2 x2 h2 tk2 X2 N2 R2 => R2.toI ei fun t => wpAny_pure (g (s := { s with heap := h2, toks := tk2 }) X2 (X1.vr N2 R1) rfl fun ρ' z h' X' N' R' => k ρ' z h' tk2 X' (Nx.trans X (Nx.trans X N1 X1 N2) X2 N') R')
  rcases o <;> first | exact P1.no | skip
  · refine P1.if fun hq => P1.of (go fun {A ρ s Q E sl t x} X2 R es k => R.elT fun y ws g Rs => ?_)
    obtain ⟨X3, N3⟩ := X2.push ({ cls := .type "slice", data := .fields #[.none, .int i t, .none] } : Obj)
    obtain ⟨X4, N4⟩ := X3.push ({ cls := .type "tuple", data := .seq (ws.take i.toNat).toArray } : Obj)
    have g3 := X2.tup N3 g
    have z : Heap.IsSliceOf (s.heap.push { cls := .type "slice", data := .fields #[.none, .int i t, .none] }) sl .none (.int (i.toNat : Nat) t) .none := by rw [Int.toNat_of_nonneg hq.1, es]; exact Heap.IsSliceOf.new ..
    exact tail_any (s := { s with heap := s.heap.push _ }) g3.typeIs slot_tuple_getitem.lookup (getItem_tuple_upto (s := { s with heap := s.heap.push _ }) g3 z (show _ < ws.length from (vrs_len Rs).symm ▸ hq.2.1) (k ρ _ _ X4 (Nx.trans X2 N3 X3 N4) (.tup (IsTup.new _ _) ((X3.vrs N4 (X2.vrs N3 Rs)).take _))) (len_lineA Rs hq.2.2)) (sub_upto _ _)
  · refine P1.if fun hq => P1.of (go fun {A ρ s Q E sl t x} X2 R es k => R.elL fun y ws g Rs => ?_)
    obtain ⟨og, ho, hc, n0, hd⟩ := g
    have hL : s.heap.IsList y ws.toArray := ⟨og, X2.rel.base _ _ ho, hc, n0, hd⟩
    have z : Heap.IsSliceOf (s.heap.push { cls := .type "slice", data := .fields #[.none, .int i t, .none] }) sl .none (.int (i.toNat : Nat) t) .none := by rw [Int.toNat_of_nonneg hq.1, es]; exact Heap.IsSliceOf.new ..
    refine tail_any (hL.push _).typeIs slot_list_getitem.lookup (wpAny_getItem_list_slice (hL.push _) z .none (.int _ _) .none (by decide) ?_ (len_lineA Rs hq.2)) (sub_upto _ _)
    rw [slicePick_upto']
    exact listpush { cls := .type "slice", data := .fields #[.none, .int i t, .none] } (M := fun b => Q (.ref b) _) X2 (Rs.take i.toNat) fun X3 N3 => k _ _ _ X3 N3 X2.rel.ref
end
end Mine
end
section
open PySem PySem.W PySem.Calls PyProof.Rows
namespace Mine
section
variable {prog : Program} {w : World} {K : Frag} {P : Program} {loose : List Str} {mg mb : Str → Option Value} {B : Heap} {A : Around} {ρ : List (Addr × Addr)} {d : Nat} {env : Env} {m : Lo} {st st1 st2 st3 st' : St}
noncomputable def idxTurn (xs : Array Value) (x : Value) : Nat → Option PySem.Fin × Unit → Sem (ForInStep (Option PySem.Fin × Unit)) := fun i __s =>
  match xs[i]? with
  | some y => do
    let __do_lift ← eqBool y x
    if __do_lift = true then do
        let __do_lift ← retInt ↑i
        pure (ForInStep.done (some __do_lift, ()))
      else pure (ForInStep.yield (none, ()))
  | x => pure (ForInStep.yield (none, ()))
theorem str_at {xs : List Value} {ss : List Str} {j : Nat} {y : Str} (hs : xs.map strOf = ss.map some) (hy : ss[j]? = some y) : ∃ t, xs.toArray[j]? = some (.str y t) := by
  have e : (xs.map strOf)[j]? = some (some y) := by rw [hs, List.getElem?_map, hy]; rfl
  rw [List.getElem?_map] at e
  obtain ⟨v, h1, h2⟩ := Option.map_eq_some_iff.mp e
  obtain ⟨t, h3⟩ := strOf_el h2
  exact ⟨t, List.getElem?_toArray.trans (h3 ▸ h1)⟩
theorem idx_loop {xs : List Value} {ss : List Str} {x : Str} {tk : Tok} {k : Nat} {s : Shared} {Q : Option PySem.Fin × Unit → Shared → Prop} {E : Value → Shared → Prop} (hs : xs.map strOf = ss.map some)
    (h1 : ss[k]? = some x) (h2 : ∀ j, j < k → ss[j]? ≠ some x) (q : Q (some (.done (.ret (.int k s.toks))), ()) { s with toks := s.toks + 1 }) (n : Nat) :
    ∀ i, i ≤ k → k < i + n → wpAny (model prog w) A (forIn (List.range' i n) ((none : Option PySem.Fin), ()) (idxTurn xs.toArray (.str x tk))) Q E s := by
  induction n with
  | zero => exact fun i a b => absurd b (Nat.not_lt_of_le a)
  | succ n ih =>
    intro i a b
    rw [List.range'_succ, List.forIn_cons]
    have hy := List.getElem?_eq_getElem (Nat.lt_of_le_of_lt a (List.getElem?_eq_some_iff.mp h1).1)
    obtain ⟨t, ht⟩ := str_at hs hy
    unfold idxTurn
    rw [ht]
    refine wpAny_bind (wpAny_bind (eqBool_str ?_))
    by_cases z : i = k
    · subst z
      rw [Option.some.inj (hy.symm.trans h1), beq_self_eq_true]
      exact wpAny_bind (wpAny_bind (wpAny_mkInt (wpAny_pure (wpAny_pure (wpAny_pure q)))))
    · have z := Nat.lt_of_le_of_ne a z
      rw [beq_eq_false_iff_ne.mpr fun e => h2 i z (hy.trans (congrArg some e))]
      exact wpAny_pure (ih (i + 1) z (by rw [Nat.succ_add]; exact b))
theorem tuple_index_body {t : Addr} {xs : List Value} {ss : List Str} {x : Str} {tk : Tok} {k : Nat} {s : Shared} {Q E : Value → Shared → Prop} (ht : IsTup s.heap t xs.toArray) (hs : xs.map strOf = ss.map some)
    (h1 : ss[k]? = some x) (h2 : ∀ j, j < k → ss[j]? ≠ some x) (q : Q (.int k s.toks) { s with toks := s.toks + 1 }) :
    wpAny (model prog w) A (call (.builtin "tuple.index") [.ref t, .str x tk]) Q E s := by
  have hk : k < xs.length := by
    have e := congrArg List.length hs
    rw [List.length_map, List.length_map] at e
    exact e ▸ (List.getElem?_eq_some_iff.mp h1).1
  refine wpAny_call_entry PySem.F.slot_tuple_index ht.typeIs PySem.F.entry_tuple_index ?_ (PySem.F.args_tuple_index_2 _ _)
  unfold Builtin.«tuple.index»
  refine wpAny_bind (m := selfAndSome "tuple.index" "index" 1 3 _) (wpAny_pure (wpAny_bind (tupleItemsOf_ ht ?_)))
  show wpAny _ _ (forIn [0:min xs.toArray.size xs.toArray.size] ((none : Option PySem.Fin), ()) (idxTurn xs.toArray (.str x tk)) >>= _) _ _ _
  rw [Std.Legacy.Range.forIn_eq_forIn_range']
  exact wpAny_bind (idx_loop hs h1 h2 (wpAny_pure ⟨_, rfl, q⟩) _ 0 (Nat.zero_le _) (by simp [Std.Legacy.Range.size]; exact hk))
noncomputable def nidxOk (p : Nat × Int) : Bool := decide (p.2 = p.2.toNat) && (decide (nmsL[p.2.toNat]? = some (nmS p.1)) && decide (∀ j, j < p.2.toNat → nmsL[j]? ≠ some (nmS p.1)))
theorem nidx_is {sI : Nat} {k : Int} (e : look sI nidxTab = some k) : ∃ n : Nat, k = n ∧ nmsL[n]? = some (nmS sI) ∧ ∀ j, j < n → nmsL[j]? ≠ some (nmS sI) :=
  have h := List.all_eq_true.mp (by decide +kernel : nidxTab.all nidxOk = true) _ (look_in e)
  ⟨k.toNat, of_decide_eq_true (b1 h), of_decide_eq_true (b1 (b2 h)), of_decide_eq_true (b2 (b2 h))⟩
theorem ok_nidx {a : Expr} {id : Str} {p apos pos : Pos} {v : V} (S : Stat K P loose mg mb B) (hg : gl env.scope.names id ("NAMES" : Str) = true) (hl : (apos.endLine == pos.line) = true) (hp : plainA a = true)
    (H : EvOk prog w B d env a m st v st1) : P1 (fun k0 => EvOk prog w B d env (.Call (.Attribute (.Name id p) "index" apos) [a] [] pos) m st (.int k0) st1) (onS v fun sI => look sI nidxTab) := P1.onS fun sI ei k0 e A ρ s Q E hR X k =>
  onTup_el (b2 S.names) fun xs n sl hk n2 => meth_call (fun _ => rfl) hl (mkB hp rfl) (Nat.le_add_left 2 28) (gl_el (M := fun id => wpAny (model prog w) A (eval (.Name id p) env) _ E s) hg fun hg => global_get S X (eq_of_beq (b1 S.names)) hg (by
    have hB : B.get? namesAt = _ := S.X _ _ hk
    have hT0 : s.heap.get? namesAt = _ := X.rel.base _ _ hB
    obtain ⟨kn, e0, e1, e2⟩ := nidx_is e
    exact getMethod_builtin ⟨_, hT0, rfl⟩ PySem.F.plainAttrs_tuple PySem.F.slot_tuple_index PySem.F.type_tuple_index (fun a e => by cases e; exact ⟨_, hT0, rfl⟩) (cw_blt (mkB hp rfl) (sp1 hp H hR X fun ρ' x h' tk' X' N' R' => R'.toS ei fun t hs =>
      tuple_index_body (xs := xs.toList) (ss := nmsL) ⟨_, X'.rel.base _ _ hB, rfl, _, rfl⟩ (eq_of_beq n2) e1 e2 (k ρ' _ h' _ X' N' (e0 ▸ .int _ _))))))
end
end Mine
end
section
open PySem PySem.W PySem.Calls PyProof.Rows
namespace Mine
theorem fm_congr {α β : Type} {f g : α → Option β} : ∀ {l : List α}, (∀ x ∈ l, f x = g x) → l.filterMap f = l.filterMap g
  | [], _ => rfl
  | a :: l, h => by
    rw [List.filterMap_cons, List.filterMap_cons, h a (.head _), fm_congr fun x hx => h x (.tail _ hx)]
theorem lk_t {β : Type} {y z : Str} {v : β} {r : List (Str × β)} (h : (y == z) = true) : List.lookup y ((z, v) :: r) = some v := by rw [List.lookup_cons, h]
theorem lk_f {β : Type} {y z : Str} {v : β} {r : List (Str × β)} (h : (y == z) = false) : List.lookup y ((z, v) :: r) = List.lookup y r := by rw [List.lookup_cons, h]
theorem zip_lookup (ns : List Str) : ∀ (vs : List Value), ns.Nodup → vs.length = ns.length → ns.filterMap (fun n => ((ns.zip vs).lookup n).map fun v => (n, v)) = ns.zip vs := by
  induction ns with
  | nil => exact fun _ _ _ => rfl
  | cons n ns ih =>
    intro vs hn h
    rcases vs with _ | ⟨v, vs⟩
    · exact nomatch h
    obtain ⟨h1, h2⟩ := List.nodup_cons.mp hn
    rw [List.zip_cons_cons, List.filterMap_cons, lk_t (beq_self_eq_true n)]
    exact congrArg (_ :: ·) ((fm_congr fun x hx => by rw [lk_f (beq_eq_false_iff_ne.mpr fun e => h1 (by rw [← e]; exact hx))]).trans (ih vs h2 (Nat.succ.inj h)))
theorem zip_isSome (ns : List Str) (n : Str) : ∀ (vs : List Value), vs.length = ns.length → n ∈ ns → ((ns.zip vs).lookup n).isNone = false := by
  induction ns with
  | nil => exact fun _ _ h => nomatch h
  | cons m ns ih =>
    intro vs h hm
    rcases vs with _ | ⟨v, vs⟩
    · exact nomatch h
    rw [List.zip_cons_cons]
    by_cases e : (n == m) = true
    · rw [lk_t e]; rfl
    · rw [lk_f (eq_false_of_ne_true e)]
      exact ih vs (Nat.succ.inj h) ((List.mem_cons.mp hm).resolve_left fun z => e (beq_iff_eq.mpr z))
theorem zip_none (ns : List Str) (vs : List Value) (hl : vs.length = ns.length) (m : Nat) : ¬ ((!(List.filter (fun n => ((ns.zip vs).lookup n).isNone) (ns.take m)).isEmpty) = true) := by
  rw [List.filter_eq_nil_iff.mpr fun a ha => by rw [zip_isSome ns a vs hl (List.mem_of_mem_take ha)]; exact Bool.noConfusion]; exact Bool.noConfusion
theorem fnil {β σ α : Type} {l : List β} {s0 : σ} {f : β → σ → Sem (ForInStep σ)} {k : σ → Sem α} (hl : l = []) : (forIn l s0 f >>= k) = k s0 := by rw [hl]; rfl
theorem zip_drop {α β : Type} {l : List α} {i j : Nat} : (l.drop i).zip (List.drop j ([] : List β)) = [] := by rw [List.drop_nil, List.zip_nil_right]
theorem bind_plain {fd : FuncData} {vals : List Value} (h1 : fd.params.posonlyargs = []) (h2 : fd.params.vararg = none) (h3 : fd.params.kwonlyargs = []) (h4 : fd.params.kwarg = none) (h5 : fd.defaults = .none)
    (hl : vals.length = (fd.params.args.map (·.arg)).length) (hn : (fd.params.args.map (·.arg)).Nodup) : bindArgs fd ⟨vals, []⟩ = pure ((fd.params.args.map (·.arg)).zip vals) := by
  obtain ⟨nm, qn, ⟨po, ag, va, ko, kd, ka, df⟩, bo, sc, gl, cl, df2, kdf⟩ := fd
  subst h1 h2 h3 h4 h5
  have g1 : ¬ ((decide (vals.length > (List.map (fun x => x.arg) ag).length) && true) = true) := by rw [decide_eq_false (by rw [hl]; exact Nat.lt_irrefl _)]; exact Bool.noConfusion
  refine Eq.trans (if_neg g1) (Eq.trans (if_neg (zip_none _ _ hl _)) ?_)
  refine (fnil zip_drop).trans ?_
  show (pure (List.filterMap (fun n => (List.lookup n ((ag.map (·.arg)).zip vals)).map fun v => (n, v)) (ag.map (·.arg) ++ [])) : Sem _) = pure _
  rw [List.append_nil]
  exact congrArg pure (zip_lookup _ _ hn hl)
theorem cells_some (names : List (Str × NameKind)) : ∀ (n : Nat) (acc : List (Str × Addr)) (y : Str), names.lookup y = some .cell ∨ (acc.lookup y).isSome = true → ((cellsFrom n names acc).lookup y).isSome = true := by
  induction names with
  | nil => exact fun n acc y h => h.elim (fun h => nn h) id
  | cons p r ih =>
    intro n acc y h
    obtain ⟨z, kd⟩ := p
    show (List.lookup y (if (kd == .cell) = true then cellsFrom (n + 1) r ((z, n) :: acc) else cellsFrom n r acc)).isSome = true
    by_cases q : (kd == .cell) = true
    · rw [if_pos q]
      refine ih _ _ y ?_
      by_cases e : (y == z) = true
      · exact .inr (by rw [lk_t e]; rfl)
      · rw [lk_f (eq_false_of_ne_true e)] at h ⊢; exact h
    · rw [if_neg q]
      refine ih _ _ y (h.imp_left fun h => ?_)
      by_cases e : (y == z) = true
      · rw [lk_t e] at h; exact absurd (by rw [Option.some.inj h]; rfl) q
      · rw [lk_f (eq_false_of_ne_true e)] at h; exact h
theorem bind_other (kf : Str → Option NameKind) (y : Str) (bs : List (Str × Value)) : ∀ (m : Str → Option Value), (∀ b ∈ bs, b.1 ≠ y) → bindL kf bs m y = m y ∧ bindC kf bs m y = m y := by
  induction bs with
  | nil => exact fun _ _ => ⟨rfl, rfl⟩
  | cons p r ih =>
    intro m h
    have ne : ¬ y = p.1 := fun e => h p (.head _) e.symm
    have h' : ∀ b ∈ r, b.1 ≠ y := fun b hb => h b (.tail _ hb)
    refine ⟨(ih _ h').1.trans ?_, (ih _ h').2.trans ?_⟩
    · by_cases q : kf p.1 = some .local
      · rw [if_pos q]; exact if_neg ne
      · rw [if_neg q]
    · by_cases q : kf p.1 = some .local
      · rw [if_pos q]
      · rw [if_neg q]; exact if_neg ne
theorem bound_is {B h : Heap} {ρ : List (Addr × Addr)} (kf : Str → Option NameKind) (ps : List Nat) : ∀ {args : List V} {xs : List Value} (m cm : Str → Option Value), ps.Nodup → (∀ p ∈ ps, p < nmN) → VRs B h ρ args xs →
    ∀ x v, x < nmN → look x (ps.zip args) = some v → x ∈ ps ∧ ∃ z, VR B h ρ v z ∧ (kf (nmS x) = some .local → bindL kf ((ps.map nmS).zip xs) m (nmS x) = some z) ∧ (kf (nmS x) ≠ some .local → bindC kf ((ps.map nmS).zip xs) cm (nmS x) = some z) := by
  induction ps with
  | nil => exact fun _ _ _ _ _ _ _ _ e => nn e
  | cons p ps ih =>
    intro args xs m cm hn hp R x v hx e
    rcases args with _ | ⟨a, args⟩
    · exact nn e
    obtain ⟨n1, n2⟩ := List.nodup_cons.mp hn
    refine R.elC (M := fun xs => x ∈ p :: ps ∧ ∃ z, VR B h ρ v z ∧ (kf (nmS x) = some .local → bindL kf (((p :: ps).map nmS).zip xs) m (nmS x) = some z) ∧ (kf (nmS x) ≠ some .local → bindC kf (((p :: ps).map nmS).zip xs) cm (nmS x) = some z)) fun w xs R Rs => ?_
    replace e : (if x = p then some a else look x (ps.zip args)) = some v := e
    by_cases q : x = p
    · rw [if_pos q] at e
      have hne : ∀ b ∈ (ps.map nmS).zip xs, b.1 ≠ nmS x := fun b hb e => by
        obtain ⟨y, hy, hyb⟩ := List.mem_map.mp (List.of_mem_zip (show (b.1, b.2) ∈ _ from hb)).1
        exact n1 (q ▸ nmS_inj (hp y (.tail _ hy)) hx (hyb.trans e) ▸ hy)
      refine ⟨q ▸ .head _, w, Option.some.inj e ▸ R, fun hk => ((bind_other kf _ _ _ hne).1).trans ?_, fun hk => ((bind_other kf _ _ _ hne).2).trans ?_⟩
      · rw [← q, if_pos hk]; exact if_pos rfl
      · rw [← q, if_neg hk]; exact if_pos rfl
    · rw [if_neg q] at e
      obtain ⟨z0, z, z1, z2, z3⟩ := ih (if kf (nmS p) = some .local then fun y => if y = nmS p then some w else m y else m) (if kf (nmS p) = some .local then cm else fun y => if y = nmS p then some w else cm y) n2 (fun p' hp' => hp p' (.tail _ hp')) Rs x v hx e
      exact ⟨.tail _ z0, z, z1, z2, z3⟩
theorem nm_map_nodup {l : List Nat} : l.Nodup → (∀ p ∈ l, p < nmN) → (l.map nmS).Nodup := by
  induction l with
  | nil => exact fun _ _ => List.nodup_nil
  | cons a l ih =>
    intro h1 h2
    obtain ⟨h3, h4⟩ := List.nodup_cons.mp h1
    refine List.nodup_cons.mpr ⟨fun hm => ?_, ih h4 fun p hp => h2 p (.tail _ hp)⟩
    obtain ⟨y, hy, e⟩ := List.mem_map.mp hm
    exact h3 (nmS_inj (h2 y (.tail _ hy)) (h2 a (.head _)) e ▸ hy)
section
variable {prog : Program} {w : World} {K : Frag} {P : Program} {loose : List Str} {mg mb : Str → Option Value} {B : Heap} {A : Around} {ρ : List (Addr × Addr)} {d : Nat} {st st' : St}
theorem call_frame {s s1 : Shared} {env : Env} {ps : List Nat} {args : List V} {xs : List Value} (X : Rel B ρ st s.heap) (Rs : VRs B s.heap ρ args xs) (hk : env.scope.kind = .function) (hg : env.globals = mainGlobals) (hb : env.builtins = builtinsNs)
    (hL : env.locals = s.heap.objs.size) (hcl : env.cells = cellsFrom (s.heap.objs.size + 1) env.scope.names []) (hn : ps.Nodup) (hp : ∀ p ∈ ps, p < nmN ∧ kindL env.scope.names (nmS p) = true)
    (I : InCallC s env.locals (bindL env.kindOf ((ps.map nmS).zip xs) fun _ => none) env.cells (bindC env.kindOf ((ps.map nmS).zip xs) fun _ => none) s1) :
    Cx B ρ st env (ps.zip args) s1.heap ∧ ∀ b, Fm env b → s.heap.objs.size ≤ b := by
  have keep := I.toInCall.keep
  have ht : ∀ x ws, IsTup s.heap x ws → IsTup s1.heap x ws := fun x ws t => t.keeps keep
  have big : ∀ b, Fm env b → s.heap.objs.size ≤ b := fun b f => f.elim (fun e => Nat.le_of_eq (e.trans hL).symm) fun q => q.elim fun y hy => hL ▸ Nat.le_of_lt (I.above _ _ (mem_of_lookup hy))
  have gone : ∀ b, Fm env b → s.heap.get? b = none := fun b f => Heap.get?_none_of_le (big b f)
  have bnd := fun x v hx e => bound_is (B := B) (h := s.heap) (ρ := ρ) env.kindOf ps (fun _ => none) (fun _ => none) hn (fun p h => (hp p h).1) Rs x v hx e
  have cl : ∀ {y}, env.kindOf y = some .cell → ∃ c, env.cells.lookup y = some c := fun h => Option.isSome_iff_exists.mp (hcl ▸ cells_some _ _ _ _ (.inl h))
  refine ⟨⟨⟨X.len, fun a o p h1 h2 => (X.objs a o p h1 h2).mono (List.prefix_refl _) ht (keep _) (keep _), X.inj, X.fresh, fun b o e => keep b o (X.base b o e), Nat.le_trans X.size (hL ▸ Nat.le_of_lt I.toInCall.ns.lt)⟩,
    ⟨hk, hg, hb, ⟨_, I.toInCall.ns, fun x v hx e hkk => ?_⟩, fun x v hx e hkk => ?_, fun y c hy => Exists.elim (I.cell _ _ hy) fun o q => ⟨o, _, q⟩, fun y hy => cl hy, fun y z c h1 h2 => name_of_addr I.apart (mem_of_lookup h1) (mem_of_lookup h2),
    fun b f => ⟨(someOr _).resolve_right fun q => nn ((gone b f).symm.trans (X.base b _ q.choose_spec)), fun g => nn ((gone b f).symm.trans (X.foot_some g).choose_spec)⟩, hL ▸ X.size⟩⟩, big⟩
  · obtain ⟨_, z, z1, z2, _⟩ := bnd x v hx e
    exact ⟨z, z2 hkk, z1.mono (List.prefix_refl _) ht⟩
  · obtain ⟨hm, z, z1, _, z3⟩ := bnd x v hx e
    have hcell : env.kindOf (nmS x) = some .cell := hkk.elim id fun h => kindL_el (hp x hm).2 (fun q => nomatch h.symm.trans q) id
    obtain ⟨c, hc⟩ := cl hcell
    obtain ⟨o, ho, hd⟩ := I.cell _ _ hc
    exact ⟨c, o, z, hc, ho, hd.trans (congrArg _ (z3 fun q => nomatch hcell.symm.trans q)), z1.mono (List.prefix_refl _) ht⟩
theorem call_end {s s1 : Shared} {env : Env} {m' : Lo} {ρ' : List (Addr × Addr)} {h' : Heap} (keep : ∀ b o, s.heap.get? b = some o → s1.heap.get? b = some o) (big : ∀ b, Fm env b → s.heap.objs.size ≤ b)
    (X' : Cx B ρ' st' env m' h') (N : Nx ρ (Fm env) s1.heap ρ' h') : Rel B ρ' st' h' ∧ Nx ρ (fun _ => False) s.heap ρ' h' :=
  ⟨X'.rel, N.pre, fun b o e f _ => N.keep b o (keep b o e) f fun g => absurd (Heap.lt_size e) (Nat.not_lt.mpr (big b g)), fun b f => (N.grow b f).imp_right fun q => (someOr _).resolve_right fun z => nn (q.symm.trans (keep b _ z.choose_spec))⟩
theorem call_ok {f : Nat} {F : Fn} {args : List V} {r : Option V} {m' : Lo} (S : Stat K P loose mg mb B) (hf : fns[f]? = some F) (hl : F.ps.length = args.length)
    (H : ∀ env body, mSs env.scope.names F.body body = true → ExOk prog w B d env body (F.ps.zip args) st r m' st') : CallOk prog w B (d + 1) (fa f) args st (r.getD .none) st' := fun A ρ s xs R hR X Rs k =>
  onFn_el (S.fn f F hf) fun c dd fd sl hK ck => onSt_el (b1 (b2 (b2 (b2 ck)))) fun body hbody c1 => by
    have c2 := b2 (b2 (b2 (b2 ck))); have c3 := b2 c2; have c4 := b2 c3; have c5 := b2 c4; have c6 := b2 c5; have c7 := b2 c6; have c8 := b2 c7; have c9 := b2 c8; have c10 := b2 c9; have c11 := b2 c10; have c12 := b2 c11; have c13 := b2 c12; have c14 := b2 c13; have c15 := b2 c14
    have e3 := eq_of_beq (b1 c3)
    have np := of_decide_eq_true (b2 c15)
    have hp : ∀ p ∈ F.ps, p < nmN ∧ kindL fd.scope.names (nmS p) = true := fun p h => have z := List.all_eq_true.mp (b1 c15) p h; ⟨of_decide_eq_true (b1 z), b2 z⟩
    have hbind := bind_plain (fd := fd) (vals := xs) (List.isEmpty_iff.mp (b1 c2)) (Option.isNone_iff_eq_none.mp (b1 c4)) (List.isEmpty_iff.mp (b1 c5)) (Option.isNone_iff_eq_none.mp (b1 c6)) (eq_of_beq (b1 c7)) (by rw [e3, List.length_map, vrs_len Rs, hl]) (e3 ▸ nm_map_nodup np fun p h => (hp p h).1)
    rw [e3] at hbind
    refine codeAny_call_cells (Nat.lt_of_le_of_lt (by rw [Nat.add_assoc]; exact Nat.le_add_right _ _) hR.dp) (X.base _ _ (S.X _ _ hK)) rfl ((S.T.nolimit).keeps X.base) (codeRec_of (X.inK S) (b1 c14)) hbody hbind (List.isEmpty_iff.mp (b1 c9)) (fun b hb => ?_) (fun s1 I => ?_) (no_ (b1 c13)) (no_ (b1 c12)) (eq_of_beq (b1 c11))
    · obtain ⟨y, hy, e⟩ := List.mem_map.mp (List.of_mem_zip (show (b.1, b.2) ∈ _ from hb)).1
      exact e ▸ kindL_el (hp y hy).2 .inl fun h => .inr ⟨h, cells_some _ _ _ _ (.inl h)⟩
    · obtain ⟨C, big⟩ := call_frame X Rs (env := callEnvC fd s.heap.objs.size (fa f)) (eq_of_beq (b1 c11)) (eq_of_beq (b1 c8)) (eq_of_beq (b1 c10)) rfl rfl np hp I
      obtain ⟨g1, tk1, hs1⟩ := I.toInCall.same
      refine H (callEnvC fd s.heap.objs.size (fa f)) body c1 _ ρ s1 _ _ ⟨hR.hd, by show A.depth + 1 + 8 * d + 16 < recursionLimit; have := hR.dp; omega, by show A.units + 3 + 64 * d + 256 ≤ cLine; have := hR.un; omega⟩ C fun ρ' fl h' tk' X' N' hfl => ?_
      obtain ⟨X2, N2⟩ := call_end I.toInCall.keep big X' N'
      have e1 : ({ s1 with heap := h', toks := tk' } : Shared) = { s with heap := h', toks := tk' } := by rw [hs1]
      rw [e1]
      rcases r with _ | v
      · exact hfl.symm ▸ k ρ' .none h' tk' X2 N2 .none
      · obtain ⟨x, e2, R2⟩ := hfl
        exact e2.symm ▸ k ρ' x h' tk' X2 N2 R2
end
end Mine
end
section
open PySem PySem.W PySem.Calls PyProof.Rows
namespace Mine
section
variable {prog : Program} {w : World} {K : Frag} {P : Program} {loose : List Str} {mg mb : Str → Option Value} {B : Heap} {A : Around} {ρ ρ' : List (Addr × Addr)} {d : Nat} {env : Env} {m : Lo} {st st1 st2 st3 st' : St} {h h' : Heap}
theorem Cx.called (X : Cx B ρ st env m h) (R : Rel B ρ' st' h') (N : Nx ρ (fun _ => False) h ρ' h') : Cx B ρ' st' env m h' ∧ Nx ρ (Fm env) h ρ' h' := by
  have kp : ∀ {b}, Fm env b → ∀ o, h.get? b = some o → h'.get? b = some o := fun f o e => N.keep _ o e (X.fr.new _ f).2 fun z => z
  obtain ⟨mm, hn, hv⟩ := X.fr.ns
  exact ⟨⟨R, X.fr.turn (hn.at' (kp (.inl rfl))) hv (fun _ _ r => r.mono N.pre fun _ _ t => X.rel.tup N t) (fun y c o hy e => kp (.inr ⟨y, hy⟩) o e) fun b f g => (N.grow b g).elim (X.fr.new b f).2 fun q => nn (q.symm.trans (X.fr.fm_some f).choose_spec)⟩, N.pre, fun b o e f _ => N.keep b o e f fun z => z, N.grow⟩
theorem wp_called {f : Addr} {args : List V} {v : V} {xs : List Value} {s : Shared} {Q E : Value → Shared → Prop} (HC : CallOk prog w B d f args st v st') (hR : RoomC d A) (X : Cx B ρ st env m s.heap) (R : VRs B s.heap ρ args xs)
    (k : ∀ ρ' x h' tk', Cx B ρ' st' env m h' → Nx ρ (Fm env) s.heap ρ' h' → VR B h' ρ' v x → Q x { s with heap := h', toks := tk' }) : wpAny (model prog w) A (call (.ref f) xs) Q E s :=
  wpAny_call (HC A ρ s xs _ hR X.rel R fun ρ' x h' tk' X' N' R' => have z := X.called X' N'; k ρ' x h' tk' z.1 z.2 R')
theorem ok_call {f : Nat} {F : Fn} {id : Str} {p pos : Pos} {l : List Expr} {vs : List V} {v : V} (S : Stat K P loose mg mb B) (hF : fns[f]? = some F) (hg : gl env.scope.names id (fnm f) = true) (hm : methIds.contains f = false) (hp : l.all plainA = true)
    (H : EvsOk prog w B d env l m st vs st1) (HC : CallOk prog w B d (fa f) vs st1 v st2) : EvOk prog w B d env (.Call (.Name id p) l [] pos) m st v st2 := fun A ρ s Q E hR X k =>
  Call_Name rfl (gl_el (M := fun id => wpAny (model prog w) A (eval (.Name id p) env) _ E s) hg fun hg => global_get S X (or_el (S.fnG f (List.getElem?_eq_some_iff.mp hF).1) (fun q => tf (q.symm.trans hm)) eq_of_beq) hg
    (cw_K hp (onFn_el (S.fn f F hF) fun _ _ _ _ _ ck => b1 (b2 (b2 ck))) (H A ρ s pos _ _ hR X fun ρ1 xs h1 tk1 X1 N1 R1 => ⟨X1.rel.inK S, wp_called (s := { s with heap := h1, toks := tk1 }) HC hR.c X1 R1 fun ρ2 x h2 tk2 X2 N2 R2 => k ρ2 x h2 tk2 X2 (Nx.trans X N1 X1 N2) R2⟩)))
theorem fn_keep {f : Addr} (h : fnIn K f = true) : keepIn K (.ref f) = true := by
  have key : ∀ o : Option Obj, (match o with | some ⟨_, _, .func _, _⟩ => true | _ => false) = true → (match o with | some ⟨_, _, .func _, _⟩ => true | some ⟨_, _, .cls _, _⟩ => specialIn K (.ref f) "__call__" == some (some (.builtin "type.__call__")) | _ => false) = true := fun o h => by
    rcases o with _ | ⟨c, dd, da, sl⟩
    · exact ff h
    · rcases da <;> first | rfl | exact ff h
  exact key _ h
theorem ok_meth {f n i c : Nat} {a : Expr} {x : Str} {apos pos : Pos} {l : List Expr} {vs : List V} {u v : V} {fs : List (Nat × V)} {cl : Cl} (S : Stat K P loose mg mb B) (hb : notBare a = true) (hl : (apos.endLine == pos.line) = true) (hn : nmOk n x = true) (hlen : l.length < 20) (hp : l.all plainA = true)
    (Ha : EvOk prog w B d env a m st u st1) (eu : u = .ref i) (e1 : st1[i]? = some (.inst c fs)) (e2 : look n fs = none) (e3 : clss[c]? = some cl) (e4 : look n cl.meths = some f)
    (H : EvsOk prog w B d env l m st1 vs st2) (HC : CallOk prog w B d (fa f) (.ref i :: vs) st2 v st3) : EvOk prog w B d env (.Call (.Attribute a x apos) l [] pos) m st v st3 := fun A ρ s Q E hR X k =>
  nm_el (M := fun x => wpAny (model prog w) A (eval (.Call (.Attribute a x apos) l [] pos) env) Q E s) hn fun hn => meth_call (fun _ => base_whole hb) hl hp (Nat.lt_trans hlen (by decide)) (ok_then Ha hR X fun ρ1 x1 h1 tk1 X1 N1 R1 => R1.toR eu fun p ha => (X1.rel.objs i _ p e1 ha).elIn fun es n0 g1 g2 g3 _ => by
    have ck := S.cl e3
    obtain ⟨k1, k2, k3⟩ := ck.meth n f e4
    obtain ⟨mm, F, hv⟩ := X1.frame
    exact method_inst F S.X ⟨g1, rfl, rfl, g2⟩ ck.plain k1 k2 (er_none hn g3 e2) (cw_K hp (fn_keep k3) (H A ρ1 _ pos _ _ hR X1 fun ρ2 xs h2 tk2 X2 N2 R2 => ⟨X2.rel.inK S,
      wp_called (s := { s with heap := h2, toks := tk2 }) HC hR.c X2 (.cons (.ref (pre_get N2.pre ha)) R2) fun ρ3 x3 h3 tk3 X3 N3 R3 => k ρ3 x3 h3 tk3 X3 (Nx.trans X (Nx.trans X N1 X1 N2) X2 N3) R3⟩)))
theorem room_make {A : Around} {d : Nat} {a : Args} (h : Room d A) : RoomC d (A.under (.builtin "type.__call__" a)) := by
  have f0 : (Code.builtin "type.__call__" a).frames = 0 := by with_unfolding_all rfl
  refine ⟨h.hd, ?_, ?_⟩
  · have := h.dp
    have e : (Code.builtin "type.__call__" a).weight ≤ 2 := by
      unfold Code.weight
      rw [f0, show (Code.builtin "type.__call__" a).isGuard = false by with_unfolding_all rfl, show (Code.builtin "type.__call__" a).isCaller = false by with_unfolding_all rfl]
      split <;> simp
    show A.depth + (Code.builtin "type.__call__" a).weight + 8 * d + 12 < recursionLimit
    omega
  · have := h.un
    have e : (Code.builtin "type.__call__" a).cUnits ≤ 4 := by
      unfold Code.cUnits
      simp only [f0]
      omega
    show A.units + (Code.builtin "type.__call__" a).cUnits + 64 * d + 200 ≤ cLine
    omega
theorem fresh_of {x : Addr} {news : List (Addr × Obj)} {o : Obj} (N : News B env.locals h' news) (hx : (x, o) ∈ news) (hb : ∀ p ∈ allNews B h env.locals, p.1 < x) : h.get? x = none :=
  (someOr _).resolve_right fun q => absurd (hb _ (mem_allNews.mpr ⟨q.choose_spec, (N _ hx).2⟩)) (Nat.lt_irrefl _)
theorem ok_new {c : Nat} {id : Str} {p pos : Pos} {l : List Expr} {vs : List V} {u : V} {cl : Cl} (S : Stat K P loose mg mb B) (hg : gl env.scope.names id (cnm c) = true) (e3 : clss[c]? = some cl) (hp : l.all plainA = true)
    (H : EvsOk prog w B d env l m st vs st1) (HC : CallOk prog w B d (fa cl.init) (.ref st1.length :: vs) (st1 ++ [.inst c []]) u st2) (eu : u = .none) : EvOk prog w B d env (.Call (.Name id p) l [] pos) m st (.ref st1.length) st2 := fun A ρ s Q E hR X k =>
  have ck := S.cl e3
  Call_Name rfl (gl_el (M := fun id => wpAny (model prog w) A (eval (.Name id p) env) _ E s) hg fun hg => global_get S X ck.glob hg (cw_K hp ck.keep (H A ρ s pos _ _ hR X fun ρ1 xs h1 tk1 X1 N1 R1 => ⟨X1.rel.inK S, by
    obtain ⟨mm, F, hv⟩ := X1.frame
    refine call_cls F S.X (allNews_news (B := B)) ck.makes ck.init ck.initF fun x dx h' F' N' hb hlt => ?_
    obtain ⟨X2, N2⟩ := X1.after F'.ns hv (allNews_kept (news := [_, _]) F'.keep X1.rel.base N')
    have f1 := fresh_of (env := env) (h := h1) N' (.tail _ (.head _)) hb
    have f2 := fresh_of (env := env) (h := h1) N' (.head _) fun q hq => Nat.lt_trans (hb q hq) hlt
    have X3 := X2.add (o := .inst c []) (p := (x, dx)) (.inst (N' _ (.head _)).1 (N' _ (.tail _ (.head _))).1 .nil fun f v e => nn e) (X1.free f2) (X1.free f1)
    have N3 := N2.add (p := (x, dx)) f2 f1
    refine HC _ _ { s with heap := h', toks := tk1 } (.ref x :: xs) _ (room_make hR) X3.rel (.cons (.ref (app_get (p := (x, dx)) X1.rel.len)) (X1.vrs N3 R1)) fun ρ4 x4 h4 tk4 X4 N4 R4 => R4.toN eu ?_
    obtain ⟨X5, N5⟩ := X3.called X4 N4
    exact ⟨rfl, k ρ4 _ h4 tk4 X5 (Nx.trans X (Nx.trans X N1 X1 N3) X3 N5) (.ref (p := (x, dx)) (pre_get N4.pre (app_get X1.rel.len)))⟩⟩)))
end
end Mine
end
section
open PySem PySem.W PySem.Calls PyProof.Rows
namespace Mine
theorem look_put {x y : Nat} {v : V} {m : Lo} : look x (put y v m) = if x = y then some v else look x m := by
  induction m with
  | nil => rfl
  | cons p r ih =>
    obtain ⟨z, u⟩ := p
    show look x (if y = z then (z, v) :: r else (z, u) :: put y v r) = if x = y then some v else if x = z then some u else look x r
    by_cases q : y = z
    · rw [if_pos q, q]
      show (if x = z then some v else look x r) = _
      by_cases p : x = z
      · rw [if_pos p, if_pos p]
      · rw [if_neg p, if_neg p, if_neg p]
    · rw [if_neg q]
      show (if x = z then some u else look x (put y v r)) = _
      by_cases p : x = z
      · rw [if_pos p, if_pos p, if_neg fun e => q (e.symm.trans p)]
      · rw [if_neg p, if_neg p, ih]
theorem lp_el {x y : Nat} {u v : V} {m : Lo} {P : Prop} (e : look x (put y v m) = some u) (k1 : x = y → u = v → P) (k2 : x ≠ y → look x m = some u → P) : P := by
  rw [look_put] at e
  by_cases q : x = y
  · rw [if_pos q] at e; exact k1 q (Option.some.inj e).symm
  · rw [if_neg q] at e; exact k2 q e
section
variable {prog : Program} {w : World} {K : Frag} {P : Program} {loose : List Str} {mg mb : Str → Option Value} {B : Heap} {A : Around} {ρ ρ' : List (Addr × Addr)} {d : Nat} {env : Env} {m m' : Lo} {st st1 st2 st3 st4 st' : St} {h h' : Heap}
theorem Cx.turn {mm : Str → Option Value} (X : Cx B ρ st env m h) (k : ∀ b o, h.get? b = some o → ¬ Fm env b → h'.get? b = some o) (sz : h'.objs.size = h.objs.size)
    (hn : h'.Ns env.locals mm) (hv : ∀ x v, x < nmN → look x m' = some v → env.kindOf (nmS x) = some .local → ∃ w, mm (nmS x) = some w ∧ VR B h ρ v w)
    (hc : ∀ x v, x < nmN → look x m' = some v → env.kindOf (nmS x) = some .cell ∨ env.kindOf (nmS x) = some .free → ∃ c o w, env.cells.lookup (nmS x) = some c ∧ h'.get? c = some o ∧ o.data = .cell (some w) ∧ VR B h ρ v w)
    (hok : ∀ y c, env.cells.lookup y = some c → ∃ o v0, h'.get? c = some o ∧ o.data = .cell v0) : Cx B ρ st env m' h' ∧ Nx ρ (Fm env) h ρ h' := by
  have ht : ∀ x ws, IsTup h x ws → IsTup h' x ws := fun x ws t => by
    obtain ⟨o, ho, hc, n, hd⟩ := t
    exact ⟨o, k x o ho (fun z => X.fr.fm_not z ho _ _ hd), hc, n, hd⟩
  have vr : ∀ {v w}, VR B h ρ v w → VR B h' ρ v w := fun R => R.mono (List.prefix_refl _) ht
  have kf : ∀ {b}, Foot ρ b → ∀ o, h.get? b = some o → h'.get? b = some o := fun f o e => k _ o e fun z => (X.fr.new _ z).2 f
  exact ⟨⟨⟨X.rel.len, fun a o p h1 h2 => (X.rel.objs a o p h1 h2).mono (List.prefix_refl _) ht (kf ⟨a, p, h2, .inl rfl⟩) (kf ⟨a, p, h2, .inr rfl⟩), X.rel.inj, X.rel.fresh, fun b o e => k b o (X.rel.base b o e) fun z => nn ((X.fr.new b z).1.symm.trans e), sz ▸ X.rel.size⟩,
    ⟨X.fr.kind, X.fr.glob, X.fr.blt, ⟨mm, hn, fun x v hx e hl => Exists.elim (hv x v hx e hl) fun z g => ⟨z, g.1, vr g.2⟩⟩, fun x v hx e hl => by obtain ⟨c, o, z, g1, g2, g3, g4⟩ := hc x v hx e hl; exact ⟨c, o, z, g1, g2, g3, vr g4⟩, hok, X.fr.has, X.fr.one, X.fr.new, X.fr.above⟩⟩, List.prefix_refl _, fun b o e _ g => k b o e g, fun b f => .inl f⟩
theorem store_name {x : Nat} {v : V} {z : Value} {s : Shared} {Q : Unit → Shared → Prop} {E : Value → Shared → Prop} (X : Cx B ρ st env m s.heap) (hx : x < nmN) (hk : kindL env.scope.names (nmS x) = true) (R : VR B s.heap ρ v z)
    (k : ∀ h' tk, Cx B ρ st env (put x v m) h' → Nx ρ (Fm env) s.heap ρ h' → Q () { s with heap := h', toks := tk }) : wpAny (model prog w) A (storeName env (nmS x) z) Q E s := by
  obtain ⟨mm, hn, hv⟩ := X.fr.ns
  have kx : ∀ {y k k'}, y = x → env.kindOf (nmS y) = some k' → env.scope.names.lookup (nmS x) = some k → some k = some k' := fun q h g => g.symm.trans (q ▸ h)
  refine kindL_el hk (fun hl => wpAny_storeName_local hl hn (fun h' hn' hs => ?_) (by rw [X.fr.kind]; rfl)) fun hl => ?_
  · have T := X.turn (m' := put x v m) (fun b o e f => (hs.2 b fun q => f (.inl q)).trans e) hs.1 hn' (fun y u hy e hl' => lp_el e (fun q q' => ⟨z, if_pos (congrArg nmS q), q' ▸ R⟩) fun q e => Exists.elim (hv y u hy e hl') fun z' g => ⟨z', (if_neg fun e => q (nmS_inj hy hx e)).trans g.1, g.2⟩)
      (fun y u hy e hc => lp_el e (fun q _ => hc.elim (fun hc => nomatch kx q hc hl) fun hc => nomatch kx q hc hl) fun q e => by
        obtain ⟨c, o, z', g1, g2, g3⟩ := X.fr.cel y u hy e hc
        exact ⟨c, o, z', g1, (hs.2 c (X.fr.cell_ne g1)).trans g2, g3⟩) (fun y c hy => by
        obtain ⟨o, v0, g1, g2⟩ := X.fr.celok y c hy
        exact ⟨o, v0, (hs.2 c (X.fr.cell_ne hy)).trans g1, g2⟩)
    exact k h' _ T.1 T.2
  · obtain ⟨c, hc⟩ := X.fr.has _ hl
    obtain ⟨o, v0, g1, g2⟩ := X.fr.celok _ _ hc
    refine wpAny_storeName_cell X.fr.kind hl hc ⟨o, g1, g2⟩ fun h' hcell hs => ?_
    obtain ⟨o2, h1, h2⟩ := hcell
    have T := X.turn (m' := put x v m) (mm := mm) (fun b o e f => (hs.2 b fun q => f (.inr ⟨_, q ▸ hc⟩)).trans e) hs.1 (hn.sameBut hs fun e => X.fr.cell_ne hc e.symm) (fun y u hy e hl' => lp_el e (fun q _ => nomatch kx q hl' hl) fun _ e => hv y u hy e hl')
      (fun y u hy e hcc => lp_el e (fun q q' => ⟨c, o2, z, q ▸ hc, h1, h2, q' ▸ R⟩) fun q e => by
        obtain ⟨c', o', z', q1, q2, q3⟩ := X.fr.cel y u hy e hcc
        exact ⟨c', o', z', q1, (hs.2 c' fun e => q (nmS_inj hy hx (X.fr.one _ _ _ q1 (e ▸ hc)))).trans q2, q3⟩) (fun y c' hy => by
        by_cases e : c' = c
        · exact ⟨o2, _, e ▸ h1, h2⟩
        · obtain ⟨o', v0', q1, q2⟩ := X.fr.celok y c' hy
          exact ⟨o', v0', (hs.2 c' e).trans q1, q2⟩)
    exact k h' _ T.1 T.2
theorem Cx.same (X : Cx B ρ st env m h) (e : ∀ x v, look x m' = some v → look x m = some v) : Cx B ρ st env m' h :=
  ⟨X.rel, X.fr.kind, X.fr.glob, X.fr.blt, Exists.elim X.fr.ns fun mm q => ⟨mm, q.1, fun x v hx z => q.2 x v hx (e x v z)⟩, fun x v hx q => X.fr.cel x v hx (e x v q), X.fr.celok, X.fr.has, X.fr.one, X.fr.new, X.fr.above⟩
end
end Mine
end
section
open PySem PySem.W PySem.Calls PyProof.Rows
namespace Mine
section
variable {prog : Program} {w : World} {K : Frag} {P : Program} {loose : List Str} {mg mb : Str → Option Value} {B : Heap} {A : Around} {ρ ρ' : List (Addr × Addr)} {d : Nat} {env : Env} {m m' : Lo} {st st1 st2 st3 st4 st' : St} {h h' : Heap}
theorem er_put {f : Nat} {v : V} {z : Value} {hs : Int} {t : Tok} (hf : f < nmN) (R : VR B h ρ v z) {fs : List (Nat × V)} {es : List DictEntry} (E : ER B h ρ fs es) : ER B h ρ (put f v fs) (putL (nmS f) hs (.str (nmS f) t) z es) := by
  induction E with
  | nil => exact .cons hf R .nil
  | @cons k u y h0 t0 fs es hk Ru Rs ih =>
    show ER B h ρ (if f = k then (k, v) :: fs else (k, u) :: put f v fs) (if (nmS k == nmS f) = true then ⟨h0, .str (nmS k) t0, z⟩ :: es else ⟨h0, .str (nmS k) t0, y⟩ :: putL (nmS f) hs (.str (nmS f) t) z es)
    rw [nm_beq hf hk]
    by_cases q : f = k
    · rw [if_pos q, if_pos (decide_eq_true q)]; exact .cons hk R Rs
    · rw [if_neg q, if_neg fun z => q (of_decide_eq_true z)]; exact .cons hk Ru ih
theorem er_len {fs : List (Nat × V)} {es : List DictEntry} (E : ER B h ρ fs es) : es.length = fs.length := by
  induction E with
  | nil => rfl
  | cons _ _ _ ih => exact congrArg (· + 1) ih
theorem er_map (up : ∀ v w, VR B h ρ v w → VR B h' ρ v w) {fs : List (Nat × V)} {es : List DictEntry} (E : ER B h ρ fs es) : ER B h' ρ fs es := by
  induction E with
  | nil => exact .nil
  | cons a b _ ih => exact .cons a (up _ _ b) ih
theorem putL_len (name : Str) (hs : Int) (key v : Value) (es : List DictEntry) : (putL name hs key v es).length ≤ es.length + 1 := by
  induction es with
  | nil => exact Nat.le_refl _
  | cons e r ih =>
    show (if e.key.isStr name = true then ⟨e.hash, e.key, v⟩ :: r else e :: putL name hs key v r).length ≤ r.length + 1 + 1
    by_cases q : e.key.isStr name = true
    · rw [if_pos q]; exact Nat.le_succ _
    · rw [if_neg q]; exact Nat.succ_le_succ ih
theorem upd_of {dx : Addr} {o o' : Obj} {l : List (Addr × Obj)} : (l.map (·.1)).Nodup → (dx, o) ∈ l → ∃ l', Upd dx o o' l l' ∧ (dx, o') ∈ l' ∧ ∀ p ∈ l, p.1 ≠ dx → p ∈ l' := by
  induction l with
  | nil => exact fun _ h => nomatch h
  | cons p r ih =>
    intro hn h
    rw [List.map_cons, List.nodup_cons] at hn
    by_cases e : p.1 = dx
    · have hp : p = (dx, o) := (List.mem_cons.mp h).elim Eq.symm fun h => absurd (List.mem_map.mpr ⟨_, h, e.symm⟩) hn.1
      exact ⟨(dx, o') :: r, hp ▸ .head fun q hq z => hn.1 (List.mem_map.mpr ⟨q, hq, z.trans e.symm⟩), .head _, fun q hq ne => .tail _ ((List.mem_cons.mp hq).resolve_left fun z => ne (z ▸ e))⟩
    · obtain ⟨l', u, m1, m2⟩ := ih hn.2 ((List.mem_cons.mp h).resolve_left fun q => e (congrArg (·.1) q).symm)
      exact ⟨p :: l', .tail e u, .tail _ m1, fun q hq ne => (List.mem_cons.mp hq).elim (fun z => z ▸ .head _) fun hq => .tail _ (m2 q hq ne)⟩
theorem set_attr {o : V} {f : Nat} {v : V} {x z : Value} {s : Shared} {Q : Unit → Shared → Prop} {E : Value → Shared → Prop} (S : Stat K P loose mg mb B) (X : Cx B ρ st env m s.heap) (hf : f < nmN) (ha : attrIds.contains f = true) (Ro : VR B s.heap ρ o x) (R : VR B s.heap ρ v z) :
    P1 (fun st' => (∀ h' tk, Cx B ρ st' env m h' → Nx ρ (Fm env) s.heap ρ h' → Q () { s with heap := h', toks := tk }) → wpAny (model prog w) A (setAttr x (nmS f) z) Q E s) (setAttrV clss st o f v) :=
  P1.onR fun a ea => P1.atI fun c fs hs => P1.ob fun cl hcl => P1.onZ fun hm => P1.if fun hlen => P1.of fun k => Ro.toR ea fun p hr => (X.rel.objs a _ p hs hr).elIn fun es n g1 g2 g3 g4 => by
    have ck := S.cl hcl
    have hgk : gk c f = true := mkB ha (by rw [hcl]; show (look f cl.meths).isNone = true; rw [hm]; rfl)
    obtain ⟨mm, F, hv⟩ := X.frame
    have fx : Foot ρ p.1 := ⟨a, p, hr, .inl rfl⟩
    have fd : Foot ρ p.2 := ⟨a, p, hr, .inr rfl⟩
    have nL : ¬ Foot ρ env.locals := (X.fr.new _ (.inl rfl)).2
    have xd : p.1 ≠ p.2 := fun q => by rw [q, g2] at g1; exact nomatch congrArg Obj.cls (Option.some.inj g1)
    obtain ⟨l', U, m1, m2⟩ := upd_of (o' := dictOf (putL (nmS f) (PyData.keyHash w.params (nmS f)) (.str (nmS f) (s.toks + 1)) z es) (putN (nmS f) es n)) allNews_nodup ((mem_allNews (L := env.locals) (B := B)).mpr ⟨g2, fun q => nL (q ▸ fd), X.rel.fresh _ fd⟩)
    refine W.set_dict F S.X (allNews_news (B := B)) ⟨g1, rfl, rfl, g2⟩ rfl ck.seta ck.over (ck.attr f hgk).2 ck.dict ?_ rfl U (Nat.le_trans (putL_len ..) (er_len g3 ▸ Nat.le_trans (Nat.succ_le_succ hlen) (by decide))) fun h' F' N' => ?_
    · rcases q : look f fs with _ | u
      · rw [er_none hf g3 q]; rfl
      · rw [(er_some hf g3 q).choose_spec.1]; rfl
    · have kp : ∀ b o, s.heap.get? b = some o → b ≠ env.locals → b ≠ p.2 → h'.get? b = some o := fun b o e n1 n2 =>
        (someOr (B.get? b)).elim (fun q => (N' (b, o) (m2 _ (mem_allNews.mpr ⟨e, n1, q⟩) n2)).1) fun q => Option.some.inj ((X.rel.base b _ q.choose_spec).symm.trans e) ▸ F'.keep b _ q.choose_spec
      obtain ⟨X2, N2⟩ := X.set (o' := .inst c (put f v fs)) hr (.inr rfl) F'.ns hv kp fun up =>
        .inst (kp _ _ g1 (fun q => nL (q ▸ fx)) xd) (N' _ m1).1 (er_put hf (up _ _ R) (er_map up g3)) fun f' v' hf' => lp_el hf' (fun q _ => q ▸ hgk) fun _ e => g4 f' v' e
      exact k h' _ X2 N2
theorem setItem_list_at {l : Addr} {items : Array Value} {k : Int} {t : Tok} {v : Value} {s : Shared} {Q : Unit → Shared → Prop} {E : Value → Shared → Prop} (hl : s.heap.IsList l items) (h0 : 0 ≤ k) (hfit : k < 2 ^ 63) (hj : k.toNat < items.size)
    (hQ : Q () { s with heap := s.heap.update l (Obj.mapSeq (·.setIfInBounds k.toNat v)) }) : wpAny (model prog w) A (setItem (.ref l) (.int k t) v) Q E s := by
  obtain ⟨o, ho, hc, ne, hd⟩ := id hl
  unfold setItem
  try with_reducible refine wpAny_holding ?_
  first | refine wpAny_bind (wpAny_pure ?_) | skip
  refine wpAny_bind (wpAny_sequenceKey hl.typeIs (by decide) ?_)
  refine wpAny_bind (wpAny_callSpecial?_slot (name := Str.ofString "__setitem__") hl.typeIs slot_list_setitem
    (wpAny_call_entry slot_list_setitem hl.typeIs entry_list_setitem ?_ (args_list_setitem _ _ _)))
  show wpAny _ _ (Builtin.List.listSubscript? (.int k t) >>= _) _ _ s
  refine wpAny_bind (wpAny_listSubscript_int (fitsIndex_of h0 hfit) ?_)
  clear hfit
  obtain ⟨j, rfl⟩ := Int.eq_ofNat_of_zero_le h0
  have hx' : items[j]? = some items[j] := Array.getElem?_eq_getElem hj
  show wpAny _ _ ((seqItemAt l j >>= fun r => pure (r.map (j, ·))) >>= _) _ _ s
  refine wpAny_bind (wpAny_bind (wpAny_seqItemAt ho hd (wpAny_pure ?_)))
  rw [hx']
  show wpAny _ _ (setSeqItemAt l j v >>= _) _ _ s
  refine wpAny_bind (wpAny_setSeqItemAt ho hd ?_)
  first
    | exact wpAny_bind (wpAny_pure (wpAny_pure ⟨.none, rfl, wpAny_pure hQ⟩))
    | exact wpAny_pure ⟨.none, rfl, wpAny_pure hQ⟩
theorem lookI_app {k j : Int} {u v : V} {P : Prop} {es : List (Int × V)} : lookI j (es ++ [(k, v)]) = some u → (lookI j es = some u → P) → (j = k → v = u → P) → P := by
  induction es with
  | nil =>
    intro e _ k2
    replace e : (if j = k then some v else none) = some u := e
    by_cases q : j = k
    · rw [if_pos q] at e; exact k2 q (Option.some.inj e)
    · rw [if_neg q] at e; exact nn e
  | cons p es ih =>
    intro e k1 k2
    replace e : (if j = p.1 then some p.2 else lookI j (es ++ [(k, v)])) = some u := e
    replace k1 : (if j = p.1 then some p.2 else lookI j es) = some u → P := k1
    by_cases q : j = p.1
    · rw [if_pos q] at e k1; exact k1 e
    · rw [if_neg q] at e k1; exact ih e k1 k2
theorem set_idx {o i : V} {v : V} {x y z : Value} {s : Shared} {Q : Unit → Shared → Prop} {E : Value → Shared → Prop} (X : Cx B ρ st env m s.heap) (Ro : VR B s.heap ρ o x) (Ri : VR B s.heap ρ i y) (R : VR B s.heap ρ v z) :
    P1 (fun st' => (∀ h' tk, Cx B ρ st' env m h' → Nx ρ (Fm env) s.heap ρ h' → Q () { s with heap := h', toks := tk }) → wpAny (model prog w) A (setItem x y z) Q E s) (setIdxV st o i v) :=
  P1.onR fun a ea => P1.onI fun kk ei => P1.ob fun ob hs => by
    rcases ob <;> first | exact P1.no | skip
    · refine P1.if fun hk => P1.of fun k => Ro.toR ea fun p hr => Ri.toI ei fun t => (X.rel.objs a _ p hs hr).elLi fun ws n hpp g Rs => ?_
      obtain ⟨X3, N3⟩ := X.turnL (f := (·.setIfInBounds kk.toNat z)) hr hpp g (List.setIfInBounds_toArray ..) (VRs.set R kk.toNat Rs)
      exact setItem_list_at ⟨_, g, rfl, n, rfl⟩ hk.1 (hi63 hk.2.1) (show _ < ws.length from (vrs_len Rs).symm ▸ hk.2.2) (k _ _ X3 N3)
    · refine P1.onZ fun hk => P1.if fun hl => P1.of fun k => Ro.toR ea fun p hr => Ri.toI ei fun t => (X.rel.objs a _ p hs hr).elDi fun f hpp g1 g2 g3 => ?_
      refine wpAny_setItem_intMap_le g1 g2 (Nat.le_trans (le64 hl) line_is) fun h' hm hz hsb => ?_
      obtain ⟨p1, p2⟩ := p
      have zp : p2 = p1 := hpp
      subst zp
      obtain ⟨X3, N3⟩ := X.setSame hr (.inl rfl) hsb fun up => .dict hm (by rw [List.length_append]; exact hz) fun j u ej => lookI_app (k := kk) (v := v) ej (fun hu => by
        obtain ⟨z1, z2, z3⟩ := g3 j _ hu
        exact ⟨z1, (if_neg fun q => nn (hk.symm.trans (q ▸ hu))).trans z2, up _ _ z3⟩) fun q q' => ⟨z, if_pos q, q' ▸ up _ _ R⟩
      exact k h' _ X3 N3
end
end Mine
end
section
open PySem PySem.W PySem.Calls PyProof.Rows
namespace Mine
theorem bindT_spec {xs : List Nat} : ∀ {vs : List V} {m m1 : Lo}, bindT xs vs m = some m1 → vs.length = xs.length ∧ (xs.Nodup → (∀ p ∈ xs.zip vs, look p.1 m1 = some p.2) ∧ ∀ x, x ∉ xs → look x m1 = look x m) := by
  induction xs with
  | nil =>
    intro vs m m1 e
    rcases vs with _ | _
    · exact ⟨rfl, fun _ => ⟨fun _ h => (nomatch h), fun _ _ => congrArg _ (Option.some.inj e).symm⟩⟩
    · exact nn e
  | cons x xs ih =>
    intro vs m m1 e
    rcases vs with _ | ⟨v, vs⟩
    · exact nn e
    obtain ⟨c, ab⟩ := ih (vs := vs) (m := put x v m) e
    refine ⟨congrArg (· + 1) c, fun hn => ?_⟩
    obtain ⟨h1, h2⟩ := List.nodup_cons.mp hn
    obtain ⟨a, b⟩ := ab h2
    refine ⟨fun p hp => (List.mem_cons.mp hp).elim (fun z => ?_) (a p), fun y hy => (b y fun q => hy (.tail _ q)).trans (look_put.trans (if_neg fun q => hy (by rw [q]; exact .head _)))⟩
    rw [z]; exact (b x h1).trans (look_put.trans (if_pos rfl))
theorem bindT_some {xs : List Nat} : ∀ {vs : List V} (m : Lo), vs.length = xs.length → ∃ m1, bindT xs vs m = some m1 := by
  induction xs with
  | nil =>
    intro vs m e
    rcases vs with _ | _
    · exact ⟨m, rfl⟩
    · exact nomatch e
  | cons x xs ih =>
    intro vs m e
    rcases vs with _ | ⟨v, vs⟩
    · exact nomatch e
    · exact ih (put x v m) (Nat.succ.inj e)
theorem bindT_rev {xs : List Nat} {vs : List V} {m m1 m2 : Lo} (hn : xs.Nodup) (e1 : bindT xs vs m = some m1) (e2 : bindT xs.reverse vs.reverse m = some m2) (x : Nat) (v : V) (h : look x m1 = some v) : look x m2 = some v := by
  obtain ⟨c1, ab1⟩ := bindT_spec e1
  obtain ⟨a1, b1⟩ := ab1 hn
  obtain ⟨a2, b2⟩ := (bindT_spec e2).2 (List.pairwise_reverse.mpr (hn.imp fun h => h.symm))
  by_cases q : x ∈ xs
  · obtain ⟨i, hi, hx⟩ := List.getElem_of_mem q
    have hp : (x, vs[i]'(c1 ▸ hi)) ∈ xs.zip vs := List.mem_iff_getElem.mpr ⟨i, by rw [List.length_zip, c1, Nat.min_self]; exact hi, by rw [List.getElem_zip, hx]⟩
    rw [a2 _ (by have z := List.mem_reverse.mpr hp; unfold List.zip at z; rw [List.reverse_zipWith c1.symm] at z; exact z : (x, vs[i]'(c1 ▸ hi)) ∈ xs.reverse.zip vs.reverse), ← a1 _ hp]
    exact h
  · rw [b2 x fun z => q (List.mem_reverse.mp z), ← b1 x q]; exact h
section
variable (prog : Program) (w : World) (B : Heap)
noncomputable def StOk (d : Nat) (env : Env) (a : Stmt) (m : Lo) (st : St) (r : Option V) (m' : Lo) (st' : St) : Prop :=
  ∀ (A : Around) (ρ : List (Addr × Addr)) (s : Shared) (Q : Flow → Shared → Prop) (E : Value → Shared → Prop), Room d A → Cx B ρ st env m s.heap →
    (∀ ρ' f h' tk', Cx B ρ' st' env m' h' → Nx ρ (Fm env) s.heap ρ' h' →
      (match r with | .none => f = .next | some v => ∃ x, f = .ret x ∧ VR B h' ρ' v x) → Q f { s with heap := h', toks := tk' }) →
    wpAny (model prog w) A (exec a env) Q E s
end
theorem swaps_not {a : Expr} {t : Option Expr} {n : Nat} {env : Env} (h : notComp a = true) : swapsWith a t n env = pure false := by
  rcases a <;> first | rfl | exact ff h
noncomputable def idOf (e : Expr) : Option Str := if q : e.ctorIdx = 23 then @Expr.Name.elim (fun _ => Option Str) e q (fun id _ => some id) else none
noncomputable def idsOf (l : List Expr) : List Str := l.filterMap idOf
theorem mT_el {M : List Nat → List Expr → Prop} {ns : Nk} (n : M [] []) (c : ∀ x p xs ts, x < nmN → kindL ns (nmS x) = true → mT ns xs ts = true → M xs ts → M (x :: xs) (.Name (nmS x) p :: ts)) {xs : List Nat} : ∀ {ts : List Expr}, mT ns xs ts = true → M xs ts := by
  induction xs with
  | nil => exact fun {ts} h => nil_el (M := fun ts => M [] ts) h n
  | cons x xs ih =>
    intro ts h
    rcases ts with _ | ⟨t, ts⟩
    · exact ff h
    · exact aName_el (M := fun t => M (x :: xs) (t :: ts)) (b1 h) fun id p g => nm_el (M := fun id => M (x :: xs) (.Name id p :: ts)) (b1 g) fun hx => c x p xs ts hx (nm_el (M := fun id => kindL ns id = true → kindL ns (nmS x) = true) (b1 g) (fun _ z => z) (b2 g)) (b2 h) (ih (b2 h))
theorem ids_mT {ns : Nk} {xs : List Nat} {ts : List Expr} (h : mT ns xs ts = true) : idsOf ts = xs.map nmS ∧ ts.length = xs.length ∧ ∀ x ∈ xs, x < nmN ∧ kindL ns (nmS x) = true :=
  mT_el (M := fun xs ts => idsOf ts = xs.map nmS ∧ ts.length = xs.length ∧ ∀ x ∈ xs, x < nmN ∧ kindL ns (nmS x) = true) ⟨rfl, rfl, fun _ h => nomatch h⟩
    (fun _ _ _ _ h1 h2 _ i => ⟨congrArg (_ :: ·) i.1, congrArg (· + 1) i.2.1, fun y hy => (List.mem_cons.mp hy).elim (fun z => z ▸ ⟨h1, h2⟩) (i.2.2 y)⟩) h
theorem ids_filter {f : Expr → Option Str} (hf : ∀ e y, f e = some y → idOf e = some y) {ts : List Expr} : (ts.filterMap f).length = ts.length → ts.filterMap f = idsOf ts := by
  induction ts with
  | nil => exact fun _ => rfl
  | cons t ts ih =>
    intro h
    unfold idsOf
    rw [List.filterMap_cons] at h ⊢
    rcases q : f t with _ | y
    · rw [q] at h; exact absurd h (Nat.ne_of_lt (Nat.lt_succ_of_le (List.length_filterMap_le f ts)))
    · rw [q] at h
      rw [List.filterMap_cons, hf t y q]
      exact congrArg (y :: ·) (ih (Nat.succ.inj h))
theorem dedup_le (n : Nat) : ∀ l : List Str, l.length ≤ n → l.eraseDups.length ≤ l.length := by
  induction n with
  | zero => exact fun l h => by rw [List.length_eq_zero_iff.mp (Nat.le_zero.mp h)]; exact Nat.le_refl _
  | succ n ih =>
    intro l h
    rcases l with _ | ⟨a, l⟩
    · exact Nat.le_refl _
    rw [List.eraseDups_cons]
    have := List.length_filter_le (fun b => !b == a) l
    exact Nat.succ_le_succ (Nat.le_trans (ih _ (Nat.le_trans this (Nat.le_of_succ_le_succ h))) this)
theorem dedup (n : Nat) : ∀ l : List Str, l.length ≤ n → l.eraseDups.length = l.length → l.Nodup := by
  induction n with
  | zero => exact fun l h _ => by rw [List.length_eq_zero_iff.mp (Nat.le_zero.mp h)]; exact List.nodup_nil
  | succ n ih =>
    intro l h e
    rcases l with _ | ⟨a, l⟩
    · exact List.nodup_nil
    rw [List.eraseDups_cons] at e
    have e := Nat.succ.inj e
    have g := List.length_filter_le (fun b => !b == a) l
    have g2 := dedup_le _ _ (Nat.le_refl (l.filter fun b => !b == a).length)
    have g3 := List.length_filter_eq_length_iff.mp (Nat.le_antisymm g (e ▸ g2))
    rw [List.filter_eq_self.mpr g3] at e
    exact List.nodup_cons.mpr ⟨fun hm => tf ((g3 a hm).symm.trans (by rw [beq_self_eq_true]; rfl)), ih l (Nat.le_of_succ_le_succ h) e⟩
theorem ite_or {α : Type} {P : α → Prop} {c : Prop} [Decidable c] {a b : α} (h1 : c → P a) (h2 : ¬ c → P b) : P (if c then a else b) := by
  by_cases q : c
  · rw [if_pos q]; exact h1 q
  · rw [if_neg q]; exact h2 q
theorem swapped_is {env : Env} {ts : List Expr} {k : Nat} {tp : Pos} {a : Expr} (h : asgTok a = true) :
    swappedStores [.Tuple ts k tp] a env = pure none ∨ (swappedStores [.Tuple ts k tp] a env = pure (some (idsOf ts)) ∧ (idsOf ts).Nodup) := by
  rcases a <;> first | exact .inl rfl | skip
  rename_i vs vk vp
  refine ite_or (P := fun z => z = pure none ∨ (z = pure (some (idsOf ts)) ∧ (idsOf ts).Nodup)) (fun _ => .inl rfl) fun _ => ?_
  refine ite_or (P := fun z => z = pure none ∨ (z = pure (some (idsOf ts)) ∧ (idsOf ts).Nodup)) (fun _ => .inl rfl) fun _ => ?_
  refine ite_or (P := fun z => z = pure none ∨ (z = pure (some (idsOf ts)) ∧ (idsOf ts).Nodup)) (fun _ => .inl rfl) fun h3 => ?_
  refine ite_or (P := fun z => z = pure none ∨ (z = pure (some (idsOf ts)) ∧ (idsOf ts).Nodup)) (fun _ => .inl rfl) fun h4 => ?_
  have h3 := Bool.or_eq_false_iff.mp (eq_false_of_ne_true h3)
  have e1 := bne_eq_false_iff_eq.mp h3.1
  have e2 := bne_eq_false_iff_eq.mp h3.2
  have ids := ids_filter (fun e y => by
    rcases e <;> first | exact nn | skip
    exact ite_or (P := fun z => z = some y → some _ = some y) (fun _ z => z) fun _ => nn) e1
  rw [ids] at e2
  refine .inr ⟨(if_neg fun h5 => ?_).trans (congrArg (fun z => pure (some z)) ids), dedup _ _ (Nat.le_refl _) e2⟩
  have h : (vs.all (foldedForSure 8) || !(vs.all (constantsAlone 8))) = true := h
  exact h4 (or_el h id fun z => by rw [h5] at z; exact ff z)
end Mine
end
section
open PySem PySem.W PySem.Calls PyProof.Rows
namespace Mine
section
variable {prog : Program} {w : World} {K : Frag} {P : Program} {loose : List Str} {mg mb : Str → Option Value} {B : Heap} {A : Around} {ρ ρ' : List (Addr × Addr)} {d : Nat} {env : Env} {m m' m1 m2 : Lo} {st st1 st2 st3 st4 st' : St} {h h' : Heap}
theorem swaps_sole {a t : Expr} {n : Nat} (h : notComp a = true) : swapsWithSole [t] a n env = pure false := swaps_not (t := some t) h
theorem exs_nil : ExOk prog w B d env [] m st .none m st := fun _ ρ s _ _ _ X k => wpAny_execs_nil (k ρ .next s.heap s.toks X Nx.refl rfl)
theorem exs_next {a : Stmt} {l : List Stmt} {r : Option V} (H : StOk prog w B d env a m st .none m1 st1) (Hs : ExOk prog w B d env l m1 st1 r m2 st2) : ExOk prog w B d env (a :: l) m st r m2 st2 := fun A ρ s Q E hR X k =>
  wpAny_execs_cons (H A ρ s _ E hR X fun ρ1 f h1 tk1 X1 N1 hf => by
    subst hf
    exact Hs A ρ1 _ Q E hR X1 fun ρ2 f2 h2 tk2 X2 N2 hf2 => k ρ2 f2 h2 tk2 X2 (Nx.trans X N1 X1 N2) hf2)
theorem exs_ret {a : Stmt} {l : List Stmt} {v : V} (H : StOk prog w B d env a m st (some v) m1 st1) : ExOk prog w B d env (a :: l) m st (some v) m1 st1 := fun A ρ s Q E hR X k =>
  wpAny_execs_cons (H A ρ s _ E hR X fun ρ1 f h1 tk1 X1 N1 hf => by
    obtain ⟨x, e, R⟩ := hf
    subst e
    exact k ρ1 _ h1 tk1 X1 N1 ⟨x, rfl, R⟩)
theorem st_asg {x : Nat} {a : Expr} {p pos : Pos} {v : V} (hx : x < nmN) (hk : kindL env.scope.names (nmS x) = true) (hc : ∀ t n, swapsWith a t n env = pure false) (H : EvOk prog w B d env a m st v st1) : StOk prog w B d env (.Assign [.Name (nmS x) p] a pos) m st .none (put x v m) st1 :=
  fun _ _ _ _ _ hR X k => wpAny_Assign_Name (ok_then H hR X fun ρ1 _ _ _ X1 N1 R1 => store_name X1 hx hk R1 fun h2 tk X2 N2 => k ρ1 .next h2 tk X2 (Nx.trans X N1 X1 N2) rfl) (hc _ _)
theorem st_ret {a : Expr} {pos : Pos} {v : V} (H : EvOk prog w B d env a m st v st1) : StOk prog w B d env (.Return (some a) pos) m st (some v) m st1 :=
  fun _ _ _ _ _ hR X k => wpAny_Return_some (ok_then H hR X fun ρ1 z h1 tk1 X1 N1 R1 => k ρ1 _ h1 tk1 X1 N1 ⟨z, rfl, R1⟩)
theorem st_ret0 {pos : Pos} : StOk prog w B d env (.Return none pos) m st (some .none) m st := fun _ ρ s _ _ _ X k => wpAny_Return_none (k ρ _ s.heap s.toks X Nx.refl ⟨_, rfl, .none⟩)
theorem st_ite {c : Expr} {a b : List Stmt} {pos : Pos} {t : Bool} {r : Option V} (Hc : TrOk prog w B d env c m st t st1) (H : ExOk prog w B d env (bif t then a else b) m st1 r m2 st2) : StOk prog w B d env (.If c a b pos) m st r m2 st2 :=
  fun A ρ s Q E hR X k => wpAny_If (Hc A ρ s _ E hR X fun ρ1 h1 tk1 X1 N1 => by
    have := H A ρ1 { s with heap := h1, toks := tk1 } Q E hR X1 fun ρ2 f h2 tk2 X2 N2 hf => k ρ2 f h2 tk2 X2 (Nx.trans X N1 X1 N2) hf
    rcases t <;> exact this)
theorem st_exp {a : Expr} {pos : Pos} {v : V} (hc : ∀ t n, swapsWith a t n env = pure false) (H : EvOk prog w B d env a m st v st1) : StOk prog w B d env (.Expr a pos) m st .none m st1 :=
  fun _ _ _ _ _ hR X k => wpAny_Expr_any (ok_then H hR X fun ρ1 _ h1 tk1 X1 N1 _ => k ρ1 _ h1 tk1 X1 N1 rfl) (by unfold interactive; rw [X.fr.kind]; rfl) (hc _ _)
theorem st_asgI {a o i : Expr} {p pos : Pos} {v u q : V} (H : EvOk prog w B d env a m st v st1) (Ho : EvOk prog w B d env o m st1 u st2) (Hi : EvOk prog w B d env i m st2 q st3) (hc : notComp a = true) :
    P1 (fun st4 => StOk prog w B d env (.Assign [.Subscript o i p] a pos) m st .none m st4) (setIdxV st3 u q v) := fun st4 e _ _ _ _ _ hR X k =>
  wpAny_Assign_Subscript (ok_then H hR X fun _ _ _ _ X1 N1 R1 => ok_then Ho hR X1 fun _ _ _ _ X2 N2 R2 => ok_then Hi hR X2 fun ρ3 _ _ _ X3 N3 R3 => set_idx X3 (X2.vr N3 R2) R3 (X2.vr N3 (X1.vr N2 R1)) st4 e fun h4 tk X4 N4 => k ρ3 _ h4 tk X4 (Nx.trans X (Nx.trans X (Nx.trans X N1 X1 N2) X2 N3) X3 N4) rfl) (swaps_not hc)
theorem st_asgA {a o : Expr} {f : Nat} {p pos : Pos} {v u : V} (S : Stat K P loose mg mb B) (hf : f < nmN) (ha : attrIds.contains f = true) (H : EvOk prog w B d env a m st v st1) (Ho : EvOk prog w B d env o m st1 u st2) (hc : notComp a = true) :
    P1 (fun st3 => StOk prog w B d env (.Assign [.Attribute o (nmS f) p] a pos) m st .none m st3) (setAttrV clss st2 u f v) := fun st3 e _ _ _ _ _ hR X k =>
  wpAny_Assign_stores (ok_then H hR X fun ρ1 z1 h1 tk1 X1 N1 R1 => by
    show wpAny _ _ (do
      let ov ← holding [z1] (eval o env)
      standAt p.atName
      holding [z1, ov] (setAttr ov (nmS f) z1)
      release [z1, ov] []) _ _ _
    exact wpAny_bind (wpAny_holding (ok_then Ho hR X1 fun ρ2 z2 h2 tk2 X2 N2 R2 => wpAny_bind (wpAny_standAt (wpAny_bind (wpAny_holding (set_attr S X2 hf ha R2 (X1.vr N2 R1) st3 e fun h3 tk X3 N3 =>
      wpAny_release' (k ρ2 _ h3 tk X3 (Nx.trans X (Nx.trans X N1 X1 N2) X2 N3) rfl))))))) ) (swaps_sole hc) rfl
inductive Stores (prog : Program) (w : World) (A : Around) (env : Env) (E : Value → Shared → Prop) : List Nat → List (Value → Sem Unit) → Prop
  | nil : Stores prog w A env E [] []
  | cons {x : Nat} {g : Value → Sem Unit} {xs : List Nat} {f : List (Value → Sem Unit)} : (∀ (z : Value) (s : Shared) (Q : Unit → Shared → Prop), wpAny (model prog w) A (storeName env (nmS x) z) Q E s → wpAny (model prog w) A (g z) Q E s) → Stores prog w A env E xs f → Stores prog w A env E (x :: xs) (g :: f)
theorem bind_all {E : Value → Shared → Prop} {xs : List Nat} {f : List (Value → Sem Unit)} (hf : Stores prog w A env E xs f) : ∀ {vs : List V} {zs : List Value} {m m1 : Lo} {s : Shared} {Q : Unit → Shared → Prop} (_ : ∀ x ∈ xs, x < nmN ∧ kindL env.scope.names (nmS x) = true)
    (_ : bindT xs vs m = some m1) (_ : Cx B ρ st env m s.heap) (_ : VRs B s.heap ρ vs zs) (_ : ∀ h' tk, Cx B ρ st env m1 h' → Nx ρ (Fm env) s.heap ρ h' → Q () { s with heap := h', toks := tk }), wpAny (model prog w) A (assignInOrder f zs) Q E s := by
  induction hf with
  | nil =>
    intro vs zs m m1 s Q hx e X R k
    rcases vs with _ | _
    · exact R.elN (wpAny_pure (k s.heap s.toks (Option.some.inj e ▸ X) Nx.refl))
    · exact nn e
  | @cons x g xs f hg hf ih =>
    intro vs zs m m1 s Q hx e X R k
    rcases vs with _ | ⟨v, vs⟩
    · exact nn e
    · refine R.elC (M := fun zs => wpAny (model prog w) A (assignInOrder (g :: f) zs) Q E s) fun z zs R Rs => ?_
      exact wpAny_bind (wpAny_holding (hg z s _ (store_name X (hx x (.head _)).1 (hx x (.head _)).2 R fun h' tk X' N' => ih (fun y hy => hx y (.tail _ hy)) e X' (X.vrs N' Rs) fun h2 tk2 X2 N2 => k h2 tk2 X2 (Nx.trans X N' X' N2))))
noncomputable def FwdOk (prog : Program) (w : World) (A : Around) (env : Env) (E : Value → Shared → Prop) (xs : List Nat) (ts : List Expr) : Prop := Stores prog w A env E xs ((assignEach ts env).map (·.2)) ∧ (assignEach ts env).length = xs.length ∧ (assignEach ts env).findIdx? (·.1) = none
theorem fwd {E : Value → Shared → Prop} {ns : Nk} {xs : List Nat} {ts : List Expr} (h : mT ns xs ts = true) : FwdOk prog w A env E xs ts :=
  mT_el (M := FwdOk prog w A env E) ⟨.nil, rfl, rfl⟩ (fun _ _ _ ts _ _ _ i => ⟨.cons (fun z s Q q => assign_Name q) i.1, congrArg (· + 1) i.2.1, by
    show List.findIdx? (·.1) ((false, _) :: assignEach ts env) = none
    rw [List.findIdx?_cons, i.2.2]; rfl⟩) h
theorem bwd {E : Value → Shared → Prop} {xs : List Nat} : Stores prog w A env E xs ((xs.map nmS).map fun n => bindName env n) := by
  induction xs with
  | nil => exact .nil
  | cons x xs ih => exact .cons (fun z s Q q => wpAny_bindName q) ih
theorem Cx.grown (X : Cx B ρ st env m h) (he : Heap.ExtBut h.objs.size h h') : Cx B ρ st env m h' ∧ Nx ρ (Fm env) h ρ h' :=
  have k : ∀ b o, h.get? b = some o → h'.get? b = some o := fun b _ e => he b _ (Nat.ne_of_lt (Heap.lt_size e)) e
  X.frame.elim fun _ q => X.after (q.1.ns.keeps k) q.2 fun b o e _ => k b o e
theorem unpack_to {xs : List Nat} {ts : List Expr} {k0 : Nat} {tp : Pos} {v : V} {vs : List V} {x : Value} {s : Shared} {Q : Unit → Shared → Prop} {E : Value → Shared → Prop} (hm : mT env.scope.names xs ts = true) (hR : Room d A) (X : Cx B ρ st env m s.heap) (R : VR B s.heap ρ v x) (ev : v = .tup vs) (e : bindT xs vs m = some m1)
    (k : ∀ h' tk, Cx B ρ st env m1 h' → Nx ρ (Fm env) s.heap ρ h' → Q () { s with heap := h', toks := tk }) : wpAny (model prog w) A (assign (.Tuple ts k0 tp) env x) Q E s :=
  R.toT ev fun y zs t Rs => by
    obtain ⟨l0, l1, l2⟩ := fwd (prog := prog) (w := w) (A := A) (env := env) (E := E) hm
    refine assign_Tuple_tuple hR.hd t (by rw [l1, ← (bindT_spec e).1, ← vrs_len Rs]; rfl) l2 fun h' he => ?_
    obtain ⟨X1, N1⟩ := X.grown he
    exact bind_all l0 (ids_mT hm).2.2 e X1 (X.vrs N1 Rs) fun h2 tk2 X2 N2 => k h2 tk2 X2 (Nx.trans X N1 X1 N2)
theorem st_asgT {xs : List Nat} {ts : List Expr} {k0 : Nat} {a : Expr} {tp pos : Pos} {v : V} {vs : List V} (hm : mT env.scope.names xs ts = true) (ht : asgTok a = true) (hc : notComp a = true) (H : EvOk prog w B d env a m st v st1) (ev : v = .tup vs) (e : bindT xs vs m = some m1) :
    StOk prog w B d env (.Assign [.Tuple ts k0 tp] a pos) m st .none m1 st1 := fun A ρ s Q E hR X k => (swapped_is (env := env) (ts := ts) (k := k0) (tp := tp) ht).elim
  (fun hs => Assign_Tuple (ok_then H hR X fun ρ1 z1 h1 tk1 X1 N1 R1 => unpack_to hm hR X1 R1 ev e fun h2 tk2 X2 N2 => k ρ1 _ h2 tk2 X2 (Nx.trans X N1 X1 N2) rfl) (swaps_sole hc) hs)
  fun hs => Assign_Tuple_swapped (ok_then H hR X fun ρ1 z1 h1 tk1 X1 N1 R1 => R1.toT ev fun x0 zs t Rs => by
    obtain ⟨i1, i2, i3⟩ := ids_mT hm
    have lv := (bindT_spec e).1
    have hn := hs.2
    rw [i1] at hn ⊢
    rw [show (xs.map nmS).length = zs.toArray.size by rw [List.length_map, ← lv, ← vrs_len Rs]; rfl]
    refine unpackItems_tuple hR.hd t fun h' he => ?_
    obtain ⟨X2, N2⟩ := X1.grown he
    obtain ⟨m2, e2⟩ := bindT_some (xs := xs.reverse) (vs := vs.reverse) m (by rw [List.length_reverse, List.length_reverse]; exact lv)
    rw [← List.map_reverse]
    exact bind_all (xs := xs.reverse) bwd (vs := vs.reverse) (fun y hy => i3 y (List.mem_reverse.mp hy)) e2 X2 (X1.vrs N2 Rs).rev fun h3 tk3 X3 N3 =>
      k ρ1 _ h3 tk3 (X3.same fun x v q => bindT_rev ((List.pairwise_map.mp hn).imp fun h q => h (congrArg nmS q)) e e2 x v q) (Nx.trans X N1 X1 (Nx.trans X1 N2 X2 N3)) rfl) (swaps_sole hc) hs.1
end
end Mine
end
section
open PySem PySem.W PySem.Calls PyProof.Rows
namespace Mine
inductive ItAt (B h : Heap) (ρ : List (Addr × Addr)) (I : Addr) : Option Nat → List V → Nat → Prop
  | tup {t : Addr} {ws : List Value} {vs : List V} {i : Nat} : IsTupIter h I t i → IsTup h t ws.toArray → VRs B h ρ vs ws → ItAt B h ρ I .none vs i
  | list {a : Nat} {p : Addr × Addr} {vs : List V} {i : Nat} : h.IsListIter I p.1 i → ρ[a]? = some p → ItAt B h ρ I (some a) vs i
  | range {a : Int} {n i : Nat} : IsRangeIter h I (a + (i : Nat)) ((n : Int) - (i : Nat)) 1 → ItAt B h ρ I .none ((List.range n).map fun k => V.int (a + (k : Nat))) i
structure Own (B h0 h : Heap) (ρ : List (Addr × Addr)) (env : Env) (I : Addr) : Prop where
  was : h0.get? I = none
  is : ∃ o, h.get? I = some o
  base : B.get? I = none
  foot : ¬ Foot ρ I
  frame : ¬ Fm env I
structure But (h h' : Heap) (I : Addr) : Prop where
  keep : ∀ b o, b ≠ I → h.get? b = some o → h'.get? b = some o
  nt : ∀ ws, ¬ IsTup h I ws
noncomputable abbrev ownNames : List String := ["enumerate", "zip", "dict_itemiterator", "dict_reverseitemiterator", "odict_iterator", "itertools.zip_longest", "itertools.pairwise"]
section
variable {prog : Program} {w : World} {K : Frag} {P : Program} {loose : List Str} {mg mb : Str → Option Value} {B : Heap} {A : Around} {ρ ρ' ρ2 : List (Addr × Addr)} {d : Nat} {env : Env} {m m' m1 m2 : Lo} {st st1 st2 st3 st4 st' : St} {h h' h0 h2 : Heap} {I : Addr} {a : Option Nat} {vs : List V} {i : Nat}
theorem ItAt.cls (T : ItAt B h ρ I a vs i) : ∃ o n, h.get? I = some o ∧ o.cls = .type n ∧ n ≠ "tuple" ∧ ownNames.contains n = false := by
  induction T with
  | tup g _ _ => obtain ⟨o, ho, hc, _⟩ := g; exact ⟨o, _, ho, hc, by decide, by decide⟩
  | list g _ => obtain ⟨o, ho, hc, _⟩ := g; exact ⟨o, _, ho, hc, by decide, by decide⟩
  | range g => exact ⟨_, "range_iterator", g, rfl, by decide, by decide⟩
theorem ItAt.is (T : ItAt B h ρ I a vs i) : ∃ o, h.get? I = some o := T.cls.imp fun _ q => q.choose_spec.1
theorem nt_of {o : Obj} {n : String} (h1 : h.get? I = some o) (h2 : o.cls = .type n) (h3 : n ≠ "tuple") : ∀ ws, ¬ IsTup h I ws := fun ws t => by
  obtain ⟨o', ho, hc, _⟩ := t
  rw [h1] at ho; rw [← Option.some.inj ho, h2] at hc
  exact h3 (Value.type.inj hc)
theorem ItAt.nt (T : ItAt B h ρ I a vs i) : ∀ ws, ¬ IsTup h I ws := by
  obtain ⟨o, n, h1, h2, h3, _⟩ := T.cls
  exact nt_of h1 h2 h3
theorem But.tup (k : But h h' I) {x : Addr} {ws : Array Value} (t : IsTup h x ws) : IsTup h' x ws :=
  t.imp fun o q => ⟨k.keep x o (fun z => k.nt ws (z ▸ t)) q.1, q.2⟩
theorem But.vr (k : But h h' I) {v : V} {z : Value} (R : VR B h ρ v z) : VR B h' ρ v z := R.mono (List.prefix_refl _) fun _ _ t => k.tup t
theorem But.vrs (k : But h h' I) {v : List V} {z : List Value} (R : VRs B h ρ v z) : VRs B h' ρ v z := R.mono (List.prefix_refl _) fun _ _ t => k.tup t
theorem Cx.but (X : Cx B ρ st env m h) (k : But h h' I) (O : Own B h0 h ρ env I) : Cx B ρ st env m h' := by
  have kf : ∀ {b}, Foot ρ b → ∀ o, h.get? b = some o → h'.get? b = some o := fun f o e => k.keep _ o (fun z => O.foot (z ▸ f)) e
  have km : ∀ {b}, Fm env b → ∀ o, h.get? b = some o → h'.get? b = some o := fun f o e => k.keep _ o (fun z => O.frame (z ▸ f)) e
  obtain ⟨mm, hn, hv⟩ := X.fr.ns
  have hn' := hn.at' (km (.inl rfl))
  exact ⟨⟨X.rel.len, fun a o p h1 h2 => (X.rel.objs a o p h1 h2).mono (List.prefix_refl _) (fun _ _ t => k.tup t) (kf ⟨a, p, h2, .inl rfl⟩) (kf ⟨a, p, h2, .inr rfl⟩), X.rel.inj, X.rel.fresh, fun b o e => k.keep b o (fun z => nn (O.base.symm.trans (z ▸ e))) (X.rel.base b o e), Nat.le_trans X.fr.above (Nat.le_of_lt hn'.lt)⟩,
    X.fr.turn hn' hv (fun _ _ R => k.vr R) (fun y c o hy e => km (.inr ⟨y, hy⟩) o e) fun b f => (X.fr.new b f).2⟩
theorem Nx.but {ρ0 : List (Addr × Addr)} {U : Addr → Prop} (N : Nx ρ0 U h0 ρ h) (hI : h0.get? I = none ∨ U I) (k : ∀ b o, b ≠ I → h.get? b = some o → h'.get? b = some o) : Nx ρ0 U h0 ρ h' :=
  ⟨N.pre, fun b o e f g => k b o (fun z => hI.elim (fun q => nn (q.symm.trans (z ▸ e))) fun q => g (z ▸ q)) (N.keep b o e f g), N.grow⟩
theorem vrs_none {vs : List V} {ws : List Value} {i : Nat} (Rs : VRs B h ρ vs ws) (q : vs[i]? = none) : ws.toArray[i]? = none := List.getElem?_toArray.trans (List.getElem?_eq_none_iff.mpr (vrs_len Rs ▸ List.getElem?_eq_none_iff.mp q))
theorem stays_list {a : Nat} (h : stays st (some a) vs = true) : st[a]? = some (.list vs) := by
  have key : ∀ o : Option O, (match o with | some o => (match o with | .list ws => V.sames vs ws | _ => false) | .none => false) = true → o = some (.list vs) := fun o h => by
    rcases o with _ | o
    · exact ff h
    · rcases o <;> first | exact ff h | exact V.sames_eq h ▸ rfl
  exact key _ h
theorem stays_of {a : Nat} (h : st[a]? = some (.list vs)) : stays st (some a) vs = true := by
  unfold stays; dsimp only; rw [h]; exact V.sames_refl _
theorem it_next {s : Shared} {Q : Option Value → Shared → Prop} {E : Value → Shared → Prop} (X : Cx B ρ st env m s.heap) (T : ItAt B s.heap ρ I a vs i) (hs : stays st a vs = true) (hh : A.handled = none)
    (item : ∀ v z h' tk', vs[i]? = some v → But s.heap h' I → ItAt B h' ρ I a vs (i + 1) → VR B s.heap ρ v z → Q (some z) { s with heap := h', toks := tk' })
    (done : ∀ h' tk', vs[i]? = none → But s.heap h' I → Q none { s with heap := h', toks := tk' }) : wpAny (model prog w) A (pyNext (.ref I)) Q E s := by
  have nt := T.nt
  induction T with
  | @tup t ws vs i g1 g2 Rs =>
    rcases q : vs[i]? with _ | v
    · exact next_tuple_end hh g1 g2 (vrs_none Rs q) fun h' he => done h' s.toks q ⟨he, nt⟩
    · obtain ⟨z, z1, z2⟩ := vrs_get Rs q
      exact next_tuple_item g1 g2 (x := z) (List.getElem?_toArray.trans z1) fun h' hit hs => have k : But s.heap h' I := ⟨hs.extBut, nt⟩; item v z h' s.toks q k (.tup hit (k.tup g2) (k.vrs Rs)) z2
  | @list a p vs i g1 ha =>
    refine (X.rel.objs a _ p (stays_list hs) ha).isL fun ws g2 Rs => ?_
    rcases q : vs[i]? with _ | v
    · exact wpAny_pyNext_list_end hh g1 g2 (vrs_none Rs q) fun h' he => done h' s.toks q ⟨he, nt⟩
    · obtain ⟨z, z1, z2⟩ := vrs_get Rs q
      exact wpAny_pyNext_list_item g1 g2 (x := z) (List.getElem?_toArray.trans z1) fun h' hit hs' => item v z h' s.toks q ⟨hs'.extBut, nt⟩ (.list hit ha) z2
  | @range a n i g =>
    by_cases hlt : i < n
    · refine wpAny_pyNext_range_item g (by omega) fun h' hit hs => item (.int (a + (i : Nat))) _ h' _ (by rw [List.getElem?_map, List.getElem?_range hlt]; rfl) ⟨hs.extBut, nt⟩ (.range ?_) (.int _ _)
      rw [Int.natCast_succ, ← Int.add_assoc, ← Int.sub_sub]; exact hit
    · exact wpAny_pyNext_range_end hh g (by omega) fun h' he => done h' s.toks (List.getElem?_eq_none_iff.mpr (by rw [List.length_map, List.length_range]; exact Nat.le_of_not_lt hlt)) ⟨he, nt⟩
theorem Own.move {D : Addr} (O : Own B h0 h ρ env D) (N : Nx ρ (Fm env) h ρ2 h2) : Own B h0 h2 ρ2 env D ∧ h2.get? D = h.get? D := by
  obtain ⟨oI, hI⟩ := O.is
  have kI : h2.get? D = some oI := N.keep D oI hI O.foot O.frame
  exact ⟨⟨O.was, ⟨_, kI⟩, O.base, fun f => (N.grow D f).elim O.foot fun q => nn (q.symm.trans hI), O.frame⟩, kI.trans hI.symm⟩
theorem ItAt.move (T : ItAt B h ρ I a vs i) (e : h2.get? I = h.get? I) (ht : ∀ x ws, IsTup h x ws → IsTup h2 x ws) (hp : ρ <+: ρ2) : ItAt B h2 ρ2 I a vs i := by
  induction T with
  | tup g1 g2 Rs => exact .tup (g1.imp fun o q => ⟨e.trans q.1, q.2⟩) (ht _ _ g2) (Rs.mono hp ht)
  | list g1 ha => exact .list (g1.imp fun o q => ⟨e.trans q.1, q.2⟩) (pre_get hp ha)
  | range g => exact .range (e.trans g)
theorem Own.next (O : Own B h0 h ρ env I) (e : ∃ o, h'.get? I = some o) : Own B h0 h' ρ env I := ⟨O.was, e, O.base, O.foot, O.frame⟩
theorem owned_go {t : Expr} {v : Value} {s : Shared} {Q : Unit → Shared → Prop} {E : Value → Shared → Prop} (hc : ∃ o n, s.heap.get? I = some o ∧ o.cls = .type n ∧ n ≠ "tuple" ∧ ownNames.contains n = false) (q : Q () s) :
    wpAny (model prog w) A (letOwnedTupleGo t (.ref I) v) Q E s := by
  obtain ⟨⟨cl, dd, da, sl⟩, n, ho, hcl, _, hno⟩ := hc
  have hcl : cl = .type n := hcl
  subst hcl
  have key : wpAny (model prog w) A (do
    let (.ref r, .ref a) := ((.ref I : Value), v) | return
    let o ← load r
    match o.cls, o.data with
    | .type n, .fields vs =>
      if ownNames.contains n && vs[0]? == some (rawInt a) then
        rule "for.unpacks-the-owned-tuple"
        updateField r 0 .none
    | _, _ => pure ()) Q E s := by
    rcases v <;> first | exact wpAny_pure q | skip
    refine wpAny_bind (wpAny_load ho ?_)
    rcases da <;> first | exact wpAny_pure q | skip
    show wpAny _ _ (if (ownNames.contains n && _) = true then _ else _) _ _ _
    rw [hno]
    exact wpAny_pure q
  rcases t <;> first | exact key | exact wpAny_pure q
end
end Mine
end
section
open PySem PySem.W PySem.Calls PyProof.Rows
namespace Mine
section
variable {prog : Program} {w : World} {K : Frag} {P : Program} {loose : List Str} {mg mb : Str → Option Value} {B : Heap} {A : Around} {ρ ρ' ρ2 : List (Addr × Addr)} {d : Nat} {env : Env} {m m' m1 m2 : Lo} {st st1 st2 st3 st4 st' : St} {h h' h0 h2 : Heap}
noncomputable abbrev RetOk (B h' : Heap) (ρ' : List (Addr × Addr)) (r : Option V) (f : Flow) : Prop := match r with | .none => f = .next | some v => ∃ x, f = .ret x ∧ VR B h' ρ' v x
section
variable {c : Expr} {b : List Stmt} {test : Lo → St → Option (V × St)} {body : Lo → St → RunR} (Hc : ∀ m st, P1 (fun p => ∀ t, p.1 = .bool t → TrOk prog w B d env c m st t p.2) (test m st)) (Hb : ∀ m st, P1 (fun p => ExOk prog w B d env b m st p.1 p.2.1 p.2.2) (body m st))
include Hc Hb
theorem while_ok (k : Nat) : ∀ (m : Lo) (st : St), P1 (fun p => ∀ (A : Around) (ρ : List (Addr × Addr)) (s : Shared) (R : Result → Shared → Prop), Room d A → Cx B ρ st env m s.heap →
      (∀ ρ' f h' tk', Cx B ρ' p.2.2 env p.2.1 h' → Nx ρ (Fm env) s.heap ρ' h' → RetOk B h' ρ' p.1 f → R (.ok f) { s with heap := h', toks := tk' }) → codeAny (model prog w) A (.whileLoop c b [] env) R s) (loopW test body k m st) := by
  induction k with
  | zero => exact fun _ _ => P1.no
  | succ k ih =>
    intro m st
    have go : ∀ {A : Around} {s : Shared} {R : Result → Shared → Prop}, wpAny (model prog w) A (whileTurn c b [] env) _ _ s → codeAny (model prog w) A (.whileLoop c b [] env) R s := fun {A s R} q => codeAny_of_tree (show wpAny _ A ((whileTurn c b [] env).onRaise (fun x => do noteFrame x env; theTreesLotGoes x)) _ _ s from wpAny_noted q)
    refine P1.bd (Hc m st) fun v st1 H => P1.onB fun t et => P1.cd (fun z => P1.b3 (Hb m st1) fun ov m2 st2 Hbo => P1.orO (fun v ev => P1.of fun A ρ s R hR X kk => go ?_) fun ev p e A ρ s R hR X kk => go ?_) fun z => P1.of fun A ρ s R hR X kk => go ?_
    all_goals subst z; refine wpAny_bind (H _ et A ρ s _ _ hR X fun ρ1 h1 tk1 X1 N1 => ?_)
    · subst ev
      refine wpAny_bind (Hbo A ρ1 _ _ _ hR X1 fun ρ2 f h2 tk2 X2 N2 hf => ?_)
      obtain ⟨x, e, R2⟩ := hf
      subst e
      exact wpAny_pure (kk ρ2 _ h2 tk2 X2 (Nx.trans X N1 X1 N2) ⟨x, rfl, R2⟩)
    · subst ev
      refine wpAny_bind (Hbo A ρ1 _ _ _ hR X1 fun ρ2 f h2 tk2 X2 N2 hf => ?_)
      subst hf
      exact wpAny_pure ⟨rfl, ih m2 st2 p e A ρ2 _ R hR X2 fun ρ3 f h3 tk3 X3 N3 hf => kk ρ3 f h3 tk3 X3 (Nx.trans X (Nx.trans X N1 X1 N2) X2 N3) hf⟩
    · exact wpAny_bind (wpAny_execs_nil (wpAny_pure (kk ρ1 _ h1 tk1 X1 N1 rfl)))
theorem st_whl {pos : Pos} {k : Nat} : P1 (fun p => StOk prog w B d env (.While c b [] pos) m st p.1 p.2.1 p.2.2) (loopW test body k m st) :=
  fun p e A ρ s Q E hR X kk => wpAny_While (while_ok Hc Hb k m st p e A ρ s _ hR X fun ρ' f h' tk' X' N' hf => kk ρ' f h' tk' X' N' hf)
end
noncomputable def BindOk (prog : Program) (w : World) (B : Heap) (d : Nat) (env : Env) (t : Expr) (v : V) (m m1 : Lo) : Prop := ∀ (A : Around) (ρ : List (Addr × Addr)) (st : St) (s : Shared) (z : Value) (Q : Unit → Shared → Prop) (E : Value → Shared → Prop), Room d A → Cx B ρ st env m s.heap → VR B s.heap ρ v z →
      (∀ h' tk, Cx B ρ st env m1 h' → Nx ρ (Fm env) s.heap ρ h' → Q () { s with heap := h', toks := tk }) → wpAny (model prog w) A (assign t env z) Q E s
theorem drop_none {α : Type} {all : List α} {i : Nat} (h : all.drop i = []) : all[i]? = none := List.getElem?_eq_none_iff.mpr (List.drop_eq_nil_iff.mp h)
theorem drop_some {α : Type} {all rest : List α} {v : α} {i : Nat} (h : all.drop i = v :: rest) : all[i]? = some v ∧ all.drop (i + 1) = rest :=
  ⟨List.head?_drop.symm.trans (congrArg List.head? h), List.tail_drop.symm.trans (congrArg List.tail h)⟩
theorem if_el {α : Type} {c : Prop} [Decidable c] {x : Option α} {a : α} {P : Prop} (e : (if c then x else none) = some a) (k : c → x = some a → P) : P := by
  by_cases q : c
  · rw [if_pos q] at e; exact k q e
  · rw [if_neg q] at e; exact nn e
theorem for_ok {t : Expr} {b : List Stmt} {bnd : V → Lo → Option Lo} {body : Lo → St → RunR} {I : Addr} {a : Option Nat} {all : List V}
    (Hbind : ∀ v m, P1 (BindOk prog w B d env t v m) (bnd v m)) (Hb : ∀ m st, P1 (fun p => ExOk prog w B d env b m st p.1 p.2.1 p.2.2) (body m st)) (rest : List V) : ∀ (i : Nat) (m : Lo) (st : St), all.drop i = rest →
    P1 (fun p => ∀ (A : Around) (ρ0 ρ : List (Addr × Addr)) (st0 : St) (m0 : Lo) (h0 : Heap) (s : Shared) (R : Result → Shared → Prop), Room d A →
      Cx B ρ0 st0 env m0 h0 → Nx ρ0 (Fm env) h0 ρ s.heap → Cx B ρ st env m s.heap → Own B h0 s.heap ρ env I → ItAt B s.heap ρ I a all i → stays st a all = true →
      (∀ ρ' f h' tk', Cx B ρ' p.2.2 env p.2.1 h' → Nx ρ0 (Fm env) h0 ρ' h' → RetOk B h' ρ' p.1 f → R (.ok f) { s with heap := h', toks := tk' }) → codeAny (model prog w) A (.forLoop t (.ref I) b [] env) R s) (loopF a all bnd body rest m st) := by
  have go : ∀ {A : Around} {s : Shared} {R : Result → Shared → Prop}, wpAny (model prog w) A (forTurn t (.ref I) b [] env) _ _ s → codeAny (model prog w) A (.forLoop t (.ref I) b [] env) R s := fun {A s R} q => codeAny_of_tree (show wpAny _ A ((forTurn t (.ref I) b [] env).onRaise (fun x => do noteFrame x env; theTreesLotGoes x)) _ _ s from wpAny_noted q)
  induction rest with
  | nil =>
    intro i m st hi
    refine P1.of fun A ρ0 ρ st0 m0 h0 s R hR X0 N0 X O T hst kk => go (wpAny_bind (wpAny_standAt (wpAny_bind (wpAny_onRaise (it_next X T hst hR.hd (fun v z h' tk' hv => nn ((drop_none hi).symm.trans hv)) fun h' tk' _ hk => ?_)))))
    exact wpAny_pure ⟨rfl, codeAny_block (wpAny_execs_nil (kk ρ _ h' tk' (X.but hk O) (N0.but (.inl O.was) hk.keep) rfl))⟩
  | cons v rest ih =>
    intro i m st hi
    obtain ⟨hv0, hi'⟩ := drop_some hi
    refine P1.obp (Hbind v m) fun m1 Hbi => P1.b3 (Hb m1 st) fun ov m2 st2 Hbo p e A ρ0 ρ st0 m0 h0 s R hR X0 N0 X O T hst kk => go (wpAny_bind (wpAny_standAt (wpAny_bind (wpAny_onRaise (it_next X T hst hR.hd (fun v' z h1 tk1 hv hk T1 Rz => ?_) fun h' tk' hn _ => nn (hn.symm.trans hv0))))))
    have ez := Option.some.inj (hv0.symm.trans hv)
    subst ez
    have X1 := X.but hk O
    have N1 := N0.but (.inl O.was) hk.keep
    refine wpAny_bind (owned_go T1.cls (wpAny_bind (Hbi A ρ st _ z _ _ hR X1 (hk.vr Rz) fun h2 tk2 X2 N2 => ?_)))
    obtain ⟨O2, e2⟩ := (O.next T1.is).move N2
    have T2 := T1.move e2 (fun _ _ t => X1.tup N2 t) N2.pre
    refine wpAny_bind (Hbo A ρ _ _ _ hR X2 fun ρ3 f h3 tk3 X3 N3 hf => ?_)
    have N03 := Nx.trans X0 (Nx.trans X0 N1 X1 N2) X2 N3
    rcases ov with _ | w'
    · have hf : f = .next := hf
      subst hf
      refine if_el e fun hs e => ?_
      obtain ⟨O3, e3⟩ := O2.move N3
      exact wpAny_pure ⟨rfl, ih (i + 1) m2 st2 hi' p e A ρ0 ρ3 st0 m0 h0 _ R hR X0 N03 X3 O3 (T2.move e3 (fun _ _ t => X2.tup N3 t) N3.pre) hs fun ρ4 f h4 tk4 X4 N4 hf => kk ρ4 f h4 tk4 X4 N4 hf⟩
    · obtain ⟨x, e', R3⟩ := hf
      subst e'
      have e := Option.some.inj e
      subst e
      exact wpAny_pure (kk ρ3 _ h3 tk3 X3 N03 ⟨x, rfl, R3⟩)
end
end Mine
end
section
open PySem PySem.W PySem.Calls PyProof.Rows
namespace Mine
section
variable (prog : Program) (w : World) (B : Heap)
noncomputable def ItOk (d : Nat) (env : Env) (a : Expr) (m : Lo) (st : St) (vs : List V) (src : Option Nat) (st' : St) : Prop :=
  ∀ (A : Around) (ρ : List (Addr × Addr)) (s : Shared) (Q E : Value → Shared → Prop), Room d A → Cx B ρ st env m s.heap →
    (∀ ρ' I h' tk', Cx B ρ' st' env m h' → Nx ρ (Fm env) s.heap ρ' h' → Own B s.heap h' ρ' env I → ItAt B h' ρ' I src vs 0 → stays st' src vs = true → Q (.ref I) { s with heap := h', toks := tk' }) →
    wpAny (model prog w) A (eval a env) (fun x s₁ => wpAny (model prog w) A (pyIter x) Q E s₁) E s
end
section
variable {prog : Program} {w : World} {K : Frag} {P : Program} {loose : List Str} {mg mb : Str → Option Value} {B : Heap} {A : Around} {ρ ρ' ρ2 : List (Addr × Addr)} {d : Nat} {env : Env} {m m' m1 m2 : Lo} {st st1 st2 st3 st4 st' : St} {h h' h0 h2 : Heap}
theorem it_new {h1 : Heap} {o : Obj} {src : Option Nat} {vs : List V} {s : Shared} {Q : Value → Shared → Prop} {tk : Tok} (X : Cx B ρ st env m s.heap) (N : Nx ρ (Fm env) s.heap ρ' h1) (X1 : Cx B ρ' st1 env m h1) (hf : o.isFreed = false) (T : Cx B ρ' st1 env m (h1.push o) → Nx ρ' (Fm env) h1 ρ' (h1.push o) → (h1.push o).get? h1.objs.size = some o → ItAt B (h1.push o) ρ' h1.objs.size src vs 0) (hs : stays st1 src vs = true)
    (k : ∀ ρ' I h' tk', Cx B ρ' st1 env m h' → Nx ρ (Fm env) s.heap ρ' h' → Own B s.heap h' ρ' env I → ItAt B h' ρ' I src vs 0 → stays st1 src vs = true → Q (.ref I) { s with heap := h', toks := tk' }) : Q (.ref h1.objs.size) { s with heap := h1.push o, toks := tk } := by
  have fr := X1.free (get_size h1)
  obtain ⟨X2, N2⟩ := X1.push o
  exact k ρ' _ _ tk X2 (Nx.trans X N X1 N2) ⟨X.gone N X1 (get_size h1), ⟨o, Heap.get?_push_size _ hf⟩, fr.1, fr.2.1, fr.2.2⟩ (T X2 N2 (Heap.get?_push_size _ hf)) hs
theorem it_seq {a : Expr} {v : V} (H : EvOk prog w B d env a m st v st1) : P1 (fun p => ItOk prog w B d env a m st p.1 p.2 st1) (itemsV st1 v) := by
  rcases v <;> first | exact P1.no | skip
  · exact P1.atL fun vs e => P1.of fun A ρ s Q E hR X k => ok_then H hR X fun ρ1 x h1 tk1 X1 N1 R1 => R1.elR fun p ha => (X1.rel.objs _ _ p e ha).isL fun ws g Rs =>
      wpAny_pyIter_list g (it_new (s := s) X N1 X1 rfl (fun _ _ q => .list (p := p) ⟨_, q, rfl, rfl⟩ ha) (stays_of e) k)
  · exact P1.of fun A ρ s Q E hR X k => ok_then H hR X fun ρ1 x h1 tk1 X1 N1 R1 => R1.elT fun y ws g Rs => iter_tuple g (it_new (s := s) X N1 X1 rfl (fun _ N2 q => .tup ⟨_, q, rfl, rfl⟩ (X1.tup N2 g) (X1.vrs N2 Rs)) rfl k)
theorem range_blt {id : Str} {p pos : Pos} {l : List Expr} {s : Shared} {Q E : Value → Shared → Prop} (S : Stat K P loose mg mb B) (X : Cx B ρ st env m s.heap) (hg : gl env.scope.names id (Str.ofString "range") = true) (hp : l.all plainA = true)
    (h : wpAny (model prog w) A (spliced (backTo pos (starEach l env))) (fun vs s₁ => wpAny (model prog w) A (call (.type "range") vs) Q E s₁) E s) : wpAny (model prog w) A (eval (.Call (.Name id p) l [] pos) env) Q E s :=
  Call_Name rfl (gl_el (M := fun id => wpAny (model prog w) A (eval (.Name id p) env) _ E s) hg fun hg => builtin_get S X (eq_of_beq (S.blt "range" (by decide))) (by rfl) (by decide) hg (PySem.callWith_type (by rw [(back_plain hp).1]) (ev_args hp h)))
theorem range_size {a b : Int} : Builtin.Range.rangeSize a b 1 = ((b - a).toNat : Int) := by
  unfold Builtin.Range.rangeSize
  rw [if_pos (by decide), Int.ediv_one]
  split <;> omega
theorem range_it {i j : Int} {t1 t2 t3 tk : Tok} {h1 : Heap} {s : Shared} {Q E : Value → Shared → Prop} (q : (0 ≤ i ∧ i < 4294967296) ∧ 0 ≤ j ∧ j < 4294967296) (X : Cx B ρ st env m s.heap) (N : Nx ρ (Fm env) s.heap ρ' h1) (X1 : Cx B ρ' st1 env m h1)
    (k : ∀ ρ' I h' tk', Cx B ρ' st1 env m h' → Nx ρ (Fm env) s.heap ρ' h' → Own B s.heap h' ρ' env I → ItAt B h' ρ' I .none (rangeV i j) 0 → stays st1 .none (rangeV i j) = true → Q (.ref I) { s with heap := h', toks := tk' }) :
    wpAny (model prog w) A (pyIter (.ref h1.objs.size)) Q E { s with heap := h1.push { cls := .type "range", data := .fields #[.int i t1, .int j t2, .int 1 t3] }, toks := tk } := by
  refine wpAny_pyIter_range (IsRange.new _ _ _ _ _ _ _) (small_one (by omega) (by omega) (by omega) (by omega)) ?_
  obtain ⟨X2, N2⟩ := X1.push ({ cls := .type "range", data := .fields #[.int i t1, .int j t2, .int 1 t3] } : Obj)
  refine it_new (s := s) X (Nx.trans X N X1 N2) X2 rfl (fun _ _ q => ?_) rfl k
  unfold rangeV
  refine .range ?_
  rw [range_size] at q ⊢
  show Heap.get? _ _ = _
  rw [q]; simp
theorem it_rng2 {a b : Expr} {id : Str} {p pos : Pos} {u v : V} {i : Int} (S : Stat K P loose mg mb B) (hg : gl env.scope.names id (Str.ofString "range") = true) (hp : plainA a = true) (hq : plainA b = true) (H : EvOk prog w B d env a m st u st1) (eu : u = .int i) (H2 : EvOk prog w B d env b m st1 v st2) :
    P1 (fun p' => ItOk prog w B d env (.Call (.Name id p) [a, b] [] pos) m st p'.1 p'.2.1 p'.2.2) (onI v fun b => if 0 ≤ i ∧ i < 4294967296 ∧ 0 ≤ b ∧ b < 4294967296 then some (rangeV i b, .none, st2) else .none) :=
  P1.onI fun j ev => P1.if fun q => P1.of fun A ρ s Q E hR X k => range_blt S X hg (mkB hp (mkB hq rfl)) (sp2 hp hq H H2 hR X fun ρ1 x y h1 tk1 X1 N1 R1 R2 => R1.toI eu fun t1 => R2.toI ev fun t2 => call_range_2 (range_it (s := s) ⟨⟨q.1, q.2.1⟩, q.2.2⟩ X N1 X1 k))
theorem it_rng1 {b : Expr} {id : Str} {p pos : Pos} {v : V} (S : Stat K P loose mg mb B) (hg : gl env.scope.names id (Str.ofString "range") = true) (hq : plainA b = true) (H2 : EvOk prog w B d env b m st v st2) :
    P1 (fun p' => ItOk prog w B d env (.Call (.Name id p) [b] [] pos) m st p'.1 p'.2.1 p'.2.2) (onI v fun b => if 0 ≤ b ∧ b < 4294967296 then some (rangeV 0 b, .none, st2) else .none) :=
  P1.onI fun j ev => P1.if fun q => P1.of fun A ρ s Q E hR X k => range_blt S X hg (mkB hq rfl) (sp1 hq H2 hR X fun ρ1 y h1 tk1 X1 N1 R2 => R2.toI ev fun t2 => call_range_1 (range_it (s := s) ⟨⟨Int.le_refl _, by decide⟩, q⟩ X N1 X1 k))
theorem folded_not {it : Expr} (h : notSet it = true) (x : Value) : foldedSetIterable it env x = pure x := by
  rcases it <;> first | rfl | exact ff h
theorem st_for {t it : Expr} {b : List Stmt} {pos : Pos} {bnd : V → Lo → Option Lo} {body : Lo → St → RunR} {src : Option Nat} {all : List V} (hn : notSet it = true) (Hi : ItOk prog w B d env it m st all src st1)
    (Hbind : ∀ v m, P1 (BindOk prog w B d env t v m) (bnd v m)) (Hb : ∀ m st, P1 (fun p => ExOk prog w B d env b m st p.1 p.2.1 p.2.2) (body m st)) : P1 (fun p => StOk prog w B d env (.For t it b [] pos) m st p.1 p.2.1 p.2.2) (loopF src all bnd body all m st1) :=
  fun p e A ρ s Q E hR X kk => wpAny_For (Hi A ρ s _ E hR X fun ρ1 I h1 tk1 X1 N1 O T hst => for_ok Hbind Hb all 0 m st1 rfl p e A ρ ρ1 st m s.heap _ _ hR X N1 X1 O T hst fun ρ' f h' tk' X' N' hf => kk ρ' f h' tk' X' N' hf) (folded_not hn)
end
end Mine
end
section
open PySem PySem.W PySem.Calls PyProof.Rows
namespace Mine
structure Run (ρ0 : List (Addr × Addr)) (U : Addr → Prop) (h0 : Heap) (ρ : List (Addr × Addr)) (h : Heap) : Prop where
  nx : Nx ρ0 U h0 ρ h
  stay : ∀ b o, h0.get? b = some o → ∃ o', h.get? b = some o'
section
variable {prog : Program} {w : World} {K : Frag} {P : Program} {loose : List Str} {mg mb : Str → Option Value} {B : Heap} {A : Around} {ρ ρ' ρ2 ρ0 : List (Addr × Addr)} {d : Nat} {env cenv : Env} {m m' m1 m2 mc m0 : Lo} {st st1 st2 st3 st4 st' st0 : St} {h h' h0 h2 h1 hw : Heap} {I : Addr} {U : Addr → Prop}
theorem Run.step (hU : ∀ b, Fm env b → U b) (R : Run ρ0 U h0 ρ h) (X : Cx B ρ st env m h) (N : Nx ρ (Fm env) h ρ' h') (X' : Cx B ρ' st' env m' h') : Run ρ0 U h0 ρ' h' :=
  ⟨⟨R.nx.pre.trans N.pre, fun b o e f g => N.keep b o (R.nx.keep b o e f g) (fun f' => (R.nx.grow b f').elim f fun q => nn (q.symm.trans e)) fun q => g (hU b q),
    fun b f => (N.grow b f).elim (R.nx.grow b) fun q => .inr ((someOr _).resolve_right fun z => nn (q.symm.trans (R.stay b _ z.choose_spec).choose_spec))⟩, fun b o e => (R.stay b o e).elim fun _ e1 => X.stay N X' e1⟩
theorem Run.but (R : Run ρ0 U h0 ρ h) (hI : h0.get? I = none ∨ U I) (e : ∃ o, h'.get? I = some o) (k : But h h' I) : Run ρ0 U h0 ρ h' :=
  ⟨R.nx.but hI k.keep, fun b o q => (R.stay b o q).elim fun o1 e1 => by
    by_cases z : b = I
    · exact z ▸ e
    · exact ⟨o1, k.keep b o1 z e1⟩⟩
theorem Cx.same' (X : Cx B ρ st env m h) (e : ∀ x v, x < nmN → look x m' = some v → (env.kindOf (nmS x) = some .local ∨ env.kindOf (nmS x) = some .cell ∨ env.kindOf (nmS x) = some .free) → look x m = some v) : Cx B ρ st env m' h :=
  ⟨X.rel, X.fr.kind, X.fr.glob, X.fr.blt, X.fr.ns.imp fun _ n => ⟨n.1, fun x v hx q hl => n.2 x v hx (e x v hx q (.inl hl)) hl⟩, fun x v hx q hl => X.fr.cel x v hx (e x v hx q (.inr hl)) hl, X.fr.celok, X.fr.has, X.fr.one, X.fr.new, X.fr.above⟩
theorem comp_turn (elt target iter : Expr) (ifs : List Expr) (scope : Scope) (pos : Pos) (it acc : Value) (env : Env) :
    compTurn (.ListComp elt [⟨target, iter, ifs, 0⟩] scope pos) 0 it acc env = (standAt iter.pos >>= fun _ => pyNext it >>= fun r => match r with
      | none => pure (.done .next)
      | some v => letOwnedTupleGo target it v >>= fun _ => assign target env v >>= fun _ =>
        (forIn ifs true fun c r => if r = true then do let ok ← isTrue c env (eval c env); pure (ForInStep.yield ok) else pure (ForInStep.yield r)) >>= fun ok =>
          if ok = true then (eval elt env >>= fun x => call (.builtin "list.append") [acc, x] >>= fun _ => pure ()) >>= fun _ => again (.compLoop (.ListComp elt [⟨target, iter, ifs, 0⟩] scope pos) 0 it acc env)
          else again (.compLoop (.ListComp elt [⟨target, iter, ifs, 0⟩] scope pos) 0 it acc env)) := by
  rw [compTurn_list]
  refine congrArg _ (funext fun _ => congrArg _ (funext fun r => ?_))
  rcases r with _ | v
  · rfl
  · refine congrArg _ (funext fun _ => congrArg _ (funext fun _ => congrArg _ (funext fun ok => ?_)))
    rcases ok <;> rfl
section
variable (prog : Program) (w : World) (B : Heap)
noncomputable def TestOk (d : Nat) (env : Env) (ifs : List Expr) (m : Lo) (st : St) (b : Bool) (st' : St) : Prop :=
  ∀ (A : Around) (ρ : List (Addr × Addr)) (s : Shared) (Q : Bool → Shared → Prop) (E : Value → Shared → Prop), Room d A → Cx B ρ st env m s.heap →
    (∀ ρ' h' tk', Cx B ρ' st' env m h' → Nx ρ (Fm env) s.heap ρ' h' → Q b { s with heap := h', toks := tk' }) →
    wpAny (model prog w) A (forIn ifs true fun c r => if r = true then do let ok ← isTrue c env (eval c env); pure (ForInStep.yield ok) else pure (ForInStep.yield r)) Q E s
end
theorem test_nil : TestOk prog w B d env [] m st true st := fun A ρ s Q E hR X k => by
  rw [List.forIn_nil]
  exact wpAny_pure (k ρ s.heap s.toks X Nx.refl)
theorem test_one {c : Expr} {b : Bool} (H : TrOk prog w B d env c m st b st1) : TestOk prog w B d env [c] m st b st1 := fun A ρ s Q E hR X k => by
  rw [List.forIn_cons, if_pos rfl]
  refine wpAny_bind (wpAny_bind (H A ρ s _ _ hR X fun ρ1 h1 tk1 X1 N1 => wpAny_pure ?_))
  exact wpAny_pure (k ρ1 h1 tk1 X1 N1)
theorem comp_loop {elt iter : Expr} {x : Nat} {p pos : Pos} {ifs : List Expr} {scope : Scope} {eltF condF : Lo → St → Option (V × St)} {src : Option Nat} {all : List V} {D : Addr} (hx : x < nmN) (hk : kindL cenv.scope.names (nmS x) = true) (hxl : cenv.kindOf (nmS x) = some .local)
    (hone : ∀ y, y < nmN → cenv.kindOf (nmS y) = some .local → y = x) (hnf : ∀ y, cenv.kindOf y ≠ some .free) (hU : ∀ b, Fm cenv b → U b) (hIU : U I) (hz : all.length ≤ 4096) (hID : I ≠ D)
    (He : ∀ v st, P1 (fun p => EvOk prog w B d cenv elt (put x v m) st p.1 p.2) (eltF (put x v m) st)) (Hc : ∀ v st, P1 (fun p => ∀ b, p.1 = .bool b → TestOk prog w B d cenv ifs (put x v m) st b p.2) (condF (put x v m) st)) (rest : List V) :
    ∀ (i : Nat) (st : St), all.drop i = rest → P1 (fun r => ∀ (mc : Lo) (ρ : List (Addr × Addr)) (acc : List V) (ws : List Value) (n : Nat) (s : Shared) (A : Around) (R : Result → Shared → Prop), acc.length ≤ i → Room d A →
      Run ρ0 U h0 ρ s.heap → Cx B ρ st cenv mc s.heap → (∀ y, y < nmN → cenv.kindOf (nmS y) = some .cell → look y mc = look y m) → Own B hw s.heap ρ cenv I → ItAt B s.heap ρ I src all i → stays st src all = true →
      Own B h0 s.heap ρ cenv D → s.heap.get? D = some (seqObj "list" ws.toArray n) → VRs B s.heap ρ acc ws →
      (∀ ρ' h' tk' mc' ws' n', Cx B ρ' r.2 cenv mc' h' → (∀ y, y < nmN → cenv.kindOf (nmS y) = some .cell → look y mc' = look y m) → Nx ρ0 U h0 ρ' h' → Own B h0 h' ρ' cenv D → h'.get? D = some (seqObj "list" (List.toArray ws') n') → VRs B h' ρ' (acc ++ r.1) ws' → R (.ok .next) { s with heap := h', toks := tk' }) →
      codeAny (model prog w) A (.compLoop (.ListComp elt [⟨.Name (nmS x) p, iter, ifs, 0⟩] scope pos) 0 (.ref I) (.ref D) cenv) R s) (loopC src all x eltF condF rest m st) := by
  have go : ∀ {A : Around} {s : Shared} {R : Result → Shared → Prop}, wpAny (model prog w) A (compTurn (.ListComp elt [⟨.Name (nmS x) p, iter, ifs, 0⟩] scope pos) 0 (.ref I) (.ref D) cenv) (fun fin s' => match fin with | .done f => R (.ok f) s' | .again c' => c'.quiet = true ∧ codeAny (model prog w) A c' R s') (notedBy (model prog w) A cenv fun e s' => R (.error e) s') s →
      codeAny (model prog w) A (.compLoop (.ListComp elt [⟨.Name (nmS x) p, iter, ifs, 0⟩] scope pos) 0 (.ref I) (.ref D) cenv) R s := fun {A s R} q => codeAny_of_tree (show wpAny _ A ((compTurn (.ListComp elt [⟨.Name (nmS x) p, iter, ifs, 0⟩] scope pos) 0 (.ref I) (.ref D) cenv).onRaise (fun x => do noteFrame x cenv; theTreesLotGoes x)) _ _ s from wpAny_noted q)
  induction rest with
  | nil =>
    intro i st hi
    refine P1.of fun mc ρ acc ws n s A R hac hR hrun X hJ O T hst OD hD Rs kk => go ?_
    rw [comp_turn]
    refine wpAny_bind (wpAny_standAt (wpAny_bind (it_next X T hst hR.hd (fun v z h' tk' hv => nn ((drop_none hi).symm.trans hv)) fun h' tk' _ hk => ?_)))
    have hD' := hk.keep D _ (fun z => hID z.symm) hD
    exact wpAny_pure (kk ρ h' tk' mc ws n (X.but hk O) hJ (hrun.nx.but (.inr hIU) hk.keep) (OD.next ⟨_, hD'⟩) hD' ((List.append_nil acc).symm ▸ hk.vrs Rs))
  | cons v rest ih =>
    intro i st hi
    obtain ⟨hv0, hi'⟩ := drop_some hi
    have hJ2 : ∀ y, y < nmN → cenv.kindOf (nmS y) = some .cell → look y (put x v m) = look y m := fun y hy hc => look_put.trans (if_neg fun q => by rw [q] at hc; exact nomatch hxl.symm.trans hc)
    have pre : ∀ {b : Bool} {st1 : St} {mc : Lo} {ρ : List (Addr × Addr)} {acc : List V} {ws : List Value} {n : Nat} {s : Shared} {A : Around} {R : Result → Shared → Prop}, TestOk prog w B d cenv ifs (put x v m) st b st1 → Room d A →
      Run ρ0 U h0 ρ s.heap → Cx B ρ st cenv mc s.heap → (∀ y, y < nmN → cenv.kindOf (nmS y) = some .cell → look y mc = look y m) → Own B hw s.heap ρ cenv I → ItAt B s.heap ρ I src all i → stays st src all = true →
      Own B h0 s.heap ρ cenv D → s.heap.get? D = some (seqObj "list" ws.toArray n) → VRs B s.heap ρ acc ws →
      (∀ ρ3 h3 tk3, Run ρ0 U h0 ρ3 h3 → Cx B ρ3 st1 cenv (put x v m) h3 → Own B hw h3 ρ3 cenv I → ItAt B h3 ρ3 I src all (i + 1) → Own B h0 h3 ρ3 cenv D → h3.get? D = some (seqObj "list" ws.toArray n) → VRs B h3 ρ3 acc ws →
        wpAny (model prog w) A (if b = true then (eval elt cenv >>= fun x => call (.builtin "list.append") [.ref D, x] >>= fun _ => pure ()) >>= fun _ => again (.compLoop (.ListComp elt [⟨.Name (nmS x) p, iter, ifs, 0⟩] scope pos) 0 (.ref I) (.ref D) cenv)
          else again (.compLoop (.ListComp elt [⟨.Name (nmS x) p, iter, ifs, 0⟩] scope pos) 0 (.ref I) (.ref D) cenv)) (fun fin s' => match fin with | .done f => R (.ok f) s' | .again c' => c'.quiet = true ∧ codeAny (model prog w) A c' R s') (notedBy (model prog w) A cenv fun e s' => R (.error e) s') { s with heap := h3, toks := tk3 }) →
      codeAny (model prog w) A (.compLoop (.ListComp elt [⟨.Name (nmS x) p, iter, ifs, 0⟩] scope pos) 0 (.ref I) (.ref D) cenv) R s := by
      intro b st1 mc ρ acc ws n s A R Ht hR hrun X hJ O T hst OD hD Rs k
      refine go ?_
      rw [comp_turn]
      refine wpAny_bind (wpAny_standAt (wpAny_bind (it_next X T hst hR.hd (fun v' z h1 tk1 hv hk1 T1 Rz => ?_) fun h' tk' hn _ => nn (hn.symm.trans hv0))))
      have ez := Option.some.inj (hv0.symm.trans hv)
      subst ez
      have hD1 := hk1.keep D _ (fun z => hID z.symm) hD
      have X1 := X.but hk1 O
      refine wpAny_bind (owned_go T1.cls (wpAny_bind (assign_Name (store_name X1 hx hk (hk1.vr Rz) fun h2 tk2 X2 N2 => ?_))))
      have X2' : Cx B ρ st cenv (put x v m) h2 := X2.same' fun y u hy hl hkk => lp_el hl (fun q q' => by rw [look_put, if_pos q, q']) fun q hl => by
        rw [look_put, if_neg q]
        exact hkk.elim (fun h => absurd (hone y hy h) q) fun h => h.elim (fun h => (hJ y hy h).trans hl) fun h => absurd h (hnf _)
      obtain ⟨O2, e2⟩ := (O.next T1.is).move N2
      obtain ⟨OD2, eD2⟩ := (OD.next ⟨_, hD1⟩).move N2
      refine wpAny_bind (Ht A ρ _ _ _ hR X2' fun ρ3 h3 tk3 X3 N3 => ?_)
      obtain ⟨O3, e3⟩ := O2.move N3
      obtain ⟨OD3, eD3⟩ := OD2.move N3
      exact k ρ3 h3 tk3 (((hrun.but (.inr hIU) T1.is hk1).step hU X1 N2 X2).step hU X2' N3 X3) X3 O3 (T1.move (e3.trans e2) (fun _ _ t => X2'.tup N3 (X1.tup N2 t)) N3.pre) OD3 ((eD3.trans eD2).trans hD1) (X2'.vrs N3 (X1.vrs N2 (hk1.vrs Rs)))
    refine P1.bd (Hc v st) fun u st1 Ht => P1.onB fun t et => P1.cd (fun z => P1.bd (He v st1) fun y st2 He' => P1.if fun hs => P1.bd (ih (i + 1) st2 hi') fun ys st3 IH => P1.of fun mc ρ acc ws n s A R hac hR hrun X hJ O T hst OD hD Rs kk => ?_)
      fun z => P1.if fun hs r e mc ρ acc ws n s A R hac hR hrun X hJ O T hst OD hD Rs kk => ?_
    · refine pre (Ht _ et) hR hrun X hJ O T hst OD hD Rs fun ρ3 h3 tk3 run3 X3 O3 T3 OD3 hD3 Rs3 => ?_
      rw [if_pos z]
      refine wpAny_bind (wpAny_bind (ok_then He' hR X3 fun ρ4 y4 h4 tk4 X4 N4 R4 => ?_))
      obtain ⟨O4, e4⟩ := O3.move N4
      obtain ⟨OD4, eD4⟩ := OD3.move N4
      have eD4 := eD4.trans hD3
      refine wpAny_bind (call_meets PySem.F.slot_list_append ⟨_, eD4, rfl⟩ PySem.F.entry_list_append (PySem.F.args_list_append_2 _ _) (list_append D ws.toArray n y4 (len_lineA Rs (Nat.le_trans hac (Nat.le_trans (Nat.le_of_lt (List.getElem?_eq_some_iff.mp hv0).1) hz)))) ⟨eD4, ?_⟩)
      obtain ⟨n5, g5⟩ := list_turn (f := fun xs => xs.push y4) (ys := ws ++ [y4]) eD4 (List.push_toArray ..)
      have k5 : But h4 (h4.update D (Obj.mapSeq fun xs => xs.push y4)) D := ⟨fun b o q e => ((Heap.SameBut.update h4 D _).2 b q).trans e, nt_of eD4 rfl (by decide)⟩
      obtain ⟨oI, hoI⟩ := O4.is
      have eI := k5.keep I oI hID hoI
      exact wpAny_pure (wpAny_pure ⟨rfl, IH (put x v m) ρ4 (acc ++ [y]) (ws ++ [y4]) n5 _ A R (by rw [List.length_append]; exact Nat.succ_le_succ hac) hR ((run3.step hU X3 N4 X4).but (.inl OD4.was) ⟨_, g5⟩ k5) (X4.but k5 OD4) hJ2 (O4.next ⟨oI, eI⟩) ((T3.move e4 (fun _ _ t => X3.tup N4 t) N4.pre).move (eI.trans hoI.symm) (fun _ _ t => k5.tup t) (List.prefix_refl _)) hs (OD4.next ⟨_, g5⟩) g5
        ((k5.vrs (X3.vrs N4 Rs3)).append (.cons (k5.vr R4) .nil)) fun ρ' h' tk' mc' ws' n' a1 a2 a3 a4 a5 a6 => kk ρ' h' tk' mc' ws' n' a1 a2 a3 a4 a5 (by rw [List.append_assoc] at a6; exact a6)⟩)
    · refine pre (Ht _ et) hR hrun X hJ O T hst OD hD Rs fun ρ3 h3 tk3 run3 X3 O3 T3 OD3 hD3 Rs3 => ?_
      rw [if_neg fun q => tf (q.symm.trans z)]
      exact wpAny_pure ⟨rfl, ih (i + 1) st1 hi' r e (put x v m) ρ3 acc ws n _ A R (Nat.le_succ_of_le hac) hR run3 X3 hJ2 O3 T3 hs OD3 hD3 Rs3 kk⟩
end
end Mine
end
section
open PySem PySem.W PySem.Calls PyProof.Rows
namespace Mine
theorem no_dot0 : ∀ y, y < nmN → nmS y ≠ (".0" : Str) := by decide +kernel
theorem look_filter {f : Nat → Bool} {y : Nat} {m : Lo} : look y (m.filter fun q => f q.1) = if f y = true then look y m else none := by
  induction m with
  | nil => by_cases q : f y = true <;> first | rw [if_pos q]; rfl | rw [if_neg q]; rfl
  | cons p r ih =>
    obtain ⟨z, v⟩ := p
    show _ = if f y = true then (if y = z then some v else look y r) else none
    rw [List.filter_cons]
    by_cases q : f z = true
    · rw [if_pos q]
      show (if y = z then some v else look y (r.filter fun q => f q.1)) = _
      by_cases e : y = z
      · rw [if_pos e, if_pos e, if_pos (e ▸ q)]
      · rw [if_neg e, if_neg e, ih]
    · rw [if_neg q, ih]
      by_cases e : y = z
      · rw [if_neg (e ▸ q), if_neg (e ▸ q)]
      · rw [if_neg e]
noncomputable def cnK (ns : Nk) (y : Str) (k : NameKind) : NameKind := if (k == .free && ns.lookup y == some .cell) = true then .cell else k
theorem cnOf_lookup {ns : Nk} {y : Str} {cn : Nk} : (cnOf ns cn).lookup y = (cn.lookup y).map (cnK ns y) := by
  induction cn with
  | nil => rfl
  | cons p r ih =>
    obtain ⟨n, k⟩ := p
    have e0 : (if (k == .free && ns.lookup n == some .cell) = true then (n, .cell) else (n, k)) = (n, cnK ns n k) := by
      unfold cnK
      by_cases q : (k == .free && ns.lookup n == some .cell) = true
      · rw [if_pos q, if_pos q]
      · rw [if_neg q, if_neg q]
    show List.lookup y ((if (k == .free && ns.lookup n == some .cell) = true then (n, .cell) else (n, k)) :: cnOf ns r) = _
    rw [e0]
    by_cases e : (y == n) = true
    · rw [lk_t e, lk_t e, eq_of_beq e]; rfl
    · rw [lk_f (eq_false_of_ne_true e), lk_f (eq_false_of_ne_true e), ih]
theorem relabel_names {scope : Scope} {env : Env} (hk : env.scope.kind = .function) : (relabel scope env).names = cnOf env.scope.names scope.names := by
  unfold relabel cnOf
  simp only [hk, Env.kindOf, beq_self_eq_true, Bool.and_true]
section
variable {prog : Program} {w : World} {K : Frag} {P : Program} {loose : List Str} {mg mb : Str → Option Value} {B : Heap} {A : Around} {ρ ρ' ρ2 ρ0 : List (Addr × Addr)} {d : Nat} {env cenv : Env} {m m' m1 m2 mc m0 : Lo} {st st1 st2 st3 st4 st' st0 : St} {h h' h0 h2 h1 : Heap} {I : Addr} {U : Addr → Prop}
theorem it_self {src : Option Nat} {all : List V} {i : Nat} {s : Shared} {Q E : Value → Shared → Prop} (T : ItAt B s.heap ρ I src all i) (q : Q (.ref I) s) : wpAny (model prog w) A (pyIter (.ref I)) Q E s := by
  induction T with
  | tup g _ _ => exact wpAny_pyIter_tupleiter g q
  | list g _ => exact wpAny_pyIter_listiter g q
  | range g => exact wpAny_pyIter_rangeiter g q
theorem closure_is {env : Env} (names : List (Str × NameKind)) : ∀ (acc : List (Str × Addr)), (∀ n, (n, NameKind.free) ∈ names → ∃ c, env.cells.lookup n = some c) →
    ∃ cl, (forIn names acc fun (x : Str × NameKind) (cs : List (Str × Addr)) => (if x.2 == .free then do let c ← cellOf env x.1; pure (ForInStep.yield ((x.1, c) :: cs)) else pure (ForInStep.yield cs) : Sem (ForInStep (List (Str × Addr))))) = pure cl ∧
      (∀ y c, cl.lookup y = some c → acc.lookup y = some c ∨ ((y, NameKind.free) ∈ names ∧ env.cells.lookup y = some c)) ∧ (∀ y, (y, NameKind.free) ∈ names ∨ (acc.lookup y).isSome = true → (cl.lookup y).isSome = true) := by
  induction names with
  | nil => exact fun acc _ => ⟨acc, List.forIn_nil, fun y c e => .inl e, fun y e => e.elim (fun e => nomatch e) id⟩
  | cons p r ih =>
    intro acc hh
    obtain ⟨n, k⟩ := p
    by_cases hk : (k == NameKind.free) = true
    · have ek := eq_of_beq hk
      subst ek
      obtain ⟨c, hc⟩ := hh n (.head _)
      obtain ⟨cl, e1, e2, e3⟩ := ih ((n, c) :: acc) fun y hy => hh y (.tail _ hy)
      refine ⟨cl, ?_, fun y c' hy => (e2 y c' hy).elim (fun q => ?_) fun q => .inr ⟨.tail _ q.1, q.2⟩, fun y hy => e3 y (hy.elim (fun hy => (List.mem_cons.mp hy).elim (fun z => .inr ?_) .inl) fun hy => .inr ?_)⟩
      · rw [List.forIn_cons, if_pos hk, show cellOf env n = pure c by unfold cellOf; rw [hc]]
        exact e1
      · by_cases z : (y == n) = true
        · rw [lk_t z] at q; exact .inr ⟨eq_of_beq z ▸ .head _, by rw [eq_of_beq z, hc]; exact q⟩
        · rw [lk_f (eq_false_of_ne_true z)] at q; exact .inl q
      · rw [lk_t (beq_iff_eq.mpr (congrArg (·.1) z))]; rfl
      · by_cases z : (y == n) = true
        · rw [lk_t z]; rfl
        · rw [lk_f (eq_false_of_ne_true z)]; exact hy
    · obtain ⟨cl, e1, e2, e3⟩ := ih acc fun y hy => hh y (.tail _ hy)
      refine ⟨cl, ?_, fun y c' hy => (e2 y c' hy).imp_right fun q => ⟨.tail _ q.1, q.2⟩, fun y hy => e3 y (hy.imp_left fun hy => (List.mem_cons.mp hy).resolve_left fun z => hk (beq_iff_eq.mpr (congrArg (·.2) z).symm))⟩
      rw [List.forIn_cons, if_neg hk]
      exact e1
theorem closureFor_is {scope : Scope} (hh : ∀ n, (n, NameKind.free) ∈ scope.names → ∃ c, env.cells.lookup n = some c) :
    ∃ cl, closureFor scope env = pure cl ∧ (∀ y c, cl.lookup y = some c → (y, NameKind.free) ∈ scope.names ∧ env.cells.lookup y = some c) ∧ (∀ y, (y, NameKind.free) ∈ scope.names → (cl.lookup y).isSome = true) := by
  obtain ⟨cl, e1, e2, e3⟩ := closure_is scope.names [] hh
  refine ⟨cl, ?_, fun y c e => (e2 y c e).elim (fun q => nn q) id, fun y e => e3 y (.inl e)⟩
  unfold closureFor
  refine Eq.trans ?_ e1
  simp only [bind_pure]
theorem Cx.enter {cl : List (Str × Addr)} (X : Cx B ρ st env m h) (keep : ∀ b o, h.get? b = some o → h1.get? b = some o) (sz : h.objs.size ≤ h1.objs.size) (hC : h1.Ns cenv.locals fun _ => none) (hCl : h.objs.size ≤ cenv.locals)
    (hs : cenv.scope.kind = .function) (hg : cenv.globals = env.globals) (hb : cenv.builtins = env.builtins) (hc : cenv.cells = cl)
    (c1 : ∀ y c, cl.lookup y = some c → cenv.kindOf y = some .cell ∧ env.cells.lookup y = some c) (c2 : ∀ y, cenv.kindOf y = some .cell → env.kindOf y = some .cell ∧ (cl.lookup y).isSome = true) :
    Cx B ρ st cenv (m.filter fun q => decide (cenv.kindOf (nmS q.1) = some .cell)) h1 := by
  subst hc
  have ht : ∀ x ws, IsTup h x ws → IsTup h1 x ws := fun x ws t => t.keeps keep
  have gone := X.free (Heap.get?_none_of_le hCl)
  have lf : ∀ {x v}, look x (m.filter fun q => decide (cenv.kindOf (nmS q.1) = some .cell)) = some v → cenv.kindOf (nmS x) = some .cell ∧ look x m = some v := fun e => by
    rw [look_filter (f := fun q => decide (cenv.kindOf (nmS q) = some .cell))] at e
    exact if_el e fun q e => ⟨of_decide_eq_true q, e⟩
  refine ⟨⟨X.rel.len, fun a o p h1' h2' => (X.rel.objs a o p h1' h2').mono (List.prefix_refl _) ht (keep _) (keep _), X.rel.inj, X.rel.fresh, fun b o e => keep b o (X.rel.base b o e), Nat.le_trans X.rel.size sz⟩,
    ⟨hs, hg.trans X.fr.glob, hb.trans X.fr.blt, ⟨_, hC, fun x v hx e hl => nomatch hl.symm.trans (lf e).1⟩, fun x v hx e hl => ?_, fun y c hy => ?_, fun y hy => Option.isSome_iff_exists.mp (c2 y hy).2, fun y z c e1 e2 => X.fr.one _ _ _ (c1 _ _ e1).2 (c1 _ _ e2).2, fun b f => f.elim (fun q => q ▸ ⟨gone.1, gone.2.1⟩) fun q => X.fr.new b (.inr (q.imp fun y hy => (c1 _ _ hy).2)), Nat.le_trans X.rel.size hCl⟩⟩
  · obtain ⟨q, e⟩ := lf e
    obtain ⟨k1, k2⟩ := c2 _ q
    obtain ⟨c, o, z, g1, g2, g3, g4⟩ := X.fr.cel x v hx e (.inl k1)
    obtain ⟨c', hc'⟩ := Option.isSome_iff_exists.mp k2
    have ec := Option.some.inj (g1.symm.trans (c1 _ _ hc').2)
    exact ⟨c, o, z, ec ▸ hc', keep _ _ g2, g3, g4.mono (List.prefix_refl _) ht⟩
  · obtain ⟨o, v0, g1, g2⟩ := X.fr.celok y c (c1 _ _ hy).2
    exact ⟨o, v0, keep _ _ g1, g2⟩
theorem Cx.back {ρs : List (Addr × Addr)} {hs : Heap} (Xs : Cx B ρs st2 env m hs) (N1 : Nx ρs (Fm env) hs ρ0 h0) (X0 : Cx B ρ0 st0 env m h0) (Xc : Cx B ρ st cenv mc h) (R : Nx ρ0 (fun b => Fm cenv b ∨ b = I) h0 ρ h) (hC : h0.get? cenv.locals = none) (O : Own B hs h0 ρ0 env I) (hI : ∀ ws, ¬ IsTup h0 I ws)
    (c1 : ∀ y c, cenv.cells.lookup y = some c → cenv.kindOf y = some .cell ∧ env.cells.lookup y = some c)
    (hJ : ∀ y, y < nmN → cenv.kindOf (nmS y) = some .cell → look y mc = look y m) : Cx B ρ st env m h ∧ Nx ρs (Fm env) hs ρ h := by
  have out : ∀ {b o}, h0.get? b = some o → (∀ y, cenv.cells.lookup y ≠ some b) → b ≠ I → ¬ (Fm cenv b ∨ b = I) := fun e hn hi q =>
    q.elim (fun q => q.elim (fun q => nn (hC.symm.trans (q ▸ e))) fun q => hn _ q.choose_spec) hi
  have ht : ∀ x ws, IsTup h0 x ws → IsTup h x ws := fun x ws t => by
    obtain ⟨o, ho, hc, n, hd⟩ := id t
    exact ⟨o, R.keep x o ho (fun z => X0.rel.foot_not z ho hc) (out ho (fun y hy => X0.fr.fm_not (.inr ⟨y, (c1 _ _ hy).2⟩) ho _ _ hd) fun z => hI ws (z ▸ t)), hc, n, hd⟩
  have vr : ∀ {v w}, VR B h0 ρ0 v w → VR B h ρ v w := fun r => r.mono R.pre ht
  have kfm : ∀ {b o}, Fm env b → h0.get? b = some o → (∀ y, cenv.cells.lookup y ≠ some b) → h.get? b = some o := fun f e hn => R.keep _ _ e (X0.fr.new _ f).2 (out e hn fun z => O.frame (z ▸ f))
  obtain ⟨mm, hn, hv⟩ := X0.fr.ns
  refine ⟨⟨Xc.rel, X0.fr.kind, X0.fr.glob, X0.fr.blt, ⟨mm, hn.at' fun o e => kfm (.inl rfl) e fun y hy => X0.fr.cell_ne (c1 _ _ hy).2 rfl, fun x v hx e hl => (hv x v hx e hl).imp fun z g => ⟨g.1, vr g.2⟩⟩, fun x v hx e hl => ?_, fun y c hy => ?_, X0.fr.has, X0.fr.one,
    fun b f => ⟨(X0.fr.new b f).1, fun g => (R.grow b g).elim (X0.fr.new b f).2 fun q => nn (q.symm.trans (X0.fr.fm_some f).choose_spec)⟩, X0.fr.above⟩, N1.pre.trans R.pre, fun b o e f g => ?_, fun b f => (R.grow b f).elim (N1.grow b) fun q => .inr (Xs.gone N1 X0 q)⟩
  · obtain ⟨c, o, z, g1, g2, g3, g4⟩ := X0.fr.cel x v hx e hl
    by_cases q : ∃ y, cenv.cells.lookup y = some c
    · obtain ⟨y, hy⟩ := q
      obtain ⟨k1, k2⟩ := c1 _ _ hy
      have ey := X0.fr.one _ _ _ k2 g1
      subst ey
      obtain ⟨c', o', z', q1, q2, q3⟩ := Xc.fr.cel x v hx ((hJ x hx k1).trans e) (.inl k1)
      exact ⟨c, o', z', g1, Option.some.inj (q1.symm.trans hy) ▸ q2, q3⟩
    · exact ⟨c, o, z, g1, kfm (.inr ⟨_, g1⟩) g2 (fun y hy => q ⟨y, hy⟩), g3, vr g4⟩
  · obtain ⟨o, v0, g1, g2⟩ := X0.fr.celok y c hy
    by_cases q : ∃ y, cenv.cells.lookup y = some c
    · exact Xc.fr.celok _ c q.choose_spec
    · exact ⟨o, v0, kfm (.inr ⟨_, hy⟩) g1 (fun y hy => q ⟨y, hy⟩), g2⟩
  · have e1 := N1.keep b o e f g
    exact R.keep b o e1 (fun f' => (N1.grow b f').elim f fun q => nn (q.symm.trans e)) (out e1 (fun y hy => g (.inr ⟨y, (c1 _ _ hy).2⟩)) fun z => nn (O.was.symm.trans (z ▸ e)))
end
end Mine
end
section
open PySem PySem.W PySem.Calls PyProof.Rows
namespace Mine
theorem comp_all {ns : Nk} {id y : Str} {k : NameKind} (h : ((y == (".0" : Str) && k == .local) || (y == id && k == .local) || (k == .free && ns.lookup y == some .cell) || k == .globalImplicit) = true) :
    k ≠ .cell ∧ (k = .free → ns.lookup y = some .cell) ∧ (k = .local → y = (".0" : Str) ∨ y = id) := by
  refine or_el h (fun h => or_el h (fun h => ?_) fun h => ?_) fun h => ?_
  · have e : k = .local := or_el h (fun h => eq_of_beq (b2 h)) fun h => eq_of_beq (b2 h)
    subst e; exact ⟨nofun, nofun, fun _ => or_el h (fun h => .inl (eq_of_beq (b1 h))) fun h => .inr (eq_of_beq (b1 h))⟩
  · have e : k = .free := eq_of_beq (b1 h)
    subst e; exact ⟨nofun, fun _ => eq_of_beq (b2 h), nofun⟩
  · have e : k = .globalImplicit := eq_of_beq h
    subst e; exact ⟨nofun, nofun, nofun⟩
theorem look_of {y : Str} {kd : NameKind} {l : List (Str × NameKind)} : (l.map (·.1)).Nodup → (y, kd) ∈ l → l.lookup y = some kd := by
  induction l with
  | nil => exact fun _ h => nomatch h
  | cons q l ih =>
    intro h1 h2
    obtain ⟨q1, q2⟩ := q
    rw [List.map_cons, List.nodup_cons] at h1
    by_cases z : (y == q1) = true
    · rw [lk_t z]
      exact (List.mem_cons.mp h2).elim (fun e => congrArg (fun p => some p.2) e.symm) fun e => absurd (List.mem_map.mpr ⟨_, e, eq_of_beq z⟩) h1.1
    · rw [lk_f (eq_false_of_ne_true z)]
      exact ih h1.2 ((List.mem_cons.mp h2).resolve_left fun e => z (beq_iff_eq.mpr (congrArg (·.1) e)))
section
variable {prog : Program} {w : World} {K : Frag} {P : Program} {loose : List Str} {mg mb : Str → Option Value} {B : Heap} {A : Around} {ρ ρ' ρ2 ρ0 : List (Addr × Addr)} {d : Nat} {env cenv : Env} {m m' m1 m2 mc m0 : Lo} {st st1 st2 st3 st4 st' st0 : St} {h h' h0 h2 h1 : Heap} {I : Addr} {U : Addr → Prop}
theorem nt_ns (hc : ∃ mm, h.Ns I mm) : ∀ ws, ¬ IsTup h I ws := fun ws t => by
  obtain ⟨o, ho, _, n, hd⟩ := t
  obtain ⟨mm, o2, es, ep, q1, q2, _⟩ := hc
  rw [ho] at q1; rw [← Option.some.inj q1, hd] at q2
  exact nomatch q2
theorem comp_core {elt iter : Expr} {x : Nat} {p pos cpos : Pos} {ifs : List Expr} {scope : Scope} {eltF condF : Lo → St → Option (V × St)} {src : Option Nat} {all : List V} {r : List V × St} (hco : compOk env.scope.names scope.names x (nmS x) = true) (hsk : scope.kind = .function)
    (hn : notSet iter = true) (Hi : ItOk prog w B d env iter m st all src st1) (hz : all.length ≤ 4096) (e : loopC src all x eltF condF all m st1 = some r)
    (He : ∀ cenv : Env, cenv.scope.names = cnOf env.scope.names scope.names → ∀ v st, P1 (fun p => EvOk prog w B d cenv elt (put x v m) st p.1 p.2) (eltF (put x v m) st))
    (Hc : ∀ cenv : Env, cenv.scope.names = cnOf env.scope.names scope.names → ∀ v st, P1 (fun p => ∀ b, p.1 = .bool b → TestOk prog w B d cenv ifs (put x v m) st b p.2) (condF (put x v m) st))
    {use : Option (Value → Sem Unit)} {s : Shared} {Q E : Value → Shared → Prop} (hR : Room d A) (X : Cx B ρ st env m s.heap)
    (k : ∀ ρ' D C h' tk', Cx B (ρ' ++ [(D, D)]) (r.2 ++ [.list r.1]) env m h' → Nx ρ (Fm env) s.heap (ρ' ++ [(D, D)]) h' → ρ'.length = r.2.length → Own B s.heap h' (ρ' ++ [(D, D)]) env C → (∃ mm, h'.Ns C mm) →
      match use with
      | none => ∀ h'', Heap.SameBut C h' h'' → Q (.ref D) { s with heap := h'', toks := tk' }
      | some u => wpAny (model prog w) A (u (.ref D)) (fun _ s'' => ∃ m, s''.heap.Ns C m ∧ ∀ h'', Heap.SameBut C s''.heap h'' → Q .none { s'' with heap := h'' }) E { s with heap := h', toks := tk' }) :
    wpAny (model prog w) A (comprehension (.ListComp elt [⟨.Name (nmS x) p, iter, ifs, 0⟩] scope pos) scope env cpos (newList []) false (eval iter env) use) Q E s := by
  have hx := of_decide_eq_true (b1 (b1 (b1 (b1 (b1 (b1 hco))))))
  have hnd := of_decide_eq_true (b2 (b1 (b1 hco)))
  have hloc : scope.names.lookup (nmS x) = some .local := eq_of_beq (b2 hco)
  have hall : ∀ {y k}, (y, k) ∈ scope.names → k ≠ .cell ∧ (k = .free → env.scope.names.lookup y = some .cell) ∧ (k = .local → y = (".0" : Str) ∨ y = nmS x) := fun h => comp_all (List.all_eq_true.mp (b2 (b1 hco)) _ h)
  obtain ⟨cl, hclos, hc1, hc2⟩ := closureFor_is (env := env) (scope := scope) fun n hm => X.fr.has n ((hall hm).2.1 rfl)
  refine wpAny_comprehension_free (use := use) rfl (folded_not hn) hclos hsk (fun y hy hl => look_of hnd (hl ▸ hy)) (Hi A ρ s _ E hR X fun ρ1 I h1 tk1 X1 N1 O T hst => ?_)
  refine wpAny_newObj_type (wpAny_newFunctionEnv (fun y hy => (hall (show (y.1, y.2) ∈ _ from hy)).1) (fun y hy => nomatch hy) (fun h2 hns hsb => ?_) hsk)
  dsimp only at hns hsb ⊢
  have hsize : (h1.push ({ cls := .type "list", dict := none, data := .seq ([] : List Value).toArray } : Obj)).objs.size = h1.objs.size + 1 := Heap.size_push ..
  generalize hH : h1.push ({ cls := .type "list", dict := none, data := .seq ([] : List Value).toArray } : Obj) = H at hns hsb hsize ⊢
  have hlt : h1.objs.size < H.objs.size := hsize ▸ Nat.lt_succ_self _
  have lt1 : ∀ b o, h1.get? b = some o → b ≠ H.objs.size := fun b o e => Nat.ne_of_lt (Nat.lt_trans (Heap.lt_size e) hlt)
  have old : ∀ b o, h1.get? b = some o → h2.get? b = some o := fun b o e => hsb.extBut b o (lt1 b o e) (Heap.get?_push_of_some _ (hH ▸ Heap.get?_push_of_some _ e))
  have hD2 : h2.get? h1.objs.size = some (seqObj "list" ([] : List Value).toArray 0) := hsb.extBut _ _ (Nat.ne_of_lt hlt) (Heap.get?_push_of_some _ (hH ▸ Heap.get?_push_size _ rfl))
  have hC1 : h1.get? H.objs.size = none := Heap.get?_none_of_le (Nat.le_of_lt hlt)
  have hns' : h2.Ns H.objs.size fun _ => none := hns
  have nmz : (compEnvC scope cl H.objs.size env).scope.names = cnOf env.scope.names scope.names := relabel_names X.fr.kind
  have kof : ∀ y, (compEnvC scope cl H.objs.size env).kindOf y = (scope.names.lookup y).map (cnK env.scope.names y) := fun y => by
    show (compEnvC scope cl H.objs.size env).scope.names.lookup y = _
    rw [nmz, cnOf_lookup]
  have kel : ∀ {y k}, (compEnvC scope cl H.objs.size env).kindOf y = some k → ∃ k0, (y, k0) ∈ scope.names ∧ k ≠ .free ∧ (k = .cell → k0 = .free) ∧ (k = .local → k0 = .local) := fun {y k} q => by
    rw [kof] at q
    obtain ⟨k0, g1, g2⟩ := Option.map_eq_some_iff.mp q
    have hm := mem_of_lookup g1
    refine ⟨k0, hm, ?_⟩
    by_cases z : k0 = .free
    · subst z
      rw [cnK, (hall hm).2.1 rfl] at g2
      subst g2
      exact ⟨nofun, fun _ => rfl, nofun⟩
    · rw [cnK, if_neg fun y => z (eq_of_beq (b1 y))] at g2
      subst g2
      exact ⟨z, fun h => absurd h (hall hm).1, id⟩
  have c1 : ∀ y c, cl.lookup y = some c → (compEnvC scope cl H.objs.size env).kindOf y = some .cell ∧ env.cells.lookup y = some c := fun y c q => by
    obtain ⟨q1, q2⟩ := hc1 y c q
    refine ⟨?_, q2⟩
    rw [kof, look_of hnd q1]
    show some (cnK _ _ _) = _
    rw [cnK, (hall q1).2.1 rfl]; rfl
  have knf : ∀ y, (compEnvC scope cl H.objs.size env).kindOf y ≠ some .free := fun y q => (kel q).choose_spec.2.1 rfl
  have kfree : ∀ {y}, (compEnvC scope cl H.objs.size env).kindOf y = some .cell → (y, NameKind.free) ∈ scope.names := fun q => (kel q).choose_spec.2.2.1 rfl ▸ (kel q).choose_spec.1
  have Xc := X1.enter (cenv := compEnvC scope cl H.objs.size env) (cl := cl) old (Nat.le_of_lt (Nat.lt_trans hlt hns'.lt)) hns' (Nat.le_of_lt hlt) hsk rfl rfl rfl c1 (fun y q => ⟨(hall (kfree q)).2.1 rfl, hc2 y (kfree q)⟩)
  have hxl : (compEnvC scope cl H.objs.size env).kindOf (nmS x) = some .local := by rw [kof, hloc]; rfl
  obtain ⟨oI, hoI⟩ := O.is
  have nI : ¬ Fm (compEnvC scope cl H.objs.size env) I := fun q => q.elim (lt1 I oI hoI) fun q => O.frame (.inr (q.imp fun y hy => (c1 _ _ hy).2))
  have fD := X1.free (get_size h1)
  have nD : ¬ Fm (compEnvC scope cl H.objs.size env) h1.objs.size := fun q => q.elim (Nat.ne_of_lt hlt) fun q => fD.2.2 (.inr (q.imp fun y hy => (c1 _ _ hy).2))
  have T2 : ItAt B h2 ρ1 I src all 0 := T.move ((old _ _ hoI).trans hoI.symm) (fun x ws t => t.keeps old) (List.prefix_refl _)
  have loop : codeAny (model prog w) A (.compLoop (.ListComp elt [⟨.Name (nmS x) p, iter, ifs, 0⟩] scope pos) 0 (.ref I) (.ref h1.objs.size) (compEnvC scope cl H.objs.size env)) (compPost (model prog w) A E use Q (.ref h1.objs.size) H.objs.size) { s with heap := h2, toks := tk1 } := by
    refine comp_loop (cenv := compEnvC scope cl H.objs.size env) (m := m) (ρ0 := ρ1) (h0 := h1) (hw := s.heap) (U := fun b => Fm (compEnvC scope cl H.objs.size env) b ∨ b = I) (I := I) (D := h1.objs.size) (src := src) (all := all) (eltF := eltF) (condF := condF) hx (kindL_local hxl) hxl
      (fun y hy q => ?_) knf (fun b q => .inl q) (.inr rfl) hz (fun q => Nat.ne_of_lt (Heap.lt_size hoI) q) (He _ nmz) (Hc _ nmz) all 0 st1 rfl r e _ ρ1 [] [] 0 _ A _ (Nat.le_refl _) hR ⟨⟨List.prefix_refl _, fun b o e _ _ => old b o e, fun b f => .inl f⟩, fun b o e => ⟨o, old b o e⟩⟩ Xc (fun y hy q => ?_) ⟨O.was, ⟨oI, old _ _ hoI⟩, O.base, O.foot, nI⟩ T2 hst ⟨get_size h1, ⟨_, hD2⟩, fD.1, fD.2.1, nD⟩ hD2 .nil ?_
    · obtain ⟨k0, g1, _, _, g2⟩ := kel q
      exact ((hall g1).2.2 (g2 rfl)).elim (fun z => absurd z (no_dot0 y hy)) fun z => nmS_inj hy hx z
    · rw [look_filter (f := fun q => decide ((compEnvC scope cl H.objs.size env).kindOf (nmS q) = some .cell)), if_pos (decide_eq_true q)]
    · intro ρ' h' tk' mc' ws' n' Xc' hJ' Nx' OD' hD' Rs'
      obtain ⟨Xe, Ne⟩ := Cx.back X N1 X1 Xc' Nx' hC1 O T.nt c1 hJ'
      have hDs := X.gone N1 X1 (get_size h1)
      have X2 := Xe.add (o := .list r.1) (p := (h1.objs.size, h1.objs.size)) (.list hD' (Rs'.mono (List.prefix_append _ _) fun _ _ t => t)) ⟨OD'.base, OD'.foot, fD.2.2⟩ ⟨OD'.base, OD'.foot, fD.2.2⟩
      have oC := Xc'.fr.new H.objs.size (.inl rfl)
      obtain ⟨mm, hmm, _⟩ := Xc'.fr.ns
      have kk := k ρ' h1.objs.size H.objs.size h' tk' X2 (Ne.add (p := (h1.objs.size, h1.objs.size)) hDs hDs) Xe.rel.len ⟨X.gone N1 X1 hC1, hmm.imp fun o q => q.choose_spec.choose_spec.1, oC.1, fun f => f.app oC.2 fun z => z.elim (fun z => Nat.ne_of_lt hlt z.symm) fun z => Nat.ne_of_lt hlt z.symm, (X1.free hC1).2.2⟩ ⟨mm, hmm⟩
      rcases use with _ | u
      · exact ⟨mm, hmm, fun h'' hs => kk h'' hs⟩
      · exact kk
  exact codeAny_compStart_list loop (it_self T2 loop)
end
end Mine
end
section
open PySem PySem.W PySem.Calls PyProof.Rows
namespace Mine
section
variable {prog : Program} {w : World} {K : Frag} {P : Program} {loose : List Str} {mg mb : Str → Option Value} {B : Heap} {A : Around} {ρ ρ' ρ2 ρ0 : List (Addr × Addr)} {d : Nat} {env cenv : Env} {m m' m1 m2 mc m0 : Lo} {st st1 st2 st3 st4 st' st0 : St} {h h' h0 h2 h1 : Heap} {I : Addr} {U : Addr → Prop}
section
variable {elt iter : Expr} {x : Nat} {p pos cpos : Pos} {ifs : List Expr} {scope : Scope} {eltF condF : Lo → St → Option (V × St)} {src : Option Nat} {all : List V} {r : List V × St} (hco : compOk env.scope.names scope.names x (nmS x) = true) (hsk : scope.kind = .function)
    (hn : notSet iter = true) (Hi : ItOk prog w B d env iter m st all src st1) (hz : all.length ≤ 4096) (e : loopC src all x eltF condF all m st1 = some r)
    (He : ∀ cenv : Env, cenv.scope.names = cnOf env.scope.names scope.names → ∀ v st, P1 (fun p => EvOk prog w B d cenv elt (put x v m) st p.1 p.2) (eltF (put x v m) st))
    (Hc : ∀ cenv : Env, cenv.scope.names = cnOf env.scope.names scope.names → ∀ v st, P1 (fun p => ∀ b, p.1 = .bool b → TestOk prog w B d cenv ifs (put x v m) st b p.2) (condF (put x v m) st))
include hco hsk hn Hi hz e He Hc
theorem ok_comp : EvOk prog w B d env (.ListComp elt [⟨.Name (nmS x) p, iter, ifs, 0⟩] scope pos) m st (.ref r.2.length) (r.2 ++ [.list r.1]) := fun A ρ s Q E hR X k => by
  rw [eval_ListComp]
  exact comp_core hco hsk hn Hi hz e He Hc (use := none) hR X fun ρ' D C h' tk' X' N' hl OC hns h'' hsb =>
    k _ _ h'' tk' (X'.but ⟨fun b o q e => hsb.extBut b o q e, nt_ns hns⟩ OC) (N'.but (.inl OC.was) fun b o q e => hsb.extBut b o q e) (.ref (p := (D, D)) (app_get hl))
theorem st_asg_comp {y : Nat} {py spos : Pos} (hy : y < nmN) (hky : kindL env.scope.names (nmS y) = true) : StOk prog w B d env (.Assign [.Name (nmS y) py] (.ListComp elt [⟨.Name (nmS x) p, iter, ifs, 0⟩] scope pos) spos) m st .none (put y (.ref r.2.length) m) (r.2 ++ [.list r.1]) := fun A ρ s Q E hR X k => by
  obtain ⟨b, hsw⟩ : ∃ b, swapsWith (.ListComp elt [⟨.Name (nmS x) p, iter, ifs, 0⟩] scope pos) (some (.Name (nmS y) py)) spos.line env = pure b := ⟨_, rfl⟩
  rcases b
  · exact wpAny_Assign_Name (ok_then (ok_comp hco hsk hn Hi hz e He Hc) hR X fun ρ1 z h1 tk1 X1 N1 R1 => store_name X1 hy hky R1 fun h2 tk X2 N2 => k ρ1 .next h2 tk X2 (Nx.trans X N1 X1 N2) rfl) hsw
  · rw [exec_Assign_Name_used _ _ _ _ hsw]
    refine wpAny_bind (wpAny_standAt (wpAny_bind ?_))
    show wpAny _ A (do let _ ← comprehension (.ListComp elt [⟨.Name (nmS x) p, iter, ifs, 0⟩] scope pos) scope env _ (newList []) false (eval iter env) (some (assign (.Name (nmS y) py) env))) _ _ s
    refine wpAny_bind (wpAny_mono (comp_core hco hsk hn Hi hz e He Hc (use := some (assign (.Name (nmS y) py) env)) (Q := fun _ s' => Q .next s') hR X fun ρ' D C h' tk' X' N' hl OC hns => ?_) (fun _ s' hq => wpAny_pure (wpAny_pure hq)) fun _ _ e => e)
    refine assign_Name (store_name X' hy hky (v := .ref r.2.length) (.ref (p := (D, D)) (app_get hl)) fun h2 tk X2 N2 => ?_)
    obtain ⟨mm, hmm⟩ := hns
    obtain ⟨O2, e2⟩ := OC.move N2
    have hns2 : h2.Ns C mm := hmm.at' fun o e => e2.trans e
    exact ⟨mm, hns2, fun h3 hs3 => k _ .next h3 tk (X2.but ⟨fun b o q e => hs3.extBut b o q e, nt_ns ⟨mm, hns2⟩⟩ O2) ((Nx.trans X N' X' N2).but (.inl OC.was) fun b o q e => hs3.extBut b o q e) rfl⟩
end
end
end Mine
end
section
open PySem PySem.W
namespace Mine
noncomputable def runO {α : Type} (f : Nat → Nat → Option Bool) : KasT α → Option α
  | .ret a => some a
  | .ask i j k => ob (f i j) fun b => runO f (k b)
theorem ob_some {α β : Type} {x : Option α} {k : α → Option β} {y : β} {P : Prop} (e : ob x k = some y) (g : ∀ a, x = some a → k a = some y → P) : P := by
  rcases x with _ | a
  · exact nn e
  · exact g a rfl e
theorem runO_wp {α : Type} {f : Nat → Nat → Option Bool} {cmp : Nat → Nat → (Bool → Shared → Prop) → Shared → Prop} {Inv : Shared → Prop} (hc : ∀ i j b (C : Bool → Shared → Prop) s, f i j = some b → Inv s → (∀ s', Inv s' → C b s') → cmp i j C s) {Q : α → Shared → Prop} {a : α} (t : KasT α) :
    ∀ {s : Shared}, runO f t = some a → Inv s → (∀ s', Inv s' → Q a s') → t.kasWp cmp Q s := by
  induction t with
  | ret x => exact fun e hI q => (Option.some.inj e).symm ▸ q _ hI
  | ask i j k ih => exact fun e hI q => ob_some e fun b hb e => hc i j b _ _ hb hI fun s' hI' => ih b e hI' q
noncomputable def insI (lt : Nat → Nat → Bool) (i : Nat) : List Nat → List Nat
  | [] => [i]
  | j :: r => if lt i j then j :: insI lt i r else i :: j :: r
noncomputable def sortI (lt : Nat → Nat → Bool) : List Nat → List Nat
  | [] => []
  | i :: r => insI lt i (sortI lt r)
noncomputable def oN (n : Nat) (l : List Bool) (i j : Nat) : Option Bool := some (if i = j then false else if i < j then l.getD (i * n + j) false else !l.getD (j * n + i) false)
noncomputable def trO (n : Nat) (o : Nat → Nat → Option Bool) : Bool :=
  (List.range n).all fun i => (List.range n).all fun j => (List.range n).all fun k => !((o i j).getD false && (o j k).getD false) || (o i k).getD false
noncomputable def revO (n : Nat) (o : Nat → Nat → Option Bool) (i j : Nat) : Option Bool := if i < n ∧ j < n then o (n - 1 - i) (n - 1 - j) else none
noncomputable def chkO (n : Nat) (o : Nat → Nat → Option Bool) : Bool := !(trO n o) || (runO (revO n o) (kas_sort n)).any fun p => decide (p.toList.reverse.map (fun i => n - 1 - i) = sortI (fun i j => (o i j).getD false) (List.range n)) && p.toList.all (· < n)
theorem chk2 : ∀ a, chkO 2 (oN 2 [false, a]) = true := by decide +kernel
theorem chk3 : ∀ a b c, chkO 3 (oN 3 [false, a, b, false, false, c]) = true := by decide +kernel
theorem chk4 : ∀ a b c d e f, chkO 4 (oN 4 [false, a, b, c, false, false, d, e, false, false, false, f]) = true := by decide +kernel
theorem chk5 : ∀ a b c d e f g h i j, chkO 5 (oN 5 [false, a, b, c, d, false, false, e, f, g, false, false, false, h, i, false, false, false, false, j]) = true := by decide +kernel
structure Ord (n : Nat) (lt : Nat → Nat → Bool) : Prop where
  irr : ∀ i, i < n → lt i i = false
  tot : ∀ i j, i < n → j < n → i ≠ j → lt j i = !lt i j
  tr : ∀ i j k, i < n → j < n → k < n → lt i j = true → lt j k = true → lt i k = true
theorem insI_congr {n : Nat} {lt lt' : Nat → Nat → Bool} (h : ∀ i j, i < n → j < n → lt i j = lt' i j) {i : Nat} (hi : i < n) (l : List Nat) : (∀ x ∈ l, x < n) → insI lt i l = insI lt' i l := by
  induction l with
  | nil => exact fun _ => rfl
  | cons j r ih =>
    intro hl
    show (if lt i j = true then j :: insI lt i r else i :: j :: r) = if lt' i j = true then j :: insI lt' i r else i :: j :: r
    rw [h i j hi (hl j (.head _)), ih fun x hx => hl x (.tail _ hx)]
theorem insI_mem {lt : Nat → Nat → Bool} {i x : Nat} (l : List Nat) : x ∈ insI lt i l → x = i ∨ x ∈ l := by
  induction l with
  | nil => exact fun h => .inl (List.mem_singleton.mp h)
  | cons j r ih =>
    show x ∈ (if lt i j = true then j :: insI lt i r else i :: j :: r) → _
    by_cases q : lt i j = true
    · rw [if_pos q]
      exact fun h => (List.mem_cons.mp h).elim (fun z => .inr (z ▸ .head _)) fun z => (ih z).imp_right (.tail _)
    · rw [if_neg q]
      exact List.mem_cons.mp
theorem sortI_mem {lt : Nat → Nat → Bool} {x : Nat} (l : List Nat) : x ∈ sortI lt l → x ∈ l := by
  induction l with
  | nil => exact id
  | cons j r ih => exact fun h => (insI_mem _ h).elim (fun z => z ▸ .head _) fun z => .tail _ (ih z)
theorem sortI_congr {n : Nat} {lt lt' : Nat → Nat → Bool} (h : ∀ i j, i < n → j < n → lt i j = lt' i j) (l : List Nat) : (∀ x ∈ l, x < n) → sortI lt l = sortI lt' l := by
  induction l with
  | nil => exact fun _ => rfl
  | cons i r ih =>
    intro hl
    show insI lt i (sortI lt r) = insI lt' i (sortI lt' r)
    rw [ih fun x hx => hl x (.tail _ hx)]
    exact insI_congr h (hl i (.head _)) _ fun x hx => hl x (.tail _ (sortI_mem _ hx))
theorem imp_b {a b c : Bool} (g : a = true → b = true → c = true) : (!(a && b) || c) = true := by
  rcases a
  · rfl
  · rcases b
    · rfl
    · exact g rfl rfl
theorem tr_of {n : Nat} {lt : Nat → Nat → Bool} {o : Nat → Nat → Option Bool} (O : Ord n lt) (h : ∀ i j, i < n → j < n → o i j = some (lt i j)) : trO n o = true := by
  refine List.all_eq_true.mpr fun i hi => List.all_eq_true.mpr fun j hj => List.all_eq_true.mpr fun k hk => ?_
  have hi := List.mem_range.mp hi; have hj := List.mem_range.mp hj; have hk := List.mem_range.mp hk
  rw [h i j hi hj, h j k hj hk, h i k hi hk]
  exact imp_b (O.tr i j k hi hj hk)
theorem any_some {α : Type} {o : Option α} {f : α → Bool} (h : o.any f = true) : ∃ a, o = some a ∧ f a = true := by
  rcases o with _ | a
  · exact ff h
  · exact ⟨a, rfl, h⟩
theorem use_chk {n : Nat} {lt : Nat → Nat → Bool} {o : Nat → Nat → Option Bool} (O : Ord n lt) (h : ∀ i j, i < n → j < n → o i j = some (lt i j)) (c : chkO n o = true) :
    ∃ p, runO (revO n o) (kas_sort n) = some p ∧ p.toList.reverse.map (fun i => n - 1 - i) = sortI lt (List.range n) ∧ ∀ x ∈ p.toList, x < n := by
  unfold chkO at c
  rw [tr_of O h] at c
  obtain ⟨p, hp, c⟩ := any_some c
  exact ⟨p, hp, (of_decide_eq_true (b1 c)).trans (sortI_congr (n := n) (fun i j hi hj => by rw [h i j hi hj]; rfl) _ fun x hx => List.mem_range.mp hx), fun x hx => of_decide_eq_true (List.all_eq_true.mp (b2 c) x hx)⟩
noncomputable def AllP : Nat → (Nat → Prop) → Prop
  | 0, _ => True
  | n + 1, p => AllP n p ∧ p n
theorem AllP.at {p : Nat → Prop} (n : Nat) : AllP n p → ∀ i, i < n → p i := by
  induction n with
  | zero => exact fun _ i h => absurd h (Nat.not_lt_zero i)
  | succ n ih => exact fun h i hi => (Nat.lt_succ_iff_lt_or_eq.mp hi).elim (ih h.1 i) fun e => e ▸ h.2
theorem sort_ok {n : Nat} {lt : Nat → Nat → Bool} (h2 : 2 ≤ n) (h5 : n ≤ 5) (O : Ord n lt) : ∃ (o : Nat → Nat → Option Bool) (p : Array Nat), (∀ i j b, o i j = some b → i < n ∧ j < n ∧ b = lt (n - 1 - i) (n - 1 - j)) ∧ runO o (kas_sort n) = some p ∧ p.toList.reverse.map (fun i => n - 1 - i) = sortI lt (List.range n) ∧ ∀ x ∈ p.toList, x < n := by
  have fin : ∀ l : List Bool, AllP n (fun j => AllP j fun i => l.getD (i * n + j) false = lt i j) → chkO n (oN n l) = true → ∃ (o : Nat → Nat → Option Bool) (p : Array Nat), (∀ i j b, o i j = some b → i < n ∧ j < n ∧ b = lt (n - 1 - i) (n - 1 - j)) ∧ runO o (kas_sort n) = some p ∧ p.toList.reverse.map (fun i => n - 1 - i) = sortI lt (List.range n) ∧ ∀ x ∈ p.toList, x < n := fun l hl c => by
    have ho : ∀ i j, i < n → j < n → oN n l i j = some (lt i j) := fun i j hi hj => by
      unfold oN
      by_cases e : i = j
      · rw [if_pos e, e, O.irr j hj]
      · rw [if_neg e]
        by_cases q : i < j
        · rw [if_pos q, (hl.at n j hj).at j i q]
        · rw [if_neg q, (hl.at n i hi).at i j (Nat.lt_of_le_of_ne (Nat.le_of_not_lt q) (Ne.symm e)), O.tot j i hj hi (Ne.symm e)]
    obtain ⟨p, p1⟩ := use_chk O ho c
    refine ⟨revO n (oN n l), p, fun i j b hb => ?_, p1⟩
    unfold revO at hb
    by_cases q : i < n ∧ j < n
    · rw [if_pos q, ho _ _ (by omega) (by omega)] at hb
      exact ⟨q.1, q.2, (Option.some.inj hb).symm⟩
    · rw [if_neg q] at hb; exact nn hb
  clear O
  rcases n with _ | _ | _ | _ | _ | _ | n
  · exact absurd h2 (by decide)
  · exact absurd h2 (by decide)
  · exact fin [false, lt 0 1] ⟨⟨trivial, trivial⟩, trivial, rfl⟩ (chk2 _)
  · exact fin [false, lt 0 1, lt 0 2, false, false, lt 1 2] ⟨⟨⟨trivial, trivial⟩, trivial, rfl⟩, ⟨trivial, rfl⟩, rfl⟩ (chk3 _ _ _)
  · exact fin [false, lt 0 1, lt 0 2, lt 0 3, false, false, lt 1 2, lt 1 3, false, false, false, lt 2 3] ⟨⟨⟨⟨trivial, trivial⟩, trivial, rfl⟩, ⟨trivial, rfl⟩, rfl⟩, ⟨⟨trivial, rfl⟩, rfl⟩, rfl⟩ (chk4 _ _ _ _ _ _)
  · exact fin [false, lt 0 1, lt 0 2, lt 0 3, lt 0 4, false, false, lt 1 2, lt 1 3, lt 1 4, false, false, false, lt 2 3, lt 2 4, false, false, false, false, lt 3 4] ⟨⟨⟨⟨⟨trivial, trivial⟩, trivial, rfl⟩, ⟨trivial, rfl⟩, rfl⟩, ⟨⟨trivial, rfl⟩, rfl⟩, rfl⟩, ⟨⟨⟨trivial, rfl⟩, rfl⟩, rfl⟩, rfl⟩ (chk5 _ _ _ _ _ _ _ _ _ _)
  · exact absurd h5 (by omega)
noncomputable def ltI : List Int → List Int → Bool
  | [], [] => false
  | x :: xs, y :: ys => if x = y then ltI xs ys else decide (x < y)
  | _, _ => false
theorem ltI_irr (a : List Int) : ltI a a = false := by
  induction a with
  | nil => rfl
  | cons x xs ih => exact (if_pos rfl).trans ih
theorem ltI_tot (a : List Int) : ∀ {b : List Int}, a.length = b.length → a ≠ b → ltI b a = !ltI a b := by
  induction a with
  | nil =>
    intro b h hne
    rcases b with _ | ⟨y, ys⟩
    · exact absurd rfl hne
    · exact nomatch h
  | cons x xs ih =>
    intro b h hne
    rcases b with _ | ⟨y, ys⟩
    · exact nomatch h
    show (if y = x then ltI ys xs else decide (y < x)) = !(if x = y then ltI xs ys else decide (x < y))
    by_cases q : x = y
    · rw [if_pos q, if_pos q.symm]
      exact ih (Nat.succ.inj h) fun z => hne (by rw [q, z])
    · rw [if_neg q, if_neg (Ne.symm q), ← decide_not]
      exact decide_eq_decide.mpr ⟨fun h => Int.not_lt.mpr (Int.le_of_lt h), fun h => Int.lt_iff_le_and_ne.mpr ⟨Int.not_lt.mp h, Ne.symm q⟩⟩
theorem ltI_tr (a : List Int) : ∀ {b c : List Int}, a.length = b.length → b.length = c.length → ltI a b = true → ltI b c = true → ltI a c = true := by
  induction a with
  | nil =>
    intro b c h1 _ p _
    rcases b with _ | ⟨y, ys⟩
    · exact ff p
    · exact nomatch h1
  | cons x xs ih =>
    intro b c h1 h2 p q
    rcases b with _ | ⟨y, ys⟩
    · exact nomatch h1
    rcases c with _ | ⟨z, zs⟩
    · exact nomatch h2
    replace p : (if x = y then ltI xs ys else decide (x < y)) = true := p
    replace q : (if y = z then ltI ys zs else decide (y < z)) = true := q
    show (if x = z then ltI xs zs else decide (x < z)) = true
    by_cases e1 : x = y
    · rw [if_pos e1] at p
      rw [e1]
      by_cases e2 : y = z
      · rw [if_pos e2] at q ⊢
        exact ih (Nat.succ.inj h1) (Nat.succ.inj h2) p q
      · rw [if_neg e2] at q ⊢; exact q
    · rw [if_neg e1] at p
      have p := of_decide_eq_true p
      by_cases e2 : y = z
      · rw [← e2, if_neg e1]; exact decide_eq_true p
      · rw [if_neg e2] at q
        have q := Int.lt_trans p (of_decide_eq_true q)
        rw [if_neg (Int.ne_of_lt q)]; exact decide_eq_true q
theorem ltVs_is (as : List Int) : ∀ {bs : List Int}, as.length = bs.length → ltVs (as.map V.int) (bs.map V.int) = some (ltI as bs) := by
  induction as with
  | nil =>
    intro bs h
    rcases bs with _ | _
    · rfl
    · exact nomatch h
  | cons a as ih =>
    intro bs h
    rcases bs with _ | ⟨b, bs⟩
    · exact nomatch h
    show (if a = b then ltVs (as.map V.int) (bs.map V.int) else if (as.map V.int).length = (bs.map V.int).length then some (decide (a < b)) else none) = some (if a = b then ltI as bs else decide (a < b))
    by_cases q : a = b
    · rw [if_pos q, if_pos q]; exact ih (Nat.succ.inj h)
    · rw [if_neg q, if_neg q, if_pos (by rw [List.length_map, List.length_map]; exact Nat.succ.inj h)]
end Mine
end
section
open PySem PySem.W PySem.Calls PyProof.Rows
namespace Mine
section
variable {prog : Program} {w : World} {A : Around} {E : Value → Shared → Prop}
theorem lex_ok {fin : Bool} {Q : Bool → Shared → Prop} {as : List Int} {xs : List Value} (ha : IntsAre xs as) : ∀ {bs : List Int} {ys : List Value} {i : Nat} {s : Shared}, IntsAre ys bs → as.length = bs.length →
    (∀ tk, Q (if as = bs then fin else ltI as bs) { s with toks := tk }) → KatLex prog w A true fin Q (xs.zip ys) i s := by
  induction ha with
  | nil =>
    intro bs ys i s hb h k
    rcases hb with _ | ⟨b, u, hb⟩
    · exact kat_nil (by have := k s.toks; rw [if_pos rfl] at this; exact this)
    · exact nomatch h
  | @cons a t xs as ha ih =>
    intro bs ys i s hb h k
    rcases hb with _ | ⟨b, u, hb⟩
    · exact nomatch h
    rename_i ys bs
    rw [List.zip_cons_cons]
    refine kat_cons (wpAny_eqBool_int ?_)
    by_cases q : a = b
    · subst q
      rw [beq_self_eq_true]
      refine kat_yes (ih hb (Nat.succ.inj h) fun tk => ?_)
      have := k tk
      rw [show ltI (a :: as) (a :: bs) = ltI as bs from if_pos rfl] at this
      by_cases z : as = bs
      · rw [if_pos z]; rw [if_pos (congrArg _ z)] at this; exact this
      · rw [if_neg z]; rw [if_neg fun y => z (List.cons.inj y).2] at this; exact this
    · rw [beq_eq_false_iff_ne.mpr q]
      refine kat_no ?_
      have k' : ∀ tk, Q (decide (a < b)) { s with toks := tk } := fun tk => by
        have := k tk
        rw [if_neg (fun z => q (List.cons.inj z).1), show ltI (a :: as) (b :: bs) = decide (a < b) from if_neg q] at this
        exact this
      rcases i with _ | i
      · exact oneLt_int (k' s.toks)
      · show wpAny _ _ (oneLt' false _ _) _ _ _
        exact kat_one _ _ (lt_int (by show Q _ _; exact k' s.toks))
end
end Mine
end
section
open PySem PySem.W PySem.Calls PyProof.Rows
namespace Mine
theorem updF_of {dx : Addr} {o : Obj} {l : List (Addr × Obj)} : (l.map (·.1)).Nodup → (dx, o) ∈ l → ∃ g, UpdF dx o l g ∧ ∀ o', (dx, o') ∈ g o' ∧ ∀ p ∈ l, p.1 ≠ dx → p ∈ g o' := by
  induction l with
  | nil => exact fun _ h => nomatch h
  | cons p r ih =>
    intro hn h
    rw [List.map_cons, List.nodup_cons] at hn
    by_cases e : p.1 = dx
    · have hp : p = (dx, o) := (List.mem_cons.mp h).elim Eq.symm fun h => absurd (List.mem_map.mpr ⟨_, h, e.symm⟩) hn.1
      exact ⟨fun o' => (dx, o') :: r, hp ▸ .head fun q hq z => hn.1 (List.mem_map.mpr ⟨q, hq, z.trans e.symm⟩), fun o' => ⟨.head _, fun q hq ne => .tail _ ((List.mem_cons.mp hq).resolve_left fun z => ne (z ▸ e))⟩⟩
    · obtain ⟨g, u, m⟩ := ih hn.2 ((List.mem_cons.mp h).resolve_left fun q => e (congrArg (·.1) q).symm)
      exact ⟨fun o' => p :: g o', .tail e u, fun o' => ⟨.tail _ (m o').1, fun q hq ne => (List.mem_cons.mp hq).elim (fun z => z ▸ .head _) fun hq => .tail _ ((m o').2 q hq ne)⟩⟩
section
variable {prog : Program} {w : World} {K : Frag} {P : Program} {loose : List Str} {mg mb : Str → Option Value} {B : Heap} {A : Around} {ρ ρ' ρ2 ρs : List (Addr × Addr)} {d : Nat} {env : Env} {m : Lo} {st st1 st2 st3 st' st0 : St} {h h' hs h2 : Heap} {I : Addr}
theorem Cx.own {mm : Str → Option Value} (X : Cx B ρ st env m h) (hn : h'.Ns env.locals mm) (hv : ∀ x v, x < nmN → look x m = some v → env.kindOf (nmS x) = some .local → ∃ w, mm (nmS x) = some w ∧ VR B h ρ v w)
    (k : ∀ b o, h.get? b = some o → b ≠ env.locals → b ≠ I → h'.get? b = some o) (O : Own B hs h ρ env I) (nt : ∀ ws, ¬ IsTup h I ws) : Cx B ρ st env m h' ∧ (∀ v z, VR B h ρ v z → VR B h' ρ v z) := by
  have nL : ¬ Foot ρ env.locals := (X.fr.new _ (.inl rfl)).2
  have ht : ∀ x ws, IsTup h x ws → IsTup h' x ws := fun x ws t => by
    obtain ⟨o, ho, hc', n, hd⟩ := id t
    exact ⟨o, k x o ho (fun z => X.fr.fm_not (.inl z) ho _ _ hd) (fun z => nt ws (z ▸ t)), hc', n, hd⟩
  have vr : ∀ v w, VR B h ρ v w → VR B h' ρ v w := fun _ _ R => R.mono (List.prefix_refl _) ht
  have kf : ∀ {b}, Foot ρ b → ∀ o, h.get? b = some o → h'.get? b = some o := fun f o e => k _ _ e (fun z => nL (z ▸ f)) (fun z => O.foot (z ▸ f))
  exact ⟨⟨⟨X.rel.len, fun a o p h1 h2 => (X.rel.objs a o p h1 h2).mono (List.prefix_refl _) ht (kf ⟨a, p, h2, .inl rfl⟩) (kf ⟨a, p, h2, .inr rfl⟩), X.rel.inj, X.rel.fresh, fun b o e => k b o (X.rel.base b o e) (fun z => nn ((X.fr.new _ (.inl rfl)).1.symm.trans (z ▸ e))) (fun z => nn (O.base.symm.trans (z ▸ e))), Nat.le_trans X.fr.above (Nat.le_of_lt hn.lt)⟩,
    X.fr.turn hn hv vr (fun y c o hy e => k _ _ e (X.fr.cell_ne hy) fun z => O.frame (.inr ⟨_, z ▸ hy⟩)) fun b f => (X.fr.new b f).2⟩, vr⟩
theorem Nx.own (N : Nx ρs (Fm env) hs ρ h) (k : ∀ b o, h.get? b = some o → b ≠ env.locals → b ≠ I → h'.get? b = some o) (hI : hs.get? I = none) : Nx ρs (Fm env) hs ρ h' :=
  ⟨N.pre, fun b o e f g => k b o (N.keep b o e f g) (fun z => g (.inl z)) (fun z => nn (hI.symm.trans (z ▸ e))), N.grow⟩
theorem own_get {o : Obj} (O : Own B hs h ρ env I) (e : h.get? I = some o) : (I, o) ∈ allNews B h env.locals := mem_allNews.mpr ⟨e, fun z => O.frame (.inl z), O.base⟩
theorem news_turn {o' : Obj} {g : Obj → List (Addr × Obj)} {mm : Str → Option Value} (X : Cx B ρ st env m h) (hg : ∀ o', (I, o') ∈ g o' ∧ ∀ p ∈ allNews B h env.locals, p.1 ≠ I → p ∈ g o') (F : Fr B env.locals h' mm) (N : News B env.locals h' (g o')) :
    (∀ b x, h.get? b = some x → b ≠ env.locals → b ≠ I → h'.get? b = some x) ∧ h'.get? I = some o' :=
  ⟨fun b x e n1 n2 => (someOr (B.get? b)).elim (fun q => (N (b, x) ((hg o').2 _ (mem_allNews.mpr ⟨e, n1, q⟩) n2)).1) fun q => Option.some.inj ((X.rel.base b _ q.choose_spec).symm.trans e) ▸ F.keep b _ q.choose_spec, (N _ (hg o').1).1⟩
noncomputable abbrev NmsOk (B h : Heap) (ρ : List (Addr × Addr)) (env : Env) (m : Lo) (mm : Str → Option Value) : Prop := ∀ x v, x < nmN → look x m = some v → env.kindOf (nmS x) = some .local → ∃ w, mm (nmS x) = some w ∧ VR B h ρ v w
structure SortAt (B hs h : Heap) (ρs ρ : List (Addr × Addr)) (env : Env) (m : Lo) (mm : Str → Option Value) (st : St) (kS D q : Addr) (kv : List Value) (e e1 : Nat) (mo : Obj) : Prop where
  X : Cx B ρ st env m h
  hn : h.Ns env.locals mm
  hv : NmsOk B h ρ env m mm
  N : Nx ρs (Fm env) hs ρ h
  OK : Own B hs h ρ env kS
  OD : Own B hs h ρ env D
  Oq : Own B hs h ρ env q
  hk : h.get? kS = some (seqObj "list" kv.toArray e)
  hD : h.get? D = some (seqObj "list" #[] e1)
  hq : h.get? q = some mo
  n1 : kS ≠ D
  n2 : kS ≠ q
  n3 : D ≠ q
theorem SortAt.fr {mm : Str → Option Value} {kS D q : Addr} {kv : List Value} {e e1 : Nat} {mo : Obj} (S : SortAt B hs h ρs ρ env m mm st kS D q kv e e1 mo) : Fr B env.locals h mm := ⟨S.hn, S.X.rel.base, S.X.fr.above⟩
theorem SortAt.turn {mm : Str → Option Value} {kS D q : Addr} {kv kv' : List Value} {e e1 e' : Nat} {mo : Obj} {g : Obj → List (Addr × Obj)} (S : SortAt B hs h ρs ρ env m mm st kS D q kv e e1 mo)
    (hg : ∀ o', (kS, o') ∈ g o' ∧ ∀ p ∈ allNews B h env.locals, p.1 ≠ kS → p ∈ g o') (F : Fr B env.locals h' mm) (N : News B env.locals h' (g (seqObj "list" kv'.toArray e'))) :
    SortAt B hs h' ρs ρ env m mm st kS D q kv' e' e1 mo ∧ (∀ v z, VR B h ρ v z → VR B h' ρ v z) := by
  obtain ⟨k, hI⟩ := news_turn S.X hg F N
  obtain ⟨X', up⟩ := S.X.own F.ns S.hv k S.OK (nt_of S.hk rfl (by decide))
  have kD := k D _ S.hD (fun z => S.OD.frame (.inl z)) S.n1.symm
  have kq := k q _ S.hq (fun z => S.Oq.frame (.inl z)) S.n2.symm
  exact ⟨⟨X', F.ns, fun x v hx e hl => (S.hv x v hx e hl).imp fun w q => ⟨q.1, up _ _ q.2⟩, S.N.own k S.OK.was, S.OK.next ⟨_, hI⟩, S.OD.next ⟨_, kD⟩, S.Oq.next ⟨_, kq⟩, hI, kD, kq, S.n1, S.n2, S.n3⟩, up⟩
theorem SortAt.step {mm : Str → Option Value} {kS D q : Addr} {kv : List Value} {e e1 : Nat} {mo : Obj} (S : SortAt B hs h ρs ρ env m mm st kS D q kv e e1 mo) (Xs : Cx B ρs st0 env m hs) (X2 : Rel B ρ2 st2 h2) (N2 : Nx ρ (fun _ => False) h ρ2 h2) :
    SortAt B hs h2 ρs ρ2 env m mm st2 kS D q kv e e1 mo ∧ Nx ρ (Fm env) h ρ2 h2 := by
  obtain ⟨X3, N3⟩ := S.X.called X2 N2
  obtain ⟨OK3, eK⟩ := S.OK.move N3
  obtain ⟨OD3, eD⟩ := S.OD.move N3
  obtain ⟨Oq3, eq⟩ := S.Oq.move N3
  exact ⟨⟨X3, S.hn.at' fun o e => N2.keep _ o e (S.X.fr.new _ (.inl rfl)).2 fun z => z, fun x v hx e hl => (S.hv x v hx e hl).imp fun w q => ⟨q.1, S.X.vr N3 q.2⟩, Nx.trans Xs S.N S.X N3, OK3, OD3, Oq3, eK.trans S.hk, eD.trans S.hD, eq.trans S.hq, S.n1, S.n2, S.n3⟩, N3⟩
theorem sort_keys {C : CallF} {f b a : Nat} {all : List V} {p : Addr × Addr} {kS D q : Addr} {e1 : Nat} {mm : Str → Option Value} {Fin : List Value → Nat → Shared → Prop} (HC : ∀ args st, P1 (fun r => CallOk prog w B d (fa f) args st r.1 r.2) (C f args st)) (hR : RoomC d A) (Xs : Cx B ρs st0 env m hs)
    {s0 : Shared} {vs : List V} {wsA : List Value} (rest : List V) :
    ∀ (st : St), P1 (fun r => ∀ (ρ : List (Addr × Addr)) (K : List (List V)) (kv wsr : List Value) (e : Nat) (h : Heap) (tk : Tok),
      SortAt B hs h ρs ρ env m mm st kS D q kv e e1 (methodObj (.ref (fa f)) (.ref p.1)) → ρ[b]? = some p → VRs B h ρ rest wsr → VRs B h ρ vs wsA → VRs B h ρ (K.map V.tup) kv →
      (∀ ρ' kv' e' h tk, SortAt B hs h ρs ρ' env m mm r.2 kS D q kv' e' e1 (methodObj (.ref (fa f)) (.ref p.1)) → VRs B h ρ' vs wsA → VRs B h ρ' ((K ++ r.1).map V.tup) kv' → Fin kv' e' { s0 with heap := h, toks := tk }) →
      KatKeys prog w A B env.locals mm kS (.ref q) Fin wsr kv e { s0 with heap := h, toks := tk }) (keysOf C f (.ref b) a all rest st) := by
  induction rest with
  | nil => exact fun st => P1.of fun ρ K kv wsr e h tk S hb Rr Ra Rk fin => Rr.elN (KatKeys.nil (fin ρ kv e h tk S Ra ((List.append_nil K).symm ▸ Rk)))
  | cons v rest ih =>
    refine fun st => P1.bd (HC [.ref b, v] st) fun u st1 Hc => P1.onT fun k0 eu => P1.if fun _ => P1.bd (ih st1) fun ks st2 IH => P1.of fun ρ K kv wsr e h tk S hb Rr Ra Rk fin => Rr.elC (M := fun wsr => KatKeys prog w A B env.locals mm kS (.ref q) Fin wsr kv e { s0 with heap := h, toks := tk }) fun z zs Rz Rr => ?_
    refine KatKeys.cons (wpAny_call (method_call S.hq (Hc A ρ { s0 with heap := h, toks := tk } _ _ hR S.X.rel (.cons (.ref hb) (.cons Rz .nil)) fun ρ2 x2 h2 tk2 X2 N2 R2 => ?_)))
    obtain ⟨S3, N3⟩ := S.step Xs X2 N2
    obtain ⟨g, U, hg⟩ := updF_of allNews_nodup (own_get S3.OK S3.hk)
    refine KatBack.intro (s := { s0 with heap := h2, toks := tk2 }) S3.fr allNews_news U fun h' c F' N' => ?_
    obtain ⟨S4, up⟩ := S3.turn hg F' N'
    subst eu
    refine IH ρ2 (K ++ [k0]) (kv ++ [x2]) zs c h' tk2 S4 (pre_get N3.pre hb) ((S.X.vrs N3 Rr).map up) ((S.X.vrs N3 Ra).map up) ?_ fun ρ' kv' e' h tk a1 a2 a3 => fin ρ' kv' e' h tk a1 a2 (by rw [List.append_assoc] at a3; exact a3)
    rw [List.map_append]
    exact ((S.X.vrs N3 Rk).map up).append (.cons (up _ _ R2) .nil)
end
end Mine
end
section
open PySem PySem.W PySem.Calls PyProof.Rows
namespace Mine
noncomputable def intL (k : List V) : List Int := (intsOf k).getD []
theorem ints_all {k : List V} : k.all isIntV = true → intsOf k = some (intL k) ∧ (intL k).length = k.length := by
  induction k with
  | nil => exact fun _ => ⟨rfl, rfl⟩
  | cons v r ih =>
    intro h
    obtain ⟨h1, h2⟩ := ih (b2 h)
    have h := b1 h
    rcases v <;> first | exact ff h | skip
    unfold intL
    show ob (intsOf r) _ = some ((ob (intsOf r) _).getD []) ∧ ((ob (intsOf r) _).getD []).length = _
    rw [h1]
    exact ⟨rfl, congrArg (· + 1) h2⟩
theorem ints_map {k : List V} : P1 (fun is => k = is.map V.int) (intsOf k) := by
  induction k with
  | nil => exact P1.of rfl
  | cons v r ih => exact P1.onI fun i ei => P1.obp ih fun is h => P1.of (by rw [ei, h]; rfl)
noncomputable def ltK (ks : List (List V)) (i j : Nat) : Bool := ltI (intL (ks.getD i [])) (intL (ks.getD j []))
theorem getD_mem' {α : Type} {a0 : α} {l : List α} {i : Nat} (h : i < l.length) : l.getD i a0 ∈ l := by
  rw [List.getD_eq_getElem?_getD, List.getElem?_eq_getElem h]; exact List.getElem_mem h
theorem okKeys_get {ks : List (List V)} : okKeys ks = true → (∀ k ∈ ks, k.all isIntV = true ∧ k.length = 5) ∧ ∀ i j, i < j → j < ks.length → ks.getD i [] ≠ ks.getD j [] := by
  induction ks with
  | nil => exact fun _ => ⟨fun _ h => (nomatch h), fun _ j _ h => absurd h (Nat.not_lt_zero j)⟩
  | cons k r ih =>
    intro h
    obtain ⟨a, b⟩ := ih (b2 h)
    have h3 := b1 h
    refine ⟨fun x hx => (List.mem_cons.mp hx).elim (fun z => z ▸ ⟨b1 (b1 h3), eq_of_beq (b2 (b1 h3))⟩) (a x), fun i j hij hj => ?_⟩
    rcases j with _ | j
    · exact absurd hij (Nat.not_lt_zero i)
    have hj := Nat.lt_of_succ_lt_succ hj
    rcases i with _ | i
    · exact fun q => tf ((V.sames_refl k).symm.trans ((congrArg (V.sames k) q).trans (no_ (List.all_eq_true.mp (b2 h3) _ (getD_mem' hj)))))
    · exact b i j (Nat.lt_of_succ_lt_succ hij) hj
theorem ord_of {ks : List (List V)} (h : okKeys ks = true) : Ord ks.length (ltK ks) ∧ ∀ i j, i < ks.length → j < ks.length → ltVs (ks.getD i []) (ks.getD j []) = some (ltK ks i j) := by
  obtain ⟨a, b⟩ := okKeys_get h
  have at_ : ∀ i, i < ks.length → ks.getD i [] = (intL (ks.getD i [])).map V.int ∧ (intL (ks.getD i [])).length = 5 := fun i hi =>
    have q := a _ (getD_mem' hi)
    ⟨ints_map _ (ints_all q.1).1, (ints_all q.1).2.trans q.2⟩
  have len : ∀ {i j}, i < ks.length → j < ks.length → (intL (ks.getD i [])).length = (intL (ks.getD j [])).length := fun hi hj => (at_ _ hi).2.trans (at_ _ hj).2.symm
  have ne : ∀ i j, i < ks.length → j < ks.length → i ≠ j → intL (ks.getD i []) ≠ intL (ks.getD j []) := fun i j hi hj hne q =>
    have e := ((at_ i hi).1.trans (congrArg (List.map V.int) q)).trans (at_ j hj).1.symm
    (Nat.lt_or_gt_of_ne hne).elim (fun z => b i j z hj e) fun z => b j i z hi e.symm
  refine ⟨⟨fun i _ => ltI_irr _, fun i j hi hj hne => ltI_tot _ (len hi hj) (ne i j hi hj hne), fun i j k hi hj hk => ltI_tr _ (len hi hj) (len hj hk)⟩, fun i j hi hj => ?_⟩
  have e := ltVs_is (intL (ks.getD i [])) (len hi hj)
  rw [← (at_ i hi).1, ← (at_ j hj).1] at e
  exact e
section
variable {Kf : Nat → List V} {Vf : Nat → V} {n : Nat} {lt : Nat → Nat → Bool} (hh : ∀ i j, i < n → j < n → ltVs (Kf i) (Kf j) = some (lt i j))
include hh
theorem insK_par {i : Nat} (hi : i < n) (l : List Nat) : (∀ x ∈ l, x < n) → P1 (fun out => out = (insI lt i l).map fun j => (Kf j, Vf j)) (insK (Kf i) (Vf i) (l.map fun j => (Kf j, Vf j))) := by
  induction l with
  | nil => exact fun _ => P1.of rfl
  | cons j r ih =>
    intro hl
    show P1 (fun out => out = (if lt i j = true then j :: insI lt i r else i :: j :: r).map fun j => (Kf j, Vf j)) (ob (ltVs (Kf i) (Kf j)) fun t => cond t (ob (insK (Kf i) (Vf i) (r.map fun j => (Kf j, Vf j))) fun q => some ((Kf j, Vf j) :: q)) _)
    rw [hh i j hi (hl j (.head _))]
    refine P1.cd (fun q => P1.obp (ih fun x hx => hl x (.tail _ hx)) fun o e => P1.of ?_) fun q => P1.ob fun u _ => P1.cd (fun _ => P1.of ?_) fun _ => P1.no
    · rw [if_pos q, e]; rfl
    · rw [if_neg fun z => tf (z.symm.trans q)]; rfl
theorem sortK_par (l : List Nat) : (∀ x ∈ l, x < n) → P1 (fun out => out = (sortI lt l).map fun j => (Kf j, Vf j)) (sortK (l.map fun j => (Kf j, Vf j))) := by
  induction l with
  | nil => exact fun _ => P1.of rfl
  | cons i r ih => exact fun hl => P1.obp (ih fun x hx => hl x (.tail _ hx)) fun q e => e.symm ▸ insK_par hh (hl i (.head _)) _ fun x hx => hl x (.tail _ (sortI_mem _ hx))
end
theorem zip_range {α β : Type} {a0 : α} {b0 : β} {xs : List α} {ys : List β} (h : xs.length = ys.length) : xs.zip ys = (List.range xs.length).map fun i => (xs.getD i a0, ys.getD i b0) := by
  apply List.ext_getElem
  · simp [h]
  · intro i h1 h2
    have hx : i < xs.length := by simp at h1; omega
    have hy : i < ys.length := by omega
    simp [hx, hy]
section
variable {prog : Program} {w : World} {B h : Heap} {A : Around} {ρ : List (Addr × Addr)}
theorem vrs_getD {vs : List V} {ws : List Value} (R : VRs B h ρ vs ws) {i : Nat} (hi : i < vs.length) : VR B h ρ (vs.getD i .none) (ws.getD i .none) := by
  obtain ⟨x, h1, h2⟩ := vrs_get R (List.getElem?_eq_getElem hi)
  rw [List.getD_eq_getElem?_getD, List.getElem?_eq_getElem hi, List.getD_eq_getElem?_getD, h1]
  exact h2
theorem vrs_idx {vs : List V} {ws : List Value} (R : VRs B h ρ vs ws) {l : List Nat} : (∀ x ∈ l, x < vs.length) → VRs B h ρ (l.map fun i => vs.getD i .none) (l.map fun i => ws.getD i .none) := by
  induction l with
  | nil => exact fun _ => .nil
  | cons i r ih => exact fun hl => .cons (vrs_getD R (hl i (.head _))) (ih fun x hx => hl x (.tail _ hx))
theorem getD_rev {α : Type} {a0 : α} {l : List α} {i : Nat} (h : i < l.length) : l.reverse.getD i a0 = l.getD (l.length - 1 - i) a0 := by
  rw [List.getD_eq_getElem?_getD, List.getD_eq_getElem?_getD, List.getElem?_reverse h]
theorem rev_lt {n i : Nat} (h : i < n) : n - 1 - i < n := Nat.lt_of_le_of_lt (Nat.sub_le _ _) (Nat.sub_lt (Nat.zero_lt_of_lt h) Nat.one_pos)
theorem ask_keys {ks : List (List V)} {kv : List Value} {s0 : Shared} (hok : okKeys ks = true) (R : VRs B s0.heap ρ (ks.map V.tup) kv) {o : Nat → Nat → Option Bool} (ho : ∀ i j b, o i j = some b → i < ks.length ∧ j < ks.length ∧ b = ltK ks (ks.length - 1 - i) (ks.length - 1 - j)) :
    ∀ i j b (C : Bool → Shared → Prop) s, o i j = some b → (∃ tk, s = { s0 with toks := tk }) → (∀ s', (∃ tk, s' = { s0 with toks := tk }) → C b s') → kas_ask prog w A (tuples' true) (katRev true kv) i j C s := by
  intro i j b C s hb hs hC
  obtain ⟨tk, hs⟩ := hs
  subst hs
  obtain ⟨hi, hj, eb⟩ := ho i j b hb
  have kl : kv.length = ks.length := (vrs_len R).trans (List.length_map _)
  obtain ⟨a, _⟩ := okKeys_get hok
  have at_ : ∀ {M : Value → Prop} i, i < ks.length → (∀ x zs, IsTup s0.heap x zs.toArray → IntsAre zs (intL (ks.getD (ks.length - 1 - i) [])) → zs.length = 5 → M (.ref x)) → M (kv.reverse.getD i .none) := fun {M} i hi k => by
    have hr := rev_lt hi
    rw [getD_rev (kl.symm ▸ hi), kl]
    have R1 := vrs_getD R (i := ks.length - 1 - i) ((List.length_map V.tup).symm ▸ hr)
    have q := a _ (getD_mem' (a0 := []) hr)
    refine R1.toT (M := M) (vs := ks.getD (ks.length - 1 - i) []) ?_ fun x zs t Rs => k x zs t (ints_are Rs _ (ints_all q.1).1) ((vrs_len Rs).trans q.2)
    rw [List.getD_eq_getElem?_getD, List.getElem?_map, List.getD_eq_getElem?_getD, List.getElem?_eq_getElem hr]; rfl
  unfold kas_ask
  show wpAny (model prog w) A (keyLt' (tuples' true) (kv.reverse.getD i .none) (kv.reverse.getD j .none)) C (fun _ _ => False) _
  refine at_ (M := fun z => wpAny (model prog w) A (keyLt' (tuples' true) z (kv.reverse.getD j .none)) C (fun _ _ => False) { s0 with toks := tk }) i hi fun x zs t1 i1 l1 => at_ (M := fun z => wpAny (model prog w) A (keyLt' (tuples' true) (.ref x) z) C (fun _ _ => False) { s0 with toks := tk }) j hj fun y ys t2 i2 l2 => ?_
  obtain ⟨ox, hx, _, nx, dx⟩ := t1
  obtain ⟨oy, hy, _, ny, dy⟩ := t2
  have len : ∀ {i}, i < ks.length → (intL (ks.getD (ks.length - 1 - i) [])).length = 5 := fun hi => have q := a _ (getD_mem' (a0 := []) (rev_lt hi)); (ints_all q.1).2.trans q.2
  refine kat_lt (s := { s0 with toks := tk }) hx dx hy dy (lex_ok (xs := zs) (ys := ys) i1 i2 ((len hi).trans (len hj).symm) fun tk' => ?_)
  subst eb
  by_cases q : intL (ks.getD (ks.length - 1 - i) []) = intL (ks.getD (ks.length - 1 - j) [])
  · rw [if_pos q]
    have e : decide (zs.toArray.size < ys.toArray.size) = ltK ks (ks.length - 1 - i) (ks.length - 1 - j) := by
      unfold ltK
      rw [q, ltI_irr]
      exact decide_eq_false (show ¬ zs.length < ys.length by rw [l1, l2]; exact Nat.lt_irrefl _)
    exact e.symm ▸ hC _ ⟨tk', rfl⟩
  · rw [if_neg q]; exact hC _ ⟨tk', rfl⟩
theorem tups_of {ks : List (List V)} : ∀ {kv : List Value}, okKeys ks = true → VRs B h ρ (ks.map V.tup) kv → ∃ fs, KatTups h kv fs ∧ fs.length = ks.length ∧ ∀ v ∈ fs, ∃ i t, v = .int i t := by
  induction ks with
  | nil => exact fun _ R => R.elN ⟨[], KatTups.nil, rfl, fun _ h => nomatch h⟩
  | cons k r ih =>
    intro kv hok R
    refine R.elC fun w ws R0 Rs => ?_
    obtain ⟨fs, t, l, q⟩ := ih (b2 hok) Rs
    refine R0.elT (M := fun w => ∃ fs, KatTups h (w :: ws) fs ∧ fs.length = (k :: r).length ∧ ∀ v ∈ fs, ∃ i t, v = .int i t) fun x zs g Rz => ?_
    have iz := ints_are Rz _ (ints_all (b1 (b1 (b1 hok)))).1
    obtain ⟨o, ho, hc, n, hd⟩ := g
    have lz : zs.length = 5 := (vrs_len Rz).trans (eq_of_beq (b2 (b1 (b1 hok))))
    revert lz hd
    generalize intL k = is0 at iz
    induction iz with
    | nil => exact fun _ lz => nomatch lz
    | cons i t' _ => exact fun hd _ => ⟨_, KatTups.cons ho hc hd (f := .int i t') rfl t, congrArg (· + 1) l, fun v hv => (List.mem_cons.mp hv).elim (fun z => ⟨i, t', z⟩) (q v)⟩
end
end Mine
end
section
open PySem PySem.W PySem.Calls PyProof.Rows
namespace Mine
theorem keysOf_len {C : CallF} {f : Nat} {self : V} {a : Nat} {all : List V} (rest : List V) : ∀ (st : St), P1 (fun r => r.1.length = rest.length) (keysOf C f self a all rest st) := by
  induction rest with
  | nil => exact fun _ => P1.of rfl
  | cons v rest ih => exact fun st => P1.bd (R := fun _ => True) (fun _ _ => trivial) fun u st1 _ => P1.onT fun k _ => P1.if fun _ => P1.bd (ih st1) fun ks st2 h => P1.of (congrArg (· + 1) h)
section
variable {prog : Program} {w : World} {K : Frag} {P : Program} {loose : List Str} {mg mb : Str → Option Value} {B : Heap} {A : Around} {ρ ρ' ρ2 ρs : List (Addr × Addr)} {d : Nat} {env : Env} {m : Lo} {st st1 st2 st3 st' st0 : St} {h h' hs h2 : Heap} {I : Addr}
theorem sort_out {ks : List (List V)} {vs : List V} {ws : List Value} {out : List (List V × V)} {p : Array Nat} (hl : ks.length = vs.length) (hok : okKeys ks = true) (es : sortK (ks.zip vs) = some out) (hp : p.toList.reverse.map (fun i => ks.length - 1 - i) = sortI (ltK ks) (List.range ks.length)) (hlt : ∀ x ∈ p.toList, x < ks.length)
    (R : VRs B h ρ vs ws) : VRs B h ρ (out.map (·.2)) (katRev true (p.toList.map fun i => (katRev true ws).getD i Value.none)) := by
  have wl : ws.length = ks.length := (vrs_len R).trans hl.symm
  have e2 : katRev true (p.toList.map fun i => (katRev true ws).getD i Value.none) = (sortI (ltK ks) (List.range ks.length)).map fun i => ws.getD i Value.none := by
    rw [← hp]
    show (p.toList.map fun i => ws.reverse.getD i Value.none).reverse = _
    rw [← List.map_reverse, List.map_map]
    refine List.map_congr_left fun i hi => ?_
    show ws.reverse.getD i Value.none = ws.getD (ks.length - 1 - i) Value.none
    rw [getD_rev (wl.symm ▸ hlt i (List.mem_reverse.mp hi)), wl]
  rw [zip_range (a0 := []) (b0 := V.none) hl] at es
  rw [sortK_par (n := ks.length) (ord_of hok).2 _ (fun x hx => List.mem_range.mp hx) _ es, e2, List.map_map]
  exact vrs_idx R fun x hx => hl ▸ List.mem_range.mp (sortI_mem _ hx)
theorem Room.in2 {d : Nat} {A : Around} (h : Room d A) : RoomC d A.in1.in1 := ⟨h.hd, by show A.depth + 8 * d + 12 < recursionLimit; have := h.dp; lia, by show A.units + 1 + 1 + 64 * d + 200 ≤ cLine; have := h.un; lia⟩
theorem SortAt.fin {kS D q : Addr} {kv : List Value} {e e1 : Nat} {mo : Obj} {mm : Str → Option Value} {out : List Value} {outV : List V} {s : Shared} {Fin : Shared → Prop} (S : SortAt B hs h ρs ρ env m mm st kS D q kv e e1 mo) (es : s.heap = h) (R : VRs B h ρ outV out)
    (k : ∀ h' tk', Cx B (ρ ++ [(D, D)]) (st ++ [.list outV]) env m h' → Nx ρs (Fm env) hs (ρ ++ [(D, D)]) h' → ρ.length = st.length → Fin { s with heap := h', toks := tk' }) : KatFin B env.locals mm kS D kv e e1 out Fin s := by
  subst es
  obtain ⟨g, U, hg⟩ := updF_of allNews_nodup (own_get S.OK S.hk)
  refine KatFin.intro S.fr allNews_news U fun h3 c3 F3 N3 => ?_
  obtain ⟨S3, up3⟩ := S.turn (kv' := []) hg F3 N3
  obtain ⟨g2, U2, hg2⟩ := updF_of allNews_nodup (own_get S3.OD S3.hD)
  refine KasFin.intro S3.fr allNews_news U2 fun h4 c4 F4 N4 => ?_
  obtain ⟨k4, hD4⟩ := news_turn (o' := seqObj "list" out.toArray c4) S3.X hg2 F4 N4
  obtain ⟨X4, up4⟩ := S3.X.own F4.ns S3.hv k4 S3.OD (nt_of S3.hD rfl (by decide))
  have nf : B.get? D = none ∧ ¬ Foot ρ D ∧ ¬ Fm env D := ⟨S3.OD.base, S3.OD.foot, S3.OD.frame⟩
  exact k h4 s.toks (X4.add (o := .list outV) (p := (D, D)) (.list hD4 (((R.map up3).map up4).mono (List.prefix_append _ _) fun _ _ t => t)) nf nf) ((S3.N.own k4 S3.OD.was).add (p := (D, D)) S3.OD.was S3.OD.was) X4.rel.len
section
variable {C : CallF} {f a b : Nat} {pa p : Addr × Addr} {q : Addr} {vs : List V} {ks : List (List V)} {s : Shared} {Q E : Value → Shared → Prop} (HC : ∀ args st, P1 (fun r => CallOk prog w B d (fa f) args st r.1 r.2) (C f args st)) (hR : Room d A) (Xs : Cx B ρs st0 env m hs)
    (X : Cx B ρ st env m s.heap) (N : Nx ρs (Fm env) hs ρ s.heap) (Oq : Own B hs s.heap ρ env q) (hq : s.heap.get? q = some (methodObj (.ref (fa f)) (.ref p.1))) (hb : ρ[b]? = some p) (ha : ρ[a]? = some pa) (hv : st[a]? = some (.list vs)) (ek : keysOf C f (.ref b) a vs vs st = some (ks, st3))
include HC hR Xs X N Oq hq hb ha hv ek
theorem sort_ge2 {out : List (List V × V)} (h2 : 2 ≤ vs.length) (h5 : vs.length ≤ 5) (hok : okKeys ks = true) (es : sortK (ks.zip vs) = some out)
    (k : ∀ ρ' D h' tk', Cx B (ρ' ++ [(D, D)]) (st3 ++ [.list (out.map (·.2))]) env m h' → Nx ρs (Fm env) hs (ρ' ++ [(D, D)]) h' → ρ'.length = st3.length → Q (.ref D) { s with heap := h', toks := tk' }) :
    wpAny (model prog w) A (call (.builtin "sorted") [.ref pa.1] [(Str.ofString "key", .ref q), (Str.ofString "reverse", .bool true)]) Q E s := by
  have kl := keysOf_len _ _ _ ek
  refine (X.rel.objs a _ pa hv ha).isL fun ws g1 Rs => ?_
  have wl := vrs_len Rs
  obtain ⟨mm, F, hvv⟩ := X.frame
  refine kat_sortedK (b := true) (f := .ref q) F (allNews_news (B := B)) (vs := ws) g1 (wl.symm ▸ h2) (Nat.lt_of_le_of_lt (wl.symm ▸ h5) (by decide)) (ksk_s2 _ _ _) (fun x => ksk_l2 _ _ _) (fun x => ksk_t2 q x true) fun D kS e1 h' F' N' l0 l1 => ?_
  have kept := allNews_kept (news := [_, _]) F'.keep X.rel.base N'
  obtain ⟨X1, N1⟩ := X.after F'.ns hvv kept
  have fD : s.heap.get? D = none := fresh_of (env := env) N' (.tail _ (.head _)) l1
  have fk : s.heap.get? kS = none := fresh_of (env := env) N' (.head _) fun q hq => Nat.lt_trans (l1 q hq) l0
  have gD := N' _ (.tail _ (.head _))
  have gk := N' _ (.head _)
  have kq := kept q _ hq fun z => Oq.frame (.inl z)
  have own : ∀ {D : Addr} {o : Obj}, s.heap.get? D = none → h'.get? D = some o → Own B hs h' ρ env D := fun fD g => ⟨Xs.gone N X fD, ⟨_, g⟩, (X.free fD).1, (X.free fD).2.1, (X.free fD).2.2⟩
  have S0 : SortAt B hs h' ρs ρ env m mm st kS D q [] 0 e1 (methodObj (.ref (fa f)) (.ref p.1)) :=
    ⟨X1, F'.ns, fun x v hx e hl => (hvv x v hx e hl).imp fun w z => ⟨z.1, X.vr N1 z.2⟩, Nx.trans Xs N X N1, own fk gk.1, own fD gD.1, Oq.next ⟨_, kq⟩, gk.1, gD.1, kq, Nat.ne_of_gt l0, fun z => nn (fk.symm.trans (z ▸ hq)), fun z => nn (fD.symm.trans (z ▸ hq))⟩
  have R1 := X.vrs N1 Rs
  refine sort_keys HC hR.in2 Xs (s0 := s) (vs := vs) (wsA := ws) vs st _ ek ρ [] [] ws 0 h' s.toks S0 hb R1 R1 .nil fun ρ' kv e h0' t0' S Ra Rk => ?_
  obtain ⟨fs, t, tl, ti⟩ := tups_of hok Rk
  refine kat_kind t (by rw [tl, kl]; exact Nat.le_trans (by decide) h2) (T := .type "int") (fun v hv => by obtain ⟨i, u, e⟩ := ti v hv; exact e ▸ Looks.of_pure rfl) (by decide) ?_
  obtain ⟨o, pp, ho, hp, hperm, hlt⟩ := sort_ok (n := ks.length) (kl.symm ▸ h2) (kl.symm ▸ h5) (ord_of hok).1
  show (kas_sort ws.length).kasWp (kas_ask prog w A.in1.in1 (tuples' true) (katRev true kv)) _ _
  rw [wl, ← show ks.length = vs.length from kl]
  refine runO_wp (Inv := fun s'' => ∃ tk, s'' = { ({ s with heap := h0', toks := t0' } : Shared) with toks := tk }) (ask_keys hok Rk ho) _ hp ⟨_, rfl⟩ fun s3 hs3 => ?_
  obtain ⟨tk, hs3⟩ := hs3
  subst hs3
  exact S.fin rfl (sort_out kl hok es hperm hlt Ra) (k ρ' D)
end
end
end Mine
end
section
open PySem PySem.W PySem.Calls PyProof.Rows
namespace Mine
section
variable {prog : Program} {w : World} {K : Frag} {P : Program} {loose : List Str} {mg mb : Str → Option Value} {B : Heap} {A : Around} {ρ ρ' ρ2 ρs : List (Addr × Addr)} {d : Nat} {env : Env} {m : Lo} {st st1 st2 st3 st' st0 : St} {h h' hs h2 : Heap} {I : Addr}
theorem lt2_line {n : Nat} (h : n < 2) : n + 2 ≤ sizeLine := Nat.le_trans (Nat.add_le_add_right (Nat.le_of_lt h) 2) (Nat.le_trans (by decide) line_is)
theorem small_end {h₀ : Heap} {L kS a : Addr} {mm : Str → Option Value} {ks ws : List Value} {e e1 : Nat} {s : Shared} {R : PySem.Fin → Shared → Prop} {E : Value → Shared → Prop} (hl : ks.length = ws.length) (h2 : ws.length < 2) (k : KatFin h₀ L mm kS a ks e e1 ws (fun s' => R (.done (.ret .none)) s') s) :
    wpAny (model prog w) A (ksk_end a true ws.toArray e1 (.ref kS) (List.toArray ks)) R E s := by
  unfold ksk_end
  simp only [show ws.toArray.size < 2 from h2, if_true]
  refine wpAny_bind (wpAny_rule (wpAny_bind (wpAny_pure ?_)))
  refine wpAny_bind (show wpAny (model prog w) A (pure ((), SortSt.mk' general' ((List.toArray ks).zip ws.toArray).reverse #[] 7 none)) _ _ _ from wpAny_pure ?_)
  have hp := kat_pairs true hl
  rw [if_pos rfl] at hp
  show wpAny (model prog w) A (ksk_tail a true e1 (.ref kS) (SortSt.mk' general' ((List.toArray ks).zip ws.toArray).reverse #[] 7 none)) R E s
  rw [hp]
  have lz := lt2_line h2
  refine kat_tail (h₀ := h₀) (L := L) (m := mm) (out := katRev true ws) (ks := ks) (e := e) ?_ (by rw [kat_len]; omega) (by omega) rfl ?_
  · show ((List.toArray (katRev true ks)).zip (List.toArray (katRev true ws))).map (·.2) = _
    apply Array.toList_inj.mp
    rw [Array.toList_map, ksk_zip]
    show (List.zip (katRev true ks) (katRev true ws)).map (·.2) = _
    rw [List.map_snd_zip (by rw [kat_len, kat_len, hl]; exact Nat.le_refl _)]
  · exact (show katRev true (katRev true ws) = ws from List.reverse_reverse ws).symm ▸ k
theorem small_rest {h₀ : Heap} {L kS a : Addr} {mm : Str → Option Value} {f : Value} {ws : List Value} {e1 : Nat} {s : Shared} {R : PySem.Fin → Shared → Prop} {E : Value → Shared → Prop} (hk : s.heap.get? kS = some (seqObj "list" #[] 0)) (h2 : ws.length < 2)
    (k : KatKeys prog w A h₀ L mm kS f (fun ks e s' => KatFin h₀ L mm kS a ks e e1 ws (fun s4 => R (.done (.ret .none)) s4) s') ws [] 0 s) : wpAny (model prog w) A (ksk_rest a f true ws.toArray e1 (.ref kS)) R E s := by
  unfold ksk_rest
  refine wpAny_bind (wpAny_rule ?_)
  rw [List.forIn_toArray]
  have lz := lt2_line h2
  refine wpAny_bind (wpAny_mono (kat_fold (n := ws.length) (by omega) (fun x ks e s' C hz hx => ?_) ws [] 0 s (Nat.zero_add _) hk k) (fun _ s' hd => ?_) fun _ _ x => x)
  · refine wpAny_bind (wpAny_attempt (wpAny_mono hx (fun k s'' hk => ?_) fun _ _ hF => hF.elim))
    obtain ⟨news', g, F', N', U, c⟩ := hk
    obtain ⟨pre, post, e0, hg, x1, x2⟩ := U.split
    rw [e0] at N'
    have nk := N' (kS, seqObj "list" (List.toArray ks) e) (List.mem_append_right _ (.head _))
    have s1 := Heap.SameBut.update s''.heap kS (Obj.mapSeq (·.push k))
    obtain ⟨c2, hc2⟩ := list_turn (f := (·.push k)) (ys := ks ++ [k]) nk.1 (List.push_toArray ..)
    dsimp only
    refine wpAny_bind (listUpdate_at nk.1 rfl ?_ (show ks.length ≤ _ by have := line_is; omega) (Nat.le_trans (Nat.le_of_eq (Array.size_push ..)) (show ks.length + 1 ≤ _ by have := line_is; omega)))
    exact wpAny_pure ⟨rfl, k, c2, hc2, c _ c2 (kas_fr F' s1 nk.2.1 nk.2.2) (by rw [hg]; exact news_set N' x1 x2 s1 hc2)⟩
  · obtain ⟨ks, e, hk', hl, fin⟩ := hd
    exact wpAny_bind (listItems_at hk' rfl (small_end hl h2 fin))
section
variable {C : CallF} {f a b : Nat} {pa p : Addr × Addr} {q : Addr} {vs : List V} {ks : List (List V)} {s : Shared} {Q E : Value → Shared → Prop} (HC : ∀ args st, P1 (fun r => CallOk prog w B d (fa f) args st r.1 r.2) (C f args st)) (hR : Room d A) (Xs : Cx B ρs st0 env m hs)
    (X : Cx B ρ st env m s.heap) (N : Nx ρs (Fm env) hs ρ s.heap) (Oq : Own B hs s.heap ρ env q) (hq : s.heap.get? q = some (methodObj (.ref (fa f)) (.ref p.1))) (hb : ρ[b]? = some p) (ha : ρ[a]? = some pa) (hv : st[a]? = some (.list vs)) (ek : keysOf C f (.ref b) a vs vs st = some (ks, st3))
include HC hR Xs X N Oq hq hb ha hv ek
theorem sort_lt2 (h2 : vs.length < 2) (k : ∀ ρ' D h' tk', Cx B (ρ' ++ [(D, D)]) (st3 ++ [.list vs]) env m h' → Nx ρs (Fm env) hs (ρ' ++ [(D, D)]) h' → ρ'.length = st3.length → Q (.ref D) { s with heap := h', toks := tk' }) :
    wpAny (model prog w) A (call (.builtin "sorted") [.ref pa.1] [(Str.ofString "key", .ref q), (Str.ofString "reverse", .bool true)]) Q E s := by
  refine (X.rel.objs a _ pa hv ha).isL fun ws g1 Rs => ?_
  have wl := (vrs_len Rs).symm ▸ h2
  have lw : ws.length ≤ sizeLine := Nat.le_trans (Nat.le_add_right _ _) (lt2_line wl)
  refine call_function_entry_kw kind_sorted plain_sorted entry_sorted (ksk_s2 _ _ _) ?_
  unfold Builtin.«sorted»
  refine wpAny_bind (m := checkCount "sorted" 1 1 _) (wpAny_pure (wpAny_bind (collect_list (vs := ws) g1 (wpAny_bind (wpAny_newList ?_ lw)) lw)))
  have k0 : ∀ b o, s.heap.get? b = some o → ((s.heap.push (seqObj "list" #[] 0)).update s.heap.objs.size (Obj.mapSeq (· ++ ws.toArray))).get? b = some o := fun b o e => by
    rw [Heap.get?_update_ne _ _ _ _ (Nat.ne_of_lt (Heap.lt_size e))]; exact Heap.get?_push_of_some _ e
  generalize (s.heap.push (seqObj "list" #[] 0)).update s.heap.objs.size (Obj.mapSeq (· ++ ws.toArray)) = hA at k0 ⊢
  obtain ⟨X0, N0⟩ := X.grown (h' := hA) fun b o ne e => k0 b o e
  have hD0 := get_size hA
  have fD := X0.free hD0
  obtain ⟨X1, N1⟩ := X0.push (seqObj "list" ws.toArray 0)
  have gD : (hA.push (seqObj "list" ws.toArray 0)).get? hA.objs.size = some (seqObj "list" ws.toArray 0) := Heap.get?_push_size _ rfl
  show wpAny _ _ _ _ _ { s with heap := hA.push (seqObj "list" ws.toArray 0) }
  refine wpAny_bind (wpAny_holding (wpAny_call_entry_kw slot_list_sort ⟨_, gD, rfl⟩ entry_list_sort ?_ (ksk_l2 _ _ _)))
  rw [ksk_t2]
  unfold ksk_tree
  refine wpAny_bind (listItems_at gD rfl (wpAny_bind (listUpdate_at gD rfl ?_ lw (Nat.zero_le _))))
  obtain ⟨e1, gD1⟩ := list_turn (f := fun _ => (#[] : Array Value)) (ys := []) gD rfl
  have k1 : But (hA.push (seqObj "list" ws.toArray 0)) ((hA.push (seqObj "list" ws.toArray 0)).update hA.objs.size (Obj.mapSeq fun _ => (#[] : Array Value))) hA.objs.size := ⟨fun b o ne e => (Heap.get?_update_ne _ _ _ _ ne).trans e, nt_of gD rfl (by decide)⟩
  generalize (hA.push (seqObj "list" ws.toArray 0)).update hA.objs.size (Obj.mapSeq fun _ => (#[] : Array Value)) = hB at gD1 k1 ⊢
  have NN := Nx.trans Xs N X (Nx.trans X N0 X0 N1)
  have wasD := Xs.gone N X (X.gone N0 X0 hD0)
  have X2 := X1.but k1 (⟨wasD, ⟨_, gD⟩, fD.1, fD.2.1, fD.2.2⟩ : Own B hs _ ρ env _)
  have NB := NN.but (.inl wasD) k1.keep
  refine wpAny_bind (seqEpoch_at gD1 rfl (wpAny_bind (wpAny_newTuple (wpAny_bind (wpAny_newList (wpAny_holding ?_) (Nat.zero_le _))) lw)))
  obtain ⟨X3, N3⟩ := X2.push ({ cls := .type "tuple", data := .seq ws.toArray } : Obj)
  have R3 := X2.vrs N3 (k1.vrs (X0.vrs N1 (X.vrs N0 Rs)))
  have kq : hB.get? q = some (methodObj (.ref (fa f)) (.ref p.1)) := k1.keep q _ (fun z => nn (hD0.symm.trans (z ▸ k0 q _ hq))) (Heap.get?_push_of_some _ (k0 q _ hq))
  have gD3 := Heap.get?_push_of_some ({ cls := .type "tuple", data := .seq ws.toArray } : Obj) gD1
  have kq3 := Heap.get?_push_of_some ({ cls := .type "tuple", data := .seq ws.toArray } : Obj) kq
  have N3' := Nx.trans Xs NB X2 N3
  show wpAny _ _ _ _ _ { s with heap := (hB.push ({ cls := .type "tuple", data := .seq ws.toArray } : Obj)).push (seqObj "list" #[] 0) }
  generalize hB.push ({ cls := .type "tuple", data := .seq ws.toArray } : Obj) = hC at X3 N3' R3 gD3 kq3 ⊢
  have hk0 := get_size hC
  have fk := X3.free hk0
  obtain ⟨X4, N4⟩ := X3.push (seqObj "list" #[] 0)
  have gk : (hC.push (seqObj "list" #[] 0)).get? hC.objs.size = some (seqObj "list" #[] 0) := Heap.get?_push_size _ rfl
  have kq4 := Heap.get?_push_of_some (seqObj "list" #[] 0) kq3
  have gD4 := Heap.get?_push_of_some (seqObj "list" #[] 0) gD3
  obtain ⟨mm4, F4, hv4⟩ := X4.frame
  have S0 : SortAt B hs (hC.push (seqObj "list" #[] 0)) ρs ρ env m mm4 st hC.objs.size hA.objs.size q [] 0 e1 (methodObj (.ref (fa f)) (.ref p.1)) :=
    ⟨X4, F4.ns, hv4, Nx.trans Xs N3' X3 N4, ⟨Xs.gone N3' X3 hk0, ⟨_, gk⟩, fk.1, fk.2.1, fk.2.2⟩, ⟨wasD, ⟨_, gD4⟩, fD.1, fD.2.1, fD.2.2⟩, Oq.next ⟨_, kq4⟩, gk, gD4, kq4,
      fun z => nn (hk0.symm.trans (z ▸ gD3)), fun z => nn (hk0.symm.trans (z ▸ kq3)), fun z => nn (hD0.symm.trans (z ▸ k0 q _ hq))⟩
  have R4 := X3.vrs N4 R3
  exact small_rest (h₀ := B) (L := env.locals) (mm := mm4) gk wl (sort_keys HC hR.in2 Xs (s0 := s) (vs := vs) (wsA := ws) vs st _ ek ρ [] [] ws 0 _ s.toks S0 hb R4 R4 .nil fun ρ' kv e h0' t0' S Ra Rk =>
    S.fin rfl Ra fun h4 t4 X6 N6 l6 => ⟨_, rfl, wpAny_pure ⟨_, rfl, k ρ' hA.objs.size h4 t4 X6 N6 l6⟩⟩)
end
end
end Mine
end
section
open PySem PySem.W PySem.Calls PyProof.Rows
namespace Mine
section
variable {prog : Program} {w : World} {K : Frag} {P : Program} {loose : List Str} {mg mb : Str → Option Value} {B : Heap} {A : Around} {ρ ρ' ρ2 ρs : List (Addr × Addr)} {d : Nat} {env : Env} {m : Lo} {st st1 st2 st3 st' st0 : St} {h h' hs h2 : Heap} {I : Addr}
theorem sortK_small {ks : List (List V)} {vs : List V} {out : List (List V × V)} (hl : ks.length = vs.length) (h : vs.length < 2) (e : sortK (ks.zip vs) = some out) : out.map (·.2) = vs := by
  rcases vs with _ | ⟨v, _ | _⟩
  · rcases ks with _ | _
    · exact Option.some.inj e ▸ rfl
    · exact nomatch hl
  · rcases ks with _ | ⟨k, _ | _⟩
    · exact nomatch hl
    · exact Option.some.inj e ▸ rfl
    · exact nomatch hl
  · exact absurd h (Nat.not_lt_of_le (Nat.le_add_left 2 _))
theorem meths_ok : (clss.all fun cl => cl.meths.all fun q => decide (q.2 < fns.length)) = true := by decide +kernel
theorem ok_srt {C : CallF} {n ia ib : Nat} {u v : V} {y a : Expr} {id x : Str} {p pos pa k1 k2 pc : Pos} {k0 : Nat} (S : Stat K P loose mg mb B) (hg : gl env.scope.names id (Str.ofString "sorted") = true) (hp : plainA y = true)
    (hb : notBare a = true) (hn : nmOk n x = true) (hc : copiedNames.contains x = false) (HC : ∀ f, f < fns.length → ∀ args st, P1 (fun r => CallOk prog w B d (fa f) args st r.1 r.2) (C f args st))
    (He : EvOk prog w B d env y m st u st1) (eu : u = .ref ia) (Ho : EvOk prog w B d env a m st1 v st2) (ev : v = .ref ib) :
    P1 (fun r => EvOk prog w B d env (.Call (.Name id p) [y] [⟨some "key", .Attribute a x pa, k1⟩, ⟨some "reverse", .Constant (.bool true) k0 pc, k2⟩] pos) m st r.1 r.2) (srtV clss C n ia ib st2) :=
  nm_el (M := fun x => copiedNames.contains x = false → P1 (fun r => EvOk prog w B d env (.Call (.Name id p) [y] [⟨some "key", .Attribute a x pa, k1⟩, ⟨some "reverse", .Constant (.bool true) k0 pc, k2⟩] pos) m st r.1 r.2) (srtV clss C n ia ib st2)) hn (fun hn hc =>
  P1.atI fun c fs e1 => P1.atL fun vs e2 => P1.onZ fun e3 => P1.ob fun cl e4 => P1.ob fun f e5 => P1.if fun h5 => P1.bd P1.self fun ks st3 ek => P1.if fun hok => P1.ob fun out es => P1.of fun A ρ s Q E hR X k => by
  refine wpAny_Call_Name_kw (gl_el (M := fun id => wpAny (model prog w) A (eval (.Name id p) env) _ E s) hg fun hg => builtin_get S X (eq_of_beq (S.blt "sorted" (by decide))) (by rfl) (by decide) hg ?_)
  refine callWith_kw (sp1 hp He hR X fun ρ1 x1 h1 tk1 X1 N1 R1 => kws_cons (Attribute_any_ (ok_then Ho hR X1 fun ρ2 x2 h2 tk2 X2 N2 R2 => ?_) (by rw [arm_eval_Attribute, base_whole hb]))) (by rw [star_cons hp]; rfl) (back_plain (l := [y]) (mkB hp rfl)).1
  refine (X1.vr N2 R1).toR eu fun pl ha => R2.toR ev fun pb hbb => (X2.rel.objs ib _ pb e1 hbb).elIn fun es0 n0 g1 g2 g3 g4 => ?_
  have ck := S.cl e4
  obtain ⟨m1, m2, m3⟩ := ck.meth n f e5
  have hlt : f < fns.length := of_decide_eq_true (List.all_eq_true.mp (List.all_eq_true.mp meths_ok _ (List.mem_of_getElem? e4)) _ (look_in e5))
  refine onFn_el (S.fn f _ (List.getElem?_eq_getElem hlt)) fun _ _ _ _ _ fk => ?_
  obtain ⟨mm, Fr0, hv⟩ := X2.frame
  refine kbm_bound (s := { s with heap := h2, toks := tk2 }) Fr0 S.X (allNews_news (B := B)) ⟨g1, rfl, rfl, g2⟩ ck.plain ck.dict m1 m2 (eq_of_beq (b1 fk)) (eq_of_beq (b1 (b2 fk))) hc (er_none hn g3 e3) fun q h3 F3 N3 lq => ?_
  obtain ⟨X3, N4⟩ := X2.after F3.ns hv (allNews_kept (news := [_]) F3.keep X2.rel.base N3)
  have fq : h2.get? q = none := fresh_of (env := env) N3 (.head _) lq
  have gq := (N3 _ (.head _)).1
  have N12 := Nx.trans X N1 X1 N2
  have Oq : Own B s.heap h3 ρ2 env q := ⟨X.gone N12 X2 fq, ⟨_, gq⟩, (X2.free fq).1, (X2.free fq).2.1, (X2.free fq).2.2⟩
  refine kws_cons (wpAny_Constant_bool (kws_nil ?_))
  show wpAny (model prog w) A (call (.builtin "sorted") [.ref pl.1] [(Str.ofString "key", .ref q), (Str.ofString "reverse", .bool true)]) Q E { s with heap := h3, toks := tk2 + 1 }
  by_cases h2' : vs.length < 2
  · refine sort_lt2 (p := pb) (s := { s with heap := h3, toks := tk2 + 1 }) (HC f hlt) hR X X3 (Nx.trans X N12 X2 N4) Oq gq hbb ha e2 ek h2' fun ρ' D h' tk' X' N' hl => ?_
    rw [← sortK_small (keysOf_len _ _ _ ek) h2' es] at X'
    exact k _ _ h' tk' X' N' (.ref (p := (D, D)) (app_get hl))
  · exact sort_ge2 (p := pb) (s := { s with heap := h3, toks := tk2 + 1 }) (HC f hlt) hR X X3 (Nx.trans X N12 X2 N4) Oq gq hbb ha e2 ek (Nat.le_of_not_lt h2') h5 hok es fun ρ' D h' tk' X' N' hl => k _ _ h' tk' X' N' (.ref (p := (D, D)) (app_get hl))) hc
end
end Mine
end
section
open PySem PySem.W PySem.Calls PyProof.Rows
namespace Mine
section
variable (prog : Program) (w : World) (B : Heap) (d : Nat)
noncomputable def CallsOk : Prop := ∀ f args st, P1 (fun r => CallOk prog w B d (fa f) args st r.1 r.2) (C d f args st)
noncomputable def Er (env : Env) (a : Expr) (m : Lo) (st : St) (p : V × St) : Prop := EvOk prog w B d env a m st p.1 p.2 ∧ (∀ b, p.1 = .bool b → TrOk prog w B d env a m st b p.2) ∧
  ∀ x q pos, x < nmN → kindL env.scope.names (nmS x) = true → StOk prog w B d env (.Assign [.Name (nmS x) q] a pos) m st .none (put x p.1 m) p.2
noncomputable def PE (e : Ex) : Prop := ∀ env a m st, mE env.scope.names e a = true → P1 (Er prog w B d env a m st) (evE clss nidxTab (C d) e m st)
noncomputable def BOk (op : BoolOp) (env : Env) (l : List Expr) (m : Lo) (st : St) (p : V × St) : Prop := ∃ b, p.1 = .bool b ∧ ∀ pos, EvOk prog w B d env (.BoolOp op l pos) m st (.bool b) p.2 ∧ TrOk prog w B d env (.BoolOp op l pos) m st b p.2
noncomputable def PEs (es : Exs) : Prop := ∀ env l m st, mEs env.scope.names es l = true → P1 (fun p => EvsOk prog w B d env l m st p.1 p.2 ∧ p.1.length = l.length) (evEs clss nidxTab (C d) es m st) ∧
  (l.isEmpty = false → P1 (BOk prog w B d .And env l m st) (evAnd clss nidxTab (C d) es m st) ∧ P1 (BOk prog w B d .Or env l m st) (evOr clss nidxTab (C d) es m st))
noncomputable def PI (it : It) : Prop := ∀ env a m st, mI env.scope.names it a = true → P1 (fun p => ItOk prog w B d env a m st p.1 p.2.1 p.2.2 ∧ notSet a = true) (evIt clss nidxTab (C d) it m st)
end
section
variable {prog : Program} {w : World} {K : Frag} {P : Program} {loose : List Str} {mg mb : Str → Option Value} {B : Heap} {d : Nat} {env : Env} {a b : Expr} {m : Lo} {st st1 st' : St} {v u : V} {l : List Expr} {op : BoolOp} {x : Option (V × St)}
theorem Er.as (H : Er prog w B d env a m st (v, st1)) (e : v = u) : EvOk prog w B d env a m st u st1 := e ▸ H.1
theorem pl (h : trPlain a = true) (hs : ∀ t n, swapsWith a t n env = pure false) (H : EvOk prog w B d env a m st v st') : Er prog w B d env a m st (v, st') := ⟨H, fun _ e => tr_plain h (e ▸ H), fun _ _ _ hx hk => st_asg hx hk hs H⟩
theorem plP (h : trPlain a = true) (hs : ∀ t n, swapsWith a t n env = pure false) (H : P1 (fun p => EvOk prog w B d env a m st p.1 p.2) x) : P1 (Er prog w B d env a m st) x := fun r e => pl h hs (H r e)
theorem mkEr {b : Bool} (hs : ∀ t n, swapsWith a t n env = pure false) (H : EvOk prog w B d env a m st (.bool b) st' ∧ TrOk prog w B d env a m st b st') : Er prog w B d env a m st (.bool b, st') := ⟨H.1, fun _ e => V.bool.inj e ▸ H.2, fun _ _ _ hx hk => st_asg hx hk hs H.1⟩
theorem fn_lt {f : Nat} {args : List V} : P1 (fun _ => ∃ F, fns[f]? = some F) (C d f args st) := by
  rcases d
  · exact P1.no
  · exact P1.ob fun F hF _ _ => ⟨F, hF⟩
theorem bstop (H : Er prog w B d env a m st (v, st1)) (et : v = .bool (!isAnd op)) : BOk prog w B d op env (a :: l) m st (.bool (!isAnd op), st1) :=
  ⟨_, rfl, fun _ => ⟨by
    rcases l
    · exact ok_and1 (H.as et)
    · exact ok_andstop (H.as et), tr_andstop (H.2.1 _ et)⟩⟩
theorem bgo1 (H : Er prog w B d env a m st (v, st1)) (et : v = .bool (isAnd op)) : BOk prog w B d op env [a] m st (.bool (isAnd op), st1) := ⟨_, rfl, fun _ => ⟨ok_and1 (H.as et), tr_and1 (H.2.1 _ et)⟩⟩
theorem bgo (H : Er prog w B d env a m st (v, st1)) (et : v = .bool (isAnd op)) {p : V × St} (R : BOk prog w B d op env (b :: l) m st1 p) : BOk prog w B d op env (a :: b :: l) m st p :=
  R.imp fun _ q => ⟨q.1, fun pos => ⟨ok_andgo (H.as et) (q.2 pos).1, tr_andgo (H.2.1 _ et) (q.2 pos).2⟩⟩
theorem BOk.er {p : V × St} {pos : Pos} (R : BOk prog w B d op env l m st p) : Er prog w B d env (.BoolOp op l pos) m st p := by
  obtain ⟨b, e, q⟩ := R
  obtain ⟨v, st'⟩ := p
  have e : v = .bool b := e
  subst e
  exact mkEr (fun _ _ => rfl) (q pos)
section
variable {e e1 e2 e3 : Ex} {es : Exs} {it : It}
theorem pe_val {v : V} : PE prog w B d (.val v) := fun env a m st hm => aConstant_el hm fun c k p h => by
  rcases v <;> first | exact ff h | skip
  · exact dec_el (a := c) (b := .none) h (P1.of (pl rfl (fun _ _ => rfl) ok_none))
  · exact dec_el (a := c) (b := .bool _) h (P1.of (pl rfl (fun _ _ => rfl) ok_bool))
  · exact dec_el (a := c) (b := .int _) h (P1.of (pl rfl (fun _ _ => rfl) ok_int))
  · rcases c <;> first | exact ff h | exact nm_el h fun hx => P1.of (pl rfl (fun _ _ => rfl) (ok_str hx))
theorem pe_cmp3 {o1 o2 : Cop} (i1 : PE prog w B d e1) (i2 : PE prog w B d e2) (i3 : PE prog w B d e3) : PE prog w B d (.cmp3 o1 o2 e1 e2 e3) := fun env a m st hm => aCompare_el hm fun l os rs p h => aTwo_el h fun p1 p2 h => aTwo_el h fun r1 r2 h => and6 h fun h1 h2 h3 h4 h5 h6 => dec_el (a := p1) h1 (dec_el (a := p2) h2
  (P1.bd (i1 env _ m st h4) fun u st1 H1 => P1.bd (i2 env _ m st1 h5) fun v st2 H2 => P1.ob fun t et => P1.cd (fun z => P1.bd (i3 env _ m st2 h6) fun x st3 H3 => P1.ob fun r er => P1.of (mkEr (fun _ _ => rfl) (ok_cmp3 H1.1 H2.1 (no_ h3) et (by subst z; exact ⟨x, H3.1, er⟩))))
    fun z => P1.of (mkEr (fun _ _ => rfl) (ok_cmp3 H1.1 H2.1 (no_ h3) et (by subst z; exact ⟨rfl, rfl⟩)))))
theorem pe_ite (i1 : PE prog w B d e1) (i2 : PE prog w B d e2) (i3 : PE prog w B d e3) : PE prog w B d (.ite e1 e2 e3) := fun env a m st hm => aIfExp_el hm fun t x y p h => and3 h fun h1 h2 h3 => P1.bd (i1 env _ m st h1) fun v st1 H => P1.onB fun b eb => by
  have go : ∀ {q}, Er prog w B d env (bif b then x else y) m st1 q → Er prog w B d env (.IfExp t x y p) m st q := fun H2 => ⟨ok_ite (H.2.1 b eb) H2.1, fun c ec => tr_ite (H.2.1 b eb) (H2.2.1 c ec), fun _ _ _ hx hk => st_asg hx hk (fun _ _ => rfl) (ok_ite (H.2.1 b eb) H2.1)⟩
  exact P1.cd (fun z q e => go (z ▸ i2 env x m st1 h2 q e)) fun z q e => go (z ▸ i3 env y m st1 h3 q e)
theorem comp_er {x : Nat} {id : Str} {elt i : Expr} {ifs : List Expr} {sc : Scope} {p pos : Pos} {condF : Lo → St → Option (V × St)} (ie : PE prog w B d e) (ii : PI prog w B d it) (h1 : scOk env.scope.names sc x id = true) (h2 : mI env.scope.names it i = true) (h3 : mE (cnOf env.scope.names sc.names) e elt = true)
    (Hc : ∀ cenv : Env, cenv.scope.names = cnOf env.scope.names sc.names → ∀ v st, P1 (fun p => ∀ b, p.1 = .bool b → TestOk prog w B d cenv ifs (put x v m) st b p.2) (condF (put x v m) st)) :
    P1 (Er prog w B d env (.ListComp elt [⟨.Name id p, i, ifs, 0⟩] sc pos) m st) (b3 (evIt clss nidxTab (C d) it m st) fun vs a st1 => if vs.length ≤ maxSeq then bd (loopC a vs x (evE clss nidxTab (C d) e) condF vs m st1) fun ws st2 => some (.ref st2.length, st2 ++ [.list ws]) else .none) :=
  nm_el (M := fun id => compOk env.scope.names sc.names x id = true → P1 (Er prog w B d env (.ListComp elt [⟨.Name id p, i, ifs, 0⟩] sc pos) m st) _) (b1 (b1 (b1 (b1 (b1 (b1 h1)))))) (fun _ hco => P1.b3 (ii env i m st h2) fun vs src st1 HI => P1.if fun hz => P1.bd P1.self fun ws st2 el =>
    have hsk := of_decide_eq_true (b1 (b2 h1))
    have He : ∀ cenv : Env, cenv.scope.names = cnOf env.scope.names sc.names → ∀ v st, P1 (fun p => EvOk prog w B d cenv elt (put x v m) st p.1 p.2) (evE clss nidxTab (C d) e (put x v m) st) := fun cenv hc v st p q => (ie cenv elt (put x v m) st (hc ▸ h3) p q).1
    have H := ok_comp (pos := pos) (p := p) hco hsk HI.2 HI.1 hz el He Hc
    P1.of ⟨H, fun b eb => tr_plain rfl (eb ▸ H), fun y q spos hy hk => st_asg_comp hco hsk HI.2 HI.1 hz el He Hc hy hk⟩) (b1 h1)
theorem bool_cons {F : Lo → St → Option (V × St)} {k : St → Bool → Option (V × St)} (ie : P1 (Er prog w B d env a m st) x) (h1 : ∀ st1, k st1 (isAnd op) = F m st1) (h2 : ∀ st1, k st1 (!isAnd op) = some (.bool (!isAnd op), st1)) (one : ∀ st1, l = [] → F m st1 = some (.bool (isAnd op), st1)) (more : ∀ st1, l.isEmpty = false → P1 (BOk prog w B d op env l m st1) (F m st1)) :
    P1 (BOk prog w B d op env (a :: l) m st) (bd x fun v st1 => onB v (k st1)) := P1.bd ie fun v st1 H => P1.onB fun t et => by
  by_cases z : t = isAnd op
  · subst z
    rw [h1]
    rcases l with _ | ⟨b, l⟩
    · rw [one _ rfl]; exact P1.of (bgo1 H et)
    · exact fun p e => bgo H et (more st1 rfl p e)
  · have z : t = !isAnd op := Bool.eq_not_of_ne z
    subst z
    rw [h2]; exact P1.of (bstop H et)
theorem pes_cons (ie : PE prog w B d e) (is : PEs prog w B d es) : PEs prog w B d (.cons e es) := fun env l m st hm => by
  rcases l with _ | ⟨a, l⟩
  · exact ff hm
  have h1 := b1 hm; have h2 := b1 (b2 hm); have h3 := b2 (b2 hm)
  have nil : ∀ {l : List Expr}, l = [] → mEs env.scope.names es l = true → es = .nil := fun e h => by
    subst e
    rcases es
    · rfl
    · exact ff h
  refine ⟨P1.bd (ie env a m st h2) fun v st1 H => P1.bd (is env l m st1 h3).1 fun vs st2 Hs => P1.of ⟨oks_cons h1 H.1 Hs.1, congrArg (· + 1) Hs.2⟩, fun _ => ⟨?_, ?_⟩⟩
  · exact bool_cons (op := .And) (F := evAnd clss nidxTab (C d) es) (ie env a m st h2) (fun _ => rfl) (fun _ => rfl) (fun _ e => by rw [nil e h3]; rfl) fun st1 hne => ((is env l m st1 h3).2 hne).1
  · exact bool_cons (op := .Or) (F := evOr clss nidxTab (C d) es) (ie env a m st h2) (fun _ => rfl) (fun _ => rfl) (fun _ e => by rw [nil e h3]; rfl) fun st1 hne => ((is env l m st1 h3).2 hne).2
theorem pi_seq (ih : PE prog w B d e) : PI prog w B d (.seq e) := fun env a m st hm => and3 hm fun h1 h2 h3 => P1.bd (ih env a m st h3) fun o st1 H => P1.bd (it_seq H.1) fun vs s H' => P1.of ⟨H', h2⟩
variable (S : Stat K P loose mg mb B)
include S
theorem pi_rng1 (ih : PE prog w B d e) : PI prog w B d (.rng1 e) := fun env a m st hm => aC1_el hm fun id p y pos h => and3 h fun h1 h2 h3 => P1.bd (ih env y m st h3) fun v st1 H q e => ⟨it_rng1 S h1 h2 H.1 q e, rfl⟩
theorem pi_rng2 (i1 : PE prog w B d e1) (i2 : PE prog w B d e2) : PI prog w B d (.rng2 e1 e2) := fun env a m st hm => aC2_el hm fun id p y z pos h => and5 h fun h1 h2 h3 h4 h5 => P1.bd (i1 env y m st h4) fun u st1 H => P1.onI fun i ei => P1.bd (i2 env z m st1 h5) fun v st2 H2 q e => ⟨it_rng2 S h1 h2 h3 H.1 ei H2.1 q e, rfl⟩
variable (HC : CallsOk prog w B d)
include HC
theorem pe_srt {n : Nat} (i1 : PE prog w B d e1) (i2 : PE prog w B d e2) : PE prog w B d (.srt e1 e2 n) := fun env a m st hm => aCall_el hm fun g l k p h => aName_el h fun id p h => aOne_el h fun y h => aKey_el h fun b x pa k1 k0 pc k2 h => and7 h fun h1 h2 h3 h4 h5 h6 h7 =>
  P1.bd (i1 env _ m st h6) fun u st1 H => P1.onR fun a ea => P1.bd (i2 env _ m st1 h7) fun v st2 H2 => P1.onR fun b eb => plP rfl (fun _ _ => rfl) (ok_srt S h1 h2 h3 h4 (no_ h5) (fun f _ => HC f) H.1 ea H2.1 eb)
theorem pe_meth {n : Nat} (i1 : PE prog w B d e) (is : PEs prog w B d es) : PE prog w B d (.meth e n es) := fun env a m st hm => aM_el hm fun b x ap l pos hl h => and5 h fun h1 h2 h3 h4 h5 => P1.bd (i1 env _ m st h4) fun v st1 H => P1.onR fun i ei => P1.atI fun c fs q1 => P1.onZ fun q2 => P1.ob fun cl q3 => P1.ob fun f q4 =>
  P1.bd (is env l m st1 h5).1 fun vs st2 H2 p e => pl rfl (fun _ _ => rfl) (ok_meth S h1 hl h2 (of_decide_eq_true h3) (mEs_plain _ h5) H.1 ei q1 q2 q3 q4 H2.1 (HC f _ st2 p e))
set_option maxHeartbeats 4000000 in
theorem ev_all (e : Ex) : PE prog w B d e := Ex.rec (motive_1 := PE prog w B d) (motive_2 := PEs prog w B d) (motive_3 := PI prog w B d)
  (fun _ _ _ _ _ => P1.no)
  (fun x env a m st hm => aName_el hm fun id p h => nm_el (M := fun id => (kindV env.scope.names id && nodbg id) = true → P1 (Er prog w B d env (.Name id p) m st) _) (b1 h) (fun hx h => P1.ob fun v e => P1.of (pl rfl (fun _ _ => rfl) (ok_var e hx (b1 h) (b2 h)))) (b2 h))
  (fun v => pe_val)
  (fun env a m st hm => aDict_el hm fun k v p h => nil_el (b1 h) (nil_el (b2 h) (P1.of (pl rfl (fun _ _ => rfl) ok_dct))))
  (fun e f ih env a m st hm => aAttribute_el hm fun b x p h => and3 h fun h1 h2 h3 => nm_el h2 fun hf => P1.bd (ih env b m st h3) fun o st1 H => P1.obp (ok_attr S h1 hf H.1) fun v H' => P1.of (pl rfl (fun _ _ => rfl) H'))
  (fun op e1 e2 i1 i2 env a m st hm => aBinOp_el hm fun l o r p h => and3 h fun h1 h2 h3 => dec_el (a := o) h1 (P1.bd (i1 env l m st h2) fun u st1 H => P1.bd (i2 env r m st1 h3) fun v st2 H2 => plP rfl (fun _ _ => rfl) (ok_bin H.1 H2.1)))
  (fun e ih env a m st hm => aUnaryOp_el hm fun o y p h => dec_el (a := o) (b1 h) (P1.bd (ih env y m st (b2 h)) fun v st1 H => P1.onI fun i ei => P1.of (pl rfl (fun _ _ => rfl) (ok_neg (H.as ei)))))
  (fun e ih env a m st hm => aUnaryOp_el hm fun o y p h => dec_el (a := o) (b1 h) (P1.bd (ih env y m st (b2 h)) fun v st1 H => P1.onB fun b eb => P1.of (mkEr (fun _ _ => rfl) ⟨ok_not (H.as eb), tr_not (H.2.1 b eb)⟩)))
  (fun op e1 e2 i1 i2 env a m st hm => aCompare_el hm fun l os rs p h => aOne_el h fun o h => aOne_el h fun r h => and4 h fun h1 h2 h3 h4 => dec_el (a := o) h1 (P1.bd (i1 env l m st h3) fun u st1 H => P1.bd (i2 env r m st1 h4) fun v st2 H2 => P1.ob fun t et => P1.of (mkEr (fun _ _ => rfl) ⟨ok_cmp H.1 H2.1 (no_ h2) t et, tr_cmp H.1 H2.1 (no_ h2) t et⟩)))
  (fun o1 o2 e1 e2 e3 i1 i2 i3 => pe_cmp3 i1 i2 i3)
  (fun es is env a m st hm => aBoolOp_el hm fun o l p h => and3 h fun h1 h2 h3 => dec_el (a := o) h1 fun r e => (((is env l m st h2).2 (no_ h3)).1 r e).er)
  (fun es is env a m st hm => aBoolOp_el hm fun o l p h => and3 h fun h1 h2 h3 => dec_el (a := o) h1 fun r e => (((is env l m st h2).2 (no_ h3)).2 r e).er)
  (fun e1 e2 e3 i1 i2 i3 => pe_ite i1 i2 i3)
  (fun es is env a m st hm => aTuple_el hm fun l n p h => P1.bd (is env l m st (b2 h)).1 fun vs st1 H => P1.of (pl rfl (fun _ _ => rfl) (ok_tup (Nat.le_trans (Nat.le_of_eq H.2) (of_decide_eq_true (b1 h))) H.1)))
  (fun es is env a m st hm => aList_el hm fun l p h => P1.bd (is env l m st (b2 h)).1 fun vs st1 H => P1.of (pl rfl (fun _ _ => rfl) (ok_lst (Nat.le_trans (Nat.le_of_eq H.2) (of_decide_eq_true (b1 h))) H.1)))
  (fun e1 e2 i1 i2 env a m st hm => aSubscript_el hm fun x y p h => and3 h fun h1 h2 h3 => P1.bd (i1 env x m st h2) fun u st1 H => P1.bd (i2 env y m st1 h3) fun v st2 H2 => P1.obp (ok_idx h1 H.1 H2.1) fun z H' => P1.of (pl rfl (fun _ _ => rfl) H'))
  (fun e1 e2 i1 i2 env a m st hm => aSubscript_el hm fun x y p h => aSlice_el h fun l u s p' h => and3 h fun h1 h2 h3 => none_el h1 (none_el h2 (any_el h3 fun u h => P1.bd (i1 env x m st (b1 h)) fun u st1 H => P1.bd (i2 env _ m st1 (b2 h)) fun v st2 H2 => plP rfl (fun _ _ => rfl) (ok_upto H.1 H2.1))))
  (fun e ih env a m st hm => aSubscript_el hm fun x y p h => aSlice_el h fun l u s p' h => and4 h fun h1 h2 h3 h4 => none_el h1 (none_el h2 (any_el h4 fun u h => aM1_el h fun n p p' => P1.bd (ih env x m st h3) fun o st1 H => P1.obp (ok_rev H.1) fun vs H' => P1.of (pl rfl (fun _ _ => rfl) H'))))
  (fun f es is env a m st hm => aC_el hm fun id p l pos h => and3 h fun h1 h2 h3 => P1.bd (is env l m st h3).1 fun vs st1 H q e => Exists.elim (fn_lt q e) fun F hF => pl rfl (fun _ _ => rfl) (ok_call S hF h1 (no_ h2) (mEs_plain _ h3) H.1 (HC f vs st1 q e)))
  (fun c es is env a m st hm => aC_el hm fun id p l pos h => P1.bd (is env l m st (b2 h)).1 fun vs st1 H => P1.ob fun cl e3 => P1.bd (HC cl.init _ _) fun u st2 Hc => P1.onN fun eu => P1.of (pl rfl (fun _ _ => rfl) (ok_new S (b1 h) e3 (mEs_plain _ (b2 h)) H.1 Hc eu)))
  (fun e n es ie is => pe_meth S HC ie is)
  (fun e1 e2 i1 i2 env a m st hm => aM_el hm fun b x ap l pos hl h => aOne_el h fun y h => and5 h fun h1 h2 h3 h4 h5 => str_el h2 (P1.bd (i1 env b m st h4) fun u st1 H => P1.ob fun vs0 q1 => P1.bd (i2 env y m st1 h5) fun v st2 H2 => P1.obp (ok_lapp h1 hl h3 H.1 q1 H2.1) fun st3 H' => P1.of (pl rfl (fun _ _ => rfl) H')))
  (fun e ih env a m st hm => aM_el hm fun b x ap l pos hl h => and4 h fun h1 h2 h3 h4 => nil_el h1 (str_el h3 (P1.bd (ih env b m st h4) fun u st1 H => plP rfl (fun _ _ => rfl) (ok_lpop h2 hl H.1))))
  (fun e1 e2 i1 i2 env a m st hm => aM_el hm fun b x ap l pos hl h => aOne_el h fun y h => and5 h fun h1 h2 h3 h4 h5 => str_el h2 (P1.bd (i1 env b m st h4) fun u st1 H => P1.ob fun vs0 q1 => P1.bd (i2 env y m st1 h5) fun v st2 H2 => P1.obp (ok_lext h1 hl h3 H.1 q1 H2.1) fun st3 H' => P1.of (pl rfl (fun _ _ => rfl) H')))
  (fun e ih env a m st hm => aM_el hm fun b x ap l pos hl h => aName_el h fun id p h => aOne_el h fun y h => and4 h fun h1 h2 h3 h4 => str_el h2 (P1.bd (ih env y m st h4) fun v st1 H => P1.onS fun s es => P1.ob fun k ek => P1.of (pl rfl (fun _ _ => rfl) (ok_nidx S h1 hl h3 H.1 k (by rw [es]; exact ek)))))
  (fun e ih env a m st hm => aC1_el hm fun id p y pos h => and3 h fun h1 h2 h3 => P1.bd (ih env y m st h3) fun v st1 H => P1.obp (ok_len S h1 h2 H.1) fun k H' => P1.of (pl rfl (fun _ _ => rfl) H'))
  (fun e ih env a m st hm => aC1_el hm fun id p y pos h => and3 h fun h1 h2 h3 => P1.bd (ih env y m st h3) fun v st1 H => P1.onI fun i ei => P1.of (pl rfl (fun _ _ => rfl) (ok_abs S h1 h2 (H.as ei))))
  (fun e1 e2 i1 i2 env a m st hm => aC2_el hm fun id p y z pos h => and5 h fun h1 h2 h3 h4 h5 => P1.bd (i1 env y m st h4) fun u st1 H => P1.onI fun i ei => P1.bd (i2 env z m st1 h5) fun v st2 H2 => P1.onI fun j ej => P1.of (pl rfl (fun _ _ => rfl) (ok_min2 S h1 h2 h3 (H.as ei) (H2.as ej))))
  (fun e1 e2 i1 i2 env a m st hm => aC2_el hm fun id p y z pos h => and5 h fun h1 h2 h3 h4 h5 => P1.bd (i1 env y m st h4) fun u st1 H => P1.onI fun i ei => P1.bd (i2 env z m st1 h5) fun v st2 H2 => P1.onI fun j ej => P1.of (pl rfl (fun _ _ => rfl) (ok_max2 S h1 h2 h3 (H.as ei) (H2.as ej))))
  (fun e ih env a m st hm => aC1_el hm fun id p y pos h => and3 h fun h1 h2 h3 => P1.bd (ih env y m st h3) fun v st1 H => plP rfl (fun _ _ => rfl) (ok_minL S h1 h2 H.1))
  (fun e ih env a m st hm => aC1_el hm fun id p y pos h => and3 h fun h1 h2 h3 => P1.bd (ih env y m st h3) fun v st1 H => plP rfl (fun _ _ => rfl) (ok_maxL S h1 h2 H.1))
  (fun t e ih env a m st hm => aC2_el hm fun id p y z pos h => aName_el h fun tn p2 h => and5 h fun h1 h2 h3 h4 h5 => P1.bd (ih env y m st h5) fun v st1 H => P1.obp (ok_isi S h1 h2 h3 h4 H.1) fun b H' => P1.of (pl rfl (fun _ _ => rfl) H'))
  (fun e1 e2 n i1 i2 => pe_srt S HC i1 i2)
  (fun e x it ie ii env a m st hm => aListComp_el hm fun q g sc p h => aGen_el h fun id p i fs h => and4 h fun h0 h1 h2 h3 => nil_el h0 (comp_er ie ii h1 h2 h3 fun _ _ _ _ => P1.of fun b eb => V.bool.inj eb ▸ test_nil))
  (fun e x it c ie ii ic env a m st hm => aListComp_el hm fun q g sc p h => aGen_el h fun id p i fs h => aOne_el h fun cnd h => and4 h fun h1 h2 h3 h4 => comp_er ie ii h1 h2 h3 fun cenv hc v st p e b eb => test_one ((ic cenv cnd (put x v m) st (hc ▸ h4) p e).2.1 b eb))
  (fun env l m st hm => nil_el (M := fun l => P1 (fun p => EvsOk prog w B d env l m st p.1 p.2 ∧ p.1.length = l.length) (evEs clss nidxTab (C d) .nil m st) ∧ (l.isEmpty = false → P1 (BOk prog w B d .And env l m st) (evAnd clss nidxTab (C d) .nil m st) ∧ P1 (BOk prog w B d .Or env l m st) (evOr clss nidxTab (C d) .nil m st))) hm ⟨P1.of ⟨oks_nil, rfl⟩, fun h => tf h⟩)
  (fun e es ie is => pes_cons ie is)
  (fun e ih => pi_seq ih)
  (fun e ih => pi_rng1 S ih)
  (fun e1 e2 i1 i2 => pi_rng2 S i1 i2)
  e
end
end
end Mine
end
section
open PySem PySem.W PySem.Calls PyProof.Rows
namespace Mine
section
variable (prog : Program) (w : World) (B : Heap) (d : Nat)
noncomputable def PS (x : Mine.S) : Prop := ∀ env a m st, mS env.scope.names x a = true → P1 (fun p => StOk prog w B d env a m st p.1 p.2.1 p.2.2) (exS clss nidxTab (C d) x m st)
noncomputable def PSs (x : Ss) : Prop := ∀ env l m st, mSs env.scope.names x l = true → P1 (fun p => ExOk prog w B d env l m st p.1 p.2.1 p.2.2) (exSs clss nidxTab (C d) x m st)
end
section
variable {prog : Program} {w : World} {K : Frag} {P : Program} {loose : List Str} {mg mb : Str → Option Value} {B : Heap} {d : Nat}
theorem exp_swaps {a : Expr} {env : Env} (h : expOk a = true) (t : Option Expr) (n : Nat) : swapsWith a t n env = pure false := swaps_not (by unfold notComp asgOk isA; rw [of_decide_eq_true h]; rfl)
theorem pe_it (S : Stat K P loose mg mb B) (HC : CallsOk prog w B d) (it : It) : PI prog w B d it := by
  rcases it with e | e | ⟨e1, e2⟩
  · exact pi_seq (ev_all S HC e)
  · exact pi_rng1 S (ev_all S HC e)
  · exact pi_rng2 S (ev_all S HC e1) (ev_all S HC e2)
set_option maxHeartbeats 4000000 in
theorem ex_all (S : Stat K P loose mg mb B) (HC : CallsOk prog w B d) (x : Ss) : PSs prog w B d x := Ss.rec (motive_1 := PS prog w B d) (motive_2 := PSs prog w B d)
  (fun _ _ _ _ _ => P1.no)
  (fun x e env a m st hm => sA1_el hm fun t v p h => aName_el h fun id q h => and5 h fun h1 h2 h3 h4 h5 => nm_el (M := fun id => kindL env.scope.names id = true → P1 (fun p' => StOk prog w B d env (.Assign [.Name id q] v p) m st p'.1 p'.2.1 p'.2.2) (exS clss nidxTab (C d) (.asg x e) m st)) h1 (fun hx hk => P1.bd (ev_all S HC e env v m st h5) fun u st1 H => P1.of (H.2.2 x q p hx hk)) h2)
  (fun xs e env a m st hm => sA1_el hm fun t v p h => aTuple_el h fun ts k tp h => and5 h fun h1 h2 h3 h4 h5 => P1.bd (ev_all S HC e env v m st h5) fun u st1 H => P1.onT fun vs ev => P1.ob fun m1 e1 => P1.of (st_asgT h1 h4 h3 H.1 ev e1))
  (fun o f e env a m st hm => sA1_el hm fun t v p h => aAttribute_el h fun b x q h => and6 h fun h1 h2 h3 h4 h5 h6 => nm_el h1 fun hf => P1.bd (ev_all S HC e env v m st h6) fun u st1 H => P1.bd (ev_all S HC o env b m st1 h5) fun y st2 H2 => P1.obp (st_asgA S hf h2 H.1 H2.1 h4) fun st3 H' => P1.of H')
  (fun o i e env a m st hm => sA1_el hm fun t v p h => aSubscript_el h fun b j q h => and6 h fun h1 h2 h3 h4 h5 h6 => P1.bd (ev_all S HC e env v m st h6) fun u st1 H => P1.bd (ev_all S HC o env b m st1 h4) fun y st2 H2 => P1.bd (ev_all S HC i env j m st2 h5) fun k st3 H3 => P1.obp (st_asgI H.1 H2.1 H3.1 h3) fun st4 H' => P1.of H')
  (fun e env a m st hm => sReturn_el hm fun q p h => any_el h fun v h => P1.bd (ev_all S HC e env v m st (b2 h)) fun u st1 H => P1.of (st_ret H.1))
  (fun env a m st hm => sReturn_el hm fun q p h => none_el h (P1.of st_ret0))
  (fun c x y i1 i2 env a m st hm => sIf_el hm fun t u v p h => and3 h fun h1 h2 h3 => P1.bd (ev_all S HC c env t m st h1) fun z st1 H => P1.onB fun b eb => by
    have go : ∀ {q : Option V × Lo × St}, ExOk prog w B d env (bif b then u else v) m st1 q.1 q.2.1 q.2.2 → StOk prog w B d env (.If t u v p) m st q.1 q.2.1 q.2.2 := fun H2 => st_ite (H.2.1 b eb) H2
    exact P1.cd (fun z q e => go (z ▸ i1 env u m st1 h2 q e)) fun z q e => go (z ▸ i2 env v m st1 h3 q e))
  (fun c b ib env a m st hm => sWhile_el hm fun t x y p h => and3 h fun h1 h2 h3 => nil_el h1 (st_whl (fun m st q e b eb => (ev_all S HC c env t m st h2 q e).2.1 b eb) fun m st => ib env x m st h3))
  (fun x it b ib env a m st hm => sFor_el hm fun t i u y p h => nil_el (b1 h) (aName_el (b2 h) fun id q h => and4 h fun h1 h2 h3 h4 => nm_el (M := fun id => kindL env.scope.names id = true → P1 (fun p' => StOk prog w B d env (.For (.Name id q) i u [] p) m st p'.1 p'.2.1 p'.2.2) (exS clss nidxTab (C d) (.for1 x it b) m st)) h1 (fun hx hk => P1.b3 (pe_it S HC it env i m st h3) fun vs src st1 HI => P1.if fun _ =>
    st_for HI.2 HI.1 (fun v m => P1.of fun A ρ st s z Q E hR X R k => assign_Name (store_name X hx hk R k)) fun m st => ib env u m st h4) h2))
  (fun xs it b ib env a m st hm => sFor_el hm fun t i u y p h => nil_el (b1 h) (aTuple_el (b2 h) fun ts k0 tp h => and3 h fun h1 h2 h3 => P1.b3 (pe_it S HC it env i m st h2) fun vs src st1 HI => P1.if fun _ =>
    st_for HI.2 HI.1 (fun v m => P1.onT fun ws ev m1 e A ρ st s z Q E hR X R k => unpack_to h1 hR X R ev e k) fun m st => ib env u m st h3))
  (fun e env a m st hm => sExpr_el hm fun v p h => and3 h fun h1 h2 h3 => P1.bd (ev_all S HC e env v m st h3) fun u st1 H => P1.of (st_exp (exp_swaps h2) H.1))
  (fun env l m st hm => nil_el (M := fun l => P1 (fun p => ExOk prog w B d env l m st p.1 p.2.1 p.2.2) (exSs clss nidxTab (C d) .nil m st)) hm (P1.of exs_nil))
  (fun s ss i1 i2 env l m st hm => by
    rcases l with _ | ⟨a, l⟩
    · exact ff hm
    · exact P1.b3 (i1 env a m st (b1 hm)) fun ov m1 st1 H => P1.orO (fun v ev => P1.of (exs_ret (ev ▸ H))) fun ev p e => exs_next (ev ▸ H) (i2 env l m1 st1 (b2 hm) p e))
  x
theorem calls_ok (S : Stat K P loose mg mb B) (d : Nat) : CallsOk prog w B d := by
  induction d with
  | zero => exact fun _ _ _ => P1.no
  | succ d ih => exact fun f args st => P1.ob fun F hF => P1.if fun hl => P1.b3 P1.self fun ov m1 st1 e => P1.orO (fun v ev => P1.of (call_ok (r := some v) (m' := m1) (st' := st1) S hF hl fun env body hm => by subst ev; exact ex_all S ih F.body env body _ st hm _ e)) fun ev => P1.of (call_ok (r := none) (m' := m1) (st' := st1) S hF hl fun env body hm => by subst ev; exact ex_all S ih F.body env body _ st hm _ e)
end
end Mine
end
section
open PySem PySem.W PySem.Calls PyProof.Rows
namespace Mine
section
variable {prog : Program} {w : World} {B h : Heap}
theorem cells_at {cm : Str → Option Value} {L : Addr} {cs : List (Str × Addr)} {cells : List (Addr × Obj)} (CA : CellsAre cm cs cells) : News B L h cells → ∀ y c, cs.lookup y = some c → ∃ o, h.get? c = some o ∧ o.data = .cell (cm y) ∧ B.get? c = none := by
  induction CA with
  | nil => exact fun _ y c e => nn e
  | @cons n c0 o cs cells hd CA ih =>
    intro N y c e
    by_cases q : (y == n) = true
    · rw [lk_t q] at e
      have t := N _ (.head _)
      exact ⟨o, Option.some.inj e ▸ t.1, eq_of_beq q ▸ hd, Option.some.inj e ▸ t.2.2⟩
    · rw [lk_f (eq_false_of_ne_true q)] at e
      exact ih (fun p hp => N p (.tail _ hp)) y c e
theorem look1 {x y : Nat} {u v : V} (e : look x [(y, u)] = some v) : x = y ∧ v = u := by
  replace e : (if x = y then some u else none) = some v := e
  exact if_el e fun q e => ⟨q, (Option.some.inj e).symm⟩
theorem law_cx {cm mm : Str → Option Value} {cells : List (Addr × Obj)} {env : Env} {l : Addr} {vs : List V} {ws : List Value} (F : Fr B env.locals h mm) (N : News B env.locals h cells) (CA : CellsAre cm env.cells cells) (hL : env.locals = B.objs.size) (hcl : env.cells = cellsFrom (env.locals + 1) env.scope.names [])
    (hk : env.scope.kind = .function) (hg : env.globals = mainGlobals) (hb : env.builtins = builtinsNs) (hm : mm (nmS 74) = some (.ref l)) (hs : env.kindOf (nmS 74) = some .local) (hl : B.IsList l ws.toArray) (R : VRs B h [] vs ws) : Cx B [] [] env [(74, .slist vs)] h := by
  have ca := cells_at CA N
  have no : ∀ b, ¬ Foot [] b := fun b f => f.elim fun a q => q.elim fun p e => nn e.1
  refine ⟨⟨rfl, fun a o p e => nn e, fun a b p q e => nn e, fun b f => absurd f (no b), F.keep, Nat.le_trans F.above (Nat.le_of_lt F.ns.lt)⟩, ⟨hk, hg, hb, ⟨mm, F.ns, fun x v hx e hl' => ?_⟩, fun x v hx e hc => ?_, fun y c hy => (ca y c hy).imp fun o q => ⟨_, q.1, q.2.1⟩, fun y hy => ?_, fun y z c e1 e2 => ?_, fun b f => ⟨?_, no b⟩, F.above⟩⟩
  · obtain ⟨q, q'⟩ := look1 e
    rw [q, q']; exact ⟨_, hm, .slist hl R⟩
  · rw [(look1 e).1, hs] at hc
    exact hc.elim (fun z => nomatch z) fun z => nomatch z
  · rw [hcl]; exact Option.isSome_iff_exists.mp (cells_some _ _ _ _ (.inl hy))
  · have ok := cellsFrom_ok env.scope.names (B.push { cls := .type "frame", data := .dict #[] }) (B.objs.size + 1) [] ⟨fun _ _ hm => (nomatch hm), List.Pairwise.nil⟩ (by rw [Heap.size_push]; exact Nat.le_refl _)
    rw [Heap.size_push] at ok
    rw [hcl, hL] at e1 e2
    exact name_of_addr ok.apart (mem_of_lookup e1) (mem_of_lookup e2)
  · exact f.elim (fun e => e ▸ hL ▸ get_size B) fun q => q.elim fun y hy => (ca y b hy).choose_spec.2.2
theorem ints_vrs {ρ : List (Addr × Addr)} {ws : List Value} {ns : List Int} (R : IntsAre ws ns) : VRs B h ρ (ns.map V.int) ws := by
  induction R with
  | nil => exact .nil
  | cons n t _ ih => exact .cons (.int n t) ih
noncomputable def allChk (K : Frag) : Bool := (List.range 10).all (fun c => clsChk K c) && ((List.range 84).all (fun f => (fns[f]?).any fun F => fnChk K f F && fnGChk K f) && (bltNames.all (fun x => bltChk K x) && namesChk K))
theorem stat_of {K : Frag} {P : Program} {loose : List Str} {mg mb : Str → Option Value} (X : K.In B) (T : TopRead P loose mg mb B) (c : allChk K = true) : Stat K P loose mg mb B :=
  have c2 := fun f (hf : f < 84) => List.all_eq_true.mp (b1 (b2 c)) f (List.mem_range.mpr hf)
  ⟨X, T, fun i hi => List.all_eq_true.mp (b1 c) i (List.mem_range.mpr hi), fun f F hF => b1 (hF ▸ c2 f (List.getElem?_eq_some_iff.mp hF).1 : (some F).any (fun F => fnChk K f F && fnGChk K f) = true), fun f hf => by
    obtain ⟨F, _, q⟩ := any_some (c2 f hf)
    exact b2 q, fun x hx => List.all_eq_true.mp (b1 (b2 (b2 c))) x hx, b2 (b2 (b2 c))⟩
noncomputable def LawRuns : Prop := ∀ ns : List Int, ns.length ≤ 63 → ∃ m' st', exSs clss nidxTab (C 40) B_law [(74, .slist (ns.map V.int))] [] = some (some (.bool true), m', st')
end
end Mine
end
section
namespace Mine
mutual
noncomputable def ren (ρ : Nat → Nat) : V → V
  | .none => .none
  | .bool b => .bool b
  | .int i => .int i
  | .str s => .str s
  | .ref a => .ref (ρ a)
  | .tup vs => .tup (renL ρ vs)
  | .slist vs => .slist (renL ρ vs)
noncomputable def renL (ρ : Nat → Nat) : List V → List V
  | [] => []
  | v :: vs => ren ρ v :: renL ρ vs
end
noncomputable def renM {α : Type} (ρ : Nat → Nat) : List (α × V) → List (α × V)
  | [] => []
  | (x, v) :: r => (x, ren ρ v) :: renM ρ r
noncomputable def renO (ρ : Nat → Nat) : O → O
  | .inst c fs => .inst c (renM ρ fs)
  | .list vs => .list (renL ρ vs)
  | .dict es => .dict (renM ρ es)
section
variable {ρ : Nat → Nat}
theorem renL_len : ∀ {vs : List V}, (renL ρ vs).length = vs.length
  | [] => rfl
  | _ :: vs => congrArg (· + 1) (renL_len (vs := vs))
theorem renL_app : ∀ {vs ws : List V}, renL ρ (vs ++ ws) = renL ρ vs ++ renL ρ ws
  | [], _ => rfl
  | v :: vs, _ => congrArg (ren ρ v :: ·) (renL_app (vs := vs))
theorem renL_get : ∀ {vs : List V} {k : Nat}, (renL ρ vs)[k]? = (vs[k]?).map (ren ρ)
  | [], _ => rfl
  | _ :: _, 0 => rfl
  | _ :: vs, k + 1 => by simp only [renL, List.getElem?_cons_succ]; exact renL_get
theorem renL_take : ∀ {vs : List V} {k : Nat}, (renL ρ vs).take k = renL ρ (vs.take k)
  | [], k => by cases k <;> rfl
  | _ :: _, 0 => rfl
  | v :: vs, k + 1 => congrArg (ren ρ v :: ·) (renL_take (vs := vs))
theorem renL_set {w : V} : ∀ {vs : List V} {k : Nat}, (renL ρ vs).set k (ren ρ w) = renL ρ (vs.set k w)
  | [], k => by cases k <;> rfl
  | _ :: _, 0 => rfl
  | v :: vs, k + 1 => congrArg (ren ρ v :: ·) (renL_set (vs := vs))
theorem renL_map : ∀ {vs : List V}, renL ρ vs = vs.map (ren ρ)
  | [] => rfl
  | v :: vs => congrArg (ren ρ v :: ·) (renL_map (vs := vs))
theorem renL_rev {vs : List V} : renL ρ vs.reverse = (renL ρ vs).reverse := by rw [renL_map, renL_map, List.map_reverse]
theorem renL_rep {v : V} {n : Nat} : renL ρ (List.replicate n v) = List.replicate n (ren ρ v) := by rw [renL_map, List.map_replicate]
theorem renM_len {α : Type} : ∀ {m : List (α × V)}, (renM ρ m).length = m.length
  | [] => rfl
  | _ :: m => congrArg (· + 1) (renM_len (m := m))
theorem renM_app {α : Type} : ∀ {m n : List (α × V)}, renM ρ (m ++ n) = renM ρ m ++ renM ρ n
  | [], _ => rfl
  | (x, v) :: m, _ => congrArg ((x, ren ρ v) :: ·) (renM_app (m := m))
theorem look_ren {x : Nat} : ∀ {m : List (Nat × V)}, look x (renM ρ m) = (look x m).map (ren ρ)
  | [] => rfl
  | (y, v) :: m => by
    simp only [renM, look]
    by_cases h : x = y
    · simp only [h, if_true]; rfl
    · simp only [h, if_false]; exact look_ren
theorem lookI_ren {x : Int} : ∀ {m : List (Int × V)}, lookI x (renM ρ m) = (lookI x m).map (ren ρ)
  | [] => rfl
  | (y, v) :: m => by
    simp only [renM, lookI]
    by_cases h : x = y
    · simp only [h, if_true]; rfl
    · simp only [h, if_false]; exact lookI_ren
theorem put_ren {x : Nat} {w : V} : ∀ {m : List (Nat × V)}, put x (ren ρ w) (renM ρ m) = renM ρ (put x w m)
  | [] => rfl
  | (y, v) :: m => by
    simp only [renM, put]
    by_cases h : x = y
    · simp only [h, if_true]; rfl
    · simp only [h, if_false, renM, put_ren]
theorem zip_ren : ∀ {xs : List Nat} {vs : List V}, xs.zip (renL ρ vs) = renM ρ (xs.zip vs)
  | [], _ => rfl
  | _ :: _, [] => rfl
  | x :: xs, v :: vs => congrArg ((x, ren ρ v) :: ·) (zip_ren (xs := xs))
theorem atom_ren : ∀ {v : V}, v.atom = true → ren ρ v = v
  | .none, _ => rfl
  | .bool _, _ => rfl
  | .int _, _ => rfl
  | .str _, _ => rfl
theorem atoms_ren : ∀ {vs : List V}, vs.all V.atom = true → renL ρ vs = vs
  | [], _ => rfl
  | v :: vs, h => by
    rw [List.all_cons, Bool.and_eq_true] at h
    show ren ρ v :: renL ρ vs = _
    rw [atom_ren h.1, atoms_ren h.2]
theorem flat_ren {v : V} (h : v.flat = true) : ren ρ v = v := by
  cases v with
  | tup vs => exact congrArg V.tup (atoms_ren h)
  | _ => first | rfl | cases h
theorem ints_ren : ∀ {vs : List V}, vs.all isIntV = true → renL ρ vs = vs
  | [], _ => rfl
  | v :: vs, h => by
    rw [List.all_cons, Bool.and_eq_true] at h
    show ren ρ v :: renL ρ vs = _
    rw [ints_ren h.2]
    cases v <;> first | rfl | cases h.1
structure RH (ρ : Nat → Nat) (N : Nat) (h st : St) : Prop where
  len : st.length = h.length
  low : N ≤ h.length
  get : ∀ i, st[ρ i]? = (h[i]?).map (renO ρ)
structure RR (ρ : Nat → Nat) (N : Nat) : Prop where
  inj : ∀ i j, ρ i = ρ j → i = j
  fix : ∀ i, N ≤ i → ρ i = i
variable {N : Nat} {h st : St}
theorem RH.at (R : RH ρ N h st) {i : Nat} {o : O} (e : h[i]? = some o) : st[ρ i]? = some (renO ρ o) := by rw [R.get, e]; rfl
theorem RH.list (R : RH ρ N h st) {i : Nat} {vs : List V} (e : h[i]? = some (.list vs)) : st[ρ i]? = some (.list (renL ρ vs)) := R.at e
theorem RH.inst (R : RH ρ N h st) {i c : Nat} {fs : List (Nat × V)} (e : h[i]? = some (.inst c fs)) : st[ρ i]? = some (.inst c (renM ρ fs)) := R.at e
theorem RH.dict (R : RH ρ N h st) {i : Nat} {es : List (Int × V)} (e : h[i]? = some (.dict es)) : st[ρ i]? = some (.dict (renM ρ es)) := R.at e
theorem RH.set (P : RR ρ N) (R : RH ρ N h st) (i : Nat) (o : O) : RH ρ N (h.set i o) (st.set (ρ i) (renO ρ o)) := by
  refine ⟨by rw [List.length_set, List.length_set, R.len], by rw [List.length_set]; exact R.low, fun j => ?_⟩
  have hl : (ρ i < st.length) ↔ i < h.length := by
    constructor
    · intro q
      have := R.get i
      rw [List.getElem?_eq_getElem q] at this
      cases e : h[i]? with
      | none => rw [e] at this; cases this
      | some x => exact (List.getElem?_eq_some_iff.mp e).1
    · intro q
      have := R.get i
      rw [List.getElem?_eq_getElem q] at this
      exact (List.getElem?_eq_some_iff.mp this).1
  rw [List.getElem?_set, List.getElem?_set]
  by_cases q : i = j
  · subst q
    simp only [if_true]
    by_cases z : i < h.length
    · rw [if_pos z, if_pos (hl.mpr z)]; rfl
    · rw [if_neg z, if_neg (fun y => z (hl.mp y))]; rfl
  · rw [if_neg q, if_neg (fun y => q (P.inj _ _ y))]; exact R.get j
theorem RH.push (P : RR ρ N) (R : RH ρ N h st) (o : O) : RH ρ N (h ++ [o]) (st ++ [renO ρ o]) := by
  refine ⟨by rw [List.length_append, List.length_append, R.len]; rfl, by rw [List.length_append]; exact Nat.le_add_right_of_le R.low, fun j => ?_⟩
  by_cases q : j < h.length
  · rw [List.getElem?_append_left q]
    have := R.get j
    rw [List.getElem?_eq_getElem q] at this ⊢
    rw [List.getElem?_append_left (List.getElem?_eq_some_iff.mp this).1, this]
  · have q' : h.length ≤ j := Nat.le_of_not_lt q
    rw [P.fix j (Nat.le_trans R.low q'), List.getElem?_append_right q', List.getElem?_append_right (by rw [R.len]; exact q'), R.len]
    cases j - h.length with
    | zero => rfl
    | succ k => simp
theorem RH.top (P : RR ρ N) (R : RH ρ N h st) : ρ h.length = st.length := by rw [P.fix _ R.low, R.len]
end
noncomputable def Rl {γ : Type} (Q : γ → γ → Prop) (r r' : Option γ) : Prop := ∀ y, r = some y → ∃ y', r' = some y' ∧ Q y y'
noncomputable def Qf {α : Type} (f : α → α) (a b : α) : Prop := b = f a
noncomputable def Q2 {α : Type} (ρ : Nat → Nat) (N : Nat) (f : α → α) (a b : α × St) : Prop := b.1 = f a.1 ∧ RH ρ N a.2 b.2
noncomputable def Q3 {α β : Type} (ρ : Nat → Nat) (N : Nat) (f : α → α) (g : β → β) (a b : α × β × St) : Prop := b.1 = f a.1 ∧ b.2.1 = g a.2.1 ∧ RH ρ N a.2.2 b.2.2
section
variable {ρ : Nat → Nat} {N : Nat} {h st : St} {α β γ : Type} {Q : γ → γ → Prop}
theorem Rl.no {r' : Option γ} : Rl Q none r' := fun _ e => nomatch e
theorem Rl.of {y y' : γ} (q : Q y y') : Rl Q (some y) (some y') := fun _ e => Option.some.inj e ▸ ⟨y', rfl, q⟩
theorem Rl.v2 {f : α → α} {a : α} (R : RH ρ N h st) : Rl (Q2 ρ N f) (some (a, h)) (some (f a, st)) := Rl.of ⟨rfl, R⟩
theorem Rl.v3 {f : α → α} {g : β → β} {a : α} {b : β} (R : RH ρ N h st) : Rl (Q3 ρ N f g) (some (a, b, h)) (some (f a, g b, st)) := Rl.of ⟨rfl, rfl, R⟩
theorem Rl.bd {f : α → α} {x x' : Option (α × St)} {k k' : α → St → Option γ} (hx : Rl (Q2 ρ N f) x x') (hk : ∀ v h st, RH ρ N h st → Rl Q (k v h) (k' (f v) st)) : Rl Q (Mine.bd x k) (Mine.bd x' k') := by
  cases x with
  | none => exact Rl.no
  | some p => obtain ⟨⟨_, _⟩, rfl, rfl, R⟩ := hx p rfl; exact hk _ _ _ R
theorem Rl.b3 {f : α → α} {g : β → β} {x x' : Option (α × β × St)} {k k' : α → β → St → Option γ} (hx : Rl (Q3 ρ N f g) x x') (hk : ∀ a b h st, RH ρ N h st → Rl Q (k a b h) (k' (f a) (g b) st)) : Rl Q (Mine.b3 x k) (Mine.b3 x' k') := by
  cases x with
  | none => exact Rl.no
  | some p => obtain ⟨⟨_, _, _⟩, rfl, rfl, rfl, R⟩ := hx p rfl; exact hk _ _ _ _ R
theorem Rl.ob {f : α → α} {x x' : Option α} {k k' : α → Option γ} (hx : Rl (Qf f) x x') (hk : ∀ v, Rl Q (k v) (k' (f v))) : Rl Q (Mine.ob x k) (Mine.ob x' k') := by
  cases x with
  | none => exact Rl.no
  | some p => obtain ⟨y, e, q⟩ := hx p rfl; rw [e, q]; exact hk p
theorem Rl.obs {x : Option α} {k k' : α → Option γ} (hk : ∀ v, x = some v → Rl Q (k v) (k' v)) : Rl Q (Mine.ob x k) (Mine.ob x k') :=
  match x, hk with
  | none, _ => Rl.no
  | some v, hk => hk v rfl
theorem Rl.get (R : RH ρ N h st) {a : Nat} {k k' : O → Option γ} (hk : ∀ o, Rl Q (k o) (k' (renO ρ o))) : Rl Q (Mine.ob h[a]? k) (Mine.ob st[ρ a]? k') :=
  Rl.ob (f := renO ρ) (fun o e => ⟨renO ρ o, R.at e, rfl⟩) hk
theorem Rl.li {o : O} {k k' : List V → Option γ} (hk : ∀ vs, Rl Q (k vs) (k' (renL ρ vs))) : Rl Q (onLi o k) (onLi (renO ρ o) k') := match o with
  | .list vs => hk vs
  | .inst _ _ | .dict _ => Rl.no
theorem Rl.inn {o : O} {k k' : Nat → List (Nat × V) → Option γ} (hk : ∀ c fs, Rl Q (k c fs) (k' c (renM ρ fs))) : Rl Q (onIn o k) (onIn (renO ρ o) k') := match o with
  | .inst c fs => hk c fs
  | .list _ | .dict _ => Rl.no
theorem Rl.atL (R : RH ρ N h st) {a : Nat} {k k' : List V → Option γ} (hk : ∀ vs, Rl Q (k vs) (k' (renL ρ vs))) : Rl Q (Mine.atL h a k) (Mine.atL st (ρ a) k') := Rl.get R fun _ => Rl.li hk
theorem Rl.atI (R : RH ρ N h st) {a : Nat} {k k' : Nat → List (Nat × V) → Option γ} (hk : ∀ c fs, Rl Q (k c fs) (k' c (renM ρ fs))) : Rl Q (Mine.atI h a k) (Mine.atI st (ρ a) k') := Rl.get R fun _ => Rl.inn hk
theorem Rl.onI {v : V} {k k' : Int → Option γ} (hk : ∀ i, Rl Q (k i) (k' i)) : Rl Q (onI v k) (onI (ren ρ v) k') := by cases v <;> first | exact hk _ | exact Rl.no
theorem Rl.onB {v : V} {k k' : Bool → Option γ} (hk : ∀ i, Rl Q (k i) (k' i)) : Rl Q (onB v k) (onB (ren ρ v) k') := by cases v <;> first | exact hk _ | exact Rl.no
theorem Rl.onS {v : V} {k k' : Nat → Option γ} (hk : ∀ i, Rl Q (k i) (k' i)) : Rl Q (onS v k) (onS (ren ρ v) k') := by cases v <;> first | exact hk _ | exact Rl.no
theorem Rl.onR {v : V} {k k' : Nat → Option γ} (hk : ∀ i, Rl Q (k i) (k' (ρ i))) : Rl Q (onR v k) (onR (ren ρ v) k') := by cases v <;> first | exact hk _ | exact Rl.no
theorem Rl.onT {v : V} {k k' : List V → Option γ} (hk : ∀ i, Rl Q (k i) (k' (renL ρ i))) : Rl Q (onT v k) (onT (ren ρ v) k') := by cases v <;> first | exact hk _ | exact Rl.no
theorem Rl.onN {v : V} {k k' : Option γ} (hk : Rl Q k k') : Rl Q (onN v k) (onN (ren ρ v) k') := by cases v <;> first | exact hk | exact Rl.no
theorem Rl.onZ {x : Option V} {k k' : Option γ} (hk : Rl Q k k') : Rl Q (onZ x k) (onZ (x.map (ren ρ)) k') := by cases x <;> first | exact hk | exact Rl.no
theorem Rl.onZs {x : Option α} {k k' : Option γ} (hk : Rl Q k k') : Rl Q (Mine.onZ x k) (Mine.onZ x k') := by cases x <;> first | exact hk | exact Rl.no
theorem Rl.orO {x : Option V} {f f' : V → Option γ} {g g' : Option γ} (hf : ∀ v, Rl Q (f v) (f' (ren ρ v))) (hg : Rl Q g g') : Rl Q (orO x f g) (orO (x.map (ren ρ)) f' g') := by cases x <;> first | exact hf _ | exact hg
theorem Rl.cd {t : Bool} {a a' b b' : Option γ} (ha : Rl Q a a') (hb : Rl Q b b') : Rl Q (cond t a b) (cond t a' b') := by cases t <;> assumption
theorem Rl.if {c c' : Prop} [Decidable c] [Decidable c'] {r r' : Option γ} (hc : c → c') (k : c → Rl Q r r') : Rl Q (if c then r else none) (if c' then r' else none) := by
  by_cases q : c
  · rw [if_pos q, if_pos (hc q)]; exact k q
  · rw [if_neg q]; exact Rl.no
theorem Rl.len {vs : List V} {n : Nat} {r r' : Option γ} (k : Rl Q r r') : Rl Q (if vs.length ≤ n then r else none) (if (renL ρ vs).length ≤ n then r' else none) := Rl.if (fun h => renL_len.symm ▸ h) fun _ => k
theorem Rl.new (P : RR ρ N) (R : RH ρ N h st) (o : O) : Rl (Q2 ρ N (ren ρ)) (some (.ref h.length, h ++ [o])) (some (.ref st.length, st ++ [renO ρ o])) := Rl.of ⟨congrArg V.ref (R.top P).symm, R.push P o⟩
theorem Rl.eq {f : α → α} {x x' : Option α} (e : x' = x.map f) : Rl (Qf f) x x' := fun y h => ⟨f y, by rw [e, h]; rfl, rfl⟩
theorem look_rl {m : Lo} {x : Nat} : Rl (Qf (ren ρ)) (look x m) (look x (renM ρ m)) := Rl.eq look_ren
theorem bindT_rl : ∀ {xs : List Nat} {vs : List V} {m : Lo}, Rl (Qf (renM ρ)) (bindT xs vs m) (bindT xs (renL ρ vs) (renM ρ m))
  | [], [], _ => Rl.of rfl
  | _ :: _, [], _ | [], _ :: _, _ => Rl.no
  | x :: xs, v :: vs, m => by
    show Rl _ (bindT xs vs (put x v m)) (bindT xs (renL ρ vs) (put x (ren ρ v) (renM ρ m)))
    rw [put_ren]; exact bindT_rl
theorem eqV_rl {a b : V} : Rl (Qf id) (eqV a b) (eqV (ren ρ a) (ren ρ b)) := by
  unfold eqV
  by_cases q : (a.flat && b.flat) = true
  · rw [flat_ren (b1 q), flat_ren (b2 q), if_pos q]; exact Rl.of rfl
  · rw [if_neg q]; exact Rl.no
theorem ltVs_rl : ∀ {as bs : List V}, Rl (Qf id) (ltVs as bs) (ltVs (renL ρ as) (renL ρ bs))
  | [], [] => Rl.of rfl
  | [], _ :: _ | _ :: _, [] => Rl.no
  | a :: as, b :: bs => by
    simp only [ltVs, renL, renL_len]
    refine Rl.onI fun i => Rl.onI fun j => ?_
    by_cases q : i = j
    · rw [if_pos q, if_pos q]; exact ltVs_rl
    · rw [if_neg q, if_neg q]; exact Rl.if id fun _ => Rl.of rfl
theorem isV_rl (inj : ∀ i j, ρ i = ρ j → i = j) {a b : V} : Rl (Qf id) (isV a b) (isV (ren ρ a) (ren ρ b)) := by
  cases a
  case ref x =>
    cases b
    case ref y =>
      refine Rl.of ?_
      by_cases q : x = y
      · rw [q]; exact (decide_eq_true rfl).trans (decide_eq_true rfl).symm
      · exact (decide_eq_false fun e => q (inj _ _ e)).trans (decide_eq_false q).symm
    all_goals first | exact Rl.of rfl | exact Rl.no
  all_goals (cases b <;> first | exact Rl.of rfl | exact Rl.no)
theorem cmpV_rl (inj : ∀ i j, ρ i = ρ j → i = j) {op : Cop} {a b : V} : Rl (Qf id) (cmpV op a b) (cmpV op (ren ρ a) (ren ρ b)) := match op with
  | .eq => eqV_rl
  | .ne => Rl.ob eqV_rl fun _ => Rl.of rfl
  | .is => isV_rl inj
  | .isn => Rl.ob (isV_rl inj) fun _ => Rl.of rfl
  | .lt | .le | .ge => Rl.onI fun _ => Rl.onI fun _ => Rl.of rfl
  | .gt => match a with
    | .int _ => Rl.onI fun _ => Rl.of rfl
    | .tup _ => Rl.onT fun _ => ltVs_rl
    | .none | .bool _ | .str _ | .ref _ | .slist _ => Rl.no
theorem isiV_ren {t : Ty} {v : V} : isiV t (ren ρ v) = isiV t v := by cases v <;> rfl
theorem intsOf_rl : ∀ {vs : List V}, Rl (Qf id) (intsOf vs) (intsOf (renL ρ vs))
  | [] => Rl.of rfl
  | _ :: _ => Rl.onI fun _ => Rl.ob intsOf_rl fun _ => Rl.of rfl
end
end Mine
end
section
namespace Mine
section
variable {ρ : Nat → Nat} {N : Nat} {h st : St}
theorem listV_rl (R : RH ρ N h st) {o : V} : Rl (Qf (renL ρ)) (listV h o) (listV st (ren ρ o)) := Rl.onR fun _ => Rl.atL R fun _ => Rl.len (Rl.of rfl)
theorem attrV_rl (R : RH ρ N h st) {o : V} {f : Nat} : Rl (Qf (ren ρ)) (attrV h o f) (attrV st (ren ρ o) f) := Rl.onR fun _ => Rl.atI R fun _ _ => look_rl
theorem lenV_rl (R : RH ρ N h st) {o : V} : Rl (Qf id) (lenV h o) (lenV st (ren ρ o)) := match o with
  | .tup vs => by show Rl _ (if _ then _ else _) (if (renL ρ vs).length < _ then some ((renL ρ vs).length : Int) else _); rw [renL_len]; exact Rl.if id fun _ => Rl.of rfl
  | .ref _ => Rl.atL R fun vs => by rw [renL_len]; exact Rl.if id fun _ => Rl.of rfl
  | .none | .bool _ | .str _ | .int _ | .slist _ => Rl.no
theorem get_rl {vs : List V} {k : Nat} : Rl (Qf (ren ρ)) vs[k]? (renL ρ vs)[k]? := Rl.eq renL_get
theorem idxV_rl (R : RH ρ N h st) {o k : V} : Rl (Qf (ren ρ)) (idxV h o k) (idxV st (ren ρ o) (ren ρ k)) := Rl.onI fun _ => match o with
  | .tup _ => Rl.if id fun _ => get_rl
  | .ref _ => Rl.get R fun o => match o with
    | .list _ => Rl.if id fun _ => get_rl
    | .dict _ => Rl.eq lookI_ren
    | .inst _ _ => Rl.no
  | .none | .bool _ | .str _ | .int _ | .slist _ => Rl.no
theorem itemsV_rl (R : RH ρ N h st) {o : V} : Rl (fun a b => b.1 = renL ρ a.1 ∧ b.2 = a.2.map ρ) (itemsV h o) (itemsV st (ren ρ o)) := match o with
  | .tup _ => Rl.of ⟨rfl, rfl⟩
  | .ref _ => Rl.atL R fun _ => Rl.of ⟨rfl, rfl⟩
  | .none | .bool _ | .str _ | .int _ | .slist _ => Rl.no
theorem stays_ren (R : RH ρ N h st) {a : Option Nat} {vs : List V} (e : stays h a vs = true) : stays st (a.map ρ) (renL ρ vs) = true := by
  cases a with
  | none => rfl
  | some a =>
    unfold stays at e ⊢
    dsimp only [Option.map_some] at e ⊢
    cases q : h[a]? with
    | none => rw [q] at e; exact ff e
    | some x =>
      rw [q] at e; rw [R.at q]
      cases x with
      | list ws => exact V.sames_eq e ▸ V.sames_refl _
      | _ => exact ff e
variable (P : RR ρ N)
include P
omit P in
theorem Rl.vh {v : V} {v' : V} (e : v' = ren ρ v) (R : RH ρ N h st) : Rl (Q2 ρ N (ren ρ)) (some (v, h)) (some (v', st)) := Rl.of ⟨e, R⟩
theorem addV_rl (R : RH ρ N h st) {a b : V} : Rl (Q2 ρ N (ren ρ)) (addV a b h) (addV (ren ρ a) (ren ρ b) st) := match a with
  | .int _ => Rl.onI fun _ => Rl.vh rfl R
  | .tup xs => Rl.onT fun ys => by rw [renL_len, renL_len, ← renL_app]; exact Rl.if id fun _ => Rl.vh rfl R
  | .ref _ => Rl.onR fun _ => Rl.atL R fun xs => Rl.atL R fun ys => by rw [renL_len, renL_len, ← renL_app]; exact Rl.if id fun _ => Rl.new P R (.list _)
  | .none | .bool _ | .str _ | .slist _ => Rl.no
theorem mulV_rl (R : RH ρ N h st) {a b : V} : Rl (Q2 ρ N (ren ρ)) (mulV a b h) (mulV (ren ρ a) (ren ρ b) st) := match a with
  | .int _ => Rl.onI fun _ => Rl.if id fun _ => Rl.vh rfl R
  | .ref _ => Rl.onI fun _ => Rl.atL R fun vs => match vs with
    | [] => Rl.no
    | [w] => Rl.if id fun _ => by rw [← renL_rep]; exact Rl.new P R (.list _)
    | _ :: _ :: _ => Rl.no
  | .none | .bool _ | .str _ | .slist _ | .tup _ => Rl.no
theorem binV_rl (R : RH ρ N h st) {op : Bop} {a b : V} : Rl (Q2 ρ N (ren ρ)) (binV op a b h) (binV op (ren ρ a) (ren ρ b) st) := match op with
  | .add => addV_rl P R
  | .mul => mulV_rl P R
  | .sub => Rl.onI fun _ => Rl.onI fun _ => Rl.vh rfl R
  | .fdiv | .fmod => Rl.onI fun _ => Rl.onI fun _ => Rl.if id fun _ => Rl.vh rfl R
theorem uptoV_rl (R : RH ρ N h st) {a b : V} : Rl (Q2 ρ N (ren ρ)) (uptoV h a b) (uptoV st (ren ρ a) (ren ρ b)) := Rl.onI fun i => match a with
  | .tup vs => by
    show Rl _ (if _ then _ else _) (if 0 ≤ i ∧ i.toNat < (renL ρ vs).length ∧ (renL ρ vs).length ≤ 4096 then some (V.tup ((renL ρ vs).take i.toNat), st) else _)
    rw [renL_len, renL_take]; exact Rl.if id fun _ => Rl.vh rfl R
  | .slist vs => by
    show Rl _ (if _ then _ else _) (if 0 ≤ i ∧ (renL ρ vs).length ≤ 4096 then some (V.ref st.length, st ++ [O.list ((renL ρ vs).take i.toNat)]) else _)
    rw [renL_len, renL_take]; exact Rl.if id fun _ => Rl.new P R (.list _)
  | .none | .bool _ | .str _ | .int _ | .ref _ => Rl.no
theorem setAttrV_rl (R : RH ρ N h st) {o v : V} {f : Nat} : Rl (RH ρ N) (setAttrV clss h o f v) (setAttrV clss st (ren ρ o) f (ren ρ v)) := Rl.onR fun a => Rl.atI R fun c fs => Rl.obs fun cl _ => Rl.onZs (by
  rw [renM_len, put_ren]; exact Rl.if id fun _ => Rl.of (R.set P a (.inst c _)))
theorem setIdxV_rl (R : RH ρ N h st) {o i v : V} : Rl (RH ρ N) (setIdxV h o i v) (setIdxV st (ren ρ o) (ren ρ i) (ren ρ v)) := Rl.onR fun a => Rl.onI fun k => Rl.get R fun x => match x with
  | .list vs => by
    show Rl _ (if _ then _ else _) (if 0 ≤ k ∧ k < 4294967296 ∧ k.toNat < (renL ρ vs).length then some (st.set (ρ a) (.list ((renL ρ vs).set k.toNat (ren ρ v)))) else _)
    rw [renL_len, renL_set]; exact Rl.if id fun _ => Rl.of (R.set P a (.list _))
  | .dict es => by
    show Rl _ (onZ _ _) (onZ (lookI k (renM ρ es)) (if (renM ρ es).length ≤ 64 then some (st.set (ρ a) (.dict (renM ρ es ++ renM ρ [(k, v)]))) else _))
    rw [lookI_ren, renM_len, ← renM_app]; exact Rl.onZ (Rl.if id fun _ => Rl.of (R.set P a (.dict _)))
  | .inst _ _ => Rl.no
theorem appV_rl (R : RH ρ N h st) {o v : V} : Rl (RH ρ N) (appV h o v) (appV st (ren ρ o) (ren ρ v)) := Rl.onR fun a => Rl.atL R fun vs => by
  rw [renL_len, show [ren ρ v] = renL ρ [v] from rfl, ← renL_app]; exact Rl.if id fun _ => Rl.of (R.set P a (.list _))
theorem extV_rl (R : RH ρ N h st) {o v : V} : Rl (RH ρ N) (extV h o v) (extV st (ren ρ o) (ren ρ v)) := Rl.onR fun a => Rl.onR fun b => Rl.atL R fun vs => Rl.atL R fun ws => by
  rw [renL_len, renL_len, ← renL_app]; exact Rl.if (fun l => ⟨fun z => l.1 (P.inj _ _ z), l.2⟩) fun _ => Rl.of (R.set P a (.list _))
theorem popV_rl (R : RH ρ N h st) {o : V} : Rl (Q2 ρ N (ren ρ)) (popV h o) (popV st (ren ρ o)) := Rl.onR fun a => Rl.atL R fun vs => by
  rw [renL_len, show (renL ρ vs).dropLast = renL ρ vs.dropLast by rw [renL_map, renL_map, List.map_dropLast], show (renL ρ vs).getLast? = vs.getLast?.map (ren ρ) by rw [renL_map, List.getLast?_map]]; exact Rl.ob (Rl.eq rfl) fun w => Rl.if id fun _ => Rl.vh rfl (R.set P a (.list _))
end
end Mine
end
section
namespace Mine
section
variable (ρ : Nat → Nat) (N : Nat) (d : Nat)
noncomputable abbrev Sv (r r' : Option (V × St)) : Prop := Rl (Q2 ρ N (ren ρ)) r r'
noncomputable abbrev Sr (r r' : RunR) : Prop := Rl (Q3 ρ N (Option.map (ren ρ)) (renM ρ)) r r'
noncomputable def SE (e : Ex) : Prop := ∀ m h st, RH ρ N h st → Sv ρ N (evE clss nidxTab (C d) e m h) (evE clss nidxTab (C d) e (renM ρ m) st)
noncomputable def SEs (es : Exs) : Prop := ∀ m h st, RH ρ N h st → Rl (Q2 ρ N (renL ρ)) (evEs clss nidxTab (C d) es m h) (evEs clss nidxTab (C d) es (renM ρ m) st) ∧
  Sv ρ N (evAnd clss nidxTab (C d) es m h) (evAnd clss nidxTab (C d) es (renM ρ m) st) ∧
  Sv ρ N (evOr clss nidxTab (C d) es m h) (evOr clss nidxTab (C d) es (renM ρ m) st)
noncomputable def SI (i : It) : Prop := ∀ m h st, RH ρ N h st → Rl (Q3 ρ N (renL ρ) (Option.map ρ)) (evIt clss nidxTab (C d) i m h) (evIt clss nidxTab (C d) i (renM ρ m) st)
noncomputable def SC : Prop := ∀ f args h st, RH ρ N h st → Sv ρ N (C d f args h) (C d f (renL ρ args) st)
noncomputable def SS (s : S) : Prop := ∀ m h st, RH ρ N h st → Sr ρ N (exS clss nidxTab (C d) s m h) (exS clss nidxTab (C d) s (renM ρ m) st)
noncomputable def SSs (s : Ss) : Prop := ∀ m h st, RH ρ N h st → Sr ρ N (exSs clss nidxTab (C d) s m h) (exSs clss nidxTab (C d) s (renM ρ m) st)
end
section
variable {ρ : Nat → Nat} {N : Nat} {d : Nat} {h st : St}
theorem Rl.r3 {ov : Option V} {m : Lo} (R : RH ρ N h st) : Sr ρ N (some (ov, m, h)) (some (ov.map (ren ρ), renM ρ m, st)) := Rl.of ⟨rfl, rfl, R⟩
theorem Rl.go {ov : Option V} {m : Lo} {g g' : RunR} (R : RH ρ N h st) (k : Sr ρ N g g') : Sr ρ N (Mine.orO ov (fun w => some (some w, m, h)) g) (Mine.orO (ov.map (ren ρ)) (fun w => some (some w, renM ρ m, st)) g') := Rl.orO (fun _ => Rl.r3 R) k
theorem Rl.put {m : Lo} {x : Nat} {v : V} (R : RH ρ N h st) : Sr ρ N (some (.none, Mine.put x v m, h)) (some (.none, Mine.put x (ren ρ v) (renM ρ m), st)) := Rl.of ⟨rfl, put_ren, R⟩
theorem Rl.oh {γ : Type} {Q : γ → γ → Prop} {x x' : Option St} {k k' : St → Option γ} (hx : Rl (RH ρ N) x x') (hk : ∀ h st, RH ρ N h st → Rl Q (k h) (k' st)) : Rl Q (Mine.ob x k) (Mine.ob x' k') := by
  cases x with
  | none => exact Rl.no
  | some p => obtain ⟨y, rfl, R⟩ := hx p rfl; exact hk _ _ R
theorem Rl.it (R : RH ρ N h st) {x x' : Option (List V × Option Nat)} (hx : Rl (fun a b => b.1 = renL ρ a.1 ∧ b.2 = a.2.map ρ) x x') :
    Rl (Q3 ρ N (renL ρ) (Option.map ρ)) (Mine.bd x fun vs a => some (vs, a, h)) (Mine.bd x' fun vs a => some (vs, a, st)) := by
  cases x with
  | none => exact Rl.no
  | some p => obtain ⟨⟨_, _⟩, rfl, rfl, rfl⟩ := hx p rfl; exact Rl.v3 R
theorem loopW_rl {test : Lo → St → Option (V × St)} {body : Lo → St → RunR} (ht : ∀ m h st, RH ρ N h st → Sv ρ N (test m h) (test (renM ρ m) st)) (hb : ∀ m h st, RH ρ N h st → Sr ρ N (body m h) (body (renM ρ m) st)) :
    ∀ {k : Nat} {m : Lo} {h st : St}, RH ρ N h st → Sr ρ N (loopW test body k m h) (loopW test body k (renM ρ m) st)
  | 0, _, _, _, _ => Rl.no
  | _ + 1, _, _, _, R => Rl.bd (ht _ _ _ R) fun _ _ _ R => Rl.onB fun _ => Rl.cd (Rl.b3 (hb _ _ _ R) fun _ _ _ _ R => Rl.go R (loopW_rl ht hb R)) (Rl.r3 R)
theorem loopF_rl {a : Option Nat} {all : List V} {bnd : V → Lo → Option Lo} {body : Lo → St → RunR} (hn : ∀ v m, Rl (Qf (renM ρ)) (bnd v m) (bnd (ren ρ v) (renM ρ m))) (hb : ∀ m h st, RH ρ N h st → Sr ρ N (body m h) (body (renM ρ m) st)) :
    ∀ {vs : List V} {m : Lo} {h st : St}, RH ρ N h st → Sr ρ N (loopF a all bnd body vs m h) (loopF (a.map ρ) (renL ρ all) bnd body (renL ρ vs) (renM ρ m) st)
  | [], _, _, _, R => Rl.r3 R
  | _ :: _, _, _, _, R => Rl.ob (hn _ _) fun _ => Rl.b3 (hb _ _ _ R) fun _ _ _ _ R => Rl.go R (Rl.if (stays_ren R) fun _ => loopF_rl hn hb R)
theorem loopC_rl {a : Option Nat} {all : List V} {x : Nat} {elt cnd : Lo → St → Option (V × St)} (he : ∀ m h st, RH ρ N h st → Sv ρ N (elt m h) (elt (renM ρ m) st)) (hc : ∀ m h st, RH ρ N h st → Sv ρ N (cnd m h) (cnd (renM ρ m) st)) :
    ∀ {vs : List V} {m : Lo} {h st : St}, RH ρ N h st → Rl (Q2 ρ N (renL ρ)) (loopC a all x elt cnd vs m h) (loopC (a.map ρ) (renL ρ all) x elt cnd (renL ρ vs) (renM ρ m) st)
  | [], _, _, _, R => Rl.v2 R
  | v :: vs, m, h, st, R => by
    show Rl _ (bd (cnd (put x v m) h) _) (bd (cnd (put x (ren ρ v) (renM ρ m)) st) _)
    rw [put_ren]
    exact Rl.bd (hc _ _ _ R) fun _ _ _ R => Rl.onB fun _ => Rl.cd (Rl.bd (he _ _ _ R) fun _ _ _ R => Rl.if (stays_ren R) fun _ => Rl.bd (loopC_rl he hc R) fun _ _ _ R => Rl.v2 R) (Rl.if (stays_ren R) fun _ => loopC_rl he hc R)
theorem keysOf_rl (SC' : SC ρ N d) {f a : Nat} {self : V} {all : List V} : ∀ {vs : List V} {h st : St}, RH ρ N h st → Rl (Q2 ρ N (List.map (renL ρ))) (keysOf (C d) f self a all vs h) (keysOf (C d) f (ren ρ self) (ρ a) (renL ρ all) (renL ρ vs) st)
  | [], _, _, R => Rl.v2 R
  | _ :: _, _, _, R => Rl.bd (SC' _ [self, _] _ _ R) fun _ _ _ R => Rl.onT fun _ => Rl.if (stays_ren (a := some a) R) fun _ => Rl.bd (keysOf_rl SC' R) fun _ _ _ R => Rl.v2 R
theorem okKeys_ren : ∀ {ks : List (List V)}, okKeys ks = true → ks.map (renL ρ) = ks
  | [], _ => rfl
  | k :: ks, e => by
    show renL ρ k :: _ = _
    rw [ints_ren (b1 (b1 (b1 e))), okKeys_ren (b2 e)]
noncomputable def rk (ρ : Nat → Nat) (p : List V × V) : List V × V := (p.1, ren ρ p.2)
theorem insK_rl {k : List V} {v : V} : ∀ {l : List (List V × V)}, Rl (Qf (List.map (rk ρ))) (insK k v l) (insK k (ren ρ v) (l.map (rk ρ)))
  | [] => Rl.of rfl
  | _ :: _ => Rl.obs fun _ _ => Rl.cd (Rl.ob insK_rl fun _ => Rl.of rfl) (Rl.obs fun _ _ => Rl.cd (Rl.of rfl) Rl.no)
theorem sortK_rl : ∀ {l : List (List V × V)}, Rl (Qf (List.map (rk ρ))) (sortK l) (sortK (l.map (rk ρ)))
  | [] => Rl.of rfl
  | _ :: _ => Rl.ob sortK_rl fun _ => insK_rl
theorem zip_snd : ∀ {ks : List (List V)} {vs : List V}, ks.zip (renL ρ vs) = (ks.zip vs).map (rk ρ)
  | [], _ => rfl
  | _ :: _, [] => rfl
  | k :: ks, v :: vs => congrArg ((k, ren ρ v) :: ·) (zip_snd (ks := ks))
theorem srtV_rl (P : RR ρ N) (SC' : SC ρ N d) (R : RH ρ N h st) {n a b : Nat} : Sv ρ N (srtV clss (C d) n a b h) (srtV clss (C d) n (ρ a) (ρ b) st) :=
  Rl.get R fun _ => Rl.inn fun c fs => Rl.get R fun _ => Rl.li fun vs => by
    rw [look_ren]
    refine Rl.onZ (Rl.obs fun cl _ => Rl.obs fun f _ => Rl.len (Rl.bd (keysOf_rl SC' R) fun ks _ _ R => ?_))
    by_cases q : okKeys ks = true
    · rw [okKeys_ren q, if_pos q, if_pos q, zip_snd]
      refine Rl.ob sortK_rl fun out => ?_
      rw [List.map_map, show (List.map ((fun x => x.2) ∘ rk ρ) out) = renL ρ (out.map (·.2)) by rw [renL_map, List.map_map]; rfl]
      exact Rl.new P R (.list _)
    · rw [if_neg q]; exact Rl.no
end
end Mine
end
section
namespace Mine
mutual
noncomputable def pE : Ex → Bool
  | .bad => true
  | .var _ => true
  | .val v => v.atom
  | .dct => true
  | .attr e _ => pE e
  | .bin _ a b => pE a && pE b
  | .neg a => pE a
  | .not a => pE a
  | .cmp _ a b => pE a && pE b
  | .cmp3 _ _ a b c => pE a && (pE b && pE c)
  | .band es => pEs es
  | .bor es => pEs es
  | .ite c a b => pE c && (pE a && pE b)
  | .tup es => pEs es
  | .lst es => pEs es
  | .idx a b => pE a && pE b
  | .upto a b => pE a && pE b
  | .rev a => pE a
  | .call _ es => pEs es
  | .new _ es => pEs es
  | .meth o _ es => pE o && pEs es
  | .lapp o e => pE o && pE e
  | .lpop o => pE o
  | .lext o e => pE o && pE e
  | .nidx e => pE e
  | .len e => pE e
  | .abs e => pE e
  | .min2 a b => pE a && pE b
  | .max2 a b => pE a && pE b
  | .minL e => pE e
  | .maxL e => pE e
  | .isi _ e => pE e
  | .srt e o _ => pE e && pE o
  | .comp e _ it => pE e && pI it
  | .compc e _ it c => pE e && (pI it && pE c)
noncomputable def pEs : Exs → Bool
  | .nil => true
  | .cons e es => pE e && pEs es
noncomputable def pI : It → Bool
  | .seq e => pE e
  | .rng1 e => pE e
  | .rng2 a b => pE a && pE b
end
mutual
noncomputable def pS : S → Bool
  | .bad => true
  | .asg _ e => pE e
  | .asgT _ e => pE e
  | .asgA o _ e => pE o && pE e
  | .asgI o i e => pE o && (pE i && pE e)
  | .ret e => pE e
  | .ret0 => true
  | .ite c a b => pE c && (pSs a && pSs b)
  | .whl c b => pE c && pSs b
  | .for1 _ it b => pI it && pSs b
  | .forT _ it b => pI it && pSs b
  | .exp e => pE e
noncomputable def pSs : Ss → Bool
  | .nil => true
  | .cons s ss => pS s && pSs ss
end
section
variable {ρ : Nat → Nat} {N : Nat} {d : Nat} (P : RR ρ N)
theorem rangeV_ren {a b : Int} : renL ρ (rangeV a b) = rangeV a b := by
  rw [renL_map, rangeV, List.map_map]; rfl
theorem Rl.rng {a b : Int} {h st : St} {c : Prop} [Decidable c] (R : RH ρ N h st) : Rl (Q3 ρ N (renL ρ) (Option.map ρ)) (if c then some (rangeV a b, none, h) else none) (if c then some (rangeV a b, none, st) else none) := Rl.if id fun _ => Rl.of ⟨rangeV_ren.symm, rfl, R⟩
include P
mutual
theorem r_E (SC' : SC ρ N d) : ∀ e : Ex, pE e = true → SE ρ N d e
  | .bad, _ => fun _ _ _ _ => Rl.no
  | .var _, _ => fun _ _ _ R => Rl.ob look_rl fun _ => Rl.v2 R
  | .val v, h => fun _ _ _ R => Rl.vh (atom_ren h).symm R
  | .dct, _ => fun _ _ _ R => Rl.new P R (.dict [])
  | .attr e f, h => fun _ _ _ R => Rl.bd (r_E SC' e h _ _ _ R) fun _ _ _ R => Rl.ob (attrV_rl R) fun _ => Rl.v2 R
  | .bin _ a b, h => fun _ _ _ R => Rl.bd (r_E SC' a (b1 h) _ _ _ R) fun _ _ _ R => Rl.bd (r_E SC' b (b2 h) _ _ _ R) fun _ _ _ R => binV_rl P R
  | .neg a, h => fun _ _ _ R => Rl.bd (r_E SC' a h _ _ _ R) fun _ _ _ R => Rl.onI fun _ => Rl.vh rfl R
  | .not a, h => fun _ _ _ R => Rl.bd (r_E SC' a h _ _ _ R) fun _ _ _ R => Rl.onB fun _ => Rl.vh rfl R
  | .cmp _ a b, h => fun _ _ _ R => Rl.bd (r_E SC' a (b1 h) _ _ _ R) fun _ _ _ R => Rl.bd (r_E SC' b (b2 h) _ _ _ R) fun _ _ _ R => Rl.ob (cmpV_rl P.inj) fun _ => Rl.vh rfl R
  | .cmp3 _ _ a b c, h => fun _ _ _ R => Rl.bd (r_E SC' a (b1 h) _ _ _ R) fun _ _ _ R => Rl.bd (r_E SC' b (b1 (b2 h)) _ _ _ R) fun _ _ _ R => Rl.ob (cmpV_rl P.inj) fun _ =>
    Rl.cd (Rl.bd (r_E SC' c (b2 (b2 h)) _ _ _ R) fun _ _ _ R => Rl.ob (cmpV_rl P.inj) fun _ => Rl.vh rfl R) (Rl.vh rfl R)
  | .band es, h => fun _ _ _ R => (r_Es SC' es h _ _ _ R).2.1
  | .bor es, h => fun _ _ _ R => (r_Es SC' es h _ _ _ R).2.2
  | .ite c a b, h => fun _ _ _ R => Rl.bd (r_E SC' c (b1 h) _ _ _ R) fun _ _ _ R => Rl.onB fun _ => Rl.cd (r_E SC' a (b1 (b2 h)) _ _ _ R) (r_E SC' b (b2 (b2 h)) _ _ _ R)
  | .tup es, h => fun _ _ _ R => Rl.bd (r_Es SC' es h _ _ _ R).1 fun _ _ _ R => Rl.vh rfl R
  | .lst es, h => fun _ _ _ R => Rl.bd (r_Es SC' es h _ _ _ R).1 fun vs _ _ R => Rl.new P R (.list vs)
  | .idx a b, h => fun _ _ _ R => Rl.bd (r_E SC' a (b1 h) _ _ _ R) fun _ _ _ R => Rl.bd (r_E SC' b (b2 h) _ _ _ R) fun _ _ _ R => Rl.ob (idxV_rl R) fun _ => Rl.v2 R
  | .upto a b, h => fun _ _ _ R => Rl.bd (r_E SC' a (b1 h) _ _ _ R) fun _ _ _ R => Rl.bd (r_E SC' b (b2 h) _ _ _ R) fun _ _ _ R => uptoV_rl P R
  | .rev a, h => fun _ _ _ R => Rl.bd (r_E SC' a h _ _ _ R) fun _ _ _ R => Rl.ob (listV_rl R) fun vs => renL_rev (ρ := ρ) (vs := vs) ▸ Rl.new P R (.list vs.reverse)
  | .call _ es, h => fun _ _ _ R => Rl.bd (r_Es SC' es h _ _ _ R).1 fun _ _ _ R => SC' _ _ _ _ R
  | .new c es, h => fun _ _ _ R => Rl.bd (r_Es SC' es h _ _ _ R).1 fun vs h st R => Rl.obs fun cl _ => by
    have e := R.top P
    rw [← e]
    exact Rl.bd (SC' _ (.ref h.length :: vs) _ _ (R.push P (.inst c []))) fun _ _ _ R => Rl.onN (Rl.vh rfl R)
  | .meth o _ es, h => fun _ _ _ R => Rl.bd (r_E SC' o (b1 h) _ _ _ R) fun _ _ _ R => Rl.onR fun a => Rl.get R fun _ => Rl.inn fun c fs => by
    rw [look_ren]
    exact Rl.onZ (Rl.obs fun cl _ => Rl.obs fun f _ => Rl.bd (r_Es SC' es (b2 h) _ _ _ R).1 fun vs _ _ R => SC' _ (.ref a :: vs) _ _ R)
  | .lapp o e, h => fun _ _ _ R => Rl.bd (r_E SC' o (b1 h) _ _ _ R) fun _ _ _ R => Rl.ob (listV_rl R) fun _ => Rl.bd (r_E SC' e (b2 h) _ _ _ R) fun _ _ _ R => Rl.oh (appV_rl P R) fun _ _ R => Rl.vh rfl R
  | .lpop o, h => fun _ _ _ R => Rl.bd (r_E SC' o h _ _ _ R) fun _ _ _ R => popV_rl P R
  | .lext o e, h => fun _ _ _ R => Rl.bd (r_E SC' o (b1 h) _ _ _ R) fun _ _ _ R => Rl.ob (listV_rl R) fun _ => Rl.bd (r_E SC' e (b2 h) _ _ _ R) fun _ _ _ R => Rl.oh (extV_rl P R) fun _ _ R => Rl.vh rfl R
  | .nidx e, h => fun _ _ _ R => Rl.bd (r_E SC' e h _ _ _ R) fun _ _ _ R => Rl.onS fun _ => Rl.obs fun _ _ => Rl.vh rfl R
  | .len e, h => fun _ _ _ R => Rl.bd (r_E SC' e h _ _ _ R) fun _ _ _ R => Rl.ob (lenV_rl R) fun _ => Rl.vh rfl R
  | .abs e, h => fun _ _ _ R => Rl.bd (r_E SC' e h _ _ _ R) fun _ _ _ R => Rl.onI fun _ => Rl.vh rfl R
  | .min2 a b, h => fun _ _ _ R => Rl.bd (r_E SC' a (b1 h) _ _ _ R) fun _ _ _ R => Rl.onI fun _ => Rl.bd (r_E SC' b (b2 h) _ _ _ R) fun _ _ _ R => Rl.onI fun _ => Rl.vh rfl R
  | .max2 a b, h => fun _ _ _ R => Rl.bd (r_E SC' a (b1 h) _ _ _ R) fun _ _ _ R => Rl.onI fun _ => Rl.bd (r_E SC' b (b2 h) _ _ _ R) fun _ _ _ R => Rl.onI fun _ => Rl.vh rfl R
  | .minL e, h => fun _ _ _ R => Rl.bd (r_E SC' e h _ _ _ R) fun _ _ _ R => Rl.ob (listV_rl R) fun _ => Rl.ob intsOf_rl fun _ => Rl.obs fun _ _ => Rl.vh rfl R
  | .maxL e, h => fun _ _ _ R => Rl.bd (r_E SC' e h _ _ _ R) fun _ _ _ R => Rl.ob (listV_rl R) fun _ => Rl.ob intsOf_rl fun _ => Rl.obs fun _ _ => Rl.vh rfl R
  | .isi _ e, h => fun _ _ _ R => Rl.bd (r_E SC' e h _ _ _ R) fun _ _ _ R => by rw [isiV_ren]; exact Rl.obs fun _ _ => Rl.vh rfl R
  | .srt e o _, h => fun _ _ _ R => Rl.bd (r_E SC' e (b1 h) _ _ _ R) fun _ _ _ R => Rl.onR fun _ => Rl.bd (r_E SC' o (b2 h) _ _ _ R) fun _ _ _ R => Rl.onR fun _ => srtV_rl P SC' R
  | .comp e _ it, h => fun _ _ _ R => Rl.b3 (r_I SC' it (b2 h) _ _ _ R) fun _ _ _ _ R => Rl.len (Rl.bd (loopC_rl (r_E SC' e (b1 h)) (fun _ _ _ R => Rl.vh rfl R) R) fun ws _ _ R => Rl.new P R (.list ws))
  | .compc e _ it c, h => fun _ _ _ R => Rl.b3 (r_I SC' it (b1 (b2 h)) _ _ _ R) fun _ _ _ _ R => Rl.len (Rl.bd (loopC_rl (r_E SC' e (b1 h)) (r_E SC' c (b2 (b2 h))) R) fun ws _ _ R => Rl.new P R (.list ws))
theorem r_Es (SC' : SC ρ N d) : ∀ es : Exs, pEs es = true → SEs ρ N d es
  | .nil, _ => fun _ _ _ R => ⟨Rl.v2 R, Rl.vh rfl R, Rl.vh rfl R⟩
  | .cons e es, h => fun _ _ _ R => have i := r_E SC' e (b1 h) _ _ _ R; have j := r_Es SC' es (b2 h)
    ⟨Rl.bd i fun _ _ _ R => Rl.bd (j _ _ _ R).1 fun _ _ _ R => Rl.v2 R, Rl.bd i fun _ _ _ R => Rl.onB fun _ => Rl.cd (j _ _ _ R).2.1 (Rl.vh rfl R), Rl.bd i fun _ _ _ R => Rl.onB fun _ => Rl.cd (Rl.vh rfl R) (j _ _ _ R).2.2⟩
theorem r_I (SC' : SC ρ N d) : ∀ i : It, pI i = true → SI ρ N d i
  | .seq e, h => fun _ _ _ R => Rl.bd (r_E SC' e h _ _ _ R) fun _ _ _ R => Rl.it R (itemsV_rl R)
  | .rng1 e, h => fun _ _ _ R => Rl.bd (r_E SC' e h _ _ _ R) fun _ _ _ R => Rl.onI fun _ => Rl.rng R
  | .rng2 a b, h => fun _ _ _ R => Rl.bd (r_E SC' a (b1 h) _ _ _ R) fun _ _ _ R => Rl.onI fun _ => Rl.bd (r_E SC' b (b2 h) _ _ _ R) fun _ _ _ R => Rl.onI fun _ => Rl.rng R
end
mutual
theorem r_S (SC' : SC ρ N d) : ∀ s : S, pS s = true → SS ρ N d s
  | .bad, _ => fun _ _ _ _ => Rl.no
  | .asg x e, h => fun _ _ _ R => Rl.bd (r_E P SC' e h _ _ _ R) fun _ _ _ R => Rl.put R
  | .asgT xs e, h => fun _ _ _ R => Rl.bd (r_E P SC' e h _ _ _ R) fun _ _ _ R => Rl.onT fun _ => Rl.ob bindT_rl fun _ => Rl.r3 R
  | .asgA o f e, h => fun _ _ _ R => Rl.bd (r_E P SC' e (b2 h) _ _ _ R) fun _ _ _ R => Rl.bd (r_E P SC' o (b1 h) _ _ _ R) fun _ _ _ R => Rl.oh (setAttrV_rl P R) fun _ _ R => Rl.r3 R
  | .asgI o i e, h => fun _ _ _ R => Rl.bd (r_E P SC' e (b2 (b2 h)) _ _ _ R) fun _ _ _ R => Rl.bd (r_E P SC' o (b1 h) _ _ _ R) fun _ _ _ R => Rl.bd (r_E P SC' i (b1 (b2 h)) _ _ _ R) fun _ _ _ R => Rl.oh (setIdxV_rl P R) fun _ _ R => Rl.r3 R
  | .ret e, h => fun _ _ _ R => Rl.bd (r_E P SC' e h _ _ _ R) fun _ _ _ R => Rl.r3 R
  | .ret0, _ => fun _ _ _ R => Rl.r3 R
  | .ite c a b, h => fun _ _ _ R => Rl.bd (r_E P SC' c (b1 h) _ _ _ R) fun _ _ _ R => Rl.onB fun _ => Rl.cd (r_Ss SC' a (b1 (b2 h)) _ _ _ R) (r_Ss SC' b (b2 (b2 h)) _ _ _ R)
  | .whl c b, h => fun _ _ _ R => loopW_rl (r_E P SC' c (b1 h)) (r_Ss SC' b (b2 h)) R
  | .for1 x it b, h => fun _ _ _ R => Rl.b3 (r_I P SC' it (b1 h) _ _ _ R) fun _ _ _ _ R => Rl.len (loopF_rl (fun _ _ => Rl.of put_ren) (r_Ss SC' b (b2 h)) R)
  | .forT xs it b, h => fun _ _ _ R => Rl.b3 (r_I P SC' it (b1 h) _ _ _ R) fun _ _ _ _ R => Rl.len (loopF_rl (fun _ _ => Rl.onT fun _ => bindT_rl) (r_Ss SC' b (b2 h)) R)
  | .exp e, h => fun _ _ _ R => Rl.bd (r_E P SC' e h _ _ _ R) fun _ _ _ R => Rl.r3 R
theorem r_Ss (SC' : SC ρ N d) : ∀ s : Ss, pSs s = true → SSs ρ N d s
  | .nil, _ => fun _ _ _ R => Rl.r3 R
  | .cons s ss, h => fun _ _ _ R => Rl.b3 (r_S SC' s (b1 h) _ _ _ R) fun _ _ _ _ R => Rl.go R (r_Ss SC' ss (b2 h) _ _ _ R)
end
omit P in
theorem allP : (fns.all fun F => pSs F.body) = true := by decide +kernel
theorem r_C : ∀ d, SC ρ N d
  | 0 => fun _ _ _ _ _ => Rl.no
  | d + 1 => fun f args h st R => Rl.obs fun F hF => Rl.if (fun e => e.trans renL_len.symm) fun _ => by
    rw [zip_ren]
    exact Rl.b3 (r_Ss P (r_C d) F.body (List.all_eq_true.mp allP F (List.mem_of_getElem? hF)) _ _ _ R) fun _ _ _ _ R => Rl.orO (fun _ => Rl.vh rfl R) (Rl.vh rfl R)
end
end Mine
end
section
namespace Mine
section
variable {F : List Nat} {N : Nat}
noncomputable def allA (F : List Nat) (N : Nat) : List Nat := F ++ (List.range N).filter (fun x => !F.contains x)
theorem allA_nodup (nd : F.Nodup) : (allA F N).Nodup := by
  refine List.nodup_append.mpr ⟨nd, List.Nodup.sublist List.filter_sublist List.nodup_range, fun a ha b hb e => ?_⟩
  subst e
  have := (List.mem_filter.mp hb).2
  simp [ha] at this
theorem allA_mem (lt : ∀ a ∈ F, a < N) {x : Nat} : x ∈ allA F N ↔ x < N := by
  unfold allA
  rw [List.mem_append, List.mem_filter, List.mem_range]
  constructor
  · rintro (h | h)
    · exact lt x h
    · exact h.1
  · intro h
    by_cases q : x ∈ F
    · exact .inl q
    · exact .inr ⟨h, by simp [q]⟩
theorem allA_len (nd : F.Nodup) (lt : ∀ a ∈ F, a < N) : (allA F N).length = N := by
  have p : (allA F N).Perm (List.range N) := (List.perm_ext_iff_of_nodup (allA_nodup nd) List.nodup_range).mpr fun x => by rw [allA_mem lt, List.mem_range]
  rw [p.length_eq, List.length_range]
theorem perm_ex (nd : F.Nodup) (lt : ∀ a ∈ F, a < N) : ∃ ρ σ : Nat → Nat, (∀ i, σ (ρ i) = i) ∧ (∀ x, ρ (σ x) = x) ∧ (∀ i, N ≤ i → ρ i = i) ∧ (∀ i a, F[i]? = some a → ρ i = a) ∧ ∀ i, i < N → ρ i < N := by
  have hl := allA_len nd lt
  have hn := allA_nodup (N := N) nd
  refine ⟨fun i => if h : i < N then (allA F N)[i]'(by omega) else i, fun x => if x < N then (allA F N).idxOf x else x, fun i => ?_, fun x => ?_, fun i h => ?_, fun i a h => ?_, fun i h => ?_⟩
  · dsimp only
    by_cases h : i < N
    · rw [dif_pos h]
      have h2 : (allA F N)[i]'(by omega) < N := (allA_mem lt).mp (List.getElem_mem _)
      rw [if_pos h2]
      exact List.Nodup.idxOf_getElem hn i (by omega)
    · rw [dif_neg h, if_neg h]
  · dsimp only
    by_cases h : x < N
    · rw [if_pos h]
      have hx : x ∈ allA F N := (allA_mem lt).mpr h
      have h2 : (allA F N).idxOf x < N := by have := List.idxOf_lt_length_of_mem hx; omega
      rw [dif_pos h2]
      exact List.getElem_idxOf _
    · rw [if_neg h, dif_neg h]
  · dsimp only; rw [dif_neg (by omega)]
  · dsimp only
    obtain ⟨hi, e⟩ := List.getElem?_eq_some_iff.mp h
    have hN : i < N := by
      have : F.length ≤ (allA F N).length := by unfold allA; rw [List.length_append]; omega
      omega
    rw [dif_pos hN]
    unfold allA
    rw [List.getElem_append_left hi, e]
  · dsimp only; rw [dif_pos h]; exact (allA_mem lt).mp (List.getElem_mem _)
end
section
variable {ρ σ : Nat → Nat}
mutual
theorem ren_inv (k : ∀ x, ρ (σ x) = x) : ∀ v, ren ρ (ren σ v) = v
  | .none => rfl
  | .bool _ => rfl
  | .int _ => rfl
  | .str _ => rfl
  | .ref a => congrArg V.ref (k a)
  | .tup vs => congrArg V.tup (renL_inv k vs)
  | .slist vs => congrArg V.slist (renL_inv k vs)
theorem renL_inv (k : ∀ x, ρ (σ x) = x) : ∀ vs, renL ρ (renL σ vs) = vs
  | [] => rfl
  | v :: vs => by rw [renL, renL, ren_inv k v, renL_inv k vs]
end
theorem renM_inv {α : Type} (k : ∀ x, ρ (σ x) = x) : ∀ m : List (α × V), renM ρ (renM σ m) = m
  | [] => rfl
  | (x, v) :: m => by rw [renM, renM, ren_inv k v, renM_inv k m]
theorem renO_inv (k : ∀ x, ρ (σ x) = x) : ∀ o, renO ρ (renO σ o) = o
  | .inst c fs => congrArg (O.inst c) (renM_inv k fs)
  | .list vs => congrArg O.list (renL_inv k vs)
  | .dict es => congrArg O.dict (renM_inv k es)
end
noncomputable def setAll : List Nat → List O → St → St
  | a :: F, o :: L, st => setAll F L (st.set a o)
  | _, _, st => st
theorem setAll_len : ∀ {F : List Nat} {L : List O} {st : St}, (setAll F L st).length = st.length
  | [], _, _ => rfl
  | _ :: _, [], _ => rfl
  | _ :: F, _ :: L, st => by rw [setAll, setAll_len, List.length_set]
theorem setAll_not : ∀ {F : List Nat} {L : List O} {st : St} {x : Nat}, x ∉ F → (setAll F L st)[x]? = st[x]?
  | [], _, _, _, _ => rfl
  | _ :: _, [], _, _, _ => rfl
  | a :: F, _ :: L, st, x, h => by
    rw [List.mem_cons, not_or] at h
    rw [setAll, setAll_not h.2, List.getElem?_set_ne (Ne.symm h.1)]
theorem setAll_at : ∀ {F : List Nat} {L : List O} {st : St} {i a : Nat}, F.Nodup → F.length = L.length → F[i]? = some a → a < st.length → (setAll F L st)[a]? = L[i]?
  | a :: F, o :: L, st, 0, b, nd, _, e, lt => by
    cases e
    rw [setAll, setAll_not (List.nodup_cons.mp nd).1, List.getElem?_set_self lt]; rfl
  | a :: F, o :: L, st, i + 1, b, nd, hl, e, lt => by
    rw [setAll, List.getElem?_cons_succ]
    exact setAll_at (List.nodup_cons.mp nd).2 (Nat.succ.inj hl) e (by rw [List.length_set]; exact lt)
theorem frame {d f : Nat} {args : List V} {v : V} {st : St} (F : List Nat) (L L' : List O) (nd : F.Nodup) (hL : F.map (st[·]?) = L.map some) (hl : L'.length = L.length)
    (run : ∀ (σ : Nat → Nat) (rest : St), (∀ (i a : Nat), F[i]? = some a → σ a = i) → C d f (renL σ args) (L.map (renO σ) ++ rest) = some (ren σ v, L'.map (renO σ) ++ rest)) :
    C d f args st = some (v, setAll F L' st) := by
  have hF : F.length = L.length := by have := congrArg List.length hL; rwa [List.length_map, List.length_map] at this
  have at_ : ∀ (i a : Nat), F[i]? = some a → st[a]? = L[i]? := fun i a e => by
    have this : (F.map (st[·]?))[i]? = (L.map some)[i]? := by rw [hL]
    simp only [List.getElem?_map, e, Option.map_some] at this
    cases q : L[i]? with
    | none => rw [q] at this; cases this
    | some o => rw [q] at this; exact Option.some.inj this
  have lt : ∀ a ∈ F, a < st.length := fun a ha => by
    obtain ⟨i, e⟩ := List.getElem?_of_mem ha
    have := at_ i a e
    have hi : i < L.length := by rw [← hF]; exact (List.getElem?_eq_some_iff.mp e).1
    rw [List.getElem?_eq_getElem hi] at this
    exact (List.getElem?_eq_some_iff.mp this).1
  obtain ⟨ρ, σ, k1, k2, k3, k4, k5⟩ := perm_ex nd lt
  have P : RR ρ st.length := ⟨fun i j e => by rw [← k1 i, ← k1 j, e], k3⟩
  have hN : L.length ≤ st.length := by
    have : (allA F st.length).length = st.length := allA_len nd lt
    unfold allA at this; rw [List.length_append] at this; omega
  have k5' : ∀ i, i < st.length → ρ i < st.length := k5
  obtain ⟨h, hh⟩ : ∃ h : St, h = (List.range st.length).map fun i => renO σ ((st[ρ i]?).getD (.list [])) := ⟨_, rfl⟩
  have hget : ∀ i, st[ρ i]? = (h[i]?).map (renO ρ) := fun i => by
    rw [hh, List.getElem?_map]
    by_cases q : i < st.length
    · rw [List.getElem?_range q, Option.map_some, Option.map_some, renO_inv k2, List.getElem?_eq_getElem (k5 i q)]; rfl
    · have e1 : (List.range st.length)[i]? = none := List.getElem?_eq_none (by rw [List.length_range]; omega)
      rw [e1, k3 i (by omega)]; exact List.getElem?_eq_none (by omega)
  have hlen : h.length = st.length := by rw [hh, List.length_map, List.length_range]
  clear hh
  have R : RH ρ st.length h st := ⟨hlen.symm, by rw [hlen]; exact Nat.le_refl _, hget⟩
  have hsplit : h = L.map (renO σ) ++ h.drop L.length := by
    apply List.ext_getElem?
    intro i
    by_cases q : i < L.length
    · rw [List.getElem?_append_left (by rw [List.length_map]; exact q), List.getElem?_map]
      have hi : i < F.length := by omega
      have e := List.getElem?_eq_getElem hi
      have e2 := at_ i _ e
      have e3 := hget i
      rw [k4 i _ e, e2] at e3
      cases z : h[i]? with
      | none => rw [z] at e3; rw [e3]; rfl
      | some o =>
        rw [z] at e3
        rw [e3, Option.map_some, Option.map_some, renO_inv (ρ := σ) (σ := ρ) k1]
    · rw [List.getElem?_append_right (by rw [List.length_map]; omega), List.length_map, List.getElem?_drop]
      congr 1; omega
  have rn := run σ (h.drop L.length) fun i a e => by rw [← k4 i a e, k1]
  rw [← hsplit] at rn
  obtain ⟨⟨v', st'⟩, e, e1, R'⟩ := r_C P d f (renL σ args) h st R _ rn
  dsimp only at e1 R'
  rw [renL_inv k2, e1, ren_inv k2] at e
  rw [e]
  congr 2
  apply List.ext_getElem?
  intro x
  have e3 := R'.get (σ x)
  rw [k2] at e3
  rw [e3]
  by_cases hx : x ∈ F
  · obtain ⟨i, hi⟩ := List.getElem?_of_mem hx
    have si : σ x = i := by rw [← k4 i x hi, k1]
    have hi' : i < L'.length := by rw [hl, ← hF]; exact (List.getElem?_eq_some_iff.mp hi).1
    rw [si, List.getElem?_append_left (by rw [List.length_map]; exact hi'), List.getElem?_map, setAll_at nd (hF.trans hl.symm) hi (lt x hx)]
    cases L'[i]? with
    | none => rfl
    | some o => rw [Option.map_some, Option.map_some, renO_inv k2]
  · have nx : L.length ≤ σ x := by
      apply Nat.le_of_not_lt
      intro q
      apply hx
      have hi : σ x < F.length := by omega
      have := k4 _ _ (List.getElem?_eq_getElem hi)
      rw [k2] at this
      rw [this]; exact List.getElem_mem _
    rw [List.getElem?_append_right (by rw [List.length_map, hl]; exact nx), List.length_map, hl, setAll_not hx, List.getElem?_drop]
    have := hget (σ x)
    rw [k2] at this
    rw [this]
    congr 2; omega
end Mine
end
section
namespace Mine
theorem C_at {d f : Nat} {args : List V} {st : St} (F : Fn) (h : fns[f]? = some F) (hl : F.ps.length = args.length) : C (d + 1) f args st = (b3 (exSs clss nidxTab (C d) F.body (F.ps.zip args) st) fun ov _ st1 => orO ov (fun v => some (v, st1)) (some (.none, st1))) := by
  show (ob fns[f]? fun F => if F.ps.length = args.length then (b3 (exSs clss nidxTab (C d) F.body (F.ps.zip args) st) fun ov _ st1 => orO ov (fun v => some (v, st1)) (some (.none, st1))) else .none) = _
  rw [h]; exact if_pos hl
noncomputable def nodeO (num b e lim : Int) (red : Bool) (l r p : V) : O := .inst 2 [(25, .int num), (18, .int b), (26, .int e), (27, .bool false), (28, .bool false), (31, .int lim), (30, .int 0), (29, .bool red), (5, l), (4, r), (3, p)]
noncomputable def treeO (root : V) (cnt : Int) : O := .inst 3 [(7, root), (32, .int cnt)]
structure ND where
  a : Nat
  num : Int
  b : Int
  e : Int
  lim : Int
inductive T where
  | nil
  | node (x : ND) (red : Bool) (l r : T)
namespace T
noncomputable def ref : T → V
  | .nil => .none
  | .node x _ _ _ => .ref x.a
noncomputable def inl : T → List ND
  | .nil => []
  | .node x _ l r => l.inl ++ (x :: r.inl)
noncomputable def io (p : V) : T → List O
  | .nil => []
  | .node x c l r => l.io (.ref x.a) ++ (nodeO x.num x.b x.e x.lim c l.ref r.ref p :: r.io (.ref x.a))
noncomputable def At (st : St) (p : V) : T → Prop
  | .nil => True
  | .node x c l r => st[x.a]? = some (nodeO x.num x.b x.e x.lim c l.ref r.ref p) ∧ l.At st (.ref x.a) ∧ r.At st (.ref x.a)
end T
inductive Sk where
  | nil
  | node (red mk : Bool) (l r : Sk)
  deriving DecidableEq
noncomputable def Sk.size : Sk → Nat
  | .nil => 0
  | .node _ _ l r => l.size + (r.size + 1)
noncomputable def T.sk : T → Sk
  | .nil => .nil
  | .node _ c l r => .node c false l.sk r.sk
noncomputable def geE (e : Int) : T → Int
  | .nil => e
  | .node x _ _ _ => max e (x.lim + 0)
noncomputable def bld : Sk → (Nat → ND) → Nat → T
  | .nil, _, _ => .nil
  | .node c m l r, D, o => .node (match m with
      | true => { D (o + l.size) with lim := geE (geE (D (o + l.size)).e (bld l D o)) (bld r D (o + (l.size + 1))) }
      | false => D (o + l.size)) c (bld l D o) (bld r D (o + (l.size + 1)))
noncomputable def reach : List (List Sk) := [[.nil],
  [(.node false false .nil .nil)],
  [(.node false false (.node true false .nil .nil) .nil), (.node false false .nil (.node true false .nil .nil))],
  [(.node false false (.node true false .nil .nil) (.node true false .nil .nil))],
  [(.node false false (.node false false (.node true false .nil .nil) .nil) (.node false false .nil .nil)), (.node false false (.node false false .nil (.node true false .nil .nil)) (.node false false .nil .nil)), (.node false false (.node false false .nil .nil) (.node false false (.node true false .nil .nil) .nil)), (.node false false (.node false false .nil .nil) (.node false false .nil (.node true false .nil .nil)))],
  [(.node false false (.node false false (.node true false .nil .nil) (.node true false .nil .nil)) (.node false false .nil .nil)), (.node false false (.node false false (.node true false .nil .nil) .nil) (.node false false (.node true false .nil .nil) .nil)), (.node false false (.node false false (.node true false .nil .nil) .nil) (.node false false .nil (.node true false .nil .nil))), (.node false false (.node false false .nil (.node true false .nil .nil)) (.node false false (.node true false .nil .nil) .nil)), (.node false false (.node false false .nil (.node true false .nil .nil)) (.node false false .nil (.node true false .nil .nil))), (.node false false (.node false false .nil .nil) (.node false false (.node true false .nil .nil) (.node true false .nil .nil)))]]
noncomputable def table : List (Sk × Nat × Sk) := [((.node false false (.node true false .nil .nil) .nil), 0, (.node false false (.node true false .nil .nil) .nil)),
  ((.node false false .nil (.node true false .nil .nil)), 1, (.node false false .nil (.node true false .nil .nil))),
  ((.node false false (.node true false (.node true false .nil .nil) .nil) .nil), 0, (.node false true (.node true false .nil .nil) (.node true true .nil .nil))),
  ((.node false false (.node true false .nil (.node true false .nil .nil)) .nil), 1, (.node false true (.node true true .nil .nil) (.node true true .nil .nil))),
  ((.node false false (.node true false .nil .nil) (.node true false .nil .nil)), 2, (.node false false (.node true false .nil .nil) (.node true false .nil .nil))),
  ((.node false false (.node true false .nil .nil) (.node true false .nil .nil)), 0, (.node false false (.node true false .nil .nil) (.node true false .nil .nil))),
  ((.node false false .nil (.node true false (.node true false .nil .nil) .nil)), 1, (.node false true (.node true true .nil .nil) (.node true true .nil .nil))),
  ((.node false false .nil (.node true false .nil (.node true false .nil .nil))), 2, (.node false true (.node true true .nil .nil) (.node true false .nil .nil))),
  ((.node false false (.node true false (.node true false .nil .nil) .nil) (.node true false .nil .nil)), 0, (.node false false (.node false false (.node true false .nil .nil) .nil) (.node false false .nil .nil))),
  ((.node false false (.node true false .nil (.node true false .nil .nil)) (.node true false .nil .nil)), 1, (.node false false (.node false false .nil (.node true false .nil .nil)) (.node false false .nil .nil))),
  ((.node false false (.node true false .nil .nil) (.node true false (.node true false .nil .nil) .nil)), 2, (.node false false (.node false false .nil .nil) (.node false false (.node true false .nil .nil) .nil))),
  ((.node false false (.node true false .nil .nil) (.node true false .nil (.node true false .nil .nil))), 3, (.node false false (.node false false .nil .nil) (.node false false .nil (.node true false .nil .nil)))),
  ((.node false false (.node false false (.node true false (.node true false .nil .nil) .nil) .nil) (.node false false .nil .nil)), 0, (.node false false (.node false true (.node true false .nil .nil) (.node true true .nil .nil)) (.node false false .nil .nil))),
  ((.node false false (.node false false (.node true false .nil (.node true false .nil .nil)) .nil) (.node false false .nil .nil)), 1, (.node false false (.node false true (.node true true .nil .nil) (.node true true .nil .nil)) (.node false false .nil .nil))),
  ((.node false false (.node false false (.node true false .nil .nil) (.node true false .nil .nil)) (.node false false .nil .nil)), 2, (.node false false (.node false false (.node true false .nil .nil) (.node true false .nil .nil)) (.node false false .nil .nil))),
  ((.node false false (.node false false (.node true false .nil .nil) .nil) (.node false false (.node true false .nil .nil) .nil)), 3, (.node false false (.node false false (.node true false .nil .nil) .nil) (.node false false (.node true false .nil .nil) .nil))),
  ((.node false false (.node false false (.node true false .nil .nil) .nil) (.node false false .nil (.node true false .nil .nil))), 4, (.node false false (.node false false (.node true false .nil .nil) .nil) (.node false false .nil (.node true false .nil .nil)))),
  ((.node false false (.node false false (.node true false .nil .nil) (.node true false .nil .nil)) (.node false false .nil .nil)), 0, (.node false false (.node false false (.node true false .nil .nil) (.node true false .nil .nil)) (.node false false .nil .nil))),
  ((.node false false (.node false false .nil (.node true false (.node true false .nil .nil) .nil)) (.node false false .nil .nil)), 1, (.node false false (.node false true (.node true true .nil .nil) (.node true true .nil .nil)) (.node false false .nil .nil))),
  ((.node false false (.node false false .nil (.node true false .nil (.node true false .nil .nil))) (.node false false .nil .nil)), 2, (.node false false (.node false true (.node true true .nil .nil) (.node true false .nil .nil)) (.node false false .nil .nil))),
  ((.node false false (.node false false .nil (.node true false .nil .nil)) (.node false false (.node true false .nil .nil) .nil)), 3, (.node false false (.node false false .nil (.node true false .nil .nil)) (.node false false (.node true false .nil .nil) .nil))),
  ((.node false false (.node false false .nil (.node true false .nil .nil)) (.node false false .nil (.node true false .nil .nil))), 4, (.node false false (.node false false .nil (.node true false .nil .nil)) (.node false false .nil (.node true false .nil .nil)))),
  ((.node false false (.node false false (.node true false .nil .nil) .nil) (.node false false (.node true false .nil .nil) .nil)), 0, (.node false false (.node false false (.node true false .nil .nil) .nil) (.node false false (.node true false .nil .nil) .nil))),
  ((.node false false (.node false false .nil (.node true false .nil .nil)) (.node false false (.node true false .nil .nil) .nil)), 1, (.node false false (.node false false .nil (.node true false .nil .nil)) (.node false false (.node true false .nil .nil) .nil))),
  ((.node false false (.node false false .nil .nil) (.node false false (.node true false (.node true false .nil .nil) .nil) .nil)), 2, (.node false false (.node false false .nil .nil) (.node false true (.node true false .nil .nil) (.node true true .nil .nil)))),
  ((.node false false (.node false false .nil .nil) (.node false false (.node true false .nil (.node true false .nil .nil)) .nil)), 3, (.node false false (.node false false .nil .nil) (.node false true (.node true true .nil .nil) (.node true true .nil .nil)))),
  ((.node false false (.node false false .nil .nil) (.node false false (.node true false .nil .nil) (.node true false .nil .nil))), 4, (.node false false (.node false false .nil .nil) (.node false false (.node true false .nil .nil) (.node true false .nil .nil)))),
  ((.node false false (.node false false (.node true false .nil .nil) .nil) (.node false false .nil (.node true false .nil .nil))), 0, (.node false false (.node false false (.node true false .nil .nil) .nil) (.node false false .nil (.node true false .nil .nil)))),
  ((.node false false (.node false false .nil (.node true false .nil .nil)) (.node false false .nil (.node true false .nil .nil))), 1, (.node false false (.node false false .nil (.node true false .nil .nil)) (.node false false .nil (.node true false .nil .nil)))),
  ((.node false false (.node false false .nil .nil) (.node false false (.node true false .nil .nil) (.node true false .nil .nil))), 2, (.node false false (.node false false .nil .nil) (.node false false (.node true false .nil .nil) (.node true false .nil .nil)))),
  ((.node false false (.node false false .nil .nil) (.node false false .nil (.node true false (.node true false .nil .nil) .nil))), 3, (.node false false (.node false false .nil .nil) (.node false true (.node true true .nil .nil) (.node true true .nil .nil)))),
  ((.node false false (.node false false .nil .nil) (.node false false .nil (.node true false .nil (.node true false .nil .nil)))), 4, (.node false false (.node false false .nil .nil) (.node false true (.node true true .nil .nil) (.node true false .nil .nil))))]
noncomputable def lit (sk : Sk) (cnt : Int) (D : Nat → ND) : St := treeO (bld sk D 0).ref cnt :: (bld sk D 0).io .none
theorem ci_run (num b e lim : Nat → Int) (cnt : Int) (d : Nat) (rest : St) :
    table.map (fun c => C (d + 4) 33 [.ref 0, .ref (1 + c.2.1)] (lit c.1 cnt (fun j => ⟨1 + j, num j, b j, e j, lim j⟩) ++ rest)) =
    table.map (fun c => some (.none, lit c.2.2 cnt (fun j => ⟨1 + j, num j, b j, e j, lim j⟩) ++ rest)) := by kernel_rfl
end Mine
end
section
namespace Mine
theorem io_len : ∀ {t : T} {p : V}, (t.io p).length = t.inl.length
  | .nil, _ => rfl
  | .node x c l r, p => by simp only [T.io, T.inl, List.length_append, List.length_cons, io_len]
theorem sk_size : ∀ {t : T}, t.sk.size = t.inl.length
  | .nil => rfl
  | .node x c l r => by simp only [T.sk, Sk.size, T.inl, List.length_append, List.length_cons, sk_size]
theorem at_iff {st : St} : ∀ {t : T} {p : V}, t.At st p ↔ t.inl.map (fun x => st[x.a]?) = (t.io p).map some
  | .nil, _ => ⟨fun _ => rfl, fun _ => trivial⟩
  | .node x c l r, p => by
    have hl := at_iff (st := st) (t := l) (p := .ref x.a)
    have hr := at_iff (st := st) (t := r) (p := .ref x.a)
    simp only [T.At, T.inl, T.io, List.map_append, List.map_cons]
    constructor
    · rintro ⟨h1, h2, h3⟩
      rw [hl.mp h2, hr.mp h3, h1]
    · intro h
      obtain ⟨h1, h2⟩ := List.append_inj h (by rw [List.length_map, List.length_map, io_len])
      obtain ⟨h3, h4⟩ := List.cons.inj h2
      exact ⟨h3, hl.mpr h1, hr.mpr h4⟩
theorem bld_congr {D D' : Nat → ND} : ∀ {s : Sk} {o : Nat}, (∀ i, o ≤ i → i < o + s.size → D i = D' i) → bld s D o = bld s D' o
  | .nil, _, _ => rfl
  | .node c m l r, o, h => by
    have e1 := bld_congr (s := l) (o := o) (D := D) (D' := D') fun i h1 h2 => h i h1 (by simp only [Sk.size]; (first | lia | omega))
    have e2 := bld_congr (s := r) (o := o + (l.size + 1)) (D := D) (D' := D') fun i h1 h2 => h i (by (first | lia | omega)) (by simp only [Sk.size]; (first | lia | omega))
    have e3 := h (o + l.size) (by (first | lia | omega)) (by simp only [Sk.size]; (first | lia | omega))
    simp only [bld, e1, e2, e3]
theorem bld_sk : ∀ {t : T} {D : Nat → ND} {o : Nat}, (∀ j x, t.inl[j]? = some x → D (o + j) = x) → bld t.sk D o = t
  | .nil, _, _, _ => rfl
  | .node x c l r, D, o, h => by
    have e1 := bld_sk (t := l) (D := D) (o := o) fun j y hj => h j y (by
      rw [T.inl, List.getElem?_append_left (List.getElem?_eq_some_iff.mp hj).1]; exact hj)
    have e2 := bld_sk (t := r) (D := D) (o := o + (l.inl.length + 1)) fun j y hj => by
      rw [Nat.add_assoc]
      refine h _ y ?_
      rw [T.inl, List.getElem?_append_right (by (first | lia | omega)), show l.inl.length + 1 + j - l.inl.length = j + 1 by (first | lia | omega)]; exact hj
    have e3 := h l.inl.length x (by rw [T.inl, List.getElem?_append_right (Nat.le_refl _), Nat.sub_self]; rfl)
    simp only [T.sk, bld, sk_size, e1, e2, e3]
noncomputable def T.mapA (σ : Nat → Nat) : T → T
  | .nil => .nil
  | .node x c l r => .node { x with a := σ x.a } c (l.mapA σ) (r.mapA σ)
theorem mapA_ref {σ : Nat → Nat} {t : T} : (t.mapA σ).ref = ren σ t.ref := by cases t <;> rfl
theorem io_ren {σ : Nat → Nat} : ∀ {t : T} {p : V}, (t.io p).map (renO σ) = (t.mapA σ).io (ren σ p)
  | .nil, _ => rfl
  | .node x c l r, p => by
    simp only [T.io, T.mapA, List.map_append, List.map_cons, io_ren, mapA_ref]; rfl
theorem geE_map {σ : Nat → Nat} {e : Int} {t : T} : geE e (t.mapA σ) = geE e t := by cases t <;> rfl
theorem mapA_bld {σ : Nat → Nat} {D : Nat → ND} : ∀ {s : Sk} {o : Nat}, (bld s D o).mapA σ = bld s (fun j => { D j with a := σ (D j).a }) o
  | .nil, _ => rfl
  | .node c m l r, o => by
    have e1 := mapA_bld (σ := σ) (D := D) (s := l) (o := o)
    have e2 := mapA_bld (σ := σ) (D := D) (s := r) (o := o + (l.size + 1))
    simp only [bld, T.mapA, e1.symm, e2.symm, geE_map]
    cases m <;> rfl
theorem bld_inl {α : Type} {D : Nat → ND} {f : ND → α} (hf : ∀ x lim, f { x with lim := lim } = f x) : ∀ {s : Sk} {o : Nat}, (bld s D o).inl.map f = (List.range s.size).map fun j => f (D (o + j))
  | .nil, _ => rfl
  | .node c m l r, o => by
    have e1 := bld_inl (f := f) hf (D := D) (s := l) (o := o)
    have e2 := bld_inl (f := f) hf (D := D) (s := r) (o := o + (l.size + 1))
    simp only [bld, T.inl, Sk.size, List.map_append, List.map_cons, e1, e2]
    rw [List.range_add, List.map_append, List.range_succ_eq_map]
    simp only [List.map_cons, List.map_map, Nat.add_zero]
    congr 1
    congr 1
    · cases m
      · rfl
      · exact hf _ _
    · apply List.map_congr_left
      intro j _
      show f _ = f _
      congr 2
      show o + (l.size + 1) + j = o + (l.size + (j + 1))
      (first | lia | omega)
theorem ci_at {c : Sk × Nat × Sk} (hc : c ∈ table) (num b e lim : Nat → Int) (cnt : Int) (d : Nat) (rest : St) :
    C (d + 4) 33 [.ref 0, .ref (1 + c.2.1)] (lit c.1 cnt (fun j => ⟨1 + j, num j, b j, e j, lim j⟩) ++ rest) = some (.none, lit c.2.2 cnt (fun j => ⟨1 + j, num j, b j, e j, lim j⟩) ++ rest) := List.map_inj_left.mp (ci_run num b e lim cnt d rest) c hc
theorem tab_size : (table.all fun c => c.1.size == c.2.2.size && decide (c.2.1 < c.1.size)) = true := by decide +kernel
theorem ci_ok {st : St} {tr d : Nat} {cnt : Int} {t : T} {g : Nat} {s1 : Sk} (ht : (t.sk, g, s1) ∈ table) (D : Nat → ND) (hD : ∀ j x, t.inl[j]? = some x → D j = x) (A : t.At st .none) (hr : st[tr]? = some (treeO t.ref cnt)) (nd : (tr :: t.inl.map ND.a).Nodup) :
    C (d + 4) 33 [.ref tr, .ref (D g).a] st = some (.none, setAll (tr :: t.inl.map ND.a) (treeO (bld s1 D 0).ref cnt :: (bld s1 D 0).io .none) st) := by
  have hs := List.all_eq_true.mp tab_size _ ht
  simp only [Bool.and_eq_true, beq_iff_eq, decide_eq_true_eq] at hs
  have hb : bld t.sk D 0 = t := bld_sk fun j x h => by rw [Nat.zero_add]; exact hD j x h
  have hlen : (bld s1 D 0).inl.length = t.inl.length := by
    have := congrArg List.length (bld_inl (f := fun _ => ()) (fun _ _ => rfl) (D := D) (s := s1) (o := 0))
    rw [List.length_map, List.length_map, List.length_range, ← hs.1, sk_size] at this
    exact this
  refine frame (tr :: t.inl.map ND.a) (treeO t.ref cnt :: t.io .none) (treeO (bld s1 D 0).ref cnt :: (bld s1 D 0).io .none) nd ?_ ?_ fun σ rest hσ => ?_
  · rw [List.map_cons, List.map_cons, hr, List.map_map, ← at_iff.mp A]; rfl
  · rw [List.length_cons, List.length_cons, io_len, io_len, hlen]
  · have key : ∀ s : Sk, s.size = t.sk.size → (treeO (bld s D 0).ref cnt :: (bld s D 0).io .none).map (renO σ) = lit s cnt (fun j => ⟨1 + j, (D j).num, (D j).b, (D j).e, (D j).lim⟩) := fun s hs => by
      have : (bld s D 0).mapA σ = bld s (fun j => ⟨1 + j, (D j).num, (D j).b, (D j).e, (D j).lim⟩) 0 := by
        rw [mapA_bld]
        refine bld_congr fun i _ hi => ?_
        rw [Nat.zero_add, hs, sk_size] at hi
        have e1 := List.getElem?_eq_getElem hi
        have := hσ (i + 1) (D i).a (by rw [List.getElem?_cons_succ, List.getElem?_map, e1, hD i _ e1]; rfl)
        dsimp only
        rw [this, Nat.add_comm]
      rw [List.map_cons, io_ren, this, lit, ← this, mapA_ref]; rfl
    have h1 := key t.sk rfl
    rw [hb] at h1
    have h2 : (D g).a = (D g).a := rfl
    have hg : g < t.inl.length := by rw [← sk_size]; exact hs.2
    have e1 := List.getElem?_eq_getElem hg
    have sg := hσ (g + 1) (D g).a (by rw [List.getElem?_cons_succ, List.getElem?_map, e1, hD g _ e1]; rfl)
    have s0 := hσ 0 tr rfl
    rw [h1, key s1 hs.1.symm]
    have := ci_at ht (fun j => (D j).num) (fun j => (D j).b) (fun j => (D j).e) (fun j => (D j).lim) cnt d rest
    rw [show renL σ [V.ref tr, V.ref (D g).a] = [V.ref 0, V.ref (1 + g)] by simp only [renL, ren, sg, s0, Nat.add_comm]]
    exact this
end Mine
end
section
namespace Mine
noncomputable def fldO (f : Nat) : O → Option V
  | .inst _ fs => look f fs
  | _ => .none
noncomputable def wrO (f : Nat) (v : V) : O → O
  | .inst c fs => .inst c (put f v fs)
  | o => o
noncomputable def okF (f : Nat) : O → Bool
  | .inst c fs => (match clss[c]? with
    | some cl => (match look f cl.meths with
      | .none => fs.length.ble 64
      | _ => false)
    | _ => false)
  | _ => false
theorem wr_ok {st : St} {a f : Nat} {o : O} {v : V} (h : st[a]? = some o) (k : okF f o = true) : setAttrV clss st (.ref a) f v = some (st.set a (wrO f v o)) := by
  show (ob st[a]? fun o => onIn o fun c fs => ob clss[c]? fun cl => onZ (look f cl.meths) (if fs.length ≤ 64 then some (st.set a (.inst c (put f v fs))) else .none)) = _
  rw [h]
  cases o with
  | inst c fs =>
    show (ob clss[c]? fun cl => onZ (look f cl.meths) (if fs.length ≤ 64 then some (st.set a (.inst c (put f v fs))) else .none)) = _
    simp only [okF] at k
    cases h1 : clss[c]? with
    | none => rw [h1] at k; exact ff k
    | some cl =>
      rw [h1] at k
      show onZ (look f cl.meths) (if fs.length ≤ 64 then some (st.set a (.inst c (put f v fs))) else .none) = _
      dsimp only at k
      cases h2 : look f cl.meths with
      | none => rw [h2] at k; exact if_pos (Nat.le_of_ble_eq_true k)
      | some _ => rw [h2] at k; exact ff k
  | list _ => exact ff k
  | dict _ => exact ff k
section
variable {C : CallF} {m m1 : Lo} {st st1 st2 st3 : St} {e e1 a b c o : Ex} {es : Exs} {x y z v w : V} {vs ws : List V} {i j : Int} {t u : Bool} {p q f n : Nat} {ob1 ob2 : O} {r : Option (V × St)} {rs : Option (List V × St)}
theorem cT {γ : Type} {A B r : γ} (h : A = r) : cond true A B = r := h
theorem cF {γ : Type} {A B r : γ} (h : B = r) : cond false A B = r := h
theorem cNT {γ : Type} {A B r : γ} (h : B = r) : cond (!true) A B = r := h
theorem cNF {γ : Type} {A B r : γ} (h : A = r) : cond (!false) A B = r := h
theorem w_var (h : look f m = some v) : evE clss nidxTab C (.var f) m st = some (v, st) := by rw [evE_var, h]; rfl
theorem w_val : evE clss nidxTab C (.val v) m st = some (v, st) := rfl
theorem w_attr (h : evE clss nidxTab C e m st = some (.ref p, st1)) (g : st1[p]? = some ob1) (k : fldO f ob1 = some v) : evE clss nidxTab C (.attr e f) m st = some (v, st1) := by
  rw [evE_attr, h]
  show (ob (ob st1[p]? fun o => onIn o fun _ fs => look f fs) fun v => some (v, st1)) = _
  rw [g]
  cases ob1 with
  | inst c fs => show (ob (look f fs) fun v => some (v, st1)) = _; rw [show look f fs = some v from k]; rfl
  | list _ => exact nn k
  | dict _ => exact nn k
theorem w_bin {op : Bop} (h : evE clss nidxTab C a m st = some (x, st1)) (g : evE clss nidxTab C b m st1 = some (y, st2)) (k : binV op x y st2 = r) : evE clss nidxTab C (.bin op a b) m st = r := by
  rw [evE_bin, h]; show bd (evE clss nidxTab C b m st1) _ = r; rw [g]; exact k
theorem w_neg (h : evE clss nidxTab C e m st = some (.int i, st1)) : evE clss nidxTab C (.neg e) m st = some (.int (-i), st1) := by rw [evE_neg, h]; rfl
theorem w_not (h : evE clss nidxTab C e m st = some (.bool t, st1)) : evE clss nidxTab C (.not e) m st = some (.bool (!t), st1) := by rw [evE_not, h]; rfl
theorem w_cmp {op : Cop} (h : evE clss nidxTab C a m st = some (x, st1)) (g : evE clss nidxTab C b m st1 = some (y, st2)) (k : cmpV op x y = some t) : evE clss nidxTab C (.cmp op a b) m st = some (.bool t, st2) := by
  rw [evE_cmp, h]; show bd (evE clss nidxTab C b m st1) _ = _; rw [g]; show ob (cmpV op x y) _ = _; rw [k]; rfl
theorem w_cmp3 {o1 o2 : Cop} (h : evE clss nidxTab C a m st = some (x, st1)) (g : evE clss nidxTab C b m st1 = some (y, st2)) (k : cmpV o1 x y = some t)
    (l : cond t (bd (evE clss nidxTab C c m st2) fun z st3 => ob (cmpV o2 y z) fun r => some (.bool r, st3)) (some (.bool false, st2)) = r) : evE clss nidxTab C (.cmp3 o1 o2 a b c) m st = r := by
  rw [evE_cmp3, h]; show bd (evE clss nidxTab C b m st1) _ = _; rw [g]; show ob (cmpV o1 x y) _ = _; rw [k]; exact l
theorem w_cm2 {o2 : Cop} (h : evE clss nidxTab C c m st = some (z, st1)) (k : cmpV o2 y z = some t) : (bd (evE clss nidxTab C c m st) fun z st3 => ob (cmpV o2 y z) fun r => some (V.bool r, st3)) = some (V.bool t, st1) := by
  rw [h]; show ob (cmpV o2 y z) _ = _; rw [k]; rfl
theorem w_ite (h : evE clss nidxTab C c m st = some (.bool t, st1)) (k : cond t (evE clss nidxTab C a m st1) (evE clss nidxTab C b m st1) = r) : evE clss nidxTab C (.ite c a b) m st = r := by rw [evE_ite, h]; exact k
theorem w_tup (h : evEs clss nidxTab C es m st = some (vs, st1)) : evE clss nidxTab C (.tup es) m st = some (.tup vs, st1) := by rw [evE_tup, h]; rfl
theorem w_lst (h : evEs clss nidxTab C es m st = some (vs, st1)) : evE clss nidxTab C (.lst es) m st = some (.ref st1.length, st1 ++ [.list vs]) := by rw [evE_lst, h]; rfl
theorem w_idx (h : evE clss nidxTab C e m st = some (x, st1)) (g : evE clss nidxTab C e1 m st1 = some (y, st2)) (k : idxV st2 x y = some v) : evE clss nidxTab C (.idx e e1) m st = some (v, st2) := by
  rw [evE_idx, h]; show bd (evE clss nidxTab C e1 m st1) _ = _; rw [g]; show ob (idxV st2 x y) _ = _; rw [k]; rfl
theorem w_rev (h : evE clss nidxTab C e m st = some (x, st1)) (k : listV st1 x = some vs) : evE clss nidxTab C (.rev e) m st = some (.ref st1.length, st1 ++ [.list vs.reverse]) := by rw [evE_rev, h]; show ob (listV st1 x) _ = _; rw [k]; rfl
theorem w_call (h : evEs clss nidxTab C es m st = some (vs, st1)) (k : C f vs st1 = r) : evE clss nidxTab C (.call f es) m st = r := by rw [evE_call, h]; exact k
theorem w_new {cl : Cl} (h : evEs clss nidxTab C es m st = some (vs, st1)) (g : clss[n]? = some cl) (k : C cl.init (.ref st1.length :: vs) (st1 ++ [.inst n []]) = some (.none, st2)) : evE clss nidxTab C (.new n es) m st = some (.ref st1.length, st2) := by
  rw [evE_new, h]; show ob clss[n]? _ = _; rw [g]; show bd (C cl.init (.ref st1.length :: vs) (st1 ++ [.inst n []])) _ = _; rw [k]; rfl
theorem w_meth {fs : List (Nat × V)} {q cn : Nat} {cl : Cl} (h : evE clss nidxTab C o m st = some (.ref p, st1)) (g : st1[p]? = some (.inst cn fs)) (k1 : look n fs = none) (k2 : clss[cn]? = some cl) (k3 : look n cl.meths = some q)
    (k4 : evEs clss nidxTab C es m st1 = some (vs, st2)) (k : C q (.ref p :: vs) st2 = r) : evE clss nidxTab C (.meth o n es) m st = r := by
  rw [evE_meth, h]; show ob st1[p]? _ = _; rw [g]; show onZ (look n fs) _ = _; rw [k1]; show ob clss[cn]? _ = _; rw [k2]; show ob (look n cl.meths) _ = _; rw [k3]; show bd (evEs clss nidxTab C es m st1) _ = _; rw [k4]; exact k
theorem w_lapp (h : evE clss nidxTab C o m st = some (.ref p, st1)) (g : st1[p]? = some (.list vs)) (l : vs.length ≤ maxSeq) (k : evE clss nidxTab C e m st1 = some (v, st2)) (g2 : st2[p]? = some (.list ws)) (l2 : ws.length ≤ maxSeq) (s : st2.set p (.list (ws ++ [v])) = st3) :
    evE clss nidxTab C (.lapp o e) m st = some (.none, st3) := by
  rw [evE_lapp, h]; show ob (listV st1 (.ref p)) _ = _; rw [list_of g l]; show bd (evE clss nidxTab C e m st1) _ = _; rw [k]
  show ob (atL st2 p _) _ = _; rw [atL_of g2, if_pos l2, s]; rfl
theorem w_lext {xs : List V} (h : evE clss nidxTab C o m st = some (.ref p, st1)) (g : st1[p]? = some (.list vs)) (l : vs.length ≤ maxSeq) (k : evE clss nidxTab C e m st1 = some (.ref q, st2)) (g1 : st2[p]? = some (.list xs)) (g2 : st2[q]? = some (.list ws)) (l2 : p ≠ q ∧ xs.length + ws.length ≤ maxSeq) (s : st2.set p (.list (xs ++ ws)) = st3) :
    evE clss nidxTab C (.lext o e) m st = some (.none, st3) := by
  rw [evE_lext, h]; show ob (listV st1 (.ref p)) _ = _; rw [list_of g l]; show bd (evE clss nidxTab C e m st1) _ = _; rw [k]
  show ob (atL st2 p _) _ = _; rw [atL_of g1]; show ob (atL st2 q _) _ = _; rw [atL_of g2, if_pos l2, s]; rfl
theorem w_lpop (h : evE clss nidxTab C o m st = some (.ref p, st1)) (g : st1[p]? = some (.list (vs ++ [v]))) (l : vs.length + 1 ≤ maxSeq) (s : st1.set p (.list vs) = st2) : evE clss nidxTab C (.lpop o) m st = some (v, st2) := by
  rw [evE_lpop, h]; show atL st1 p _ = _; rw [atL_of g, List.getLast?_concat]; show (if (vs ++ [v]).length ≤ maxSeq then _ else _) = _; rw [if_pos (by rw [List.length_append]; exact l), List.dropLast_concat, s]
theorem w_len (h : evE clss nidxTab C e m st = some (.ref p, st1)) (g : st1[p]? = some (.list vs)) (l : vs.length < 4294967296) : evE clss nidxTab C (.len e) m st = some (.int (vs.length : Int), st1) := by
  rw [evE_len, h]; show ob (atL st1 p _) _ = _; rw [atL_of g, if_pos l]; rfl
theorem w_abs (h : evE clss nidxTab C e m st = some (.int i, st1)) : evE clss nidxTab C (.abs e) m st = some (.int i.natAbs, st1) := by rw [evE_abs, h]; rfl
theorem w_min2 (h : evE clss nidxTab C a m st = some (.int i, st1)) (g : evE clss nidxTab C b m st1 = some (.int j, st2)) : evE clss nidxTab C (.min2 a b) m st = some (.int (min i j), st2) := by
  rw [evE_min2, h]; show bd (evE clss nidxTab C b m st1) _ = _; rw [g]; rfl
theorem w_max2 (h : evE clss nidxTab C a m st = some (.int i, st1)) (g : evE clss nidxTab C b m st1 = some (.int j, st2)) : evE clss nidxTab C (.max2 a b) m st = some (.int (max i j), st2) := by
  rw [evE_max2, h]; show bd (evE clss nidxTab C b m st1) _ = _; rw [g]; rfl
theorem w_isi {ty : Ty} (h : evE clss nidxTab C e m st = some (v, st1)) (k : isiV ty v = some t) : evE clss nidxTab C (.isi ty e) m st = some (.bool t, st1) := by rw [evE_isi, h]; show ob (isiV ty v) _ = _; rw [k]; rfl
theorem w_band (h : evAnd clss nidxTab C es m st = r) : evE clss nidxTab C (.band es) m st = r := h
theorem w_bor (h : evOr clss nidxTab C es m st = r) : evE clss nidxTab C (.bor es) m st = r := h
theorem w_nil : evEs clss nidxTab C .nil m st = some ([], st) := rfl
theorem w_cons (h : evE clss nidxTab C e m st = some (v, st1)) (g : evEs clss nidxTab C es m st1 = some (vs, st2)) : evEs clss nidxTab C (.cons e es) m st = some (v :: vs, st2) := by
  rw [evEs_cons, h]; show bd (evEs clss nidxTab C es m st1) _ = _; rw [g]; rfl
theorem w_anil : evAnd clss nidxTab C .nil m st = some (.bool true, st) := rfl
theorem w_acons (h : evE clss nidxTab C e m st = some (.bool t, st1)) (k : cond t (evAnd clss nidxTab C es m st1) (some (.bool false, st1)) = r) : evAnd clss nidxTab C (.cons e es) m st = r := by rw [evAnd_cons, h]; exact k
theorem w_onil : evOr clss nidxTab C .nil m st = some (.bool false, st) := rfl
theorem w_ocons (h : evE clss nidxTab C e m st = some (.bool t, st1)) (k : cond t (some (.bool true, st1)) (evOr clss nidxTab C es m st1) = r) : evOr clss nidxTab C (.cons e es) m st = r := by rw [evOr_cons, h]; exact k
theorem w_seq {oa : Option Nat} (h : evE clss nidxTab C e m st = some (x, st1)) (k : itemsV st1 x = some (vs, oa)) : evIt clss nidxTab C (.seq e) m st = some (vs, oa, st1) := by rw [evIt_seq, h]; show bd (itemsV st1 x) _ = _; rw [k]; rfl
theorem w_rng1 (h : evE clss nidxTab C e m st = some (.int i, st1)) (k : 0 ≤ i ∧ i < 4294967296) : evIt clss nidxTab C (.rng1 e) m st = some (rangeV 0 i, .none, st1) := by rw [evIt_rng1, h]; exact if_pos k
theorem w_rng2 (h : evE clss nidxTab C a m st = some (.int i, st1)) (g : evE clss nidxTab C b m st1 = some (.int j, st2)) (k : 0 ≤ i ∧ i < 4294967296 ∧ 0 ≤ j ∧ j < 4294967296) : evIt clss nidxTab C (.rng2 a b) m st = some (rangeV i j, .none, st2) := by
  rw [evIt_rng2, h]; show bd (evE clss nidxTab C b m st1) _ = _; rw [g]; exact if_pos k
end
section
variable {C : CallF} {m m1 m2 : Lo} {st st1 st2 st3 st4 : St} {e e1 a b c o : Ex} {s : S} {ss sa sb : Ss} {x y z v w : V} {vs ws : List V} {i j : Int} {t : Bool} {p q f n : Nat} {o1 o2 : O} {r : RunR} {ov : Option V}
theorem s_asg (h : evE clss nidxTab C e m st = some (v, st1)) : exS clss nidxTab C (.asg n e) m st = some (.none, put n v m, st1) := by rw [exS_asg, h]; rfl
theorem s_asgT {xs : List Nat} (h : evE clss nidxTab C e m st = some (.tup vs, st1)) (k : bindT xs vs m = some m1) : exS clss nidxTab C (.asgT xs e) m st = some (.none, m1, st1) := by rw [exS_asgT, h]; show ob (bindT xs vs m) _ = _; rw [k]; rfl
theorem s_asgA (h : evE clss nidxTab C e m st = some (v, st1)) (g : evE clss nidxTab C o m st1 = some (.ref p, st2)) (k : st2[p]? = some o1) (l : okF f o1 = true) (s : st2.set p (wrO f v o1) = st3) : exS clss nidxTab C (.asgA o f e) m st = some (.none, m, st3) := by
  rw [exS_asgA, h]; show bd (evE clss nidxTab C o m st1) _ = _; rw [g]; show ob (setAttrV clss st2 (.ref p) f v) _ = _; rw [wr_ok k l, s]; rfl
theorem s_asgI (h : evE clss nidxTab C e m st = some (v, st1)) (g : evE clss nidxTab C o m st1 = some (x, st2)) (l : evE clss nidxTab C a m st2 = some (y, st3)) (k : setIdxV st3 x y v = some st4) : exS clss nidxTab C (.asgI o a e) m st = some (.none, m, st4) := by
  rw [exS_asgI, h]; show bd (evE clss nidxTab C o m st1) _ = _; rw [g]; show bd (evE clss nidxTab C a m st2) _ = _; rw [l]; show ob (setIdxV st3 x y v) _ = _; rw [k]; rfl
theorem s_ret (h : evE clss nidxTab C e m st = some (v, st1)) : exS clss nidxTab C (.ret e) m st = some (some v, m, st1) := by rw [exS_ret, h]; rfl
theorem s_ret0 : exS clss nidxTab C .ret0 m st = some (some .none, m, st) := rfl
theorem s_ite (h : evE clss nidxTab C c m st = some (.bool t, st1)) (k : cond t (exSs clss nidxTab C sa m st1) (exSs clss nidxTab C sb m st1) = r) : exS clss nidxTab C (.ite c sa sb) m st = r := by rw [exS_ite, h]; exact k
theorem s_whl (h : loopW (evE clss nidxTab C c) (exSs clss nidxTab C sa) 64 m st = r) : exS clss nidxTab C (.whl c sa) m st = r := h
theorem s_for1 {it : It} {oa : Option Nat} (h : evIt clss nidxTab C it m st = some (vs, oa, st1)) (l : vs.length ≤ maxSeq) (k : loopF oa vs (fun v m => some (put n v m)) (exSs clss nidxTab C sa) vs m st1 = r) : exS clss nidxTab C (.for1 n it sa) m st = r := by
  rw [exS_for1, h]; exact (if_pos l).trans k
theorem s_forT {it : It} {xs : List Nat} {oa : Option Nat} (h : evIt clss nidxTab C it m st = some (vs, oa, st1)) (l : vs.length ≤ maxSeq) (k : loopF oa vs (fun v m => onT v fun ws => bindT xs ws m) (exSs clss nidxTab C sa) vs m st1 = r) : exS clss nidxTab C (.forT xs it sa) m st = r := by
  rw [exS_forT, h]; exact (if_pos l).trans k
theorem s_exp (h : evE clss nidxTab C e m st = some (v, st1)) : exS clss nidxTab C (.exp e) m st = some (.none, m, st1) := by rw [exS_exp, h]; rfl
theorem s_nil : exSs clss nidxTab C .nil m st = some (.none, m, st) := rfl
theorem s_cons (h : exS clss nidxTab C s m st = some (ov, m1, st1)) (k : orO ov (fun v => some (some v, m1, st1)) (exSs clss nidxTab C ss m1 st1) = r) : exSs clss nidxTab C (.cons s ss) m st = r := by rw [exSs_cons, h]; exact k
theorem s_go {γ : Type} {f : V → γ} {g r : γ} (h : g = r) : orO none f g = r := h
theorem s_stop {γ : Type} {f : V → γ} {g : γ} : orO (some v) f g = f v := rfl
theorem w_fun {d : Nat} {ps : List Nat} {B : Ss} (h : fns[f]? = some ⟨ps, B⟩) (l : ps.length = vs.length) (k : exSs clss nidxTab (Mine.C d) B (ps.zip vs) st = some (ov, m1, st1)) (z : ov.getD .none = v) : Mine.C (d + 1) f vs st = some (v, st1) := by
  show (ob fns[f]? fun F => if F.ps.length = vs.length then (b3 (exSs clss nidxTab (Mine.C d) F.body (F.ps.zip vs) st) fun ov _ st1 => orO ov (fun v => some (v, st1)) (some (.none, st1))) else .none) = _
  rw [h]; show (if ps.length = vs.length then _ else _) = _; rw [if_pos l, k]; cases ov <;> exact z ▸ rfl
end
theorem look_pt {x : Nat} {v : V} : ∀ {m : Lo}, look x (put x v m) = some v
  | [] => if_pos rfl
  | (y, w) :: m => by
    by_cases h : x = y
    · show look x (if x = y then _ else _) = _
      rw [if_pos h]; exact if_pos h
    · show look x (if x = y then _ else _) = _
      rw [if_neg h]; exact (if_neg h).trans look_pt
theorem look_put_ne {x y : Nat} {v : V} (h : x ≠ y) : ∀ {m : Lo}, look x (put y v m) = look x m
  | [] => if_neg h
  | (z, w) :: m => by
    show look x (if y = z then (z, v) :: m else (z, w) :: put y v m) = _
    by_cases h2 : y = z
    · rw [if_pos h2]; exact (if_neg (h2 ▸ h)).trans (if_neg (h2 ▸ h)).symm
    · rw [if_neg h2]
      show (if x = z then some w else look x (put y v m)) = (if x = z then some w else look x m)
      rw [look_put_ne h]
theorem l_pn {x y : Nat} {v : V} {m : Lo} {r : Option V} (h : x ≠ y) (k : look x m = r) : look x (put y v m) = r := (look_put_ne h).trans k
section
variable {st : St} {a : Nat} {vs : List V} {v : V} {i : Int} {k : Nat}
theorem i_list (h : st[a]? = some (.list vs)) (g : 0 ≤ i ∧ i < 4294967296) (k : vs[i.toNat]? = some v) : idxV st (.ref a) (.int i) = some v := by
  show (ob st[a]? fun o => (match o with
    | .list vs => if 0 ≤ i ∧ i < 4294967296 then vs[i.toNat]? else .none
    | .dict es => lookI i es
    | _ => .none)) = _
  rw [h]; exact (if_pos g).trans k
theorem i_dict {es : List (Int × V)} (h : st[a]? = some (.dict es)) (k : lookI i es = some v) : idxV st (.ref a) (.int i) = some v := by
  show (ob st[a]? fun o => (match o with
    | .list vs => if 0 ≤ i ∧ i < 4294967296 then vs[i.toNat]? else .none
    | .dict es => lookI i es
    | _ => .none)) = _
  rw [h]; exact k
theorem d_put {es : List (Int × V)} (h : st[a]? = some (.dict es)) (k : lookI i es = none) (l : es.length ≤ 64) : setIdxV st (.ref a) (.int i) v = some (st.set a (.dict (es ++ [(i, v)]))) := by
  show (ob st[a]? fun x => (match x with
    | .list vs => if 0 ≤ i ∧ i < 4294967296 ∧ i.toNat < vs.length then some (st.set a (.list (vs.set i.toNat v))) else .none
    | .dict es => onZ (lookI i es) (if es.length ≤ 64 then some (st.set a (.dict (es ++ [(i, v)]))) else .none)
    | _ => .none)) = _
  rw [h]; show onZ (lookI i es) _ = _; rw [k]; exact if_pos l
theorem l_set (h : st[a]? = some (.list vs)) (g : 0 ≤ i ∧ i < 4294967296 ∧ i.toNat < vs.length) : setIdxV st (.ref a) (.int i) v = some (st.set a (.list (vs.set i.toNat v))) := by
  show (ob st[a]? fun x => (match x with
    | .list vs => if 0 ≤ i ∧ i < 4294967296 ∧ i.toNat < vs.length then some (st.set a (.list (vs.set i.toNat v))) else .none
    | .dict es => onZ (lookI i es) (if es.length ≤ 64 then some (st.set a (.dict (es ++ [(i, v)]))) else .none)
    | _ => .none)) = _
  rw [h]; exact if_pos g
theorem stays_ok (h : st[a]? = some (.list vs)) : stays st (some a) vs = true := by
  show (match st[a]? with | some o => _ | .none => _) = true
  rw [h]; exact V.sames_refl vs
end
theorem a_list {b : Nat} {xs ys : List V} {st : St} {a : Nat} (h : st[a]? = some (.list xs)) (g : st[b]? = some (.list ys)) (l : xs.length + ys.length ≤ maxSeq) : binV .add (.ref a) (.ref b) st = some (.ref st.length, st ++ [.list (xs ++ ys)]) :=
  (atL_of h).trans ((atL_of g).trans (if_pos l))
theorem m_list {v : V} {st : St} {a : Nat} {y : Int} (h : st[a]? = some (.list [v])) (l : 0 ≤ y ∧ y ≤ 64) : binV .mul (.ref a) (.int y) st = some (.ref st.length, st ++ [.list (List.replicate y.toNat v)]) :=
  (atL_of h).trans (if_pos l)
theorem n_new {st l : St} : (st ++ l)[st.length]? = l[0]? := (List.getElem?_append_right (Nat.le_refl _)).trans (congrArg (l[·]?) (Nat.sub_self _))
section
variable {test : Lo → St → Option (V × St)} {body : Lo → St → RunR} {k : Nat} {m m1 m2 : Lo} {st st1 st2 : St} {r : RunR} {oa : Option Nat} {all vs : List V} {v : V} {bnd : V → Lo → Option Lo}
theorem lw_stop (h : test m st = some (.bool false, st1)) : loopW test body (k + 1) m st = some (.none, m, st1) := by
  show bd (test m st) _ = _; rw [h]; rfl
theorem lw_go (h : test m st = some (.bool true, st1)) (g : body m st1 = some (.none, m2, st2)) (l : loopW test body k m2 st2 = r) : loopW test body (k + 1) m st = r := by
  show bd (test m st) _ = _; rw [h]; show b3 (body m st1) _ = _; rw [g]; exact l
theorem lw_ret (h : test m st = some (.bool true, st1)) (g : body m st1 = some (some v, m2, st2)) : loopW test body (k + 1) m st = some (some v, m2, st2) := by
  show bd (test m st) _ = _; rw [h]; show b3 (body m st1) _ = _; rw [g]; rfl
theorem lf_nil : loopF oa all bnd body [] m st = some (.none, m, st) := rfl
theorem lf_go (h : bnd v m = some m1) (g : body m1 st = some (.none, m2, st2)) (s : stays st2 oa all = true) (l : loopF oa all bnd body vs m2 st2 = r) : loopF oa all bnd body (v :: vs) m st = r := by
  show ob (bnd v m) _ = _; rw [h]; show b3 (body m1 st) _ = _; rw [g]; exact (if_pos s).trans l
theorem lf_ret {w : V} (h : bnd v m = some m1) (g : body m1 st = some (some w, m2, st2)) : loopF oa all bnd body (v :: vs) m st = some (some w, m2, st2) := by
  show ob (bnd v m) _ = _; rw [h]; show b3 (body m1 st) _ = _; rw [g]; rfl
end
section
variable {st st1 : St} {l : List O} {a b k : Nat} {o o' : O} {r : Option O}
theorem h_self (h : st[a]? = some o') : (st.set a o)[a]? = some o := List.getElem?_set_self (List.getElem?_eq_some_iff.mp h).1
theorem h_ne (h : a ≠ b) (k : st[b]? = r) : (st.set a o)[b]? = r := (List.getElem?_set_ne h).trans k
theorem h_app (h : st[a]? = some o) : (st ++ l)[a]? = some o := (List.getElem?_append_left (List.getElem?_eq_some_iff.mp h).1).trans h
theorem h_set : (st.set a o').set a o = st.set a o := List.set_set ..
theorem h_setS (h : st.set a o = st1) : (st.set a o').set a o = st1 := (List.set_set ..).trans h
theorem h_setN (h : a ≠ b) (k : st.set b o = st1) : (st.set a o').set b o = st1.set a o' := k ▸ List.set_comm _ _ h
end
section
variable {x y : Int}
theorem c_ltT (h : x < y) : cmpV .lt (.int x) (.int y) = some true := congrArg some (decide_eq_true h)
theorem c_ltF (h : ¬ x < y) : cmpV .lt (.int x) (.int y) = some false := congrArg some (decide_eq_false h)
theorem c_leT (h : x ≤ y) : cmpV .le (.int x) (.int y) = some true := congrArg some (decide_eq_true h)
theorem c_leF (h : ¬ x ≤ y) : cmpV .le (.int x) (.int y) = some false := congrArg some (decide_eq_false h)
theorem c_gtT (h : y < x) : cmpV .gt (.int x) (.int y) = some true := congrArg some (decide_eq_true h)
theorem c_gtF (h : ¬ y < x) : cmpV .gt (.int x) (.int y) = some false := congrArg some (decide_eq_false h)
theorem c_geT (h : y ≤ x) : cmpV .ge (.int x) (.int y) = some true := congrArg some (decide_eq_true h)
theorem c_geF (h : ¬ y ≤ x) : cmpV .ge (.int x) (.int y) = some false := congrArg some (decide_eq_false h)
end
end Mine
end
section
namespace Mine
section
variable {C : CallF} {m m1 : Lo} {st st1 st2 st3 : St} {e e1 a b c o : Ex} {es : Exs} {x y z v w : V} {vs ws : List V} {i j : Int} {t u : Bool} {p q f n : Nat} {ob1 ob2 : O} {r : Option (V × St)} {rs : Option (List V × St)}
theorem w_upto (h : evE clss nidxTab C e m st = some (x, st1)) (g : evE clss nidxTab C e1 m st1 = some (y, st2)) (k : uptoV st2 x y = r) : evE clss nidxTab C (.upto e e1) m st = r := by
  rw [evE_upto, h]; show bd (evE clss nidxTab C e1 m st1) _ = _; rw [g]; exact k
theorem w_minL {is : List Int} (h : evE clss nidxTab C e m st = some (.ref p, st1)) (g : st1[p]? = some (.list vs)) (l : vs.length ≤ maxSeq) (k : intsOf vs = some is) (k2 : minOf is = some i) : evE clss nidxTab C (.minL e) m st = some (.int i, st1) := by
  rw [evE_minL, h]; show ob (listV st1 (.ref p)) _ = _; rw [list_of g l]; show ob (intsOf vs) _ = _; rw [k]; show ob (minOf is) _ = _; rw [k2]; rfl
theorem w_maxL {is : List Int} (h : evE clss nidxTab C e m st = some (.ref p, st1)) (g : st1[p]? = some (.list vs)) (l : vs.length ≤ maxSeq) (k : intsOf vs = some is) (k2 : maxOf is = some i) : evE clss nidxTab C (.maxL e) m st = some (.int i, st1) := by
  rw [evE_maxL, h]; show ob (listV st1 (.ref p)) _ = _; rw [list_of g l]; show ob (intsOf vs) _ = _; rw [k]; show ob (maxOf is) _ = _; rw [k2]; rfl
theorem w_comp {it : It} {oa : Option Nat} (h : evIt clss nidxTab C it m st = some (vs, oa, st1)) (l : vs.length ≤ maxSeq) (k : loopC oa vs f (evE clss nidxTab C e) (fun _ s => some (.bool true, s)) vs m st1 = some (ws, st2)) : evE clss nidxTab C (.comp e f it) m st = some (.ref st2.length, st2 ++ [.list ws]) := by
  rw [evE_comp, h]; refine (if_pos l).trans ?_; rw [k]; rfl
theorem w_compc {it : It} {oa : Option Nat} (h : evIt clss nidxTab C it m st = some (vs, oa, st1)) (l : vs.length ≤ maxSeq) (k : loopC oa vs f (evE clss nidxTab C e) (evE clss nidxTab C c) vs m st1 = some (ws, st2)) : evE clss nidxTab C (.compc e f it c) m st = some (.ref st2.length, st2 ++ [.list ws]) := by
  rw [evE_compc, h]; refine (if_pos l).trans ?_; rw [k]; rfl
theorem w_srt {cn kn : Nat} {fs : List (Nat × V)} {cl : Cl} {ks : List (List V)} {out : List (List V × V)} (h : evE clss nidxTab C e m st = some (.ref p, st1)) (g : evE clss nidxTab C o m st1 = some (.ref q, st2)) (k1 : st2[q]? = some (.inst cn fs)) (k2 : st2[p]? = some (.list vs)) (k3 : look n fs = none) (k4 : clss[cn]? = some cl) (k5 : look n cl.meths = some kn)
    (l : vs.length ≤ 5) (k6 : keysOf C kn (.ref q) p vs vs st2 = some (ks, st3)) (k7 : okKeys ks = true) (k8 : sortK (ks.zip vs) = some out) : evE clss nidxTab C (.srt e o n) m st = some (.ref st3.length, st3 ++ [.list (out.map (·.2))]) := by
  rw [evE_srt, h]; show bd (evE clss nidxTab C o m st1) _ = _; rw [g]; show (ob st2[q]? _) = _; rw [k1]; show (ob st2[p]? _) = _; rw [k2]; show onZ (look n fs) _ = _; rw [k3]; show ob clss[cn]? _ = _; rw [k4]; show ob (look n cl.meths) _ = _; rw [k5]
  refine (if_pos l).trans ?_; rw [k6]; refine (if_pos k7).trans ?_; rw [k8]; rfl
end
section
variable {test : Lo → St → Option (V × St)} {body : Lo → St → RunR} {k : Nat} {m m1 m2 : Lo} {st st1 st2 : St} {r : RunR} {oa : Option Nat} {all vs : List V} {v : V} {bnd : V → Lo → Option Lo}
theorem ks_cons {C : CallF} {f : Nat} {self : V} {a : Nat} {ks : List V} {kss : List (List V)} {st3 : St} (h : C f [self, v] st = some (.tup ks, st1)) (s : stays st1 (some a) all = true) (l : keysOf C f self a all vs st1 = some (kss, st3)) : keysOf C f self a all (v :: vs) st = some (ks :: kss, st3) := by
  show bd (C f [self, v] st) _ = _; rw [h]; refine (if_pos s).trans ?_; rw [l]; rfl
theorem lc_t {x : Nat} {elt cnd : Lo → St → Option (V × St)} {st3 : St} {w : V} {ws : List V} (h : cnd (put x v m) st = some (.bool true, st1)) (g : elt (put x v m) st1 = some (w, st2)) (s : stays st2 oa all = true) (l : loopC oa all x elt cnd vs m st2 = some (ws, st3)) : loopC oa all x elt cnd (v :: vs) m st = some (w :: ws, st3) := by
  show bd (cnd (put x v m) st) _ = _; rw [h]; show bd (elt (put x v m) st1) _ = _; rw [g]; refine (if_pos s).trans ?_; rw [l]; rfl
theorem lc_f {x : Nat} {elt cnd : Lo → St → Option (V × St)} {r : Option (List V × St)} (h : cnd (put x v m) st = some (.bool false, st1)) (s : stays st1 oa all = true) (l : loopC oa all x elt cnd vs m st1 = r) : loopC oa all x elt cnd (v :: vs) m st = r := by
  show bd (cnd (put x v m) st) _ = _; rw [h]; exact (if_pos s).trans l
end
end Mine
end
local macro_rules | `(tactic| walk_at "w1") => `(tactic| with_reducible first
  | assumption | apply Mine.s_cons | apply Mine.s_nil | apply Mine.s_go | apply Mine.s_stop | apply Mine.cT | apply Mine.cF | apply Mine.cNT | apply Mine.cNF | apply Mine.w_var | apply Mine.w_val | apply Mine.w_attr | apply Mine.w_call | apply Mine.w_cmp | apply Mine.w_cons | apply Mine.w_nil | apply Mine.w_bin | apply Mine.w_ite | apply Mine.w_max2 | apply Mine.w_min2 | apply Mine.s_asgA | apply Mine.s_asg | apply Mine.s_exp | apply Mine.s_ret | apply Mine.s_ite | apply Mine.w_not | apply Mine.w_neg | apply Mine.w_cmp3 | apply Mine.w_cm2 | apply Mine.w_tup | apply Mine.w_lst | apply Mine.w_idx | apply Mine.w_upto | apply Mine.w_rev | apply Mine.w_new | apply Mine.w_meth | apply Mine.w_lapp | apply Mine.w_lext | apply Mine.w_lpop | apply Mine.w_len | apply Mine.w_abs | apply Mine.w_isi | apply Mine.w_band | apply Mine.w_bor | apply Mine.w_anil | apply Mine.w_acons | apply Mine.w_onil | apply Mine.w_ocons | apply Mine.w_seq | apply Mine.w_rng1 | apply Mine.w_rng2 | apply Mine.s_asgT | apply Mine.s_asgI | apply Mine.s_ret0 | apply Mine.s_for1 | apply Mine.s_forT
  | ((change Mine.look _ _ = _); first | with_unfolding_all apply Eq.refl | apply Mine.look_pt | (apply Mine.l_pn; decide))
  | ((change Mine.idxV _ _ _ = _); first | with_unfolding_all apply Eq.refl)
  | ((change Mine.setIdxV _ _ _ _ = _); apply Mine.d_put)
  | ((change Mine.isiV _ _ = _); first | with_unfolding_all apply Eq.refl)
  | ((change Mine.bindT _ _ _ = _); with_unfolding_all apply Eq.refl)
  | ((change Mine.itemsV _ _ = _); first | apply Mine.items_of | with_unfolding_all apply Eq.refl)
  | ((change Option.getD _ _ = _); with_unfolding_all apply Eq.refl)
  | ((change Mine.fldO _ _ = _); with_unfolding_all apply Eq.refl)
  | ((change Mine.okF _ _ = _); kernel_rfl)
  | ((change Mine.cmpV _ _ _ = _); first | exact Mine.c_leT (by assumption) | exact Mine.c_leF (by assumption) | exact Mine.c_ltT (by assumption) | exact Mine.c_ltF (by assumption) | exact Mine.c_geT (by assumption) | exact Mine.c_geF (by assumption) | exact Mine.c_gtT (by assumption) | exact Mine.c_gtF (by assumption) | with_unfolding_all apply (Eq.refl (some true)) | with_unfolding_all apply (Eq.refl (some false)) | with_unfolding_all apply Eq.refl)
  | ((change Mine.binV _ _ _ _ = _); first | with_unfolding_all apply Eq.refl)
  | ((change _[_]? = some _); first | apply Mine.h_self | apply Mine.h_ne | apply Mine.h_app)
  | ((change _ ≠ _); first | exact Ne.symm (by assumption) | decide)
  | ((change List.set _ _ _ = _); first | apply Mine.h_set | apply Mine.h_setN | apply Eq.refl)
  | ((change some _ = some _); with_unfolding_all apply Eq.refl)
  | ((change Mine.exSs _ _ _ Mine.Ss.nil _ _ = _); kernel_rfl)
  | ((change Mine.orO (some _) _ _ = _); kernel_rfl)
  | apply Eq.refl)
section
namespace Mine
theorem lt_of_at {st : St} {a : Nat} {o : O} (h : st[a]? = some o) : a < st.length := (List.getElem?_eq_some_iff.mp h).1
theorem set_same {st : St} {a : Nat} {o : O} (h : st[a]? = some o) : st.set a o = st := by
  obtain ⟨hl, e⟩ := List.getElem?_eq_some_iff.mp h
  rw [← e]; exact List.set_getElem_self hl
section
variable (bn en : Int) (x : ND)
noncomputable def insT : T → T
  | .nil => .node x true .nil .nil
  | .node y c l r => if bn ≤ y.b then .node { y with lim := max y.lim en } c (insT l) r else .node { y with lim := max y.lim en } c l (insT r)
noncomputable def updT : T → T
  | .nil => .nil
  | .node y c l r => if bn ≤ y.b then .node { y with lim := max y.lim en } c (updT l) r else .node { y with lim := max y.lim en } c l (updT r)
noncomputable def parT (p : V) : T → V
  | .nil => p
  | .node y _ l r => if bn ≤ y.b then parT (.ref y.a) l else parT (.ref y.a) r
noncomputable def sideT (i : Bool) : T → Bool
  | .nil => i
  | .node y _ l r => if bn ≤ y.b then sideT true l else sideT false r
noncomputable def depT : T → Nat
  | .nil => 0
  | .node y _ l r => (if bn ≤ y.b then depT l else depT r) + 1
end
section
variable {bn en : Int} {x : ND}
theorem updT_l {y : ND} {c : Bool} {l r : T} (h : bn ≤ y.b) : updT bn en (.node y c l r) = .node { y with lim := max y.lim en } c (updT bn en l) r := if_pos h
theorem updT_r {y : ND} {c : Bool} {l r : T} (h : ¬ bn ≤ y.b) : updT bn en (.node y c l r) = .node { y with lim := max y.lim en } c l (updT bn en r) := if_neg h
theorem insT_l {y : ND} {c : Bool} {l r : T} (h : bn ≤ y.b) : insT bn en x (.node y c l r) = .node { y with lim := max y.lim en } c (insT bn en x l) r := if_pos h
theorem insT_r {y : ND} {c : Bool} {l r : T} (h : ¬ bn ≤ y.b) : insT bn en x (.node y c l r) = .node { y with lim := max y.lim en } c l (insT bn en x r) := if_neg h
theorem parT_l {y : ND} {c : Bool} {l r : T} {p : V} (h : bn ≤ y.b) : parT bn p (.node y c l r) = parT bn (.ref y.a) l := if_pos h
theorem parT_r {y : ND} {c : Bool} {l r : T} {p : V} (h : ¬ bn ≤ y.b) : parT bn p (.node y c l r) = parT bn (.ref y.a) r := if_neg h
theorem sideT_l {y : ND} {c i : Bool} {l r : T} (h : bn ≤ y.b) : sideT bn i (.node y c l r) = sideT bn true l := if_pos h
theorem sideT_r {y : ND} {c i : Bool} {l r : T} (h : ¬ bn ≤ y.b) : sideT bn i (.node y c l r) = sideT bn false r := if_neg h
theorem depT_l {y : ND} {c : Bool} {l r : T} (h : bn ≤ y.b) : depT bn (.node y c l r) = depT bn l + 1 := congrArg (· + 1) (if_pos h)
theorem depT_r {y : ND} {c : Bool} {l r : T} (h : ¬ bn ≤ y.b) : depT bn (.node y c l r) = depT bn r + 1 := congrArg (· + 1) (if_neg h)
end
section
variable {bn en : Int} {x : ND} {y : ND} {c : Bool} {l r : T} {an z : Nat}
theorem mem_node : z ∈ (T.node y c l r).inl.map ND.a ↔ z ∈ l.inl.map ND.a ∨ z = y.a ∨ z ∈ r.inl.map ND.a := by
  show z ∈ (l.inl ++ (y :: r.inl)).map ND.a ↔ _
  rw [List.map_append, List.mem_append, List.map_cons, List.mem_cons]
theorem nin (h : z ∉ (T.node y c l r).inl.map ND.a) : z ∉ l.inl.map ND.a ∧ z ≠ y.a ∧ z ∉ r.inl.map ND.a :=
  ⟨fun k => h (mem_node.mpr (.inl k)), fun k => h (mem_node.mpr (.inr (.inl k))), fun k => h (mem_node.mpr (.inr (.inr k)))⟩
theorem nd_node (h : (an :: (T.node y c l r).inl.map ND.a).Nodup) : an ≠ y.a ∧ y.a ∉ l.inl.map ND.a ∧ y.a ∉ r.inl.map ND.a ∧ (an :: l.inl.map ND.a).Nodup ∧ (an :: r.inl.map ND.a).Nodup ∧ ∀ z ∈ l.inl.map ND.a, z ∉ r.inl.map ND.a := by
  obtain ⟨h1, h2⟩ := List.nodup_cons.mp h
  obtain ⟨h3, h4, h5⟩ := nin h1
  replace h2 : ((l.inl ++ (y :: r.inl)).map ND.a).Nodup := h2
  rw [List.map_append, List.map_cons] at h2
  obtain ⟨n1, n2, n3⟩ := List.nodup_append.mp h2
  obtain ⟨n4, n5⟩ := List.nodup_cons.mp n2
  exact ⟨h4, fun k => n3 _ k _ (.head _) rfl, n4, List.nodup_cons.mpr ⟨h3, n1⟩, List.nodup_cons.mpr ⟨h5, n5⟩, fun z k1 k2 => n3 _ k1 _ (.tail _ k2) rfl⟩
theorem updT_ref {t : T} : (updT bn en t).ref = t.ref := by
  cases t with
  | nil => rfl
  | node y c l r => by_cases h : bn ≤ y.b <;> simp only [updT_l, updT_r, h, not_false_eq_true] <;> rfl
theorem updT_a {α : Type} {f : ND → α} (hf : ∀ x lim, f { x with lim := lim } = f x) {t : T} : (updT bn en t).inl.map f = t.inl.map f := by
  induction t with
  | nil => rfl
  | node y c l r ihl ihr =>
    have e : ∀ {y : ND} {l r : T}, (T.node y c l r).inl.map f = l.inl.map f ++ (f y :: r.inl.map f) := List.map_append
    by_cases h : bn ≤ y.b
    · rw [updT_l h, e, e, ihl, hf]
    · rw [updT_r h, e, e, ihr, hf]
theorem At_congr {st st' : St} {t : T} : ∀ {p : V}, (∀ z ∈ t.inl.map ND.a, st'[z]? = st[z]?) → t.At st p → t.At st' p := by
  induction t with
  | nil => exact fun _ _ => trivial
  | node y c l r ihl ihr => exact fun h ⟨h1, h2, h3⟩ => ⟨(h _ (mem_node.mpr (.inr (.inl rfl)))).trans h1, ihl (fun z hz => h z (mem_node.mpr (.inl hz))) h2, ihr (fun z hz => h z (mem_node.mpr (.inr (.inr hz)))) h3⟩
theorem hand_down_ok {d : Nat} {st : St} {a : Nat} {num b e lim : Int} {red : Bool} {l r p : V} (h : st[a]? = some (nodeO num b e lim red l r p)) : C (d + 1) 26 [.ref a] st = some (.none, st) := by
  have := frame (d := d + 1) (f := 26) (args := [.ref a]) (v := .none) (st := st) [a] [nodeO num b e lim red l r p] [nodeO num b e lim red l r p] (by simp) (by simp only [List.map_cons, List.map_nil, h]) rfl (fun σ rest hσ => by
    have h0 := hσ 0 a rfl
    simp only [renL, ren, h0]; kernel_rfl)
  rw [this]; congr 2
  exact set_same h
noncomputable abbrev dTest (d : Nat) := evE clss nidxTab (C d) (.cmp .isn (.var 15) (.val .none))
noncomputable abbrev dBody (d : Nat) := exSs clss nidxTab (C d) (.cons (.exp (.call 26 (.cons (.var 15) .nil))) (.cons (.asgA (.var 15) 31 (.max2 (.attr (.var 15) 31) (.attr (.var 8) 26))) (.cons (.asg 3 (.var 15)) (.cons (.asg 36 (.cmp .le (.attr (.var 8) 18) (.attr (.var 15) 18))) (.cons (.asg 15 (.ite (.var 36) (.attr (.var 15) 5) (.attr (.var 15) 4))) .nil)))))
noncomputable abbrev dLo (tr an : Nat) (h p : V) (i : Bool) : Lo := [(9, .ref tr), (8, .ref an), (15, h), (3, p), (36, .bool i)]
theorem down_step {d tr an ya : Nat} {num b e lim l0 : Int} {red c : Bool} {lo ro p0 q v1 v2 v3 : V} {i : Bool} {st : St} (hy : st[ya]? = some (nodeO num b e lim c lo ro q)) (hn : st[an]? = some (nodeO x.num bn en l0 red v1 v2 v3)) (ne : ya ≠ an) :
    dTest (d + 1) (dLo tr an (.ref ya) p0 i) st = some (.bool true, st) ∧
    dBody (d + 1) (dLo tr an (.ref ya) p0 i) st = some (.none, dLo tr an (if bn ≤ b then lo else ro) (.ref ya) (decide (bn ≤ b)), st.set ya (nodeO num b e (max lim en) c lo ro q)) := by
  have hh := hand_down_ok (d := d) hy
  have ne' := Ne.symm ne
  refine ⟨rfl, ?_⟩
  by_cases h : bn ≤ b
  · rw [if_pos h, decide_eq_true h]
    repeat walk_at "w1"
  · rw [if_neg h, decide_eq_false h]
    repeat walk_at "w1"
theorem down {d tr : Nat} {l0 : Int} {red : Bool} {v1 v2 v3 : V} {t : T} : ∀ {k : Nat} {p0 q : V} {i : Bool} {st : St}, t.At st q → (an :: t.inl.map ND.a).Nodup → st[an]? = some (nodeO x.num bn en l0 red v1 v2 v3) → depT bn t + 1 ≤ k →
    ∃ st', loopW (dTest (d + 1)) (dBody (d + 1)) k (dLo tr an t.ref p0 i) st = some (.none, dLo tr an .none (parT bn p0 t) (sideT bn i t), st') ∧ (updT bn en t).At st' q ∧ (∀ z, z ∉ t.inl.map ND.a → st'[z]? = st[z]?) ∧ st'.length = st.length := by
  induction t with
  | nil =>
    intro k p0 q i st _ _ _ hk
    cases k with
    | zero => exact absurd hk (Nat.not_succ_le_zero _)
    | succ k => exact ⟨st, lw_stop rfl, trivial, fun _ _ => rfl, rfl⟩
  | node y c l r ihl ihr =>
    intro k p0 q i st ⟨h1, h2, h3⟩ nd hn hk
    cases k with
    | zero => exact absurd hk (Nat.not_succ_le_zero _)
    | succ k =>
      obtain ⟨n2, yl, yr, dl, dr, lr⟩ := nd_node nd
      obtain ⟨e1, e2⟩ := down_step (d := d) (tr := tr) (x := x) (p0 := p0) (i := i) h1 hn (Ne.symm n2)
      have fr : ∀ {z}, z ≠ y.a → (st.set y.a (nodeO y.num y.b y.e (max y.lim en) c l.ref r.ref q))[z]? = st[z]? := fun hz => List.getElem?_set_ne (Ne.symm hz)
      have self := h_self (o := nodeO y.num y.b y.e (max y.lim en) c l.ref r.ref q) h1
      have Al := At_congr (fun z hz => fr fun e => yl (e ▸ hz)) h2
      have Ar := At_congr (fun z hz => fr fun e => yr (e ▸ hz)) h3
      by_cases h : bn ≤ y.b
      · rw [depT_l h] at hk
        rw [if_pos h, decide_eq_true h] at e2
        obtain ⟨st', q1, q2, q3, q4⟩ := ihl (k := k) (p0 := .ref y.a) (i := true) Al dl ((fr n2).trans hn) (Nat.le_of_succ_le_succ hk)
        rw [parT_l h, sideT_l h, updT_l h]
        exact ⟨st', lw_go e1 e2 q1, ⟨((q3 _ yl).trans self).trans (by rw [updT_ref]), q2, At_congr (fun z hz => q3 z fun k => lr z k hz) Ar⟩, fun z hz => (q3 z (nin hz).1).trans (fr (nin hz).2.1), q4.trans List.length_set⟩
      · rw [depT_r h] at hk
        rw [if_neg h, decide_eq_false h] at e2
        obtain ⟨st', q1, q2, q3, q4⟩ := ihr (k := k) (p0 := .ref y.a) (i := false) Ar dr ((fr n2).trans hn) (Nat.le_of_succ_le_succ hk)
        rw [parT_r h, sideT_r h, updT_r h]
        exact ⟨st', lw_go e1 e2 q1, ⟨((q3 _ yr).trans self).trans (by rw [updT_ref]), At_congr (fun z hz => q3 z fun k => lr z hz k) Al, q2⟩, fun z hz => (q3 z (nin hz).2.2).trans (fr (nin hz).2.1), q4.trans List.length_set⟩
theorem ins_ref {t : T} (h : t ≠ .nil) : (insT bn en x t).ref = t.ref := by
  cases t with
  | nil => exact absurd rfl h
  | node y c l r => by_cases h : bn ≤ y.b <;> simp only [insT_l, insT_r, h, not_false_eq_true] <;> rfl
inductive Place (en : Int) (x : ND) (p0 q : V) (i : Bool) (st : St) (t : T) : Prop
  | mk (pa : Nat) (n b e lim : Int) (c : Bool) (l r p : V) (e1 : parT x.b p0 t = .ref pa) (e2 : pa ∈ t.inl.map ND.a) (e3 : st[pa]? = some (nodeO n b e lim c l r p))
    (e4 : ∀ st2 : St, st2[pa]? = some (nodeO n b e lim c (if sideT x.b i t then .ref x.a else l) (if sideT x.b i t then r else .ref x.a) p) → st2[x.a]? = some (nodeO x.num x.b x.e x.lim true .none .none (.ref pa)) →
        (∀ z, z ≠ pa → z ≠ x.a → st2[z]? = st[z]?) → (insT x.b en x t).At st2 q)
theorem place {t : T} : ∀ {p0 q : V} {i : Bool} {st : St}, t ≠ .nil → (updT x.b en t).At st q → (x.a :: t.inl.map ND.a).Nodup → Place en x p0 q i st t := by
  induction t with
  | nil => exact fun h _ _ => absurd rfl h
  | node y c l r ihl ihr =>
    intro p0 q i st _ A nd
    obtain ⟨n2, yl, yr, dl, dr, lr⟩ := nd_node nd
    have nl := (List.nodup_cons.mp dl).1
    have nr := (List.nodup_cons.mp dr).1
    by_cases h : x.b ≤ y.b
    · rw [updT_l h] at A
      obtain ⟨h1, h2, h3⟩ := A
      by_cases hl : l = .nil
      · subst hl
        exact ⟨y.a, _, _, _, _, _, _, _, _, parT_l h, mem_node.mpr (.inr (.inl rfl)), h1, fun st2 k1 k2 k3 => insT_l (x := x) (en := en) h ▸ ⟨(by rw [sideT_l h] at k1; exact k1), ⟨k2, trivial, trivial⟩, At_congr (fun z hz => k3 z (fun e => yr (e ▸ hz)) (fun e => nr (e ▸ hz))) h3⟩⟩
      · obtain ⟨pa, n, b, e, lim, c', lo, ro, p, e1, e2, e3, e4⟩ := ihl (p0 := .ref y.a) (i := true) hl h2 dl
        exact ⟨pa, n, b, e, lim, c', lo, ro, p, (parT_l h).trans e1, mem_node.mpr (.inl e2), e3, fun st2 k1 k2 k3 => insT_l (x := x) (en := en) h ▸ ⟨((k3 _ (fun z : y.a = pa => yl (z ▸ e2)) (Ne.symm n2)).trans h1).trans (by rw [updT_ref, ins_ref hl]), e4 st2 (sideT_l h ▸ k1) k2 k3, At_congr (fun z hz => k3 z (fun e => lr _ e2 (e ▸ hz)) (fun e => nr (e ▸ hz))) h3⟩⟩
    · rw [updT_r h] at A
      obtain ⟨h1, h2, h3⟩ := A
      by_cases hl : r = .nil
      · subst hl
        exact ⟨y.a, _, _, _, _, _, _, _, _, parT_r h, mem_node.mpr (.inr (.inl rfl)), h1, fun st2 k1 k2 k3 => insT_r (x := x) (en := en) h ▸ ⟨(by rw [sideT_r h] at k1; exact k1), At_congr (fun z hz => k3 z (fun e => yl (e ▸ hz)) (fun e => nl (e ▸ hz))) h2, ⟨k2, trivial, trivial⟩⟩⟩
      · obtain ⟨pa, n, b, e, lim, c', lo, ro, p, e1, e2, e3, e4⟩ := ihr (p0 := .ref y.a) (i := false) hl h3 dr
        exact ⟨pa, n, b, e, lim, c', lo, ro, p, (parT_r h).trans e1, mem_node.mpr (.inr (.inr e2)), e3, fun st2 k1 k2 k3 => insT_r (x := x) (en := en) h ▸ ⟨((k3 _ (fun z : y.a = pa => yr (z ▸ e2)) (Ne.symm n2)).trans h1).trans (by rw [updT_ref, ins_ref hl]), At_congr (fun z hz => k3 z (fun e => lr _ hz (e ▸ e2)) (fun e => nl (e ▸ hz))) h2, e4 st2 (sideT_r h ▸ k1) k2 k3⟩⟩
end
end Mine
end
section
namespace Mine
noncomputable def Sk.clean : Sk → Sk
  | .nil => .nil
  | .node c _ l r => .node c false l.clean r.clean
noncomputable def atts : Sk → List (Sk × Nat)
  | .nil => [(.node true false .nil .nil, 0)]
  | .node c m l r => (atts l).map (fun p => (.node c m p.1 r, p.2)) ++ (atts r).map (fun p => (.node c m l p.1, l.size + (p.2 + 1)))
noncomputable def ivs (u : Bool) : Sk → Nat → List (Nat × Nat × Nat)
  | .nil, _ => []
  | .node _ m l r, o => (if u && m then [] else [(o + l.size, o, o + (l.size + (r.size + 1)))]) ++ (ivs u l o ++ ivs u r (o + (l.size + 1)))
noncomputable def bndOk (s0 s1 : Sk) : Bool := (ivs true s1 0).all fun p => (ivs false s0 0).any fun q => p.1 == q.1 && (decide (q.2.1 ≤ p.2.1) && decide (p.2.2 ≤ q.2.2))
noncomputable def tabOk : Bool := (List.range 4).all fun n => (reach.getD (n + 1) []).all fun s => (atts s).all fun p => table.any fun c => c.1 == p.1 && (c.2.1 == p.2 && ((reach.getD (n + 2) []).contains c.2.2.clean && bndOk p.1 c.2.2))
theorem tab_ok : tabOk = true := by decide +kernel
theorem reach0 : reach.getD 0 [] = [.nil] := rfl
theorem sk_nil {t : T} (h : t.sk = .nil) : t = .nil := by cases t with | nil => rfl | node _ _ _ _ => cases h
theorem sk_pos : ((List.range 5).all fun n => (reach.getD (n + 1) []).all fun s => s != .nil) = true := by decide +kernel
theorem sk_deep : (reach.all fun l => l.all fun s => decide (s.size ≤ 5)) = true := by decide +kernel
section
variable {bn en : Int} {x : ND}
theorem ins_att : ∀ {t : T}, ∃ g, ((insT bn en x t).sk, g) ∈ atts t.sk ∧ (insT bn en x t).inl[g]? = some x
  | .nil => ⟨0, .head _, rfl⟩
  | .node y c l r => by
    simp only [insT]
    split
    · obtain ⟨g, h1, h2⟩ := ins_att (t := l)
      refine ⟨g, List.mem_append_left _ (List.mem_map.mpr ⟨_, h1, rfl⟩), ?_⟩
      rw [T.inl, List.getElem?_append_left (List.getElem?_eq_some_iff.mp h2).1]; exact h2
    · obtain ⟨g, h1, h2⟩ := ins_att (t := r)
      refine ⟨l.inl.length + (g + 1), List.mem_append_right _ (List.mem_map.mpr ⟨_, h1, by rw [sk_size]; rfl⟩), ?_⟩
      rw [T.inl, List.getElem?_append_right (by (first | lia | omega)), show l.inl.length + (g + 1) - l.inl.length = g + 1 by (first | lia | omega)]; exact h2
theorem bld_clean {D : Nat → ND} : ∀ {s : Sk} {o : Nat}, (bld s D o).sk = s.clean
  | .nil, _ => rfl
  | .node c m l r, o => by
    have e1 := bld_clean (D := D) (s := l) (o := o)
    have e2 := bld_clean (D := D) (s := r) (o := o + (l.size + 1))
    simp only [bld, T.sk, Sk.clean, e1, e2]
noncomputable def ND.key (x : ND) : Nat × Int × Int × Int := (x.a, x.num, x.b, x.e)
theorem ins_key : ∀ {t : T}, ∃ L R, t.inl.map ND.key = L ++ R ∧ (insT bn en x t).inl.map ND.key = L ++ x.key :: R
  | .nil => ⟨[], [], rfl, rfl⟩
  | .node y c l r => by
    simp only [insT]
    split
    · obtain ⟨L, R, h1, h2⟩ := ins_key (t := l)
      refine ⟨L, R ++ (y.key :: r.inl.map ND.key), ?_, ?_⟩
      · simp only [T.inl, List.map_append, List.map_cons, h1, List.append_assoc]
      · simp only [T.inl, List.map_append, List.map_cons, h2, List.append_assoc, List.cons_append]; rfl
    · obtain ⟨L, R, h1, h2⟩ := ins_key (t := r)
      refine ⟨l.inl.map ND.key ++ (y.key :: L), R, ?_, ?_⟩
      · simp only [T.inl, List.map_append, List.map_cons, h1, List.append_assoc, List.cons_append]
      · simp only [T.inl, List.map_append, List.map_cons, h2, List.append_assoc, List.cons_append]; rfl
noncomputable def Srt (l : List (Nat × Int × Int × Int)) : Prop := l.Pairwise fun p q => p.2.2.1 ≤ q.2.2.1
theorem ins_srt (hb : x.b = bn) : ∀ {t : T}, Srt (t.inl.map ND.key) → Srt ((insT bn en x t).inl.map ND.key)
  | .nil, _ => by simp [Srt, insT, T.inl]
  | .node y c l r, h => by
    simp only [Srt, T.inl, List.map_append, List.map_cons, List.pairwise_append, List.pairwise_cons, List.mem_cons] at h
    obtain ⟨h1, ⟨h2, h3⟩, h4⟩ := h
    have hx : ∀ {t : T} {p}, p ∈ (insT bn en x t).inl.map ND.key → p = x.key ∨ p ∈ t.inl.map ND.key := fun {t p} hp => by
      obtain ⟨L, R, e1, e2⟩ := ins_key (bn := bn) (en := en) (x := x) (t := t)
      rw [e2, List.mem_append, List.mem_cons] at hp
      rw [e1, List.mem_append]
      rcases hp with hp | hp | hp
      · exact .inr (.inl hp)
      · exact .inl hp
      · exact .inr (.inr hp)
    simp only [insT]
    split
    · rename_i q
      simp only [Srt, T.inl, List.map_append, List.map_cons, List.pairwise_append, List.pairwise_cons, List.mem_cons]
      refine ⟨ins_srt hb h1, ⟨h2, h3⟩, fun p hp q' hq' => ?_⟩
      rcases hx hp with rfl | hp
      · rcases hq' with rfl | hq'
        · show x.b ≤ y.b; rw [hb]; exact q
        · have := h2 _ hq'; show x.b ≤ _; rw [hb]; exact Int.le_trans q this
      · exact h4 p hp q' hq'
    · rename_i q
      simp only [Srt, T.inl, List.map_append, List.map_cons, List.pairwise_append, List.pairwise_cons, List.mem_cons]
      have q' : y.b ≤ x.b := by rw [hb]; (first | lia | omega)
      refine ⟨h1, ⟨fun p hp => ?_, ins_srt hb h3⟩, fun p hp z hz => ?_⟩
      · rcases hx hp with rfl | hp
        · exact q'
        · exact h2 _ hp
      · rcases hz with rfl | hz
        · exact h4 p hp _ (.inl rfl)
        · rcases hx hz with rfl | hz
          · exact Int.le_trans (h4 p hp _ (.inl rfl)) q'
          · exact h4 p hp _ (.inr hz)
noncomputable def T.Bd : T → Prop
  | .nil => True
  | .node x _ l r => x.e ≤ x.lim ∧ (∀ y ∈ l.inl, y.e ≤ x.lim) ∧ (∀ y ∈ r.inl, y.e ≤ x.lim) ∧ l.Bd ∧ r.Bd
theorem ins_e {t : T} {y : ND} (h : y ∈ (insT bn en x t).inl) : y.e = x.e ∨ ∃ z ∈ t.inl, z.e = y.e := by
  obtain ⟨L, R, e1, e2⟩ := ins_key (bn := bn) (en := en) (x := x) (t := t)
  have := List.mem_map_of_mem (f := ND.key) h
  rw [e2, List.mem_append, List.mem_cons] at this
  have k : y.key = x.key ∨ y.key ∈ t.inl.map ND.key := by
    rw [e1, List.mem_append]
    rcases this with h | h | h
    · exact .inr (.inl h)
    · exact .inl h
    · exact .inr (.inr h)
  rcases k with k | k
  · exact .inl (congrArg (·.2.2.2) k)
  · obtain ⟨z, hz, e⟩ := List.mem_map.mp k
    exact .inr ⟨z, hz, congrArg (·.2.2.2) e⟩
theorem ins_bd (he : x.e = en) (hl : x.e ≤ x.lim) : ∀ {t : T}, t.Bd → (insT bn en x t).Bd
  | .nil, _ => ⟨hl, fun _ h => (by cases h), fun _ h => (by cases h), trivial, trivial⟩
  | .node y c l r, ⟨h1, h2, h3, h4, h5⟩ => by
    simp only [insT]
    split
    · refine ⟨by show y.e ≤ max y.lim en; (first | lia | omega), fun z hz => ?_, fun z hz => ?_, ins_bd he hl h4, h5⟩
      · show z.e ≤ max y.lim en
        rcases ins_e hz with h | ⟨w, hw, h⟩
        · (first | lia | omega)
        · have := h2 w hw; (first | lia | omega)
      · have := h3 z hz; show z.e ≤ max y.lim en; (first | lia | omega)
    · refine ⟨by show y.e ≤ max y.lim en; (first | lia | omega), fun z hz => ?_, fun z hz => ?_, h4, ins_bd he hl h5⟩
      · have := h2 z hz; show z.e ≤ max y.lim en; (first | lia | omega)
      · show z.e ≤ max y.lim en
        rcases ins_e hz with h | ⟨w, hw, h⟩
        · (first | lia | omega)
        · have := h3 w hw; (first | lia | omega)
theorem bld_mem {D : Nat → ND} {s : Sk} {o : Nat} {y : ND} (h : y ∈ (bld s D o).inl) : ∃ j, o ≤ j ∧ j < o + s.size ∧ y.e = (D j).e := by
  have h1 := List.mem_map_of_mem (f := ND.e) h
  rw [bld_inl (f := ND.e) (fun _ _ => rfl)] at h1
  obtain ⟨j, hj, e⟩ := List.mem_map.mp h1
  rw [List.mem_range] at hj
  exact ⟨o + j, by (first | lia | omega), by (first | lia | omega), e.symm⟩
theorem bd_ivs {D : Nat → ND} : ∀ {s : Sk} {o : Nat}, s.clean = s → (bld s D o).Bd → ∀ p ∈ ivs false s o, ∀ j, p.2.1 ≤ j → j < p.2.2 → (D j).e ≤ (D p.1).lim
  | .nil, _, _, _, p, hp, _, _, _ => by cases hp
  | .node c m l r, o, hc, hb, p, hp, j, h1, h2 => by
    simp only [Sk.clean, Sk.node.injEq] at hc
    obtain ⟨_, hm, c1, c2⟩ := hc
    subst hm
    obtain ⟨b1, b2, b3, b4, b5⟩ := hb
    simp only [ivs, Bool.false_and, Bool.false_eq_true, if_false, List.cons_append, List.nil_append, List.mem_cons, List.mem_append] at hp
    rcases hp with rfl | hp | hp
    · dsimp only at h1 h2 ⊢
      have mem : ∀ {s' : Sk} {o' : Nat}, o' ≤ j → j < o' + s'.size → ∃ y ∈ (bld s' D o').inl, y.e = (D j).e := fun {s' o'} q1 q2 => by
        have : (D j).e ∈ (bld s' D o').inl.map ND.e := by
          rw [bld_inl (f := ND.e) (fun _ _ => rfl)]
          exact List.mem_map.mpr ⟨j - o', List.mem_range.mpr (by (first | lia | omega)), by rw [show o' + (j - o') = j by (first | lia | omega)]⟩
        obtain ⟨y, hy, e⟩ := List.mem_map.mp this
        exact ⟨y, hy, e⟩
      by_cases q : j < o + l.size
      · obtain ⟨y, hy, e⟩ := mem (s' := l) (o' := o) h1 q
        rw [← e]; exact b2 y hy
      · by_cases q2 : j = o + l.size
        · subst q2; exact b1
        · obtain ⟨y, hy, e⟩ := mem (s' := r) (o' := o + (l.size + 1)) (by (first | lia | omega)) (by (first | lia | omega))
          rw [← e]; exact b3 y hy
    · exact bd_ivs c1 b4 p hp j h1 h2
    · exact bd_ivs c2 b5 p hp j h1 h2
theorem bld_bd {D : Nat → ND} : ∀ {s : Sk} {o : Nat}, (∀ p ∈ ivs true s o, ∀ j, p.2.1 ≤ j → j < p.2.2 → (D j).e ≤ (D p.1).lim) → (bld s D o).Bd
  | .nil, _, _ => trivial
  | .node c m l r, o, h => by
    have hl : (bld l D o).Bd := bld_bd fun p hp => h p (by simp only [ivs]; exact List.mem_append_right _ (List.mem_append_left _ hp))
    have hr : (bld r D (o + (l.size + 1))).Bd := bld_bd fun p hp => h p (by simp only [ivs]; exact List.mem_append_right _ (List.mem_append_right _ hp))
    cases m with
    | false =>
      have h0 := h (o + l.size, o, o + (l.size + (r.size + 1))) (by simp [ivs])
      refine ⟨h0 _ (by dsimp only; (first | lia | omega)) (by dsimp only; (first | lia | omega)), fun y hy => ?_, fun y hy => ?_, hl, hr⟩
      · obtain ⟨j, q1, q2, e⟩ := bld_mem hy
        rw [e]; exact h0 j (by dsimp only; (first | lia | omega)) (by dsimp only; (first | lia | omega))
      · obtain ⟨j, q1, q2, e⟩ := bld_mem hy
        rw [e]; exact h0 j (by dsimp only; (first | lia | omega)) (by dsimp only; (first | lia | omega))
    | true =>
      have ge : ∀ (e : Int) (t : T), t.Bd → e ≤ geE e t ∧ ∀ y ∈ t.inl, y.e ≤ geE e t := fun e t ht => by
        cases t with
        | nil => exact ⟨Int.le_refl _, fun _ h => by cases h⟩
        | node z _ l' r' =>
          obtain ⟨q1, q2, q3, _, _⟩ := ht
          refine ⟨by show e ≤ max e (z.lim + 0); (first | lia | omega), fun y hy => ?_⟩
          show y.e ≤ max e (z.lim + 0)
          simp only [T.inl, List.mem_append, List.mem_cons] at hy
          rcases hy with hy | rfl | hy
          · have := q2 y hy; (first | lia | omega)
          · (first | lia | omega)
          · have := q3 y hy; (first | lia | omega)
      have g1 := ge (D (o + l.size)).e _ hl
      have g2 := ge (geE (D (o + l.size)).e (bld l D o)) _ hr
      exact ⟨Int.le_trans g1.1 g2.1, fun y hy => Int.le_trans (g1.2 y hy) g2.1, g2.2, hl, hr⟩
end
end Mine
end
section
namespace Mine
theorem dep_le {bn : Int} {t : T} : depT bn t ≤ t.sk.size := by
  induction t with
  | nil => exact Nat.le_refl _
  | node y c l r h1 h2 =>
    show (if bn ≤ y.b then depT bn l else depT bn r) + 1 ≤ l.sk.size + (r.sk.size + 1)
    by_cases h : bn ≤ y.b
    · rw [if_pos h]; exact Nat.add_le_add h1 (Nat.le_add_left _ _)
    · rw [if_neg h]; exact Nat.le_trans (Nat.succ_le_succ h2) (Nat.le_add_left _ _)
theorem put_pre {d tr an : Nat} {cnt num bn en l0 : Int} {red0 : Bool} {v1 v2 v3 : V} {t : T} {st : St} (hne : t ≠ .nil) (A : t.At st .none) (htr : st[tr]? = some (treeO t.ref cnt)) (nd : (tr :: an :: t.inl.map ND.a).Nodup) (hk : t.sk.size ≤ 5)
    (hn : st[an]? = some (nodeO num bn en l0 red0 v1 v2 v3)) : ∃ st4, (insT bn en ⟨an, num, bn, en, en⟩ t).At st4 .none ∧ st4[tr]? = some (treeO t.ref (cnt + 1)) ∧ (∀ z, z ≠ tr → z ≠ an → z ∉ t.inl.map ND.a → st4[z]? = st[z]?) ∧ st4.length = st.length ∧
      ∀ st5, C (d + 1) 33 [.ref tr, .ref an] st4 = some (.none, st5) → C (d + 2) 35 [.ref tr, .ref an] st = some (.none, st5) := by
  obtain ⟨n0, n4⟩ := List.nodup_cons.mp nd
  have n1 : tr ≠ an := fun e => n0 (e ▸ .head _)
  have n2 : tr ∉ t.inl.map ND.a := fun e => n0 (.tail _ e)
  have n3 := (List.nodup_cons.mp n4).1
  have n1' := Ne.symm n1
  have fr : ∀ {z}, z ≠ tr → z ≠ an → ((st.set an (nodeO num bn en en red0 .none .none .none)).set tr (treeO t.ref (cnt + 1)))[z]? = st[z]? := fun h1 h2 => (List.getElem?_set_ne (Ne.symm h1)).trans (List.getElem?_set_ne (Ne.symm h2))
  have hn2 : ((st.set an (nodeO num bn en en red0 .none .none .none)).set tr (treeO t.ref (cnt + 1)))[an]? = some (nodeO num bn en en red0 .none .none .none) := h_ne n1 (h_self hn)
  have ht2 : ((st.set an (nodeO num bn en en red0 .none .none .none)).set tr (treeO t.ref (cnt + 1)))[tr]? = some (treeO t.ref (cnt + 1)) := h_self (h_ne n1' htr)
  obtain ⟨st3, e1, B1, B2, B3⟩ := down (d := d) (tr := tr) (x := ⟨an, num, bn, en, en⟩) (k := 64) (p0 := .none) (i := false) (At_congr (fun z hz => fr (fun e => n2 (e ▸ hz)) (fun e => n3 (e ▸ hz))) A) n4 hn2 (Nat.le_trans (Nat.succ_le_succ (Nat.le_trans dep_le hk)) (by decide))
  obtain ⟨pa, n, b, e, lim, c, l, r, p, f1, f2, f3, f4⟩ := place (x := ⟨an, num, bn, en, en⟩) (p0 := .none) (i := false) hne B1 n4
  have hn3 := (B2 an n3).trans hn2
  have ht3 := (B2 tr n2).trans ht2
  have m1 : pa ≠ an := fun e => n3 (e ▸ f2)
  have m2 : pa ≠ tr := fun e => n2 (e ▸ f2)
  have m1' := Ne.symm m1
  refine ⟨(st3.set pa (nodeO n b e lim c (if sideT bn false t then .ref an else l) (if sideT bn false t then r else .ref an) p)).set an (nodeO num bn en en true .none .none (.ref pa)), f4 _ (h_ne m1' (h_self f3)) (h_self (h_ne m1 hn3)) fun z h1 h2 => (List.getElem?_set_ne (Ne.symm h2)).trans (List.getElem?_set_ne (Ne.symm h1)),
    h_ne n1' (h_ne m2 ht3), fun z h1 h2 h3 => (List.getElem?_set_ne (Ne.symm h2)).trans ((List.getElem?_set_ne fun e : pa = z => h3 (e ▸ f2)).trans ((B2 z h3).trans (fr h1 h2))), by rw [List.length_set, List.length_set, B3, List.length_set, List.length_set], fun st5 hc => ?_⟩
  have hq : cmpV .is t.ref .none = some false := by cases t with | nil => exact absurd rfl hne | node y _ _ _ => rfl
  rw [f1] at e1
  refine w_fun (ps := [9, 8]) (B := B_put_node) (ov := .none) (m1 := dLo tr an .none (.ref pa) (sideT bn false t)) rfl rfl ?_ rfl
  delta B_put_node
  repeat walk_at "w1"
  · exact s_whl e1
  · apply s_go
    clear f4 e1
    generalize sideT bn false t = sd at hc ⊢
    cases sd
    all_goals
      repeat walk_at "w1"
      · exact hc
      repeat walk_at "w1"
end Mine
end
section
namespace Mine
structure TreeOk (st : St) (tr n : Nat) (cnt : Int) (t : T) : Prop where
  sk : t.sk ∈ reach.getD n []
  at_ : t.At st .none
  tree : st[tr]? = some (treeO t.ref cnt)
  nd : (tr :: t.inl.map ND.a).Nodup
  bd : t.Bd
  srt : Srt (t.inl.map ND.key)
theorem TreeOk.congr {st st' : St} {tr n : Nat} {cnt : Int} {t : T} (O : TreeOk st tr n cnt t) (h : ∀ z, z = tr ∨ z ∈ t.inl.map ND.a → st'[z]? = st[z]?) : TreeOk st' tr n cnt t :=
  ⟨O.sk, At_congr (fun z hz => h z (.inr hz)) O.at_, by rw [h _ (.inl rfl)]; exact O.tree, O.nd, O.bd, O.srt⟩
theorem reach_size {n : Nat} {s : Sk} (h : s ∈ reach.getD n []) : s.size ≤ 5 := by
  rw [List.getD_eq_getElem?_getD] at h
  cases q : reach[n]? with
  | none => rw [q] at h; cases h
  | some l =>
    rw [q] at h
    have := List.all_eq_true.mp (List.all_eq_true.mp sk_deep l (List.mem_of_getElem? q)) s h
    exact of_decide_eq_true this
theorem put_ok {d tr an n : Nat} {cnt num bn en l0 : Int} {red0 : Bool} {v1 v2 v3 : V} {t : T} {st : St} (hn5 : n < 5) (O : TreeOk st tr n cnt t) (na : an ≠ tr ∧ an ∉ t.inl.map ND.a)
    (hn : st[an]? = some (nodeO num bn en l0 red0 v1 v2 v3)) : ∃ st' t', C (d + 5) 35 [.ref tr, .ref an] st = some (.none, st') ∧ TreeOk st' tr (n + 1) (cnt + 1) t' ∧ (t'.inl.map ND.key).Perm ((an, num, bn, en) :: t.inl.map ND.key) ∧
      (∀ z, z ≠ tr → z ≠ an → z ∉ t.inl.map ND.a → st'[z]? = st[z]?) ∧ st'.length = st.length := by
  have nd0 := O.nd
  rw [List.nodup_cons] at nd0
  cases n with
  | zero =>
    have ht : t = .nil := sk_nil (by have := O.sk; rw [reach0] at this; simpa using this)
    subst ht
    have lt := lt_of_at O.tree
    have ln := lt_of_at hn
    have run := frame (d := d + 5) (f := 35) (args := [.ref tr, .ref an]) (v := .none) (st := st) [tr, an] [treeO .none cnt, nodeO num bn en l0 red0 v1 v2 v3] [treeO (.ref an) (cnt + 1), nodeO num bn en en false .none .none .none]
      (by simp [Ne.symm na.1]) (by simp only [List.map_cons, List.map_nil, hn, O.tree]; rfl) rfl (fun σ rest hσ => by
        have h0 := hσ 0 tr rfl
        have h1 := hσ 1 an rfl
        simp only [renL, ren, List.map_cons, List.map_nil, renO, renM, treeO, nodeO, h0, h1]
        kernel_rfl)
    refine ⟨_, .node ⟨an, num, bn, en, en⟩ false .nil .nil, run, ⟨.head _, ⟨?_, trivial, trivial⟩, ?_, by simp [T.inl, Ne.symm na.1], ⟨Int.le_refl _, fun _ h => (by cases h), fun _ h => (by cases h), trivial, trivial⟩, by simp [Srt, T.inl]⟩, .refl _, fun z h1 h2 _ => ?_, setAll_len⟩
    · simp only [setAll]
      rw [List.getElem?_set_self (by rw [List.length_set]; exact ln)]; rfl
    · simp only [setAll]
      rw [List.getElem?_set_ne na.1, List.getElem?_set_self lt]; rfl
    · exact setAll_not (by simp [h1, h2])
  | succ n =>
    have hne : t ≠ .nil := fun e => by
      have := O.sk
      have z := List.all_eq_true.mp (List.all_eq_true.mp sk_pos n (List.mem_range.mpr (by (first | lia | omega)))) _ this
      rw [e] at z; exact absurd z (by decide)
    have nd1 : (tr :: an :: t.inl.map ND.a).Nodup := by
      simp only [List.nodup_cons, List.mem_cons, not_or]
      exact ⟨⟨Ne.symm na.1, nd0.1⟩, na.2, nd0.2⟩
    obtain ⟨st4, A4, T4, F4, L4, run⟩ := put_pre (d := d + 3) hne O.at_ O.tree nd1 (reach_size O.sk) hn
    obtain ⟨g, hg, hx⟩ := ins_att (bn := bn) (en := en) (x := ⟨an, num, bn, en, en⟩) (t := t)
    have tab := List.all_eq_true.mp (List.all_eq_true.mp (List.all_eq_true.mp tab_ok n (List.mem_range.mpr (by (first | lia | omega)))) _ O.sk) _ hg
    obtain ⟨⟨s0, g', s1⟩, hc, hp⟩ := List.any_eq_true.mp tab
    simp only [Bool.and_eq_true, beq_iff_eq] at hp
    obtain ⟨rfl, rfl, hp3, hp4⟩ := hp
    obtain ⟨K1, K2, k1, k2⟩ := ins_key (bn := bn) (en := en) (x := ⟨an, num, bn, en, en⟩) (t := t)
    have perm : ((insT bn en ⟨an, num, bn, en, en⟩ t).inl.map ND.key).Perm ((an, num, bn, en) :: t.inl.map ND.key) := by rw [k1, k2]; exact List.perm_middle
    have toA : ∀ l : List ND, l.map ND.a = (l.map ND.key).map (·.1) := fun l => by rw [List.map_map]; rfl
    have permA : ((insT bn en ⟨an, num, bn, en, en⟩ t).inl.map ND.a).Perm (an :: t.inl.map ND.a) := by rw [toA, toA]; exact perm.map _
    have nd2 : (tr :: (insT bn en ⟨an, num, bn, en, en⟩ t).inl.map ND.a).Nodup := (permA.cons tr).nodup_iff.mpr nd1
    let D : Nat → ND := fun j => (insT bn en ⟨an, num, bn, en, en⟩ t).inl.getD j ⟨0, 0, 0, 0, 0⟩
    have hD : ∀ j x, (insT bn en ⟨an, num, bn, en, en⟩ t).inl[j]? = some x → D j = x := fun j x h => by show List.getD _ _ _ = x; rw [List.getD_eq_getElem?_getD, h]; rfl
    have hb : bld (insT bn en ⟨an, num, bn, en, en⟩ t).sk D 0 = insT bn en ⟨an, num, bn, en, en⟩ t := bld_sk fun j x h => by rw [Nat.zero_add]; exact hD j x h
    have ci := ci_ok (d := d) (cnt := cnt + 1) hc D hD A4 (by rw [T4, ins_ref hne]) nd2
    rw [hD _ _ hx] at ci
    have sz := List.all_eq_true.mp tab_size _ hc
    simp only [Bool.and_eq_true, beq_iff_eq, decide_eq_true_eq] at sz
    have keys : (bld s1 D 0).inl.map ND.key = (insT bn en ⟨an, num, bn, en, en⟩ t).inl.map ND.key := by
      rw [← hb, bld_inl (f := ND.key) (fun _ _ => rfl), bld_inl (f := ND.key) (fun _ _ => rfl), sz.1]
    have keysA : (bld s1 D 0).inl.map ND.a = (insT bn en ⟨an, num, bn, en, en⟩ t).inl.map ND.a := by rw [toA, toA, keys]
    have hl : (tr :: (insT bn en ⟨an, num, bn, en, en⟩ t).inl.map ND.a).length = (treeO (bld s1 D 0).ref (cnt + 1) :: (bld s1 D 0).io .none).length := by
      rw [List.length_cons, List.length_cons, io_len, ← keysA, List.length_map]
    have ltA : ∀ a ∈ (insT bn en ⟨an, num, bn, en, en⟩ t).inl.map ND.a, a < st4.length := fun a ha => by
      obtain ⟨y, hy, rfl⟩ := List.mem_map.mp ha
      obtain ⟨i, hi⟩ := List.getElem?_of_mem hy
      have h1 := congrArg (fun l : List (Option Mine.O) => l[i]?) (at_iff.mp A4)
      simp only [List.getElem?_map, hi, Option.map_some] at h1
      cases q : ((insT bn en ⟨an, num, bn, en, en⟩ t).io .none)[i]? with
      | none => rw [q] at h1; cases h1
      | some o => rw [q] at h1; exact lt_of_at (Option.some.inj h1)
    have A5 : (bld s1 D 0).At (setAll (tr :: (insT bn en ⟨an, num, bn, en, en⟩ t).inl.map ND.a) (treeO (bld s1 D 0).ref (cnt + 1) :: (bld s1 D 0).io .none) st4) .none := by
      apply at_iff.mpr
      apply List.ext_getElem?
      intro i
      simp only [List.getElem?_map]
      cases q : (bld s1 D 0).inl[i]? with
      | none =>
        have : ((bld s1 D 0).io .none)[i]? = none := List.getElem?_eq_none (by rw [io_len]; exact List.getElem?_eq_none_iff.mp q)
        rw [this]; rfl
      | some y =>
        have hi : (tr :: (insT bn en ⟨an, num, bn, en, en⟩ t).inl.map ND.a)[i + 1]? = some y.a := by
          rw [List.getElem?_cons_succ, ← keysA, List.getElem?_map, q]; rfl
        have hy : y.a ∈ (insT bn en ⟨an, num, bn, en, en⟩ t).inl.map ND.a := by
          rw [← keysA]; exact List.mem_map_of_mem (List.mem_of_getElem? q)
        have := setAll_at (st := st4) nd2 hl hi (ltA _ hy)
        rw [Option.map_some, this, List.getElem?_cons_succ]
        have hi' : i < ((bld s1 D 0).io .none).length := by rw [io_len]; exact (List.getElem?_eq_some_iff.mp q).1
        rw [List.getElem?_eq_getElem hi']; rfl
    refine ⟨_, bld s1 D 0, run _ ci, ⟨?_, A5, ?_, by rw [keysA]; exact nd2, ?_, by rw [keys]; exact ins_srt (x := ⟨an, num, bn, en, en⟩) rfl O.srt⟩, by rw [keys]; exact perm, fun z h1 h2 h3 => ?_, by rw [setAll_len, L4]⟩
    · rw [bld_clean]; exact List.contains_iff_mem.mp hp3
    · exact setAll_at (i := 0) nd2 hl rfl (lt_of_at T4)
    · refine bld_bd fun p hp j q1 q2 => ?_
      have := List.all_eq_true.mp hp4 p hp
      obtain ⟨q, hq, e⟩ := List.any_eq_true.mp this
      simp only [Bool.and_eq_true, beq_iff_eq, decide_eq_true_eq] at e
      have hcl : (insT bn en ⟨an, num, bn, en, en⟩ t).sk.clean = (insT bn en ⟨an, num, bn, en, en⟩ t).sk := by
        rw [← bld_clean (D := D) (o := 0), hb]
      rw [e.1]
      exact bd_ivs (D := D) hcl (by rw [hb]; exact ins_bd (x := ⟨an, num, bn, en, en⟩) rfl (Int.le_refl _) O.bd) q hq j (by (first | lia | omega)) (by (first | lia | omega))
    · rw [setAll_not, F4 z h1 h2 h3]
      rw [List.mem_cons, not_or]
      refine ⟨h1, fun e => ?_⟩
      rcases List.mem_cons.mp (permA.mem_iff.mp e) with e | e
      · exact h2 e
      · exact h3 e
end Mine
end
section
namespace Mine
section
variable (b0 e0 : Int)
noncomputable def chkN (y : ND) : List ND := if y.b ≤ e0 ∧ b0 ≤ y.e then [y] else []
noncomputable def visit : T → List ND
  | .nil => []
  | .node y _ l r => if y.lim < b0 then [] else visit l ++ (chkN b0 e0 y ++ (if y.b ≤ e0 then visit r else []))
noncomputable def spine : T → List T
  | .nil => []
  | .node y c l r => if y.lim < b0 then [] else .node y c l r :: spine l
noncomputable def finN : T → List ND
  | .nil => []
  | .node y _ _ r => chkN b0 e0 y ++ (if y.b ≤ e0 then visit b0 e0 r else [])
noncomputable def szT : T → Nat
  | .nil => 0
  | .node _ _ l r => szT l + (szT r + 1)
noncomputable def pend : T → Nat
  | .nil => 0
  | .node _ _ _ r => szT r + 1
noncomputable def refs (l : List ND) : List V := l.map fun y => .ref y.a
end
theorem spine_no {b0 : Int} {y : ND} {c : Bool} {l r : T} (h : y.lim < b0) : spine b0 (.node y c l r) = [] := if_pos h
theorem spine_go {b0 : Int} {y : ND} {c : Bool} {l r : T} (h : ¬ y.lim < b0) : spine b0 (.node y c l r) = .node y c l r :: spine b0 l := if_neg h
section
variable {b0 e0 : Int}
theorem visit_spine : ∀ {t : T}, visit b0 e0 t = (spine b0 t).reverse.flatMap (finN b0 e0)
  | .nil => rfl
  | .node y c l r => by
    simp only [visit, spine]
    split
    · rfl
    · rw [List.reverse_cons, List.flatMap_append, ← visit_spine]
      simp [finN]
theorem pend_spine {t : T} : ((spine b0 t).map pend).sum ≤ szT t := by
  induction t with
  | nil => exact Nat.le_refl _
  | node y c l r h1 _ =>
    by_cases h : y.lim < b0
    · rw [spine_no h]; exact Nat.zero_le _
    · rw [spine_go h, List.map_cons, List.sum_cons, Nat.add_comm]; exact Nat.add_le_add_right h1 _
theorem visit_filter : ∀ {t : T}, t.Bd → Srt (t.inl.map ND.key) → visit b0 e0 t = t.inl.filter fun y => decide (y.b ≤ e0 ∧ b0 ≤ y.e)
  | .nil, _, _ => rfl
  | .node y c l r, ⟨h1, h2, h3, h4, h5⟩, hs => by
    simp only [Srt, T.inl, List.map_append, List.map_cons, List.pairwise_append, List.pairwise_cons, List.mem_cons] at hs
    obtain ⟨s1, ⟨s2, s3⟩, s4⟩ := hs
    have none : ∀ {l : List ND}, (∀ z ∈ l, ¬ (z.b ≤ e0 ∧ b0 ≤ z.e)) → l.filter (fun y => decide (y.b ≤ e0 ∧ b0 ≤ y.e)) = [] := fun {l} h => by
      rw [List.filter_eq_nil_iff]; intro z hz; simp only [decide_eq_true_eq]; exact h z hz
    simp only [visit, T.inl]
    split
    · rename_i q
      rw [none]
      intro z hz
      simp only [List.mem_append, List.mem_cons] at hz
      rcases hz with hz | rfl | hz
      · have := h2 z hz; (first | lia | omega)
      · (first | lia | omega)
      · have := h3 z hz; (first | lia | omega)
    · rw [List.filter_append, List.filter_cons, ← visit_filter h4 s1, chkN]
      by_cases q : y.b ≤ e0
      · rw [if_pos q, visit_filter h5 s3]
        by_cases q2 : b0 ≤ y.e <;> simp [q, q2]
      · rw [if_neg q, none fun z hz => ?_]
        · simp [q]
        · have : y.b ≤ z.b := s2 _ (List.mem_map_of_mem (f := ND.key) hz)
          (first | lia | omega)
noncomputable abbrev nLo (tr : Nat) (b0 e0 : Int) (fa : Nat) (v : V) : Lo := [(9, .ref tr), (18, .int b0), (26, .int e0), (34, .ref fa), (14, .ref (fa + 1)), (8, v)]
noncomputable abbrev hp2 (st : St) (F W : List V) : St := st ++ [.list F, .list W]
theorem hp2_f {st : St} {F W : List V} : (hp2 st F W)[st.length]? = some (.list F) := by rw [List.getElem?_append_right (Nat.le_refl _), Nat.sub_self]; rfl
theorem hp2_w {st : St} {F W : List V} : (hp2 st F W)[st.length + 1]? = some (.list W) := by rw [List.getElem?_append_right (Nat.le_add_right _ 1), Nat.add_sub_cancel_left]; rfl
theorem hp2_o {st : St} {F W : List V} {x : Nat} {o : O} (h : st[x]? = some o) : (hp2 st F W)[x]? = some o := h_app h
theorem hp2_sf {st : St} {F W F' : List V} : (hp2 st F W).set st.length (.list F') = hp2 st F' W := by rw [List.set_append_right _ _ (Nat.le_refl _), Nat.sub_self]; rfl
theorem hp2_sw {st : St} {F W W' : List V} : (hp2 st F W).set (st.length + 1) (.list W') = hp2 st F W' := by rw [List.set_append_right _ _ (Nat.le_add_right _ 1), Nat.add_sub_cancel_left]; rfl
theorem At_app {st g : St} {t : T} {p : V} (A : t.At st p) : t.At (st ++ g) p := by
  refine At_congr (fun z hz => ?_) A
  obtain ⟨y, hy, rfl⟩ := List.mem_map.mp hz
  obtain ⟨i, hi⟩ := List.getElem?_of_mem hy
  have h1 := congrArg (fun l : List (Option O) => l[i]?) (at_iff.mp A)
  simp only [List.getElem?_map, hi, Option.map_some] at h1
  cases q : (t.io p)[i]? with
  | none => rw [q] at h1; cases h1
  | some o => rw [q] at h1; exact List.getElem?_append_left (lt_of_at (Option.some.inj h1))
noncomputable abbrev iTest (d : Nat) := evE clss nidxTab (C d) (.cmp .isn (.var 8) (.val .none))
noncomputable abbrev iBody (d : Nat) := exSs clss nidxTab (C d) (.cons (.exp (.call 26 (.cons (.var 8) .nil))) (.cons (.ite (.cmp .lt (.attr (.var 8) 31) (.var 18)) (.cons (.asg 8 (.val .none)) .nil) (.cons (.exp (.lapp (.var 14) (.var 8))) (.cons (.asg 8 (.attr (.var 8) 5)) .nil))) .nil))
theorem in_step {d tr ya : Nat} {num b e lim : Int} {c : Bool} {lo ro q : V} {st : St} {F W : List V} (hy : st[ya]? = some (nodeO num b e lim c lo ro q)) (hW : W.length ≤ 100) :
    iBody (d + 1) (nLo tr b0 e0 st.length (.ref ya)) (hp2 st F W) = some (.none, nLo tr b0 e0 st.length (if lim < b0 then .none else lo), hp2 st F (if lim < b0 then W else W ++ [.ref ya])) := by
  have hy2 : (hp2 st F W)[ya]? = _ := hp2_o hy
  have hh := hand_down_ok (d := d) hy2
  by_cases h : lim < b0
  · rw [if_pos h, if_pos h]
    repeat walk_at "w1"
  · rw [if_neg h, if_neg h]
    have hw : (hp2 st F W)[st.length + 1]? = _ := hp2_w
    have hsw : (hp2 st F W).set (st.length + 1) (.list (W ++ [.ref ya])) = hp2 st F (W ++ [.ref ya]) := hp2_sw
    have hy3 : (hp2 st F (W ++ [.ref ya]))[ya]? = _ := hp2_o hy
    have hW' : W.length ≤ maxSeq := Nat.le_trans hW (Nat.le_of_ble_eq_true rfl)
    repeat walk_at "w1"
theorem inner {d tr : Nat} {st : St} {F : List V} {t : T} : ∀ {k : Nat} {p : V} {W : List V}, t.At st p → szT t + 1 ≤ k → W.length + szT t ≤ 100 →
    loopW (iTest (d + 1)) (iBody (d + 1)) k (nLo tr b0 e0 st.length t.ref) (hp2 st F W) = some (.none, nLo tr b0 e0 st.length .none, hp2 st F (W ++ (spine b0 t).map T.ref)) := by
  induction t with
  | nil =>
    intro k p W _ hk _
    cases k with
    | zero => exact absurd hk (Nat.not_succ_le_zero _)
    | succ k => rw [show spine b0 .nil = [] from rfl, List.map_nil, List.append_nil]; exact lw_stop rfl
  | node y c l r ihl _ =>
    intro k p W ⟨h1, h2, _⟩ hk hW
    have hW1 : W.length + 1 + szT l ≤ 100 := Nat.le_trans (by rw [Nat.add_assoc, Nat.add_comm 1]; exact Nat.add_le_add_left (Nat.add_le_add_left (Nat.le_add_left _ _) _) _) hW
    have e2 := in_step (d := d) (tr := tr) (b0 := b0) (e0 := e0) (F := F) (W := W) h1 (Nat.le_trans (Nat.le_add_right _ _) hW)
    have hk1 : szT l + 2 ≤ k := Nat.le_trans (Nat.add_le_add_left (Nat.succ_le_succ (Nat.le_add_left _ _)) _) hk
    cases k with
    | zero => exact absurd hk (Nat.not_succ_le_zero _)
    | succ k =>
      have hk1 := Nat.le_of_succ_le_succ hk1
      by_cases h : y.lim < b0
      · rw [if_pos h, if_pos h] at e2
        rw [spine_no h, List.map_nil, List.append_nil]
        cases k with
        | zero => exact absurd hk1 (Nat.not_succ_le_zero _)
        | succ k => exact lw_go rfl e2 (lw_stop rfl)
      · rw [if_neg h, if_neg h] at e2
        have i := ihl (k := k) (W := W ++ [.ref y.a]) h2 hk1 (by rw [List.length_append]; exact hW1)
        rw [List.append_assoc] at i
        rw [spine_go h]
        exact lw_go rfl e2 i
noncomputable abbrev popS : S := .ite (.cmp .gt (.len (.var 14)) (.val (.int 0))) (.cons (.asg 8 (.lpop (.var 14))) (.cons (.ite (.band (.cons (.cmp .le (.attr (.var 8) 18) (.var 26)) (.cons (.cmp .ge (.attr (.var 8) 26) (.var 18)) .nil))) (.cons (.exp (.lapp (.var 34) (.var 8))) .nil) .nil) (.cons (.asg 8 (.ite (.cmp .le (.attr (.var 8) 18) (.var 26)) (.attr (.var 8) 4) (.val .none))) .nil))) .nil
theorem pop_step {d tr ya : Nat} {num b e lim : Int} {c : Bool} {lo ro q v : V} {st : St} {F A : List V} (hy : st[ya]? = some (nodeO num b e lim c lo ro q)) (hA : A.length ≤ 100) (hF : F.length ≤ 100) :
    exS clss nidxTab (C d) popS (nLo tr b0 e0 st.length v) (hp2 st F (A ++ [.ref ya])) = some (.none, nLo tr b0 e0 st.length (if b ≤ e0 then ro else .none), hp2 st (if b ≤ e0 ∧ b0 ≤ e then F ++ [.ref ya] else F) A) := by
  have g0 : (A ++ [V.ref ya]).length ≤ 101 := by rw [List.length_append]; exact Nat.succ_le_succ hA
  have g1 : (A ++ [V.ref ya]).length < 4294967296 := Nat.lt_of_le_of_lt g0 (by decide)
  have g2 : (0 : Int) < ((A ++ [V.ref ya]).length : Int) := by rw [List.length_append]; exact Int.ofNat_lt.mpr (Nat.succ_pos _)
  have g3 : A.length + 1 ≤ maxSeq := Nat.le_trans (Nat.succ_le_succ hA) (Nat.le_of_ble_eq_true rfl)
  have g5 : F.length ≤ maxSeq := Nat.le_trans hF (Nat.le_of_ble_eq_true rfl)
  have hw : (hp2 st F (A ++ [V.ref ya]))[st.length + 1]? = _ := hp2_w
  have hsw : (hp2 st F (A ++ [V.ref ya])).set (st.length + 1) (.list A) = hp2 st F A := hp2_sw
  have hy1 : (hp2 st F A)[ya]? = _ := hp2_o hy
  by_cases h : b ≤ e0
  · rw [if_pos h]
    by_cases h2 : b0 ≤ e
    · rw [if_pos ⟨h, h2⟩]
      have hy2 : (hp2 st (F ++ [.ref ya]) A)[ya]? = _ := hp2_o hy
      have hf : (hp2 st F A)[st.length]? = _ := hp2_f
      have hsf : (hp2 st F A).set st.length (.list (F ++ [.ref ya])) = hp2 st (F ++ [.ref ya]) A := hp2_sf
      repeat walk_at "w1"
    · rw [if_neg fun z => h2 z.2]
      repeat walk_at "w1"
  · rw [if_neg h, if_neg fun z => h z.1]
    repeat walk_at "w1"
noncomputable abbrev oTest (d : Nat) := evE clss nidxTab (C d) (.bor (.cons (.cmp .isn (.var 8) (.val .none)) (.cons (.cmp .gt (.len (.var 14)) (.val (.int 0))) .nil)))
noncomputable abbrev oBody (d : Nat) := exSs clss nidxTab (C d) (.cons (.whl (.cmp .isn (.var 8) (.val .none)) (.cons (.exp (.call 26 (.cons (.var 8) .nil))) (.cons (.ite (.cmp .lt (.attr (.var 8) 31) (.var 18)) (.cons (.asg 8 (.val .none)) .nil) (.cons (.exp (.lapp (.var 14) (.var 8))) (.cons (.asg 8 (.attr (.var 8) 5)) .nil))) .nil))) (.cons popS .nil))
theorem o_test {d tr : Nat} {st : St} {F W : List V} {t : T} (hW : W.length ≤ 100) : oTest d (nLo tr b0 e0 st.length t.ref) (hp2 st F W) = some (.bool true, hp2 st F W) ∨ t = .nil ∧ W = [] ∧ oTest d (nLo tr b0 e0 st.length t.ref) (hp2 st F W) = some (.bool false, hp2 st F W) := by
  have hw : (hp2 st F W)[st.length + 1]? = _ := hp2_w
  have g4 : W.length < 4294967296 := Nat.lt_of_le_of_lt hW (by decide)
  cases t with
  | node y c l r => exact .inl (w_bor (w_ocons (t := true) rfl rfl))
  | nil =>
    cases W with
    | nil => exact .inr ⟨rfl, rfl, w_bor (w_ocons (t := false) rfl (cF (w_ocons (w_cmp (w_len (w_var rfl) hw g4) w_val rfl) (cF w_onil))))⟩
    | cons v W =>
      refine .inl (w_bor (w_ocons (t := false) rfl (w_ocons (w_cmp (w_len (w_var rfl) hw g4) w_val (c_gtT ?_)) rfl)))
      exact Int.ofNat_lt.mpr (Nat.succ_pos _)
noncomputable def Stk (st : St) (S : List T) : Prop := ∀ t ∈ S, t ≠ .nil ∧ ∃ p, t.At st p
theorem stk_len {st : St} {S : List T} : Stk st S → S.length ≤ (S.map pend).sum := by
  induction S with
  | nil => exact fun _ => Nat.le_refl _
  | cons s S ih =>
    intro h
    rw [List.map_cons, List.sum_cons, List.length_cons, Nat.add_comm]
    refine Nat.add_le_add ?_ (ih fun s hs => h s (.tail _ hs))
    cases s with
    | nil => exact absurd rfl (h _ (.head _)).1
    | node _ _ _ _ => exact Nat.succ_pos _
theorem spine_stk {st : St} {t : T} : ∀ {p : V}, t.At st p → Stk st (spine b0 t) := by
  induction t with
  | nil => exact fun _ _ h => nomatch h
  | node y c l r ihl _ =>
    intro p A
    by_cases h : y.lim < b0
    · rw [spine_no h]; exact fun _ h => nomatch h
    · rw [spine_go h]
      intro s hs
      rcases List.mem_cons.mp hs with rfl | hs
      · exact ⟨(fun e => nomatch e), p, A⟩
      · exact ihl A.2.1 s hs
theorem outer {d tr : Nat} {st : St} {k : Nat} : ∀ {t : T} {p : V} {S : List T} {F : List ND}, t.At st p → Stk st S → szT t + (S.map pend).sum + 2 ≤ k → szT t + (S.map pend).sum ≤ 8 → F.length + (szT t + (S.map pend).sum) ≤ 50 →
    loopW (oTest (d + 1)) (oBody (d + 1)) k (nLo tr b0 e0 st.length t.ref) (hp2 st (refs F) (S.map T.ref)) = some (.none, nLo tr b0 e0 st.length .none, hp2 st (refs (F ++ (visit b0 e0 t ++ S.reverse.flatMap (finN b0 e0)))) []) := by
  induction k with
  | zero => exact fun _ _ h => absurd h (Nat.not_succ_le_zero _)
  | succ k ih =>
    intro t p S F A hS hk h8 hF
    have hl : (S.map T.ref).length ≤ 8 := by rw [List.length_map]; exact Nat.le_trans (stk_len hS) (Nat.le_trans (Nat.le_add_left _ _) h8)
    have ht8 : szT t ≤ 8 := Nat.le_trans (Nat.le_add_right _ _) h8
    rcases o_test (d := d + 1) (tr := tr) (b0 := b0) (e0 := e0) (st := st) (F := refs F) (t := t) (Nat.le_trans hl (by decide)) with ht | ⟨rfl, e, ht⟩
    · have hin := inner (d := d) (tr := tr) (b0 := b0) (e0 := e0) (F := refs F) (k := 64) (W := S.map T.ref) A (Nat.le_trans (Nat.succ_le_succ ht8) (by decide)) (Nat.le_trans (Nat.add_le_add hl ht8) (by decide))
      have hall : Stk st (S ++ spine b0 t) := fun s hs => (List.mem_append.mp hs).elim (hS s) (spine_stk A s)
      have hsum : ((S ++ spine b0 t).map pend).sum ≤ szT t + (S.map pend).sum := by rw [List.map_append, List.sum_append, Nat.add_comm]; exact Nat.add_le_add_right pend_spine _
      have ev : visit b0 e0 t ++ S.reverse.flatMap (finN b0 e0) = (S ++ spine b0 t).reverse.flatMap (finN b0 e0) := by rw [visit_spine, List.reverse_append, List.flatMap_append]
      rw [ev]
      rw [← List.map_append] at hin
      generalize S ++ spine b0 t = S' at hin hall hsum
      rcases List.eq_nil_or_concat S' with e | ⟨S0, n, e⟩
      · subst e
        have hw : (hp2 st (refs F) [])[st.length + 1]? = _ := hp2_w
        rw [show [].reverse.flatMap (finN b0 e0) = [] from rfl, List.append_nil]
        cases k with
        | zero => exact absurd (Nat.le_of_succ_le_succ hk) (Nat.not_succ_le_zero _)
        | succ k =>
          have z : evE clss nidxTab (C (d + 1)) (.cmp .gt (.len (.var 14)) (.val (.int 0))) (nLo tr b0 e0 st.length .none) (hp2 st (refs F) []) = some (.bool false, hp2 st (refs F) []) := w_cmp (w_len (w_var rfl) hw (by decide)) w_val rfl
          exact lw_go ht (s_cons (s_whl hin) (s_go (s_cons (s_ite z (cF s_nil)) (s_go s_nil)))) (lw_stop (w_bor (w_ocons (t := false) rfl (cF (w_ocons z (cF w_onil))))))
      · rw [List.concat_eq_append] at e
        subst e
        obtain ⟨nn, q, An⟩ := hall n (List.mem_append_right _ (.head _))
        cases n with
        | nil => exact absurd rfl nn
        | node y c l r =>
          have hS0 : Stk st S0 := fun s hs => hall s (List.mem_append_left _ hs)
          have h1 : szT r + (S0.map pend).sum + 1 ≤ szT t + (S.map pend).sum := by
            refine Nat.le_trans (Nat.le_of_eq ?_) hsum
            rw [List.map_append, List.sum_append, Nat.add_comm (szT r), Nat.add_assoc]; rfl
          have lS0 : (S0.map T.ref).length ≤ 100 := by rw [List.length_map]; exact Nat.le_trans (stk_len hS0) (Nat.le_trans (Nat.le_add_left _ _) (Nat.le_trans (Nat.le_of_succ_le h1) (Nat.le_trans h8 (by decide))))
          have lF : (refs F).length ≤ 100 := by rw [refs, List.length_map]; exact Nat.le_trans (Nat.le_add_right _ _) (Nat.le_trans hF (by decide))
          have hp := pop_step (d := d + 1) (tr := tr) (v := .none) (b0 := b0) (e0 := e0) An.1 lS0 lF
          have hch : (chkN b0 e0 y).length ≤ 1 := by
            unfold chkN
            split
            · exact Nat.le_refl 1
            · exact Nat.zero_le 1
          have hF' : (if y.b ≤ e0 ∧ b0 ≤ y.e then refs F ++ [.ref y.a] else refs F) = refs (F ++ chkN b0 e0 y) := by
            unfold chkN refs
            split
            · rw [List.map_append]; rfl
            · rw [List.append_nil]
          rw [hF'] at hp
          have fin : ∀ t' : T, t'.At st (.ref y.a) → szT t' ≤ szT r → visit b0 e0 t' = (if y.b ≤ e0 then visit b0 e0 r else []) → (if y.b ≤ e0 then r.ref else .none) = t'.ref → loopW (oTest (d + 1)) (oBody (d + 1)) (k + 1) (nLo tr b0 e0 st.length t.ref) (hp2 st (refs F) (S.map T.ref)) = some (.none, nLo tr b0 e0 st.length .none, hp2 st (refs (F ++ (S0 ++ [T.node y c l r]).reverse.flatMap (finN b0 e0))) []) := fun t' a1 a2 a3 a4 => by
            have h2 : szT t' + (S0.map pend).sum + 1 ≤ szT t + (S.map pend).sum := Nat.le_trans (Nat.succ_le_succ (Nat.add_le_add_right a2 _)) h1
            have r' := ih (t := t') (F := F ++ chkN b0 e0 y) a1 hS0 (Nat.le_of_succ_le_succ (Nat.le_trans (Nat.succ_le_succ (Nat.succ_le_succ h2)) hk)) (Nat.le_trans (Nat.le_of_succ_le h2) h8)
              (by rw [List.length_append, Nat.add_assoc]; exact Nat.le_trans (Nat.add_le_add_left (Nat.le_trans (Nat.add_le_add_right hch _) (by rw [Nat.add_comm]; exact h2)) _) hF)
            rw [a3, List.append_assoc] at r'
            rw [a4] at hp
            rw [List.reverse_append, List.reverse_singleton, List.flatMap_append, List.flatMap_singleton, finN, List.append_assoc]
            rw [List.map_append] at hin
            exact lw_go ht (s_cons (s_whl hin) (s_go (s_cons hp (s_go s_nil)))) r'
          by_cases h : y.b ≤ e0
          · exact fin r An.2.2 (Nat.le_refl _) (if_pos h).symm (if_pos h)
          · exact fin .nil trivial (Nat.zero_le _) (if_neg h).symm (if_neg h)
    · rw [List.map_eq_nil_iff.mp e]
      rw [List.map_eq_nil_iff.mp e] at ht
      rw [show visit b0 e0 .nil ++ [].reverse.flatMap (finN b0 e0) = [] from rfl, List.append_nil]
      exact lw_stop ht
theorem szT_sk {t : T} : szT t = t.sk.size := by
  induction t with
  | nil => rfl
  | node y c l r h1 h2 => show szT l + (szT r + 1) = l.sk.size + (r.sk.size + 1); rw [h1, h2]
theorem nodes_ok {d tr : Nat} {cnt : Int} {n : Nat} {t : T} {st : St} (K : TreeOk st tr n cnt t) :
    C (d + 2) 36 [.ref tr, .int b0, .int e0] st = some (.ref st.length, hp2 st (refs (t.inl.filter fun y => decide (y.b ≤ e0 ∧ b0 ≤ y.e))) []) := by
  have hsz : szT t ≤ 5 := szT_sk ▸ reach_size K.sk
  have r := outer (d := d) (tr := tr) (b0 := b0) (e0 := e0) (k := 64) (S := []) (F := []) K.at_ (fun _ h => nomatch h) (Nat.le_trans (Nat.add_le_add_right hsz 2) (by decide)) (Nat.le_trans hsz (by decide)) (Nat.le_trans (Nat.le_of_eq (Nat.zero_add _)) (Nat.le_trans hsz (by decide)))
  rw [visit_filter K.bd K.srt, show [].reverse.flatMap (finN b0 e0) = [] from rfl, List.append_nil, List.nil_append] at r
  have hl : (st ++ [O.list []]).length = st.length + 1 := List.length_append
  have ha : st ++ [O.list []] ++ [O.list []] = hp2 st [] [] := List.append_assoc ..
  refine w_fun (ps := [9, 18, 26]) (B := B_nodes_between) (ov := some (.ref st.length)) (m1 := nLo tr b0 e0 st.length .none) rfl rfl ?_ rfl
  delta B_nodes_between
  have i2 : exS clss nidxTab (C (d + 1)) (.asg 14 (.lst .nil)) (put 34 (.ref st.length) ([9, 18, 26].zip [V.ref tr, V.int b0, V.int e0])) (st ++ [O.list []]) = some (.none, put 14 (.ref (st.length + 1)) (put 34 (.ref st.length) ([9, 18, 26].zip [V.ref tr, V.int b0, V.int e0])), hp2 st [] []) := by
    rw [← ha, ← hl]; exact s_asg (w_lst w_nil)
  have hT : (hp2 st [] [])[tr]? = _ := hp2_o K.tree
  refine s_cons (s_asg (w_lst w_nil)) (s_go (s_cons i2 (s_go (s_cons (s_asg (w_attr (w_var rfl) hT rfl)) (s_go (s_cons (s_whl r) (s_go (s_cons (s_ret (w_var rfl)) s_stop))))))))
end
end Mine
end
section
namespace Mine
section
variable {st l : St} {k : Nat} {o : O}
theorem app_at : (st ++ l)[st.length + k]? = l[k]? := by rw [List.getElem?_append_right (Nat.le_add_right _ _), Nat.add_sub_cancel_left]
theorem app_at0 : (st ++ l)[st.length]? = l[0]? := by rw [List.getElem?_append_right (Nat.le_refl _), Nat.sub_self]
theorem app_set : (st ++ l).set (st.length + k) o = st ++ l.set k o := by rw [List.set_append_right _ _ (Nat.le_add_right _ _), Nat.add_sub_cancel_left]
theorem app_set0 : (st ++ l).set st.length o = st ++ l.set 0 o := by rw [List.set_append_right _ _ (Nat.le_refl _), Nat.sub_self]
end
noncomputable def ovO (num : Int) (nd : Nat) (home : V) (pl : Nat) : O := .inst 5 [(25, .int num), (8, .ref nd), (51, home), (2, .ref pl)]
theorem node_init {d : Nat} {st : St} {x : O} {i : Int} : C (d + 1) 24 [.ref (st.length + 1), .int i, .int 0, .int 0, .bool false, .bool false] (st ++ [x, .inst 2 []]) = some (.none, st ++ [x, nodeO i 0 0 0 false .none .none .none]) := by
  have g : (st ++ [x, .inst 2 []])[st.length + 1]? = some (.inst 2 []) := app_at
  have e : (st ++ [x, .inst 2 []]).set (st.length + 1) (nodeO i 0 0 0 false .none .none .none) = st ++ [x, nodeO i 0 0 0 false .none .none .none] := app_set
  rw [← e]
  refine w_fun (ps := [0, 25, 18, 26, 27, 28]) (B := B_OverlayNode_init) (ov := .none) (m1 := [0, 25, 18, 26, 27, 28].zip [.ref (st.length + 1), .int i, .int 0, .int 0, .bool false, .bool false]) rfl rfl ?_ rfl
  delta B_OverlayNode_init
  clear e
  repeat walk_at "w1"
theorem ov_init {d : Nat} {st : St} {i : Int} : C (d + 2) 46 [.ref st.length, .int i, .bool false, .bool false] (st ++ [.inst 5 []]) = some (.none, st ++ [ovO i (st.length + 1) .none (st.length + 2), nodeO i 0 0 0 false .none .none .none, .list []]) := by
  have n1 : (st ++ [wrO 25 (.int i) (.inst 5 [])]).length = st.length + 1 := List.length_append
  have h := node_init (d := d) (st := st) (x := wrO 25 (.int i) (.inst 5 [])) (i := i)
  have a1 : st ++ [wrO 25 (.int i) (.inst 5 [])] ++ [O.inst 2 []] = st ++ [wrO 25 (.int i) (.inst 5 []), .inst 2 []] := List.append_assoc ..
  rw [← n1, ← a1] at h
  have w := w_new (C := C (d + 1)) (m := [0, 25, 27, 28].zip [.ref st.length, .int i, .bool false, .bool false]) (n := 2) (cl := ⟨24, []⟩) (w_cons (w_var (f := 25) rfl) (w_cons w_val (w_cons w_val (w_cons (w_var (f := 27) rfl) (w_cons (w_var (f := 28) rfl) w_nil))))) rfl h
  rw [n1] at w
  have n2 : (st ++ [ovO i (st.length + 1) .none (st.length + 2), nodeO i 0 0 0 false .none .none .none]).length = st.length + 2 := List.length_append
  have l := w_lst (C := C (d + 1)) (m := [0, 25, 27, 28].zip [.ref st.length, .int i, .bool false, .bool false]) (st := st ++ [wrO 51 .none (wrO 8 (.ref (st.length + 1)) (wrO 25 (.int i) (.inst 5 []))), nodeO i 0 0 0 false .none .none .none]) w_nil
  rw [show (st ++ [wrO 51 .none (wrO 8 (.ref (st.length + 1)) (wrO 25 (.int i) (.inst 5 []))), nodeO i 0 0 0 false .none .none .none]).length = st.length + 2 from List.length_append, List.append_assoc] at l
  apply w_fun (ps := [0, 25, 27, 28]) (B := B_Overlay_init) rfl rfl
  · delta B_Overlay_init
    exact s_cons (s_asgA (w_var rfl) (w_var (v := .ref st.length) rfl) app_at0 rfl app_set0) (s_go (s_cons (s_asgA w (w_var (v := .ref st.length) rfl) app_at0 rfl app_set0) (s_go (s_cons (s_asgA w_val (w_var (v := .ref st.length) rfl) app_at0 rfl app_set0) (s_go (s_cons (s_asgA l (w_var (v := .ref st.length) rfl) app_at0 rfl app_set0) (s_go s_nil)))))))
  · rfl
noncomputable def homeO : O := .inst 6 [(9, .ref 8), (52, .ref 9), (50, .ref 5)]
theorem At_lt {st : St} {t : T} {p : V} (A : t.At st p) {z : Nat} (hz : z ∈ t.inl.map ND.a) : z < st.length := by
  obtain ⟨y, hy, rfl⟩ := List.mem_map.mp hz
  obtain ⟨i, hi⟩ := List.getElem?_of_mem hy
  have h1 := congrArg (fun l : List (Option O) => l[i]?) (at_iff.mp A)
  simp only [List.getElem?_map, hi, Option.map_some] at h1
  cases q : (t.io p)[i]? with
  | none => rw [q] at h1; cases h1
  | some o => rw [q] at h1; exact lt_of_at (Option.some.inj h1)
theorem made_ok {d n : Nat} {cnt i b e : Int} {t : T} {es : List (Int × V)} {st : St} (hn5 : n < 5) (K : TreeOk st 8 n cnt t) (hh : st[7]? = some homeO) (hd : st[9]? = some (.dict es)) (hi : lookI i es = .none) (hes : es.length ≤ 64) (hbe : b ≤ e) (ht : 7 ∉ t.inl.map ND.a ∧ 9 ∉ t.inl.map ND.a) :
    ∃ st' t', C (d + 8) 52 [.ref 7, .int i, .int b, .int e, .bool false, .bool false] st = some (.ref st.length, st') ∧ TreeOk st' 8 (n + 1) (cnt + 1) t' ∧ (t'.inl.map ND.key).Perm ((st.length + 1, i, b, e) :: t.inl.map ND.key) ∧ st'.length = st.length + 3 ∧
      st'[st.length]? = some (ovO i (st.length + 1) (.ref 7) (st.length + 2)) ∧ st'[st.length + 2]? = some (.list []) ∧ st'[9]? = some (.dict (es ++ [(i, .ref st.length)])) ∧
      ∀ z, z < st.length → z ≠ 8 → z ≠ 9 → z ∉ t.inl.map ND.a → st'[z]? = st[z]? := by
  have h7 := lt_of_at hh
  have h9 := lt_of_at hd
  have h8 := lt_of_at K.tree
  have sl : (st.set 9 (.dict (es ++ [(i, .ref st.length)]))).length = st.length := List.length_set
  obtain ⟨s1, hs1⟩ : ∃ s1, s1 = (st.set 9 (.dict (es ++ [(i, .ref st.length)]))) ++ [ovO i (st.length + 1) (.ref 7) (st.length + 2), nodeO i (min b e) (max b e) 0 false .none .none .none, .list []] := ⟨_, rfl⟩
  have at_k : ∀ {k}, s1[st.length + k]? = [ovO i (st.length + 1) (.ref 7) (st.length + 2), nodeO i (min b e) (max b e) 0 false .none .none .none, O.list []][k]? := fun {k} => by
    have := app_at (st := st.set 9 (.dict (es ++ [(i, .ref st.length)]))) (l := [ovO i (st.length + 1) (.ref 7) (st.length + 2), nodeO i (min b e) (max b e) 0 false .none .none .none, O.list []]) (k := k)
    rw [sl, ← hs1] at this; exact this
  have go : ∀ {z}, z < st.length → z ≠ 9 → s1[z]? = st[z]? := fun h1 h2 => by
    rw [hs1, List.getElem?_append_left (Nat.lt_of_lt_of_eq h1 sl.symm), List.getElem?_set_ne (Ne.symm h2)]
  have g9 : s1[9]? = some (.dict (es ++ [(i, .ref st.length)])) := by rw [hs1]; exact h_app (h_self hd)
  have len1 : s1.length = st.length + 3 := by rw [hs1, List.length_append, sl]; rfl
  have fr : ∀ {k z}, st.length + k = z → z ∉ t.inl.map ND.a := fun e hz => Nat.not_lt.mpr (Nat.le_add_right _ _) (e ▸ At_lt K.at_ hz)
  have K1 : TreeOk s1 8 n cnt t := K.congr fun z hz => by
    rcases hz with rfl | hz
    · exact go h8 (by decide)
    · exact go (At_lt K.at_ hz) (fun e => ht.2 (e ▸ hz))
  have ne8 : ∀ {k}, st.length + k ≠ 8 := fun e => Nat.not_lt.mpr (Nat.le_add_right _ _) (e ▸ h8)
  obtain ⟨st', t', run, K2, P2, F2, L2⟩ := put_ok (d := d + 1) (an := st.length + 1) hn5 K1 ⟨ne8, fr rfl⟩ at_k
  rw [Int.min_eq_left hbe, Int.max_eq_right hbe] at P2
  refine ⟨st', t', ?_, K2, P2, L2.trans len1, (F2 _ (ne8 (k := 0)) (Nat.ne_of_lt (Nat.lt_succ_self _)) (fr (k := 0) rfl)).trans (at_k (k := 0)), (F2 _ (ne8 (k := 2)) (fun e => absurd (Nat.add_left_cancel e) (by decide)) (fr (k := 2) rfl)).trans (at_k (k := 2)), (F2 _ (by decide) (Nat.ne_of_lt (Nat.lt_succ_of_lt h9)) ht.2).trans g9, fun z h1 h2 h3 h4 => (F2 z h2 (Nat.ne_of_lt (Nat.lt_succ_of_lt h1)) h4).trans (go h1 h3)⟩
  have hov := ov_init (d := d + 5) (st := st) (i := i)
  obtain ⟨S0, hS0⟩ : ∃ S0, S0 = st ++ [ovO i (st.length + 1) .none (st.length + 2), nodeO i 0 0 0 false .none .none .none, .list []] := ⟨_, rfl⟩
  have q0 : S0[st.length]? = some (ovO i (st.length + 1) .none (st.length + 2)) := hS0 ▸ app_at0
  have q1 : S0[st.length + 1]? = some (nodeO i 0 0 0 false .none .none .none) := hS0 ▸ app_at
  have q7 : S0[7]? = some homeO := hS0 ▸ h_app hh
  have q9 : S0[9]? = some (.dict es) := hS0 ▸ h_app hd
  have fin : ((S0.set st.length (wrO 51 (.ref 7) (ovO i (st.length + 1) .none (st.length + 2)))).set (st.length + 1) (wrO 26 (.int (max b e)) (wrO 18 (.int (min b e)) (nodeO i 0 0 0 false .none .none .none)))).set 9 (.dict (es ++ [(i, .ref st.length)])) = s1 := by
    rw [hs1, hS0, app_set0, app_set]; exact List.set_append_left _ _ h9
  rw [← fin] at run
  rw [← hS0] at hov
  have n1 : st.length ≠ st.length + 1 := Nat.ne_of_lt (Nat.lt_succ_self _)
  have n2 : (7 : Nat) ≠ st.length := Nat.ne_of_lt h7
  have n3 : (7 : Nat) ≠ st.length + 1 := Nat.ne_of_lt (Nat.lt_succ_of_lt h7)
  have n4 : (9 : Nat) ≠ st.length := Nat.ne_of_lt h9
  have n5 : (9 : Nat) ≠ st.length + 1 := Nat.ne_of_lt (Nat.lt_succ_of_lt h9)
  have htake : C (d + 6) 50 [.ref st.length] S0 = some (.none, S0) := by
    apply w_fun (ps := [53]) (B := B_take_out) rfl rfl
    · delta B_take_out
      exact s_cons (s_ite (t := false) (w_cmp (w_attr (w_var rfl) q0 rfl) w_val rfl) (cF s_nil)) (s_go s_nil)
    · rfl
  have hlay : C (d + 7) 51 [.ref st.length, .ref 7, .int b, .int e] S0 = some (.none, st') := by
    refine w_fun (ps := [53, 51, 18, 26]) (B := B_lay) (ov := .none) (m1 := [53, 51, 18, 26].zip [.ref st.length, .ref 7, .int b, .int e]) rfl rfl ?_ rfl
    delta B_lay
    clear hov K K1 K2 P2 F2 L2 at_k go g9 len1 fr fin hs1 hS0
    repeat walk_at "w1"
  have c5 : clss[5]? = some ⟨46, []⟩ := rfl
  refine w_fun (ps := [51, 25, 18, 26, 27, 28]) (B := B_made_overlay) (ov := some (.ref st.length)) (m1 := put 34 (.ref st.length) ([51, 25, 18, 26, 27, 28].zip [.ref 7, .int i, .int b, .int e, .bool false, .bool false])) rfl rfl ?_ rfl
  delta B_made_overlay
  exact s_cons (s_asg (w_new (w_cons (w_var rfl) (w_cons (w_var rfl) (w_cons (w_var rfl) w_nil))) c5 hov)) (s_go (s_cons (s_exp (w_call (w_cons (w_var rfl) (w_cons (w_var rfl) (w_cons (w_var rfl) (w_cons (w_var rfl) w_nil)))) hlay)) (s_go (s_cons (s_ret (w_var rfl)) s_stop))))
end Mine
end
section
namespace Mine
theorem fmod_ok {z many : Int} {s : St} (h : 0 < many ∧ many < 1073741824) : binV .fmod (.int z) (.int many) s = some (.int (z % many), s) := if_pos h
theorem fdiv_ok {z many : Int} {s : St} (h : 0 < many ∧ many < 1073741824) : binV .fdiv (.int z) (.int many) s = some (.int (z / many), s) := if_pos h
theorem mul_ok {x y : Int} {s : St} (h : x.natAbs < 4294967296 ∧ y.natAbs < 4294967296) : binV .mul (.int x) (.int y) s = some (.int (x * y), s) := if_pos h
structure Dk (st : St) (L : List Int) (k : Nat) : Prop where
  deck : st[2]? = some (.list [.ref 1, .int k])
  cells : st[1]? = some (.list (L.map V.int))
  len : L.length ≤ 63
  few : k ≤ 1000
theorem draw_ok {d k : Nat} {L : List Int} {st : St} (D : Dk st L k) {many : Int} (h0 : 0 < many) (h1 : many < 1000) : ∃ x : Int, 0 ≤ x ∧ x < many ∧ C (d + 1) 79 [.ref 2, .int many] st = some (.int x, st.set 2 (.list [.ref 1, .int (k + 1 : Nat)])) := by
  obtain ⟨hd, hc, hl, hf⟩ := D
  have q1 : (L.map V.int).length = L.length := List.length_map ..
  have q2 : (L.map V.int).length < 4294967296 := q1 ▸ Nat.lt_of_le_of_lt hl (by decide)
  have q3 : (0 : Int) < many ∧ many < 1073741824 := ⟨h0, Int.lt_trans h1 (by decide)⟩
  have r1 : idxV st (.ref 2) (.int 1) = some (.int (k : Nat)) := i_list hd (by decide) rfl
  have r2 : setIdxV st (.ref 2) (.int 1) (.int ((k : Nat) + 1)) = some (st.set 2 (.list [.ref 1, .int (k + 1 : Nat)])) := l_set hd ⟨by decide, by decide, Nat.lt_succ_self 1⟩
  have hd2 : (st.set 2 (.list [.ref 1, .int (k + 1 : Nat)]))[2]? = some (.list [.ref 1, .int (k + 1 : Nat)]) := h_self hd
  have hc2 : (st.set 2 (.list [.ref 1, .int (k + 1 : Nat)]))[1]? = some (.list (L.map V.int)) := h_ne (by decide) hc
  generalize st.set 2 (.list [.ref 1, .int (k + 1 : Nat)]) = S at r2 hd2 hc2
  have i1 : idxV S (.ref 2) (.int 1) = some (.int (k + 1 : Nat)) := i_list hd2 (by decide) rfl
  have i0 : idxV S (.ref 2) (.int 0) = some (.ref 1) := i_list hd2 (by decide) rfl
  have fin : ∀ {x : Int}, exSs clss nidxTab (C d) B_law_draw ([67, 16].zip [.ref 2, .int many]) st = some (some (.int (x % many)), [67, 16].zip [.ref 2, .int many], S) → ∃ x : Int, 0 ≤ x ∧ x < many ∧ C (d + 1) 79 [.ref 2, .int many] st = some (.int x, S) := fun {x} h =>
    ⟨x % many, Int.emod_nonneg _ (Int.ne_of_gt h0), Int.emod_lt_of_pos _ h0, w_fun (ps := [67, 16]) rfl rfl h rfl⟩
  clear hd hc hd2
  by_cases hk : k + 1 ≤ L.length
  · have q4 : ((k + 1 : Nat) : Int) ≤ ((L.map V.int).length : Int) := q1 ▸ Int.ofNat_le.mpr hk
    obtain ⟨z, hz⟩ : ∃ z, (L.map V.int)[k]? = some (.int z) := ⟨L[k], by rw [List.getElem?_map, List.getElem?_eq_getElem hk]; rfl⟩
    have q7 : idxV S (.ref 1) (.int ((k + 1 : Nat) - 1)) = some (.int z) := by
      rw [show ((k + 1 : Nat) : Int) - 1 = (k : Nat) from Int.add_sub_cancel (k : Int) 1]
      exact i_list hc2 ⟨Int.natCast_nonneg _, Int.ofNat_lt.mpr (Nat.lt_of_le_of_lt (Nat.le_of_succ_le hk) (q1 ▸ q2))⟩ hz
    have b1 : binV .fmod (.int z) (.int many) S = some (.int (z % many), S) := fmod_ok q3
    refine fin (x := z) ?_
    delta B_law_draw
    repeat walk_at "w1"
  · have q4 : ¬ ((k + 1 : Nat) : Int) ≤ ((L.map V.int).length : Int) := q1 ▸ fun h => hk (Int.ofNat_le.mp h)
    have hK : k + 1 < 4294967296 := Nat.lt_of_le_of_lt (Nat.succ_le_succ hf) (by decide)
    have hK2 : (k + 1) * (k + 1) < 4294967296 := Nat.lt_of_le_of_lt (Nat.mul_le_mul (Nat.succ_le_succ hf) (Nat.succ_le_succ hf)) (by decide)
    have b2 : binV .mul (.int ((k + 1 : Nat) : Int)) (.int ((k + 1 : Nat) : Int)) S = some (.int (((k + 1) * (k + 1) : Nat) : Int), S) := mul_ok ⟨hK, hK⟩
    have b3 : binV .mul (.int (((k + 1) * (k + 1) : Nat) : Int)) (.int 41) S = some (.int (((k + 1) * (k + 1) : Nat) * 41), S) := mul_ok ⟨hK2, by decide⟩
    have b4 : binV .mul (.int 13) (.int ((k + 1 : Nat) : Int)) S = some (.int (13 * ((k + 1 : Nat) : Int)), S) := mul_ok ⟨by decide, hK⟩
    have b5 : binV .mul (.int 5) (.int ((L.map V.int).length : Int)) S = some (.int (5 * ((L.map V.int).length : Int)), S) := mul_ok ⟨by decide, q2⟩
    have b6 : binV .fdiv (.int (((k + 1) * (k + 1) : Nat) * 41 + 13 * ((k + 1 : Nat) : Int) + 5 * ((L.map V.int).length : Int))) (.int 3) S = some (.int ((((k + 1) * (k + 1) : Nat) * 41 + 13 * ((k + 1 : Nat) : Int) + 5 * ((L.map V.int).length : Int)) / 3), S) := fdiv_ok (by decide)
    have b7 : binV .fmod (.int ((((k + 1) * (k + 1) : Nat) * 41 + 13 * ((k + 1 : Nat) : Int) + 5 * ((L.map V.int).length : Int)) / 3)) (.int many) S = some (.int ((((k + 1) * (k + 1) : Nat) * 41 + 13 * ((k + 1 : Nat) : Int) + 5 * ((L.map V.int).length : Int)) / 3 % many), S) := fmod_ok q3
    refine fin (x := (((k + 1) * (k + 1) : Nat) * 41 + 13 * ((k + 1 : Nat) : Int) + 5 * ((L.map V.int).length : Int)) / 3) ?_
    delta B_law_draw
    repeat walk_at "w1"
theorem Dk.next {st : St} {L : List Int} {k : Nat} (D : Dk st L k) (hk : k < 1000) : Dk (st.set 2 (.list [.ref 1, .int (k + 1 : Nat)])) L (k + 1) :=
  ⟨h_self D.deck, h_ne (by decide) D.cells, D.len, hk⟩
theorem Dk.congr {st st' : St} {L : List Int} {k : Nat} (D : Dk st L k) (h1 : st'[1]? = st[1]?) (h2 : st'[2]? = st[2]?) : Dk st' L k := ⟨by rw [h2]; exact D.deck, by rw [h1]; exact D.cells, D.len, D.few⟩
noncomputable def lawVal (j : Nat) : V := match j with
  | 0 => .none
  | 1 => .int 1
  | 2 => .bool true
  | _ => .int 2
theorem law_cases {P : V → Prop} (h0 : P .none) (h1 : P (.int 1)) (h2 : P (.bool true)) (h3 : P (.int 2)) : ∀ j, P (lawVal j)
  | 0 => h0
  | 1 => h1
  | 2 => h2
  | _ + 3 => h3
theorem value_ok {d k : Nat} {L : List Int} {st : St} (D : Dk st L k) (hl : 2 < st.length) : ∃ j : Nat, j < 4 ∧ C (d + 2) 80 [.ref 2] st = some (lawVal j, st.set 2 (.list [.ref 1, .int (k + 1 : Nat)]) ++ [.list [.none, .int 1, .bool true, .int 2]]) := by
  obtain ⟨x, h0, h1, e⟩ := draw_ok (d := d) (D.congr (List.getElem?_append_left (Nat.lt_of_succ_lt hl)) (List.getElem?_append_left hl) : Dk (st ++ [.list [.none, .int 1, .bool true, .int 2]]) L k) (many := 4) (by decide) (by decide)
  rw [List.set_append_left _ _ hl] at e
  have hget : (st.set 2 (.list [.ref 1, .int (k + 1 : Nat)]) ++ [O.list [.none, .int 1, .bool true, .int 2]])[st.length]? = some (.list [.none, .int 1, .bool true, .int 2]) := by
    have := app_at0 (st := st.set 2 (.list [.ref 1, .int (k + 1 : Nat)])) (l := [O.list [.none, .int 1, .bool true, .int 2]])
    rw [List.length_set] at this; exact this
  obtain ⟨j, rfl⟩ := Int.eq_ofNat_of_zero_le h0
  have hj : j < 4 := Int.ofNat_lt.mp h1
  have hi : idxV (st.set 2 (.list [.ref 1, .int (k + 1 : Nat)]) ++ [O.list [.none, .int 1, .bool true, .int 2]]) (.ref st.length) (.int (j : Nat)) = some (lawVal j) := i_list hget ⟨h0, Int.lt_trans h1 (by decide)⟩ (match j, hj with
    | 0, _ => rfl
    | 1, _ => rfl
    | 2, _ => rfl
    | 3, _ => rfl)
  refine ⟨j, hj, w_fun (ps := [67]) (B := B_law_value) (ov := some (lawVal j)) (m1 := [67].zip [.ref 2]) rfl rfl ?_ rfl⟩
  exact s_cons (s_ret (w_idx (w_lst (w_cons w_val (w_cons w_val (w_cons w_val (w_cons w_val w_nil))))) (w_call (w_cons (w_var rfl) (w_cons w_val w_nil)) e) hi)) s_stop
end Mine
end
section
namespace Mine
theorem setAll_same : ∀ {F : List Nat} {L : List O} {st : St}, F.map (st[·]?) = L.map some → setAll F L st = st
  | [], [], _, _ => rfl
  | a :: F, o :: L, st, h => by
    rw [List.map_cons, List.map_cons] at h
    obtain ⟨h1, h2⟩ := List.cons.inj h
    rw [setAll, set_same h1]; exact setAll_same h2
theorem frame0 {d f : Nat} {args : List V} {v : V} {st : St} (F : List Nat) (L : List O) (nd : F.Nodup) (hL : F.map (st[·]?) = L.map some)
    (run : ∀ (σ : Nat → Nat) (rest : St), (∀ (i a : Nat), F[i]? = some a → σ a = i) → C d f (renL σ args) (L.map (renO σ) ++ rest) = some (ren σ v, L.map (renO σ) ++ rest)) :
    C d f args st = some (v, st) := by
  rw [frame F L L nd hL rfl run, setAll_same hL]
noncomputable def lispO : O := .inst 9 [(59, .int 100), (49, .none), (48, .bool true), (65, .ref 4)]
noncomputable def rulesO : O := .inst 4 [(39, .ref 3), (49, .none), (48, .bool true), (47, .int 100), (45, .int 101), (43, .int 102), (42, .int 103), (41, .int 104), (40, .ref 6)]
inductive Pr where
  | no
  | one (p : Int)
  | two (p q : Int)
noncomputable def Pr.l : Pr → List V
  | .no => []
  | .one p => [.tup [.int 104, .int p]]
  | .two p q => [.tup [.int 104, .tup [.str 62, .int p, .int q]]]
noncomputable def Pr.v1 : Pr → Int
  | .no => 0
  | .one p => p
  | .two p _ => p
noncomputable def Pr.v2 : Pr → Int
  | .no => 0
  | .one _ => 0
  | .two _ q => q
noncomputable def yL : Option V → List V
  | .none => []
  | .some v => [.tup [.int 7, v]]
noncomputable def PL (r : Pr) (y : Option V) : List V := r.l ++ yL y
section
variable {d : Nat} {st : St} {a nd pl : Nat} {i : Int} {h : V} {r : Pr} {y : Option V}
theorem get7_ok (h5 : st[5]? = some rulesO) (ha : st[a]? = some (ovO i nd h pl)) (hp : st[pl]? = some (.list (PL r y))) (n1 : 5 ≠ a) (n2 : 5 ≠ pl) (n3 : a ≠ pl) :
    C (d + 6) 53 [.ref 5, .ref a, .int 7] st = some (y.getD .none, st) := by
  refine frame0 [5, a, pl] [rulesO, ovO i nd h pl, .list (PL r y)] (by simp [n1, n2, n3]) (by simp only [List.map_cons, List.map_nil, h5, ha, hp]) fun σ rest hσ => ?_
  have h0 := hσ 0 5 rfl
  have h1 := hσ 1 a rfl
  have h2 := hσ 2 pl rfl
  cases r <;> cases y <;> simp only [renL, ren, List.map_cons, List.map_nil, renO, renM, rulesO, ovO, PL, Pr.l, yL, List.nil_append, List.cons_append, h0, h1, h2] <;> kernel_rfl
theorem prio_ok (h5 : st[5]? = some rulesO) (h3 : st[3]? = some lispO) (ha : st[a]? = some (ovO i nd h pl)) (hp : st[pl]? = some (.list (PL r y))) (n1 : 5 ≠ a) (n2 : 5 ≠ pl) (n3 : a ≠ pl) (n4 : 3 ≠ a) (n5 : 3 ≠ pl) :
    C (d + 8) 65 [.ref 5, .ref a] st = some (.tup [.int r.v1, .int r.v2], st) := by
  refine frame0 [5, a, pl, 3] [rulesO, ovO i nd h pl, .list (PL r y), lispO] (by simp [n1, n2, n3, Ne.symm n4, Ne.symm n5]) (by simp only [List.map_cons, List.map_nil, h5, ha, hp, h3]) fun σ rest hσ => ?_
  have h0 := hσ 0 5 rfl
  have h1 := hσ 1 a rfl
  have h2 := hσ 2 pl rfl
  have h3 := hσ 3 3 rfl
  cases r <;> cases y <;> simp only [renL, ren, List.map_cons, List.map_nil, renO, renM, rulesO, lispO, ovO, PL, Pr.l, yL, List.nil_append, List.cons_append, h0, h1, h2, h3] <;> kernel_rfl
theorem isnil_ok {j : Nat} (h5 : st[5]? = some rulesO) : C (d + 3) 44 [.ref 5, lawVal j] st = some (.bool (match lawVal j with | .none => true | _ => false), st) := by
  refine frame0 [5] [rulesO] (by simp) (by simp only [List.map_cons, List.map_nil, h5]) fun σ rest hσ => ?_
  have h0 := hσ 0 5 rfl
  match j with
  | 0 => simp only [lawVal, renL, ren, List.map_cons, List.map_nil, renO, renM, rulesO, h0]; kernel_rfl
  | 1 => simp only [lawVal, renL, ren, List.map_cons, List.map_nil, renO, renM, rulesO, h0]; kernel_rfl
  | 2 => simp only [lawVal, renL, ren, List.map_cons, List.map_nil, renO, renM, rulesO, h0]; kernel_rfl
  | j + 3 => simp only [lawVal, renL, ren, List.map_cons, List.map_nil, renO, renM, rulesO, h0]; kernel_rfl
theorem valin_ok (h5 : st[5]? = some rulesO) (hp : st[pl]? = some (.list (yL y))) (n2 : 5 ≠ pl) : C (d + 5) 45 [.ref 5, .ref pl, .int 7] st = some (y.getD .none, st) := by
  refine frame0 [5, pl] [rulesO, .list (yL y)] (by simp [n2]) (by simp only [List.map_cons, List.map_nil, h5, hp]) fun σ rest hσ => ?_
  have h0 := hσ 0 5 rfl
  have h1 := hσ 1 pl rfl
  cases y <;> simp only [renL, ren, List.map_cons, List.map_nil, renO, renM, rulesO, yL, h0, h1] <;> kernel_rfl
end
end Mine
end
section
namespace Mine
inductive Chain (st : St) : V → List Nat → Prop
  | nil : Chain st .none []
  | cons {a : Nat} {num b e lim : Int} {c : Bool} {l r p : V} {A : List Nat} : st[a]? = some (nodeO num b e lim c l r p) → Chain st p A → Chain st (.ref a) (a :: A)
theorem chain_at {st : St} {t : T} : ∀ {p : V} {A : List Nat}, t.At st p → Chain st p A → ∀ y ∈ t.inl, ∃ B, Chain st (.ref y.a) B ∧ B.length ≤ szT t + A.length ∧ ∃ lim c l r q, st[y.a]? = some (nodeO y.num y.b y.e lim c l r q) := by
  induction t with
  | nil => exact fun _ _ _ h => nomatch h
  | node x c l r ihl ihr =>
    intro p A ⟨h1, h2, h3⟩ K y hy
    have K1 : Chain st (.ref x.a) (x.a :: A) := .cons h1 K
    have z : ∀ {n B : Nat}, B ≤ n + (x.a :: A).length → n + 1 ≤ szT (.node x c l r) → B ≤ szT (.node x c l r) + A.length := fun h k => by
      rw [List.length_cons, ← Nat.add_assoc, Nat.add_right_comm] at h
      exact Nat.le_trans h (Nat.add_le_add_right k _)
    replace hy : y ∈ l.inl ++ (x :: r.inl) := hy
    rcases List.mem_append.mp hy with hy | hy
    · obtain ⟨B, q1, q2, q3⟩ := ihl h2 K1 y hy
      exact ⟨B, q1, z q2 (Nat.add_le_add_left (Nat.succ_le_succ (Nat.zero_le _)) _), q3⟩
    · rcases List.mem_cons.mp hy with rfl | hy
      · exact ⟨_, K1, z (n := 0) (Nat.le_of_eq (Nat.zero_add _).symm) (Nat.le_trans (Nat.succ_le_succ (Nat.zero_le _)) (Nat.le_add_left _ _)), _, _, _, _, _, h1⟩
      · obtain ⟨B, q1, q2, q3⟩ := ihr h3 K1 y hy
        exact ⟨B, q1, z q2 (Nat.le_add_left _ _), q3⟩
noncomputable abbrev rf (A : List Nat) : List V := A.map V.ref
noncomputable abbrev uTest (d : Nat) := evE clss nidxTab (C d) (.cmp .isn (.var 8) (.val .none))
noncomputable abbrev uBody (d : Nat) := exSs clss nidxTab (C d) (.cons (.exp (.lapp (.var 33) (.var 8))) (.cons (.asg 8 (.attr (.var 8) 3)) .nil))
theorem up_loop {d : Nat} {st : St} {A : List Nat} : ∀ {v : V} {k : Nat} {W : List V}, Chain st v A → A.length + 1 ≤ k → W.length + A.length ≤ 100 →
    loopW (uTest d) (uBody d) k [(8, v), (33, .ref st.length)] (st ++ [.list W]) = some (.none, [(8, .none), (33, .ref st.length)], st ++ [.list (W ++ rf A)]) := by
  induction A with
  | nil =>
    intro v k W K hk _
    cases K
    cases k with
    | zero => exact absurd hk (Nat.not_succ_le_zero _)
    | succ k => rw [show rf [] = [] from rfl, List.append_nil]; exact lw_stop rfl
  | cons a A ih =>
    intro v k W K hk hW
    cases K with
    | cons h1 K =>
      cases k with
      | zero => exact absurd hk (Nat.not_succ_le_zero _)
      | succ k =>
        have ha : ∀ W, (st ++ [O.list W])[a]? = _ := fun W => h_app h1
        have hW1 : (W ++ [V.ref a]).length + A.length ≤ 100 := by rw [List.length_append, Nat.add_assoc, Nat.add_comm _ A.length]; exact hW
        have g1 : W.length ≤ maxSeq := Nat.le_trans (Nat.le_add_right _ _) (Nat.le_trans hW (Nat.le_of_ble_eq_true rfl))
        have i := ih K (Nat.le_of_succ_le_succ hk) hW1
        rw [List.append_assoc] at i
        exact lw_go rfl (s_cons (s_exp (w_lapp (w_var rfl) app_at0 g1 (w_var rfl) app_at0 g1 app_set0)) (s_go (s_cons (s_asg (w_attr (w_var rfl) (ha _) rfl)) (s_go s_nil)))) i
noncomputable abbrev dnBody (d : Nat) := exSs clss nidxTab (C d) (.cons (.exp (.call 26 (.cons (.var 15) .nil))) .nil)
noncomputable def Nodes (st : St) (A : List Nat) : Prop := ∀ a ∈ A, ∃ num b e lim c l r p, st[a]? = some (nodeO num b e lim c l r p)
theorem chain_nodes {st : St} {v : V} {A : List Nat} (K : Chain st v A) : Nodes st A := by
  induction K with
  | nil => exact fun _ h => nomatch h
  | cons h1 _ ih => exact fun a h => (List.mem_cons.mp h).elim (fun e => e ▸ ⟨_, _, _, _, _, _, _, _, h1⟩) (ih a)
theorem dn_loop {d : Nat} {st : St} {q : Nat} {all : List V} (hq : st[q]? = some (.list all)) {A : List Nat} : ∀ {m : Lo}, Nodes st A → ∃ m', loopF (some q) all (fun v m => some (put 15 v m)) (dnBody (d + 1)) (rf A) m st = some (.none, m', st) := by
  induction A with
  | nil => exact fun {m} _ => ⟨m, rfl⟩
  | cons a A ih =>
    intro m hA
    obtain ⟨num, b, e, lim, c, l, r, p, h1⟩ := hA a (.head _)
    obtain ⟨m', i⟩ := ih (m := put 15 (.ref a) m) fun x hx => hA x (List.mem_cons_of_mem _ hx)
    exact ⟨m', lf_go rfl (s_cons (s_exp (w_call (w_cons (w_var look_pt) w_nil) (hand_down_ok h1))) (s_go s_nil)) (stays_ok hq) i⟩
theorem hdt_ok {d : Nat} {st : St} {a : Nat} {A : List Nat} (K : Chain st (.ref a) A) (hl : A.length ≤ 60) : C (d + 2) 27 [.ref a] st = some (.none, st ++ [.list (rf A), .list (rf A).reverse]) := by
  have e1 := up_loop (d := d + 1) (W := []) K (k := 64) (Nat.le_trans (Nat.succ_le_succ hl) (by decide)) (Nat.le_trans (Nat.le_of_eq (Nat.zero_add _)) (Nat.le_trans hl (by decide)))
  have hN : Nodes (st ++ [.list (rf A), .list (rf A).reverse]) A.reverse := fun x hx => by
    obtain ⟨num, b, e, lim, c, l, r, p, h1⟩ := chain_nodes K x (List.mem_reverse.mp hx)
    exact ⟨num, b, e, lim, c, l, r, p, h_app h1⟩
  have g : (st ++ [O.list (rf A), .list (rf A).reverse])[st.length + 1]? = some (.list (rf A).reverse) := app_at
  obtain ⟨m', e2⟩ := dn_loop (d := d) (m := [(8, .none), (33, .ref st.length)]) g hN
  rw [show rf A.reverse = (rf A).reverse from List.map_reverse] at e2
  have g1 : (rf A).length ≤ maxSeq := by rw [List.length_map]; exact Nat.le_trans hl (Nat.le_of_ble_eq_true rfl)
  have g2 : (rf A).reverse.length ≤ maxSeq := by rw [List.length_reverse]; exact g1
  have r := w_rev (C := C (d + 1)) (m := [(8, .none), (33, .ref st.length)]) (st := st ++ [O.list (rf A)]) (w_var (f := 33) rfl) (list_of app_at0 g1)
  rw [show (st ++ [O.list (rf A)]).length = st.length + 1 from List.length_append, List.append_assoc] at r
  refine w_fun (ps := [8]) (B := B_hand_down_to) (ov := .none) (m1 := m') rfl rfl ?_ rfl
  exact s_cons (s_asg (w_lst w_nil)) (s_go (s_cons (s_whl e1) (s_go (s_cons (s_for1 (w_seq r (items_of g)) g2 e2) (s_go s_nil)))))
section
variable {d n : Nat} {cnt : Int} {t : T} {st : St} {a pl : Nat} {i : Int} {h : V} {y : ND}
theorem begin_ok (K : TreeOk st 8 n cnt t) (ha : st[a]? = some (ovO i y.a h pl)) (hy : y ∈ t.inl) : ∃ g : List O, g.length = 2 ∧ C (d + 3) 48 [.ref a] st = some (.int y.b, st ++ g) ∧ C (d + 3) 49 [.ref a] st = some (.int y.e, st ++ g) := by
  obtain ⟨B, q1, q2, lim, c, l, r, q, q3⟩ := chain_at K.at_ .nil y hy
  have hh := hdt_ok (d := d) q1 (Nat.le_trans q2 (Nat.le_trans (Nat.add_le_add_right (szT_sk ▸ reach_size K.sk) 0) (by decide)))
  have w : evE clss nidxTab (C (d + 2)) (.attr (.var 53) 8) ([53].zip [.ref a]) st = some (.ref y.a, st) := w_attr (w_var rfl) ha rfl
  have w2 : ∀ g, evE clss nidxTab (C (d + 2)) (.attr (.var 53) 8) ([53].zip [.ref a]) (st ++ g) = some (.ref y.a, st ++ g) := fun g => w_attr (w_var rfl) (h_app ha) rfl
  exact ⟨_, rfl, w_fun (ps := [53]) (B := B_overlay_begin) (ov := some (.int y.b)) rfl rfl (s_cons (s_exp (w_call (w_cons w w_nil) hh)) (s_go (s_cons (s_ret (w_attr (w2 _) (h_app q3) rfl)) s_stop))) rfl,
    w_fun (ps := [53]) (B := B_overlay_end) (ov := some (.int y.e)) rfl rfl (s_cons (s_exp (w_call (w_cons w w_nil) hh)) (s_go (s_cons (s_ret (w_attr (w2 _) (h_app q3) rfl)) s_stop))) rfl⟩
noncomputable def keyV (r : Pr) (b e i : Int) : List V := [.int r.v1, .int r.v2, .int b, .int (0 - e), .int i]
theorem rank_ok {r : Pr} {yv : Option V} (h5 : st[5]? = some rulesO) (h3 : st[3]? = some lispO) (K : TreeOk st 8 n cnt t) (ha : st[a]? = some (ovO i y.a h pl)) (hy : y ∈ t.inl) (hp : st[pl]? = some (.list (PL r yv))) (n1 : 5 ≠ a) (n2 : 5 ≠ pl) (n3 : a ≠ pl) (n4 : 3 ≠ a) (n5 : 3 ≠ pl) :
    ∃ g : List O, C (d + 9) 66 [.ref 5, .ref a] st = some (.tup (keyV r y.b y.e i), st ++ g) := by
  have h1 := prio_ok (d := d) h5 h3 ha hp n1 n2 n3 n4 n5
  obtain ⟨g, lg, b1, _⟩ := begin_ok (d := d + 5) K ha hy
  have K2 : TreeOk (st ++ g) 8 n cnt t := K.congr fun z hz => List.getElem?_append_left (hz.elim (fun e => e ▸ lt_of_at K.tree) (At_lt K.at_))
  have ha2 : (st ++ g)[a]? = _ := h_app ha
  obtain ⟨g2, _, _, b2⟩ := begin_ok (d := d + 5) K2 ha2 hy
  have ha3 : (st ++ (g ++ g2))[a]? = _ := h_app ha
  rw [List.append_assoc] at b2
  refine ⟨g ++ g2, w_fun (ps := [50, 53]) (B := B_rank) (ov := some (.tup (keyV r y.b y.e i))) (m1 := put 63 (.int r.v2) (put 59 (.int r.v1) ([50, 53].zip [.ref 5, .ref a]))) rfl rfl ?_ rfl⟩
  delta B_rank
  clear K K2 ha2 ha
  repeat walk_at "w1"
end
end Mine
end
section
namespace Mine
structure Ov where
  i : Nat
  a : Nat
  nd : Nat
  pl : Nat
  b : Int
  e : Int
  r : Pr
  y : Option V
noncomputable def Ov.key (o : Ov) : Nat × Int × Int × Int := (o.nd, (o.i : Int), o.b, o.e)
noncomputable def Ov.ki (o : Ov) : List Int := [o.r.v1, o.r.v2, o.b, 0 - o.e, (o.i : Int)]
noncomputable def Ov.yv (o : Ov) : V := o.y.getD .none
noncomputable def rowsD (rows : List Ov) : List (Int × V) := rows.map fun o => ((o.i : Int), V.ref o.a)
structure OvAt (st : St) (B : Nat) (t : T) (o : Ov) : Prop where
  ov : st[o.a]? = some (ovO o.i o.nd (.ref 7) o.pl)
  pl : st[o.pl]? = some (.list (PL o.r o.y))
  ba : B ≤ o.a
  bp : B ≤ o.pl
  ne : o.a ≠ o.pl
  ta : o.a ∉ t.inl.map ND.a
  tp : o.pl ∉ t.inl.map ND.a
  yk : o.y = .none ∨ ∃ j, o.y = some (lawVal j)
  be : 0 ≤ o.b ∧ o.b ≤ o.e ∧ o.e ≤ 10
structure Inv (st : St) (B : Nat) (t : T) (rows : List Ov) : Prop where
  tree : TreeOk st 8 rows.length rows.length t
  keys : (t.inl.map ND.key).Perm (rows.map Ov.key)
  lisp : st[3]? = some lispO
  rules : st[5]? = some rulesO
  home : st[7]? = some homeO
  dict : st[9]? = some (.dict (rowsD rows))
  ov : ∀ o ∈ rows, OvAt st B t o
  num : rows.map Ov.i = List.range rows.length
  B13 : 13 ≤ B
  bt : ∀ z ∈ t.inl.map ND.a, B ≤ z
theorem Inv.app {st : St} {B : Nat} {t : T} {rows : List Ov} (I : Inv st B t rows) (g : St) : Inv (st ++ g) B t rows := by
  have lt : ∀ {z : Nat} {o : O}, st[z]? = some o → (st ++ g)[z]? = some o := fun h => h_app h
  refine ⟨I.tree.congr fun z hz => List.getElem?_append_left ?_, I.keys, lt I.lisp, lt I.rules, lt I.home, lt I.dict, fun o ho => ?_, I.num, I.B13, I.bt⟩
  · rcases hz with rfl | hz
    · exact lt_of_at I.tree.tree
    · exact At_lt I.tree.at_ hz
  · obtain ⟨a1, a2, a3, a4, a5, a6, a7, a8, a9⟩ := I.ov o ho
    exact ⟨lt a1, lt a2, a3, a4, a5, a6, a7, a8, a9⟩
theorem perm_map_inv {α β : Type} {f : α → β} {l l' : List β} (h : l.Perm l') : ∀ {m : List α}, l' = m.map f → ∃ m' : List α, m'.Perm m ∧ l = m'.map f := by
  induction h with
  | nil => intro m e; exact ⟨[], (by cases m with | nil => exact .refl _ | cons _ _ => cases e), rfl⟩
  | cons x _ ih =>
    intro m e
    cases m with
    | nil => cases e
    | cons y m =>
      rw [List.map_cons] at e
      obtain ⟨rfl, e2⟩ := List.cons.inj e
      obtain ⟨m', p, e3⟩ := ih e2
      exact ⟨y :: m', p.cons y, by rw [e3]; rfl⟩
  | swap x y l =>
    intro m e
    cases m with
    | nil => cases e
    | cons z m =>
      cases m with
      | nil => cases e
      | cons w m =>
        simp only [List.map_cons] at e
        obtain ⟨rfl, e2⟩ := List.cons.inj e
        obtain ⟨rfl, rfl⟩ := List.cons.inj e2
        exact ⟨w :: z :: m, .swap _ _ _, rfl⟩
  | trans _ _ ih1 ih2 =>
    intro m e
    obtain ⟨m1, p1, e1⟩ := ih2 e
    obtain ⟨m2, p2, e2⟩ := ih1 e1
    exact ⟨m2, p2.trans p1, e2⟩
noncomputable abbrev oKV (o : Ov) : List V × V := (o.ki.map V.int, .ref o.a)
noncomputable def Desc (l : List Ov) : Prop := l.Pairwise fun o o' => ltI o'.ki o.ki = true
theorem insK_ok {o : Ov} : ∀ {l : List Ov}, Desc l → (∀ x ∈ l, x.i ≠ o.i) → ∃ l', insK (o.ki.map V.int) (.ref o.a) (l.map oKV) = some (l'.map oKV) ∧ l'.Perm (o :: l) ∧ Desc l'
  | [], _, _ => ⟨[o], rfl, .refl _, List.pairwise_singleton ..⟩
  | x :: l, D, hne => by
    obtain ⟨D1, D2⟩ := List.pairwise_cons.mp D
    have hk : o.ki ≠ x.ki := fun e => by
      have : (o.i : Int) = (x.i : Int) := by simp only [Ov.ki, List.cons.injEq] at e; exact e.2.2.2.2.1
      exact hne x (.head _) (by (first | lia | omega))
    have tot := ltI_tot o.ki (b := x.ki) rfl hk
    simp only [List.map_cons, insK]
    rw [ltVs_is o.ki (bs := x.ki) rfl, ltVs_is x.ki (bs := o.ki) rfl]
    cases q : ltI o.ki x.ki with
    | true =>
      obtain ⟨l', e, p, D'⟩ := insK_ok (l := l) D2 fun z hz => hne z (List.mem_cons_of_mem _ hz)
      refine ⟨x :: l', by show ob (insK (o.ki.map V.int) (.ref o.a) (l.map oKV)) _ = _; rw [e]; rfl, (p.cons x).trans (.swap _ _ _), List.pairwise_cons.mpr ⟨fun z hz => ?_, D'⟩⟩
      rcases List.mem_cons.mp (p.mem_iff.mp hz) with rfl | hz
      · exact q
      · exact D1 z hz
    | false =>
      have q2 : ltI x.ki o.ki = true := by rw [tot, q]; rfl
      refine ⟨o :: x :: l, by rw [q2]; rfl, .refl _, List.pairwise_cons.mpr ⟨fun z hz => ?_, D⟩⟩
      rcases List.mem_cons.mp hz with rfl | hz
      · exact q2
      · exact ltI_tr z.ki (b := x.ki) (c := o.ki) rfl rfl (D1 z hz) q2
theorem sortK_ok : ∀ {l : List Ov}, (l.map Ov.i).Nodup → ∃ l', sortK (l.map oKV) = some (l'.map oKV) ∧ l'.Perm l ∧ Desc l'
  | [], _ => ⟨[], rfl, .refl _, .nil⟩
  | o :: l, nd => by
    rw [List.map_cons, List.nodup_cons] at nd
    obtain ⟨l1, e1, p1, D1⟩ := sortK_ok (l := l) nd.2
    obtain ⟨l2, e2, p2, D2⟩ := insK_ok (o := o) D1 fun x hx e => nd.1 (e ▸ List.mem_map_of_mem (p1.mem_iff.mp hx))
    refine ⟨l2, ?_, p2.trans (p1.cons o), D2⟩
    simp only [List.map_cons, sortK]
    rw [e1]; exact e2
theorem okKeys_ok : ∀ {l : List Ov}, (l.map Ov.i).Nodup → okKeys (l.map fun o => o.ki.map V.int) = true
  | [], _ => rfl
  | o :: l, nd => by
    rw [List.map_cons, List.nodup_cons] at nd
    simp only [List.map_cons, okKeys, Bool.and_eq_true]
    refine ⟨⟨⟨rfl, rfl⟩, List.all_eq_true.mpr fun k hk => ?_⟩, okKeys_ok nd.2⟩
    obtain ⟨x, hx, rfl⟩ := List.mem_map.mp hk
    cases q : V.sames (o.ki.map V.int) (x.ki.map V.int) with
    | false => rfl
    | true =>
      exfalso
      have e := V.sames_eq q
      simp only [Ov.ki, List.map_cons, List.cons.injEq, V.int.injEq] at e
      exact nd.1 (List.mem_map.mpr ⟨x, hx, by (first | lia | omega)⟩)
section
variable {st : St} {B : Nat} {t : T} {rows : List Ov} {d : Nat}
theorem Inv.node (I : Inv st B t rows) {o : Ov} (ho : o ∈ rows) : ∃ y ∈ t.inl, y.a = o.nd ∧ y.num = (o.i : Int) ∧ y.b = o.b ∧ y.e = o.e := by
  have : o.key ∈ t.inl.map ND.key := I.keys.mem_iff.mpr (List.mem_map_of_mem ho)
  obtain ⟨y, hy, e⟩ := List.mem_map.mp this
  simp only [ND.key, Ov.key, Prod.mk.injEq] at e
  exact ⟨y, hy, e⟩
theorem key_ok (I : Inv st B t rows) {o : Ov} (ho : o ∈ rows) {q : Nat} (hq : st[q]? = some (.inst 8 [(50, .ref 5)])) : ∃ g : List O, C (d + 10) 68 [.ref q, .ref o.a] st = some (.tup (o.ki.map V.int), st ++ g) := by
  obtain ⟨y, hy, e1, e2, e3, e4⟩ := I.node ho
  obtain ⟨a1, a2, a3, a4, a5, a6, a7, a8, a9⟩ := I.ov o ho
  have b : ∀ {k z}, k < 13 → B ≤ z → k ≠ z := fun h1 h2 => Nat.ne_of_lt (Nat.lt_of_lt_of_le h1 (Nat.le_trans I.B13 h2))
  rw [← e1] at a1
  obtain ⟨g, r⟩ := rank_ok (d := d) I.rules I.lisp I.tree a1 hy a2 (b (by decide) a3) (b (by decide) a4) a5 (b (by decide) a3) (b (by decide) a4)
  rw [e3, e4] at r
  exact ⟨g, w_fun (ps := [0, 53]) (B := B_Ranked_key) (ov := some (.tup (o.ki.map V.int))) rfl rfl (s_cons (s_ret (w_call (w_cons (w_attr (w_var rfl) hq rfl) (w_cons (w_var rfl) w_nil)) r)) s_stop) rfl⟩
theorem keys_ok {la q : Nat} {all : List V} {os : List Ov} : ∀ {st : St}, Inv st B t rows → (∀ o ∈ os, o ∈ rows) → st[q]? = some (.inst 8 [(50, .ref 5)]) → st[la]? = some (.list all) →
    ∃ g : List O, keysOf (C (d + 10)) 68 (.ref q) la all (os.map fun o => V.ref o.a) st = some (os.map fun o => o.ki.map V.int, st ++ g) := by
  induction os with
  | nil => exact fun {st} _ _ _ _ => ⟨[], by rw [List.append_nil]; rfl⟩
  | cons o os ih =>
    intro st I hm hq hl
    obtain ⟨g, r⟩ := key_ok (d := d) I (hm o (.head _)) hq
    obtain ⟨g2, r2⟩ := ih (I.app g) (fun x hx => hm x (List.mem_cons_of_mem _ hx)) (h_app hq) (h_app hl)
    rw [List.append_assoc] at r2
    exact ⟨g ++ g2, ks_cons r (stays_ok (h_app hl)) r2⟩
theorem sorted_ok (I : Inv st B t rows) {os : List Ov} (hm : ∀ o ∈ os, o ∈ rows) (nd : (os.map Ov.i).Nodup) (h5 : os.length ≤ 5) {la : Nat} (hl : st[la]? = some (.list (os.map fun o => V.ref o.a))) :
    ∃ (so : List Ov) (g : List O) (x : Nat), C (d + 11) 69 [.ref 5, .ref la] st = some (.ref x, st ++ g) ∧ (st ++ g)[x]? = some (.list (so.map fun o => V.ref o.a)) ∧ so.Perm os ∧ Desc so := by
  have hl1 : (st ++ [O.inst 8 [(50, .ref 5)]])[la]? = _ := h_app hl
  have hq : (st ++ [O.inst 8 [(50, .ref 5)]])[st.length]? = some (.inst 8 [(50, .ref 5)]) := app_at0
  obtain ⟨g, r⟩ := keys_ok (d := d) (all := os.map fun o => V.ref o.a) (I.app [O.inst 8 [(50, .ref 5)]]) hm hq hl1
  obtain ⟨so, e, p, D⟩ := sortK_ok nd
  have q0 : (st ++ [O.inst 8 []])[st.length]? = some (.inst 8 []) := app_at0
  have hinit : C (d + 10) 67 [.ref st.length, .ref 5] (st ++ [.inst 8 []]) = some (.none, st ++ [.inst 8 [(50, .ref 5)]]) :=
    w_fun (ps := [0, 50]) (B := B_Ranked_init) (ov := .none) rfl rfl (s_cons (s_asgA (w_var rfl) (w_var rfl) q0 rfl app_set0) (s_go s_nil)) rfl
  have z : (os.map fun o => o.ki.map V.int).zip (os.map fun o => V.ref o.a) = os.map oKV := by rw [List.zip_map']
  rw [← z] at e
  have s := w_srt (C := C (d + 10)) (m := [50, 52].zip [V.ref 5, V.ref la]) (n := 64) (e := .var 52) (w_var rfl) (w_new (w_cons (w_var (f := 50) rfl) w_nil) (cl := ⟨67, [(64, 68)]⟩) rfl hinit) hq hl1 rfl (cl := ⟨67, [(64, 68)]⟩) rfl rfl (by rw [List.length_map]; exact h5) r (okKeys_ok nd) e
  rw [List.map_map, List.append_assoc, List.append_assoc] at s
  refine ⟨so, [O.inst 8 [(50, .ref 5)]] ++ (g ++ [.list (so.map fun o => V.ref o.a)]), (st ++ ([O.inst 8 [(50, .ref 5)]] ++ g)).length, w_fun (ps := [50, 52]) (B := B_sorted_overlays) rfl rfl (s_cons (s_ret s) s_stop) rfl, ?_, p, D⟩
  rw [← List.append_assoc, ← List.append_assoc, ← List.append_assoc]; exact app_at0
end
end Mine
end
section
namespace Mine
noncomputable def cov (at_ : Int) (o : Ov) : Bool := decide (o.b ≤ at_) && decide (at_ < o.e)
noncomputable def orf (l : List Ov) : List V := l.map fun o => .ref o.a
section
variable {st : St} {B : Nat} {t : T} {rows : List Ov} {d : Nat}
theorem Inv.os (I : Inv st B t rows) : ∃ os : List Ov, os.Perm rows ∧ t.inl.map ND.key = os.map Ov.key := perm_map_inv I.keys rfl
theorem at_loop {q : Nat} {all : List V} {at_ : Int} {m0 : Lo} (hm : look 17 m0 = some (.int at_)) (hq : st[q]? = some (.list all)) {l : List ND} : (∀ y ∈ l, ∃ lim c lo ro p, st[y.a]? = some (nodeO y.num y.b y.e lim c lo ro p)) →
    loopC (some q) all 8 (evE clss nidxTab (C d) (.var 8)) (evE clss nidxTab (C d) (.cmp3 .le .lt (.attr (.var 8) 18) (.var 17) (.attr (.var 8) 26))) (refs l) m0 st = some (refs (l.filter fun y => decide (y.b ≤ at_) && decide (at_ < y.e)), st) := by
  induction l with
  | nil => exact fun _ => rfl
  | cons y l ih =>
    intro hl
    obtain ⟨lim, c, lo, ro, p, h1⟩ := hl y (.head _)
    have ih := ih fun z hz => hl z (List.mem_cons_of_mem _ hz)
    have k17 : look 17 (put 8 (V.ref y.a) m0) = some (.int at_) := l_pn (by decide) hm
    rw [List.filter_cons]
    by_cases g : y.b ≤ at_
    · by_cases g2 : at_ < y.e
      · rw [decide_eq_true g, decide_eq_true g2]
        refine lc_t ?_ (w_var look_pt) (stays_ok hq) ih
        repeat walk_at "w1"
      · rw [decide_eq_true g, decide_eq_false g2]
        refine lc_f ?_ (stays_ok hq) ih
        repeat walk_at "w1"
    · rw [decide_eq_false g]
      refine lc_f ?_ (stays_ok hq) ih
      repeat walk_at "w1"
theorem look_rows {o : Ov} {rs : List Ov} : (rs.map Ov.i).Nodup → o ∈ rs → lookI (o.i : Int) (rowsD rs) = some (.ref o.a) := by
  induction rs with
  | nil => exact fun _ h => nomatch h
  | cons x rs ih =>
    intro nd h
    obtain ⟨n1, n2⟩ := List.nodup_cons.mp nd
    show (if (o.i : Int) = (x.i : Int) then some (V.ref x.a) else lookI (o.i : Int) (rowsD rs)) = _
    rcases List.mem_cons.mp h with rfl | h
    · exact if_pos rfl
    · exact (if_neg fun e => n1 (List.mem_map.mpr ⟨o, h, Int.ofNat.inj e⟩)).trans (ih n2 h)
theorem of_loop {q : Nat} {all : List V} {m0 : Lo} (I : Inv st B t rows) (hm : look 51 m0 = some (.ref 7)) (hq : st[q]? = some (.list all)) {l : List ND} : ∀ {os : List Ov}, l.map ND.key = os.map Ov.key → (∀ o ∈ os, o ∈ rows) → (∀ y ∈ l, ∃ lim c lo ro p, st[y.a]? = some (nodeO y.num y.b y.e lim c lo ro p)) →
    loopC (some q) all 8 (evE clss nidxTab (C d) (.idx (.attr (.var 51) 52) (.attr (.var 8) 25))) (fun _ s => some (.bool true, s)) (refs l) m0 st = some (orf os, st) := by
  induction l with
  | nil =>
    intro os e _ _
    rw [List.map_eq_nil_iff.mp e.symm]; rfl
  | cons y l ih =>
    intro os e ho hl
    cases os with
    | nil => exact nomatch e
    | cons o os =>
      obtain ⟨e1, e2⟩ := List.cons.inj e
      obtain ⟨lim, c, lo, ro, p, h1⟩ := hl y (.head _)
      rw [show y.num = (o.i : Int) from congrArg (fun k : Nat × Int × Int × Int => k.2.1) e1] at h1
      exact lc_t rfl (w_idx (w_attr (w_var (l_pn (by decide) hm)) I.home rfl) (w_attr (w_var look_pt) h1 rfl) (i_dict I.dict (look_rows (by rw [I.num]; exact List.nodup_range) (ho o (.head _))))) (stays_ok hq)
        (ih e2 (fun z hz => ho z (List.mem_cons_of_mem _ hz)) fun z hz => hl z (List.mem_cons_of_mem _ hz))
theorem TreeOk.node {n : Nat} {cnt : Int} (K : TreeOk st 8 n cnt t) : ∀ y ∈ t.inl, ∃ lim c lo ro p, st[y.a]? = some (nodeO y.num y.b y.e lim c lo ro p) := fun y hy => by
  obtain ⟨B, _, _, lim, c, l, r, q, q3⟩ := chain_at K.at_ .nil y hy
  exact ⟨lim, c, l, r, q, q3⟩
theorem ats_ok (I : Inv st B t rows) {os : List Ov} (hp : os.Perm rows) (hk : t.inl.map ND.key = os.map Ov.key) {at_ : Int} : ∃ (g : List O) (x : Nat), C (d + 4) 56 [.ref 7, .int at_] st = some (.ref x, st ++ g) ∧ (st ++ g)[x]? = some (.list (orf (os.filter (cov at_)))) := by
  have hl5 : t.inl.length ≤ 5 := sk_size ▸ reach_size I.tree.sk
  have hn := nodes_ok (d := d + 1) (b0 := at_) (e0 := at_) I.tree
  obtain ⟨F1, hF1⟩ : ∃ F1, F1 = t.inl.filter fun y => decide (y.b ≤ at_ ∧ at_ ≤ y.e) := ⟨_, rfl⟩
  obtain ⟨F2, hF2⟩ : ∃ F2, F2 = F1.filter fun y => decide (y.b ≤ at_) && decide (at_ < y.e) := ⟨_, rfl⟩
  rw [← hF1] at hn
  have hkey : F2.map ND.key = (os.filter (cov at_)).map Ov.key := by
    have e0 : F2 = t.inl.filter fun y => decide (y.b ≤ at_) && decide (at_ < y.e) := by
      rw [hF2, hF1, List.filter_filter]
      refine List.filter_congr fun y _ => ?_
      by_cases h1 : y.b ≤ at_
      · by_cases h2 : at_ < y.e
        · rw [decide_eq_true h1, decide_eq_true h2, decide_eq_true ⟨h1, Int.le_of_lt h2⟩]; rfl
        · rw [decide_eq_false h2, Bool.and_false]; rfl
      · rw [decide_eq_false h1]; rfl
    have e1 : ∀ l : List ND, (l.filter fun y => decide (y.b ≤ at_) && decide (at_ < y.e)).map ND.key = (l.map ND.key).filter fun k => decide (k.2.2.1 ≤ at_) && decide (at_ < k.2.2.2) := fun l => by rw [List.filter_map]; rfl
    have e2 : ∀ l : List Ov, (l.filter (cov at_)).map Ov.key = (l.map Ov.key).filter fun k => decide (k.2.2.1 ≤ at_) && decide (at_ < k.2.2.2) := fun l => by rw [List.filter_map]; rfl
    rw [e0, e1, e2, hk]
  have I2 := I.app [O.list (refs F1), .list []]
  have I3 := I.app [O.list (refs F1), .list [], .list (refs F2)]
  have q1 : (st ++ [O.list (refs F1), .list []])[st.length]? = some (.list (refs F1)) := app_at0
  have q2 : (st ++ [O.list (refs F1), .list [], .list (refs F2)])[st.length + 2]? = some (.list (refs F2)) := app_at
  have mF1 : ∀ y ∈ F1, y ∈ t.inl := fun y hy => (List.mem_filter.mp (hF1 ▸ hy)).1
  have lF1 : (refs F1).length ≤ maxSeq := by rw [refs, List.length_map, hF1]; exact Nat.le_trans (List.length_filter_le _ _) (Nat.le_trans hl5 (Nat.le_of_ble_eq_true rfl))
  have lF2 : (refs F2).length ≤ maxSeq := by rw [refs, List.length_map, hF2]; exact Nat.le_trans (List.length_filter_le _ _) (List.length_map (as := F1) _ ▸ lF1)
  have al := at_loop (d := d + 3) (m0 := [51, 17].zip [V.ref 7, V.int at_]) (at_ := at_) rfl q1 (l := F1) fun y hy => I2.tree.node y (mF1 y hy)
  rw [← hF2] at al
  have ol := of_loop (d := d + 2) (m0 := [51, 56].zip [V.ref 7, V.ref (st.length + 2)]) I3 rfl q2 (l := F2) (os := os.filter (cov at_)) hkey (fun o ho => hp.mem_iff.mp (List.mem_filter.mp ho).1) fun y hy => I3.tree.node y (mF1 y (List.mem_filter.mp (hF2 ▸ hy)).1)
  have c1 := w_compc (C := C (d + 3)) (e := .var 8) (w_seq (w_call (w_cons (w_attr (w_var (f := 51) rfl) I.home (f := 9) rfl) (w_cons (w_var (f := 17) rfl) (w_cons (w_var (f := 17) rfl) w_nil))) hn) (items_of q1)) lF1 al
  have c2 := w_comp (C := C (d + 2)) (w_seq (w_var (f := 56) rfl) (items_of q2)) lF2 ol
  rw [show (st ++ [O.list (refs F1), .list []]).length = st.length + 2 from List.length_append, List.append_assoc] at c1
  rw [show (st ++ [O.list (refs F1), .list [], .list (refs F2)]).length = st.length + 3 from List.length_append, List.append_assoc] at c2
  exact ⟨[O.list (refs F1), .list [], .list (refs F2), .list (orf (os.filter (cov at_)))], st.length + 3, w_fun (ps := [51, 17]) (B := B_overlays_at) (ov := some (.ref (st.length + 3))) rfl rfl (s_cons (s_ret (w_call (w_cons (w_var rfl) (w_cons c1 w_nil)) (w_fun (ps := [51, 56]) (B := B_of_nodes) (ov := some (.ref (st.length + 3))) rfl rfl (s_cons (s_ret c2) s_stop) rfl))) s_stop) rfl, app_at⟩
end
end Mine
end
section
namespace Mine
noncomputable def isN : V → Bool
  | .none => true
  | _ => false
structure Base (H st : St) : Prop where
  len : H.length ≤ st.length
  get : ∀ z, z < H.length → z ≠ 2 → z ≠ 8 → z ≠ 9 → z ≠ 10 → st[z]? = H[z]?
theorem Base.app {H st : St} (h : Base H st) (g : St) : Base H (st ++ g) := ⟨by rw [List.length_append]; have := h.len; (first | lia | omega), fun z h1 h2 h3 h4 h5 => by
  rw [List.getElem?_append_left (by have := h.len; (first | lia | omega))]; exact h.get z h1 h2 h3 h4 h5⟩
noncomputable def PropsOk (H : St) (P : V) (ch : Nat → V) : Prop := ∀ st, Base H st → ∀ d at_, at_ ≤ 10 → ∃ pl g, C (d + 9) 63 [P, .int (at_ : Nat)] st = some (.ref pl, st ++ g) ∧ C (d + 9) 45 [.ref 5, .ref pl, .int 7] (st ++ g) = some (ch at_, st ++ g)
noncomputable def seenO (l : List Ov) : Option Ov := l.find? fun o => !isN o.yv
section
variable {st : St} {B : Nat} {t : T} {rows : List Ov} {d : Nat}
noncomputable abbrev cBody (d : Nat) := exSs clss nidxTab (C d) (.cons (.asg 38 (.call 53 (.cons (.var 50) (.cons (.var 53) (.cons (.var 25) .nil))))) (.cons (.ite (.not (.meth (.var 50) 55 (.cons (.var 38) .nil))) (.cons (.ret (.tup (.cons (.var 38) (.cons (.var 53) .nil)))) .nil) .nil) .nil))
theorem c_loop {q : Nat} {all : List V} (I : Inv st B t rows) (hq : st[q]? = some (.list all)) {so : List Ov} : ∀ {m : Lo}, (∀ o ∈ so, o ∈ rows) → look 50 m = some (.ref 5) → look 25 m = some (.int 7) →
    ∃ m', (∀ x, x ≠ 53 → x ≠ 38 → look x m' = look x m) ∧ loopF (some q) all (fun v m => some (put 53 v m)) (cBody (d + 6)) (orf so) m st = some ((seenO so).map (fun o => .tup [o.yv, .ref o.a]), m', st) := by
  induction so with
  | nil => exact fun {m} _ _ _ => ⟨m, fun _ _ _ => rfl, rfl⟩
  | cons o so ih =>
    intro m hm h50 h25
    obtain ⟨a1, a2, a3, a4, a5, a6, a7, a8, a9⟩ := I.ov o (hm o (.head _))
    have b : ∀ {z}, B ≤ z → 5 ≠ z := fun h => Nat.ne_of_lt (Nat.lt_of_lt_of_le (by decide) (Nat.le_trans I.B13 h))
    have hget : C (d + 6) 53 [.ref 5, .ref o.a, .int 7] st = some (o.yv, st) := get7_ok (d := d) I.rules a1 a2 (b a3) (b a4) a5
    have hnil : C (d + 6) 44 [.ref 5, o.yv] st = some (.bool (isN o.yv), st) := by
      obtain ⟨j, hj⟩ : ∃ j, o.yv = lawVal j := a8.elim (fun e => ⟨0, by rw [Ov.yv, e]; rfl⟩) fun ⟨j, e⟩ => ⟨j, by rw [Ov.yv, e]; rfl⟩
      rw [hj]; exact isnil_ok (d := d + 3) I.rules
    have hr := I.rules
    have e50 : look 50 (put 38 o.yv (put 53 (V.ref o.a) m)) = some (.ref 5) := l_pn (by decide) (l_pn (by decide) h50)
    have u1 : evE clss nidxTab (C (d + 6)) (.call 53 (.cons (.var 50) (.cons (.var 53) (.cons (.var 25) .nil)))) (put 53 (V.ref o.a) m) st = some (o.yv, st) := w_call (w_cons (w_var (l_pn (by decide) h50)) (w_cons (w_var look_pt) (w_cons (w_var (l_pn (by decide) h25)) w_nil))) hget
    have u2 : evE clss nidxTab (C (d + 6)) (.not (.meth (.var 50) 55 (.cons (.var 38) .nil))) (put 38 o.yv (put 53 (V.ref o.a) m)) st = some (.bool (!isN o.yv), st) := w_not (w_meth (w_var e50) hr rfl (cl := ⟨43, [(55, 44)]⟩) rfl rfl (w_cons (w_var look_pt) w_nil) hnil)
    cases hn : isN o.yv with
    | true =>
      obtain ⟨m', k1, k2⟩ := ih (m := put 38 o.yv (put 53 (V.ref o.a) m)) (fun x hx => hm x (List.mem_cons_of_mem _ hx)) e50 (l_pn (by decide) (l_pn (by decide) h25))
      rw [hn] at u2
      refine ⟨m', fun x h1 h2 => (k1 x h1 h2).trans (l_pn h2 (look_put_ne h1)), ?_⟩
      rw [show seenO (o :: so) = seenO so by rw [seenO, List.find?_cons, hn]; rfl]
      exact lf_go rfl (s_cons (s_asg u1) (s_go (s_cons (s_ite u2 (cF s_nil)) (s_go s_nil)))) (stays_ok hq) k2
    | false =>
      rw [hn] at u2
      refine ⟨put 38 o.yv (put 53 (V.ref o.a) m), fun x h1 h2 => l_pn h2 (look_put_ne h1), ?_⟩
      rw [show seenO (o :: so) = some o by rw [seenO, List.find?_cons, hn]; rfl]
      exact lf_ret rfl (s_cons (s_asg u1) (s_go (s_cons (s_ite u2 (cT (s_cons (s_ret (w_tup (w_cons (w_var look_pt) (w_cons (w_var (l_pn (by decide) look_pt)) w_nil)))) s_stop))) s_stop)))
theorem cp_ok {H : St} {P : V} {ch : Nat → V} (I : Inv st B t rows) (hB : Base H st) (hP : PropsOk H P ch) (hnd : rows.length ≤ 5) {at_ : Nat} (hat : at_ ≤ 10) :
    ∃ (so : List Ov) (g : List O), so.Perm (rows.filter (cov at_)) ∧ Desc so ∧ C (d + 12) 70 [.ref 5, .ref 7, P, .int (at_ : Nat), .int 7] st = some ((match seenO so with | some o => .tup [o.yv, .ref o.a] | .none => .tup [ch at_, .none]), st ++ g) := by
  obtain ⟨os, p1, hk⟩ := I.os
  obtain ⟨g1, x1, r1, l1⟩ := ats_ok (d := d + 7) I p1 hk (at_ := (at_ : Nat))
  have I1 := I.app g1
  have nd : (rows.map Ov.i).Nodup := by rw [I.num]; exact List.nodup_range
  have pf : (os.filter (cov at_)).Perm (rows.filter (cov at_)) := p1.filter _
  have nd2 : ((os.filter (cov at_)).map Ov.i).Nodup := ((p1.map Ov.i).nodup_iff.mpr nd).sublist (List.filter_sublist.map _)
  have len : (os.filter (cov at_)).length ≤ 5 := by have := List.length_filter_le (cov at_) os; rw [p1.length_eq] at this; (first | lia | omega)
  obtain ⟨so, g2, x2, r2, l2, p2, D⟩ := sorted_ok (d := d) I1 (fun o ho => p1.mem_iff.mp (List.mem_filter.mp ho).1) nd2 len l1
  have I2 := I1.app g2
  obtain ⟨m', k1, k2⟩ := c_loop (d := d + 5) (m := [50, 51, 60, 17, 25].zip [V.ref 5, V.ref 7, P, V.int (at_ : Nat), V.int 7]) I2 l2 (fun o ho => p1.mem_iff.mp (List.mem_filter.mp (p2.mem_iff.mp ho)).1) rfl rfl
  have lso : (orf so).length ≤ maxSeq := by rw [orf, List.length_map, p2.length_eq]; exact Nat.le_trans len (Nat.le_of_ble_eq_true rfl)
  have it := w_seq (C := C (d + 11)) (m := [50, 51, 60, 17, 25].zip [V.ref 5, V.ref 7, P, V.int (at_ : Nat), V.int 7]) (w_call (w_cons (w_var (f := 50) rfl) (w_cons (w_call (w_cons (w_var (f := 51) rfl) (w_cons (w_var (f := 17) rfl) w_nil)) r1) w_nil)) r2) (items_of l2)
  cases hs : seenO so with
  | some o =>
    rw [hs] at k2
    exact ⟨so, g1 ++ g2, p2.trans pf, D, List.append_assoc st g1 g2 ▸ w_fun (ps := [50, 51, 60, 17, 25]) (B := B_char_property_from) (ov := some (.tup [o.yv, .ref o.a])) rfl rfl (s_cons (s_for1 it lso k2) s_stop) (by rw [hs]; rfl)⟩
  | none =>
    rw [hs] at k2
    obtain ⟨pl, g3, c1, c2⟩ := hP (st ++ g1 ++ g2) ((hB.app g1).app g2) (d + 2) at_ hat
    have m' : ∀ {x v}, look x ([50, 51, 60, 17, 25].zip [V.ref 5, V.ref 7, P, V.int (at_ : Nat), V.int 7]) = some v → x ≠ 53 → x ≠ 38 → look x m' = some v := fun h h1 h2 => (k1 _ h1 h2).trans h
    refine ⟨so, g1 ++ g2 ++ g3, p2.trans pf, D, ?_⟩
    rw [← List.append_assoc, ← List.append_assoc]
    exact w_fun (ps := [50, 51, 60, 17, 25]) (B := B_char_property_from) (ov := some (.tup [ch at_, .none])) rfl rfl (s_cons (s_for1 it lso k2) (s_go (s_cons (s_ret (w_tup (w_cons (w_call (w_cons (w_var (m' rfl (by decide) (by decide))) (w_cons (w_call (w_cons (w_var (m' rfl (by decide) (by decide))) (w_cons (w_var (m' rfl (by decide) (by decide))) w_nil)) c1) (w_cons (w_var (m' rfl (by decide) (by decide))) w_nil))) c2) (w_cons w_val w_nil)))) s_stop))) (by rw [hs]; rfl)
end
end Mine
end
section
namespace Mine
noncomputable def held (o : Ov) : V := match o.y with | .none => .none | .some v => .tup [v]
noncomputable def rowV (o : Ov) : V := .tup [.int o.b, .int o.e, .tup [.int o.r.v1, .int o.r.v2], held o, .int (o.i : Int)]
noncomputable def bestV : Option Ov → V
  | .none => .none
  | .some o => .tup (o.ki.map V.int)
noncomputable def btr (o : Ov) : Option Ov → Bool
  | .none => true
  | .some p => ltI p.ki o.ki
noncomputable def hit (at_ : Int) (best : Option Ov) (o : Ov) : Bool := cov at_ o && (!isN o.yv && btr o best)
noncomputable def bestO (at_ : Int) : List Ov → Option Ov → Option Ov
  | [], b => b
  | o :: l, b => bestO at_ l (if hit at_ b o then some o else b)
noncomputable def fnd (c : V) : Option Ov → V
  | .none => c
  | .some o => o.yv
noncomputable abbrev sBody (d : Nat) := exSs clss nidxTab (C d) (.cons (.asg 73 (.bin .add (.var 41) (.tup (.cons (.var 18) (.cons (.bin .sub (.val (.int 0)) (.var 26)) (.cons (.var 25) .nil)))))) (.cons (.ite (.band (.cons (.cmp3 .le .lt (.var 18) (.var 17) (.var 26)) (.cons (.cmp .isn (.var 69) (.val .none)) (.cons (.cmp .isn (.idx (.var 69) (.val (.int 0))) (.val .none)) (.cons (.bor (.cons (.cmp .is (.var 72) (.val .none)) (.cons (.cmp .gt (.var 73) (.var 72)) .nil))) .nil))))) (.cons (.asgT [34, 72] (.tup (.cons (.idx (.var 69) (.val (.int 0))) (.cons (.var 73) .nil)))) .nil) .nil) .nil))
noncomputable abbrev bndT (xs : List Nat) (v : V) (m : Lo) : Option Lo := onT v fun ws => bindT xs ws m
noncomputable abbrev sBind : V → Lo → Option Lo := bndT [18, 26, 41, 69, 25]
section
variable {st : St} {d : Nat}
theorem s_step {o : Ov} {m : Lo} {at_ : Int} {c : V} {best : Option Ov} (h17 : look 17 m = some (.int at_)) (h34 : look 34 m = some (fnd c best)) (h72 : look 72 m = some (bestV best)) (hy : o.y = .none ∨ ∃ j, o.y = some (lawVal j)) :
    ∃ m1 m2, sBind (rowV o) m = some m1 ∧ sBody d m1 st = some (.none, m2, st) ∧ look 17 m2 = some (.int at_) ∧ look 34 m2 = some (fnd c (if hit at_ best o then some o else best)) ∧ look 72 m2 = some (bestV (if hit at_ best o then some o else best)) := by
  refine ⟨put 25 (V.int o.i) (put 69 (held o) (put 41 (.tup [.int o.r.v1, .int o.r.v2]) (put 26 (.int o.e) (put 18 (.int o.b) m)))), ?_⟩
  have hb : sBind (rowV o) m = some (put 25 (.int o.i) (put 69 (held o) (put 41 (.tup [.int o.r.v1, .int o.r.v2]) (put 26 (.int o.e) (put 18 (.int o.b) m))))) := rfl
  have k69 : look 69 (put 25 (V.int o.i) (put 69 (held o) (put 41 (.tup [.int o.r.v1, .int o.r.v2]) (put 26 (.int o.e) (put 18 (.int o.b) m))))) = some (held o) := (look_put_ne (by decide)).trans look_pt
  have k18 : look 18 (put 25 (V.int o.i) (put 69 (held o) (put 41 (.tup [.int o.r.v1, .int o.r.v2]) (put 26 (.int o.e) (put 18 (.int o.b) m))))) = some (.int o.b) := by repeat walk_at "w1"
  have k26 : look 26 (put 25 (V.int o.i) (put 69 (held o) (put 41 (.tup [.int o.r.v1, .int o.r.v2]) (put 26 (.int o.e) (put 18 (.int o.b) m))))) = some (.int o.e) := by repeat walk_at "w1"
  have k41 : look 41 (put 25 (V.int o.i) (put 69 (held o) (put 41 (.tup [.int o.r.v1, .int o.r.v2]) (put 26 (.int o.e) (put 18 (.int o.b) m))))) = some (.tup [.int o.r.v1, .int o.r.v2]) := by repeat walk_at "w1"
  have k25 : look 25 (put 25 (V.int o.i) (put 69 (held o) (put 41 (.tup [.int o.r.v1, .int o.r.v2]) (put 26 (.int o.e) (put 18 (.int o.b) m))))) = some (.int o.i) := look_pt
  have k17 : look 17 (put 25 (V.int o.i) (put 69 (held o) (put 41 (.tup [.int o.r.v1, .int o.r.v2]) (put 26 (.int o.e) (put 18 (.int o.b) m))))) = some (.int at_) := by repeat walk_at "w1"
  have k34 : look 34 (put 25 (V.int o.i) (put 69 (held o) (put 41 (.tup [.int o.r.v1, .int o.r.v2]) (put 26 (.int o.e) (put 18 (.int o.b) m))))) = some (fnd c best) := by repeat walk_at "w1"
  have k72 : look 72 (put 25 (V.int o.i) (put 69 (held o) (put 41 (.tup [.int o.r.v1, .int o.r.v2]) (put 26 (.int o.e) (put 18 (.int o.b) m))))) = some (bestV best) := by repeat walk_at "w1"
  generalize put 25 (V.int o.i) (put 69 (held o) (put 41 (.tup [.int o.r.v1, .int o.r.v2]) (put 26 (.int o.e) (put 18 (.int o.b) m)))) = m1 at *
  clear h17 h34 h72
  have hm : evE clss nidxTab (C d) (.bin .add (.var 41) (.tup (.cons (.var 18) (.cons (.bin .sub (.val (.int 0)) (.var 26)) (.cons (.var 25) .nil))))) m1 st = some (.tup (o.ki.map V.int), st) := by repeat walk_at "w1"
  have no : evAnd clss nidxTab (C d) (.cons (.cmp3 .le .lt (.var 18) (.var 17) (.var 26)) (.cons (.cmp .isn (.var 69) (.val .none)) (.cons (.cmp .isn (.idx (.var 69) (.val (.int 0))) (.val .none)) (.cons (.bor (.cons (.cmp .is (.var 72) (.val .none)) (.cons (.cmp .gt (.var 73) (.var 72)) .nil))) .nil)))) (put 73 (.tup (o.ki.map V.int)) m1) st = some (.bool false, st) → hit at_ best o = false →
      ∃ m2, sBind (rowV o) m = some m1 ∧ sBody d m1 st = some (.none, m2, st) ∧ look 17 m2 = some (.int at_) ∧ look 34 m2 = some (fnd c (if hit at_ best o then some o else best)) ∧ look 72 m2 = some (bestV (if hit at_ best o then some o else best)) := fun h1 h2 => by
    rw [h2]
    refine ⟨put 73 (.tup (o.ki.map V.int)) m1, hb, ?_, l_pn (by decide) k17, l_pn (by decide) k34, l_pn (by decide) k72⟩
    apply s_cons (s_asg hm)
    repeat walk_at "w1"
  have c3 : ∀ v, o.y = some v → isN v = false ∨ v = .none := fun v e => by
    rcases hy with z | ⟨j, z⟩
    · rw [e] at z; exact nomatch z
    · rw [Option.some.inj (e.symm.trans z)]
      match j with
      | 0 => exact .inr rfl
      | 1 => exact .inl rfl
      | 2 => exact .inl rfl
      | j + 3 => exact .inl rfl
  by_cases g1 : o.b ≤ at_
  · by_cases g2 : at_ < o.e
    · cases hv : o.y with
      | none =>
        rw [show held o = .none by unfold held; rw [hv]] at k69
        refine no ?_ ?_
        · repeat walk_at "w1"
        · unfold hit Ov.yv; rw [hv]; exact Bool.and_false _
      | some v =>
        rw [show held o = .tup [v] by unfold held; rw [hv]] at k69
        rcases c3 v hv with q | q
        · have q' : cmpV .isn v .none = some true := by cases v <;> first | rfl | exact nomatch q
          have fin : evOr clss nidxTab (C d) (.cons (.cmp .is (.var 72) (.val .none)) (.cons (.cmp .gt (.var 73) (.var 72)) .nil)) (put 73 (.tup (o.ki.map V.int)) m1) st = some (.bool (btr o best), st) := by
            cases best with
            | none => repeat walk_at "w1"
            | some p =>
              have hl : cmpV .gt (.tup (o.ki.map V.int)) (.tup (p.ki.map V.int)) = some (ltI p.ki o.ki) := ltVs_is p.ki (bs := o.ki) rfl
              have k72' : look 72 (put 73 (.tup (o.ki.map V.int)) m1) = some (.tup (p.ki.map V.int)) := l_pn (by decide) k72
              repeat walk_at "w1"
              show cond (ltI p.ki o.ki) _ _ = _
              show _ = some (V.bool (ltI p.ki o.ki), st)
              cases ltI p.ki o.ki <;> rfl
          cases hh : btr o best
          · rw [hh] at fin
            refine no ?_ ?_
            · repeat walk_at "w1"
            · unfold hit; rw [hh, Bool.and_false]; exact Bool.and_false _
          · rw [hh] at fin
            have e : hit at_ best o = true := by
              unfold hit cov Ov.yv; rw [hh, hv, decide_eq_true g1, decide_eq_true g2, show isN (Option.getD (some v) V.none) = false from q]; rfl
            rw [e]
            refine ⟨put 72 (.tup (o.ki.map V.int)) (put 34 v (put 73 (.tup (o.ki.map V.int)) m1)), hb, ?_, l_pn (by decide) (l_pn (by decide) (l_pn (by decide) k17)), l_pn (by decide) (look_pt.trans (by show _ = some o.yv; unfold Ov.yv; rw [hv]; rfl)), look_pt⟩
            apply s_cons (s_asg hm)
            repeat walk_at "w1"
        · rw [q] at k69 hv
          refine no ?_ ?_
          · repeat walk_at "w1"
          · unfold hit Ov.yv; rw [hv]; exact Bool.and_false _
    · refine no ?_ ?_
      · repeat walk_at "w1"
      · unfold hit cov; rw [decide_eq_false g2, Bool.and_false]; rfl
  · refine no ?_ ?_
    · repeat walk_at "w1"
    · unfold hit cov; rw [decide_eq_false g1]; rfl
theorem s_loop {at_ : Int} {c : V} {q : Nat} {all : List V} (hq : st[q]? = some (.list all)) {rows : List Ov} : ∀ {m : Lo} {best : Option Ov}, look 17 m = some (.int at_) → look 34 m = some (fnd c best) → look 72 m = some (bestV best) → (∀ o ∈ rows, o.y = .none ∨ ∃ j, o.y = some (lawVal j)) →
    ∃ m', loopF (some q) all sBind (sBody d) (rows.map rowV) m st = some (.none, m', st) ∧ look 34 m' = some (fnd c (bestO at_ rows best)) ∧ look 72 m' = some (bestV (bestO at_ rows best)) := by
  induction rows with
  | nil => exact fun {m} _ _ h34 h72 _ => ⟨m, rfl, h34, h72⟩
  | cons o rows ih =>
    intro m best h17 h34 h72 hy
    obtain ⟨_, _, e1, e2, k17, k34, k72⟩ := s_step (d := d) (st := st) h17 h34 h72 (hy o (.head _))
    obtain ⟨m', r, r34, r72⟩ := ih k17 k34 k72 fun x hx => hy x (List.mem_cons_of_mem _ hx)
    exact ⟨m', lf_go e1 e2 (stays_ok hq) r, r34, r72⟩
theorem bestO_mem {at_ : Int} : ∀ {rows : List Ov} {best : Option Ov}, bestO at_ rows best = best ∨ ∃ o ∈ rows, bestO at_ rows best = some o
  | [], _ => .inl rfl
  | o :: rows, best => by
    rcases bestO_mem (rows := rows) (best := if hit at_ best o then some o else best) with e | ⟨x, hx, e⟩
    · show bestO at_ rows _ = _ ∨ _
      rw [e]
      split
      · exact .inr ⟨o, .head _, by show bestO at_ rows _ = _; rw [if_pos (by assumption)] at e; rw [if_pos (by assumption), e]⟩
      · exact .inl rfl
    · exact .inr ⟨x, List.mem_cons_of_mem _ hx, e⟩
noncomputable def isB : V → Bool
  | .bool _ => true
  | _ => false
noncomputable def seenV (c : V) (best : Option Ov) : V := .tup [.bool (isB (fnd c best)), fnd c best, .int (match best with | .none => -1 | .some o => (o.i : Int))]
theorem seen_ok {rows : List Ov} {chs : List V} {at_ : Nat} (hr : st[10]? = some (.list (rows.map rowV))) (hc : st[11]? = some (.list chs)) (hl : chs.length = 10) (hn : rows.length ≤ 5) (hv : ∀ v ∈ chs, ∃ j, v = lawVal j) (hy : ∀ o ∈ rows, o.y = .none ∨ ∃ j, o.y = some (lawVal j)) :
    C (d + 1) 82 [.ref 11, .ref 10, .int (at_ : Nat)] st = some (seenV (chs.getD at_ .none) (bestO (at_ : Nat) rows .none), st) := by
  have hb : chs.length < 4294967296 := by rw [hl]; decide
  have h1 : evE clss nidxTab (C d) (.ite (.cmp .lt (.var 17) (.len (.var 71))) (.idx (.var 71) (.var 17)) (.val .none)) ([71, 68, 17].zip [V.ref 11, V.ref 10, V.int (at_ : Nat)]) st = some (chs.getD at_ .none, st) := by
    rw [List.getD_eq_getElem?_getD]
    cases q : chs[at_]? with
    | some v =>
      have h : at_ < chs.length := (List.getElem?_eq_some_iff.mp q).1
      have h' : (at_ : Int) < (chs.length : Int) := Int.ofNat_lt.mpr h
      have e1 : idxV st (.ref 11) (.int (at_ : Nat)) = some v := i_list hc ⟨Int.natCast_nonneg _, Int.lt_trans h' (Int.ofNat_lt.mpr hb)⟩ q
      show _ = some (v, st)
      repeat walk_at "w1"
    | none =>
      have h' : ¬ (at_ : Int) < (chs.length : Int) := fun h => Nat.not_lt.mpr (List.getElem?_eq_none_iff.mp q) (Int.ofNat_lt.mp h)
      show _ = some (V.none, st)
      repeat walk_at "w1"
  obtain ⟨m', r, r34, r72⟩ := s_loop (d := d) (at_ := (at_ : Nat)) (c := chs.getD at_ .none) hr (m := [(71, V.ref 11), (68, V.ref 10), (17, V.int (at_ : Nat)), (34, chs.getD at_ .none), (72, .none)]) (best := .none) rfl rfl rfl hy
  have hf : ∃ j, fnd (chs.getD at_ .none) (bestO (at_ : Nat) rows .none) = lawVal j := by
    rcases bestO_mem (at_ := (at_ : Nat)) (rows := rows) (best := .none) with e | ⟨o, ho, e⟩
    · rw [e]
      show ∃ j, chs.getD at_ .none = lawVal j
      rw [List.getD_eq_getElem?_getD]
      cases q : chs[at_]? with
      | none => exact ⟨0, rfl⟩
      | some v => exact hv v (List.mem_of_getElem? q)
    · rw [e]
      show ∃ j, o.yv = lawVal j
      rcases hy o ho with e | ⟨j, e⟩
      · exact ⟨0, by rw [Ov.yv, e]; rfl⟩
      · exact ⟨j, by rw [Ov.yv, e]; rfl⟩
  have hisi : isiV .bool (fnd (chs.getD at_ .none) (bestO (at_ : Nat) rows .none)) = some (isB (fnd (chs.getD at_ .none) (bestO (at_ : Nat) rows .none))) := by
    obtain ⟨j, hj⟩ := hf
    rw [hj]
    match j with
    | 0 => rfl
    | 1 => rfl
    | 2 => rfl
    | j + 3 => rfl
  have hlen : (rows.map rowV).length ≤ maxSeq := by rw [List.length_map]; exact Nat.le_trans hn (by decide)
  refine w_fun (ps := [71, 68, 17]) (B := B_law_seen) rfl rfl (ov := some (seenV (chs.getD at_ .none) (bestO (at_ : Nat) rows .none))) (m1 := m') ?_ rfl
  delta B_law_seen
  apply s_cons
  · apply s_asgT (w_tup (w_cons h1 (w_cons w_val w_nil))) rfl
  · apply s_go
    refine s_cons (s_forT (w_seq (w_var (v := V.ref 10) rfl) (items_of hr)) hlen r) (s_go ?_)
    generalize bestO (at_ : Nat) rows .none = bo at *
    cases bo with
    | none => repeat walk_at "w1"
    | some o =>
      have e6 : idxV st (.tup (o.ki.map V.int)) (.int 4) = some (.int (o.i : Int)) := rfl
      have r72' : look 72 m' = some (.tup (o.ki.map V.int)) := r72
      repeat walk_at "w1"
end
end Mine
end
section
namespace Mine
noncomputable def Pn (at_ : Int) (o : Ov) : Bool := cov at_ o && !isN o.yv
section
variable {at_ : Int} {S : Ov → Prop}
theorem bestO_spec (inj : ∀ o o', S o → S o' → o.ki = o'.ki → o = o') : ∀ {rows : List Ov} {b : Option Ov}, (∀ o ∈ rows, S o) → (∀ q, b = some q → S q) →
    (∀ o, bestO at_ rows b = some o → (o ∈ rows ∧ Pn at_ o = true) ∨ b = some o) ∧
    (∀ o ∈ rows, Pn at_ o = true → ∃ p, bestO at_ rows b = some p ∧ (p = o ∨ ltI o.ki p.ki = true)) ∧
    (∀ q, b = some q → ∃ p, bestO at_ rows b = some p ∧ (p = q ∨ ltI q.ki p.ki = true))
  | [], b, _, _ => ⟨fun o h => .inr h, fun o h => (by cases h), fun q h => ⟨q, h, .inl rfl⟩⟩
  | o :: rows, b, hS, hb => by
    have ho := hS o (.head _)
    have hb' : ∀ q, (if hit at_ b o then some o else b) = some q → S q := fun q h => by
      split at h
      · cases h; exact ho
      · exact hb q h
    obtain ⟨h1, h2, h3⟩ := bestO_spec inj (rows := rows) (b := if hit at_ b o then some o else b) (fun x hx => hS x (List.mem_cons_of_mem _ hx)) hb'
    have eq : bestO at_ (o :: rows) b = bestO at_ rows (if hit at_ b o then some o else b) := rfl
    rw [eq]
    have hP : hit at_ b o = true → Pn at_ o = true := fun h => by
      unfold hit at h; unfold Pn
      rw [Bool.and_eq_true, Bool.and_eq_true] at h
      rw [h.1, h.2.1]; rfl
    refine ⟨fun x hx => ?_, fun x hx hp => ?_, fun q hq => ?_⟩
    · rcases h1 x hx with ⟨m, p⟩ | e
      · exact .inl ⟨List.mem_cons_of_mem _ m, p⟩
      · split at e
        · rename_i hh; cases e; exact .inl ⟨.head _, hP hh⟩
        · exact .inr e
    · rcases List.mem_cons.mp hx with rfl | hx
      · by_cases hh : hit at_ b x = true
        · exact h3 x (if_pos hh)
        · -- the best is greater
          have : ∃ q, b = some q ∧ ltI q.ki x.ki = false := by
            rw [Bool.not_eq_true] at hh
            cases b with
            | none =>
              exfalso
              unfold hit btr at hh; unfold Pn at hp
              rw [Bool.and_eq_true] at hp
              rw [hp.1, hp.2] at hh; cases hh
            | some q =>
              refine ⟨q, rfl, ?_⟩
              unfold hit btr at hh; unfold Pn at hp
              rw [Bool.and_eq_true] at hp
              rw [hp.1, hp.2] at hh; exact hh
          obtain ⟨q, e, hlt⟩ := this
          obtain ⟨p, e2, h⟩ := h3 q (by rw [if_neg hh, e])
          refine ⟨p, e2, ?_⟩
          have hq : q = x ∨ ltI x.ki q.ki = true := by
            by_cases k : q.ki = x.ki
            · exact .inl (inj q x (hb q e) ho k)
            · exact .inr (by rw [ltI_tot (a := q.ki) (b := x.ki) rfl k, hlt]; rfl)
          rcases h with rfl | h
          · exact hq
          · rcases hq with rfl | hq
            · exact .inr h
            · exact .inr (ltI_tr (a := x.ki) (b := q.ki) (c := p.ki) rfl rfl hq h)
      · exact h2 x hx hp
    · by_cases hh : hit at_ b o = true
      · obtain ⟨p, e2, h⟩ := h3 o (if_pos hh)
        refine ⟨p, e2, ?_⟩
        have hlt : ltI q.ki o.ki = true := by
          unfold hit at hh
          rw [Bool.and_eq_true, Bool.and_eq_true, hq] at hh
          exact hh.2.2
        rcases h with rfl | h
        · exact .inr hlt
        · exact .inr (ltI_tr (a := q.ki) (b := o.ki) (c := p.ki) rfl rfl hlt h)
      · exact h3 q (by rw [if_neg hh, hq])
end
theorem ki_inj {rows : List Ov} (nd : (rows.map Ov.i).Nodup) {o o' : Ov} (h : o ∈ rows) (h' : o' ∈ rows) (e : o.ki = o'.ki) : o = o' := by
  have hi : o.i = o'.i := by
    simp only [Ov.ki, List.cons.injEq] at e
    have := e.2.2.2.2.1; (first | lia | omega)
  induction rows with
  | nil => cases h
  | cons x rows ih =>
    rw [List.map_cons, List.nodup_cons] at nd
    rcases List.mem_cons.mp h with h | h
    · rcases List.mem_cons.mp h' with h' | h'
      · rw [h, h']
      · exact absurd (List.mem_map.mpr ⟨o', h', by rw [← hi, h]⟩) nd.1
    · rcases List.mem_cons.mp h' with h' | h'
      · exact absurd (List.mem_map.mpr ⟨o, h, by rw [hi, h']⟩) nd.1
      · exact ih nd.2 h h'
theorem best_seen {at_ : Int} {rows so : List Ov} (nd : (rows.map Ov.i).Nodup) (p : so.Perm (rows.filter (cov at_))) (D : Desc so) : bestO at_ rows .none = seenO so := by
  obtain ⟨h1, h2, _⟩ := bestO_spec (at_ := at_) (S := fun o => o ∈ rows) (fun o o' a b => ki_inj nd a b) (rows := rows) (b := .none) (fun _ h => h) (fun _ h => by cases h)
  have mem : ∀ o, o ∈ so ↔ o ∈ rows ∧ cov at_ o = true := fun o => by rw [p.mem_iff, List.mem_filter]
  cases hs : seenO so with
  | none =>
    cases hb : bestO at_ rows .none with
    | none => rfl
    | some o =>
      exfalso
      rcases h1 o hb with ⟨m, q⟩ | e
      · unfold Pn at q
        rw [Bool.and_eq_true] at q
        have := List.find?_eq_none.mp hs o ((mem o).mpr ⟨m, q.1⟩)
        exact this q.2
      · cases e
  | some o =>
    obtain ⟨hn, as, bs, e, ha⟩ := List.find?_eq_some_iff_append.mp hs
    have ho : o ∈ so := by rw [e]; simp
    obtain ⟨m1, m2⟩ := (mem o).mp ho
    obtain ⟨q, hq, h⟩ := h2 o m1 (by unfold Pn; rw [m2, hn]; rfl)
    rw [hq]
    rcases h with rfl | h
    · rfl
    · exfalso
      rcases h1 q hq with ⟨n1, n2⟩ | z
      · unfold Pn at n2
        rw [Bool.and_eq_true] at n2
        have hq2 := (mem q).mpr ⟨n1, n2.1⟩
        rw [e, List.mem_append, List.mem_cons] at hq2
        rcases hq2 with k | rfl | k
        · have := ha q k
          rw [n2.2] at this; cases this
        · rw [ltI_irr] at h; cases h
        · have D2 := (List.pairwise_cons.mp (List.pairwise_append.mp (e ▸ D)).2.1).1 q k
          have := ltI_tr (a := o.ki) (b := q.ki) (c := o.ki) rfl rfl h D2
          rw [ltI_irr] at this; cases this
      · cases z
end Mine
end
section
namespace Mine
noncomputable def updN (a p f : Int) : Int := if a < p ∧ p < f then p else f
noncomputable def updP (a p f : Int) : Int := if f < p ∧ p < a then p else f
section
variable {st : St} {d : Nat}
noncomputable abbrev n1Body (d : Nat) := exSs clss nidxTab (C d) (.cons (.ite (.cmp3 .lt .lt (.var 17) (.var 58) (.var 34)) (.cons (.asg 34 (.var 58)) .nil) .nil) .nil)
noncomputable abbrev p1Body (d : Nat) := exSs clss nidxTab (C d) (.cons (.ite (.cmp3 .lt .lt (.var 34) (.var 58) (.var 17)) (.cons (.asg 34 (.var 58)) .nil) .nil) .nil)
theorem n1_step {m : Lo} {a p f : Int} (h17 : look 17 m = some (.int a)) (h34 : look 34 m = some (.int f)) : ∃ m2, n1Body d (put 58 (.int p) m) st = some (.none, m2, st) ∧ look 17 m2 = some (.int a) ∧ look 34 m2 = some (.int (updN a p f)) := by
  by_cases h1 : a < p
  · by_cases h2 : p < f
    · refine ⟨put 34 (.int p) (put 58 (.int p) m), ?_, l_pn (by decide) (l_pn (by decide) h17), by rw [updN, if_pos ⟨h1, h2⟩]; exact look_pt⟩
      repeat walk_at "w1"
    · refine ⟨put 58 (.int p) m, ?_, l_pn (by decide) h17, by rw [updN, if_neg (fun z => h2 z.2)]; exact l_pn (by decide) h34⟩
      repeat walk_at "w1"
  · refine ⟨put 58 (.int p) m, ?_, l_pn (by decide) h17, by rw [updN, if_neg (fun z => h1 z.1)]; exact l_pn (by decide) h34⟩
    repeat walk_at "w1"
theorem p1_step {m : Lo} {a p f : Int} (h17 : look 17 m = some (.int a)) (h34 : look 34 m = some (.int f)) : ∃ m2, p1Body d (put 58 (.int p) m) st = some (.none, m2, st) ∧ look 17 m2 = some (.int a) ∧ look 34 m2 = some (.int (updP a p f)) := by
  by_cases h1 : f < p
  · by_cases h2 : p < a
    · refine ⟨put 34 (.int p) (put 58 (.int p) m), ?_, l_pn (by decide) (l_pn (by decide) h17), by rw [updP, if_pos ⟨h1, h2⟩]; exact look_pt⟩
      repeat walk_at "w1"
    · refine ⟨put 58 (.int p) m, ?_, l_pn (by decide) h17, by rw [updP, if_neg (fun z => h2 z.2)]; exact l_pn (by decide) h34⟩
      repeat walk_at "w1"
  · refine ⟨put 58 (.int p) m, ?_, l_pn (by decide) h17, by rw [updP, if_neg (fun z => h1 z.1)]; exact l_pn (by decide) h34⟩
    repeat walk_at "w1"
theorem two_places {body : Lo → St → RunR} {upd : Int → Int → Int → Int} {a b e f : Int} {m : Lo} (step : ∀ {m : Lo} {p f : Int}, look 17 m = some (.int a) → look 34 m = some (.int f) → ∃ m2, body (put 58 (.int p) m) st = some (.none, m2, st) ∧ look 17 m2 = some (.int a) ∧ look 34 m2 = some (.int (upd a p f)))
    (h17 : look 17 m = some (.int a)) (h34 : look 34 m = some (.int f)) : ∃ m2, loopF .none [V.int b, .int e] (fun v m => some (put 58 v m)) body [V.int b, .int e] m st = some (.none, m2, st) ∧ look 17 m2 = some (.int a) ∧ look 34 m2 = some (.int (upd a e (upd a b f))) := by
  obtain ⟨m1, e1, k1, k2⟩ := step (p := b) h17 h34
  obtain ⟨m2, e2, j1, j2⟩ := step (p := e) k1 k2
  exact ⟨m2, lf_go rfl e1 rfl (lf_go rfl e2 rfl lf_nil), j1, j2⟩
noncomputable def foldN (a : Int) (l : List ND) (f : Int) : Int := l.foldl (fun f y => updN a y.e (updN a y.b f)) f
noncomputable def foldP (a : Int) (l : List ND) (f : Int) : Int := l.foldl (fun f y => updP a y.e (updP a y.b f)) f
theorem places_loop {q : Nat} {all : List V} (hq : st[q]? = some (.list all)) {sts : Ss} {upd : Int → Int → Int → Int} {a : Int}
    (step : ∀ {m : Lo} {p f : Int}, look 17 m = some (.int a) → look 34 m = some (.int f) → ∃ m2, exSs clss nidxTab (C d) sts (put 58 (.int p) m) st = some (.none, m2, st) ∧ look 17 m2 = some (.int a) ∧ look 34 m2 = some (.int (upd a p f))) {l : List ND} :
    ∀ {m : Lo} {f : Int}, (∀ y ∈ l, ∃ lim c lo ro p, st[y.a]? = some (nodeO y.num y.b y.e lim c lo ro p)) → look 17 m = some (.int a) → look 34 m = some (.int f) →
    ∃ m2, loopF (some q) all (fun v m => some (put 8 v m)) (exSs clss nidxTab (C d) (.cons (.for1 58 (.seq (.tup (.cons (.attr (.var 8) 18) (.cons (.attr (.var 8) 26) .nil)))) sts) .nil)) (refs l) m st = some (.none, m2, st) ∧ look 34 m2 = some (.int (l.foldl (fun f y => upd a y.e (upd a y.b f)) f)) := by
  induction l with
  | nil => exact fun {m} _ _ _ h34 => ⟨m, rfl, h34⟩
  | cons y l ih =>
    intro m f hl h17 h34
    obtain ⟨lim, c, lo, ro, p, h1⟩ := hl y (.head _)
    obtain ⟨m2, e1, j17, j34⟩ := two_places (b := y.b) (e := y.e) step (m := put 8 (.ref y.a) m) (l_pn (by decide) h17) (l_pn (by decide) h34)
    obtain ⟨m3, e2, i34⟩ := ih (fun z hz => hl z (List.mem_cons_of_mem _ hz)) j17 j34
    refine ⟨m3, lf_go (v := .ref y.a) rfl (m2 := m2) (st2 := st) ?_ (stays_ok hq) e2, i34⟩
    refine s_cons (s_for1 (vs := [V.int y.b, .int y.e]) ?_ (Nat.le_of_ble_eq_true rfl) e1) (s_go s_nil)
    repeat walk_at "w1"
variable {B : Nat} {t : T} {rows : List Ov}
theorem nxo_ok (I : Inv st B t rows) {a : Nat} (_ : a ≤ 10) : ∃ (g : List O) (r : Int), C (d + 3) 57 [.ref 7, .int (a : Nat), .int 10] st = some (.int r, st ++ g) ∧ r = foldN a (t.inl.filter fun y => decide (y.b ≤ 10 ∧ (a : Int) ≤ y.e)) 10 := by
  have hn := nodes_ok (d := d) (b0 := (a : Nat)) (e0 := 10) I.tree
  have I2 := I.app [O.list (refs (t.inl.filter fun y => decide (y.b ≤ 10 ∧ (a : Int) ≤ y.e))), .list []]
  have q1 : (hp2 st (refs (t.inl.filter fun y => decide (y.b ≤ 10 ∧ (a : Int) ≤ y.e))) [])[st.length]? = some (.list (refs (t.inl.filter fun y => decide (y.b ≤ 10 ∧ (a : Int) ≤ y.e)))) := hp2_f
  obtain ⟨m2, e1, k34⟩ := places_loop (d := d + 2) (upd := updN) (a := (a : Nat)) (l := t.inl.filter fun y => decide (y.b ≤ 10 ∧ (a : Int) ≤ y.e)) (m := put 34 (.int 10) ([51, 17, 57].zip [V.ref 7, .int (a : Nat), .int 10])) (f := 10) q1 (fun h1 h2 => n1_step (d := d + 2) h1 h2) (fun y hy => I2.tree.node y (List.mem_filter.mp hy).1) rfl rfl
  have lF1 : (refs (t.inl.filter fun y => decide (y.b ≤ 10 ∧ (a : Int) ≤ y.e))).length ≤ maxSeq := by
    rw [refs, List.length_map]
    exact Nat.le_trans (List.length_filter_le _ _) (Nat.le_trans (sk_size ▸ reach_size I.tree.sk) (by decide))
  have h7 := I.home
  refine ⟨[.list (refs (t.inl.filter fun y => decide (y.b ≤ 10 ∧ (a : Int) ≤ y.e))), .list []], foldN a (t.inl.filter fun y => decide (y.b ≤ 10 ∧ (a : Int) ≤ y.e)) 10, w_fun (ps := [51, 17, 57]) (B := B_next_overlay_change) rfl rfl (ov := some (.int _)) (m1 := m2) ?_ rfl, rfl⟩
  delta B_next_overlay_change
  refine s_cons (s_asg (w_var rfl)) (s_go (s_cons (s_for1 (w_seq (w_call (vs := [.ref 8, .int (a : Nat), .int 10]) ?_ hn) (items_of q1)) lF1 e1) (s_go (s_cons (s_ret (w_var k34)) s_stop))))
  repeat walk_at "w1"
theorem pvo_ok (I : Inv st B t rows) {a : Nat} (_ : a ≤ 10) : ∃ (g : List O) (r : Int), C (d + 3) 58 [.ref 7, .int (a : Nat), .int 0] st = some (.int r, st ++ g) ∧ r = foldP a (t.inl.filter fun y => decide (y.b ≤ (a : Int) ∧ 0 ≤ y.e)) 0 := by
  have hn := nodes_ok (d := d) (b0 := 0) (e0 := (a : Nat)) I.tree
  have I2 := I.app [O.list (refs (t.inl.filter fun y => decide (y.b ≤ (a : Int) ∧ 0 ≤ y.e))), .list []]
  have q1 : (hp2 st (refs (t.inl.filter fun y => decide (y.b ≤ (a : Int) ∧ 0 ≤ y.e))) [])[st.length]? = some (.list (refs (t.inl.filter fun y => decide (y.b ≤ (a : Int) ∧ 0 ≤ y.e)))) := hp2_f
  obtain ⟨m2, e1, k34⟩ := places_loop (d := d + 2) (upd := updP) (a := (a : Nat)) (l := t.inl.filter fun y => decide (y.b ≤ (a : Int) ∧ 0 ≤ y.e)) (m := put 34 (.int 0) ([51, 17, 59].zip [V.ref 7, .int (a : Nat), .int 0])) (f := 0) q1 (fun h1 h2 => p1_step (d := d + 2) h1 h2) (fun y hy => I2.tree.node y (List.mem_filter.mp hy).1) rfl rfl
  have lF1 : (refs (t.inl.filter fun y => decide (y.b ≤ (a : Int) ∧ 0 ≤ y.e))).length ≤ maxSeq := by
    rw [refs, List.length_map]
    exact Nat.le_trans (List.length_filter_le _ _) (Nat.le_trans (sk_size ▸ reach_size I.tree.sk) (by decide))
  have h7 := I.home
  refine ⟨[.list (refs (t.inl.filter fun y => decide (y.b ≤ (a : Int) ∧ 0 ≤ y.e))), .list []], foldP a (t.inl.filter fun y => decide (y.b ≤ (a : Int) ∧ 0 ≤ y.e)) 0, w_fun (ps := [51, 17, 59]) (B := B_previous_overlay_change) rfl rfl (ov := some (.int _)) (m1 := m2) ?_ rfl, rfl⟩
  delta B_previous_overlay_change
  refine s_cons (s_asg (w_var rfl)) (s_go (s_cons (s_for1 (w_seq (w_call (vs := [.ref 8, .int 0, .int (a : Nat)]) ?_ hn) (items_of q1)) lF1 e1) (s_go (s_cons (s_ret (w_var k34)) s_stop))))
  repeat walk_at "w1"
end
end Mine
end
section
namespace Mine
theorem updN_spec {a p f : Int} : updN a p f ≤ f ∧ (a < f → a < updN a p f) ∧ (a < p → updN a p f ≤ p) := by
  unfold updN
  by_cases h : a < p ∧ p < f
  · rw [if_pos h]; exact ⟨Int.le_of_lt h.2, fun _ => h.1, fun _ => Int.le_refl _⟩
  · rw [if_neg h]; exact ⟨Int.le_refl _, id, fun q => Int.not_lt.mp fun z => h ⟨q, z⟩⟩
theorem updP_spec {a p f : Int} : f ≤ updP a p f ∧ (f < a → updP a p f < a) ∧ (p < a → p ≤ updP a p f) := by
  unfold updP
  by_cases h : f < p ∧ p < a
  · rw [if_pos h]; exact ⟨Int.le_of_lt h.1, fun _ => h.2, fun _ => Int.le_refl _⟩
  · rw [if_neg h]; exact ⟨Int.le_refl _, id, fun q => Int.not_lt.mp fun z => h ⟨z, q⟩⟩
theorem foldN_spec {a : Int} {l : List ND} : ∀ {f : Int}, foldN a l f ≤ f ∧ (a < f → a < foldN a l f) ∧ ∀ y ∈ l, (a < y.b → foldN a l f ≤ y.b) ∧ (a < y.e → foldN a l f ≤ y.e) := by
  induction l with
  | nil => exact fun {f} => ⟨Int.le_refl _, id, fun _ h => nomatch h⟩
  | cons y l ih =>
    intro f
    obtain ⟨h1, h2, h3⟩ := ih (f := updN a y.e (updN a y.b f))
    obtain ⟨u1, u2, u3⟩ := updN_spec (a := a) (p := y.b) (f := f)
    obtain ⟨w1, w2, w3⟩ := updN_spec (a := a) (p := y.e) (f := updN a y.b f)
    refine ⟨Int.le_trans h1 (Int.le_trans w1 u1), fun h => h2 (w2 (u2 h)), fun z hz => ?_⟩
    rcases List.mem_cons.mp hz with rfl | hz
    · exact ⟨fun h => Int.le_trans h1 (Int.le_trans w1 (u3 h)), fun h => Int.le_trans h1 (w3 h)⟩
    · exact h3 z hz
theorem foldP_spec {a : Int} {l : List ND} : ∀ {f : Int}, f ≤ foldP a l f ∧ (f < a → foldP a l f < a) ∧ ∀ y ∈ l, (y.b < a → y.b ≤ foldP a l f) ∧ (y.e < a → y.e ≤ foldP a l f) := by
  induction l with
  | nil => exact fun {f} => ⟨Int.le_refl _, id, fun _ h => nomatch h⟩
  | cons y l ih =>
    intro f
    obtain ⟨h1, h2, h3⟩ := ih (f := updP a y.e (updP a y.b f))
    obtain ⟨u1, u2, u3⟩ := updP_spec (a := a) (p := y.b) (f := f)
    obtain ⟨w1, w2, w3⟩ := updP_spec (a := a) (p := y.e) (f := updP a y.b f)
    refine ⟨Int.le_trans u1 (Int.le_trans w1 h1), fun h => h2 (w2 (u2 h)), fun z hz => ?_⟩
    rcases List.mem_cons.mp hz with rfl | hz
    · exact ⟨fun h => Int.le_trans (u3 h) (Int.le_trans w1 h1), fun h => Int.le_trans (w3 h) h1⟩
    · exact h3 z hz
theorem cov_same {p q : Int} {o : Ov} (h1 : o.b ≤ p ↔ o.b ≤ q) (h2 : o.e ≤ p ↔ o.e ≤ q) : cov p o = cov q o := by
  unfold cov
  rw [decide_eq_decide.mpr h1, decide_eq_decide.mpr (show p < o.e ↔ q < o.e by rw [← Int.not_le, ← Int.not_le]; exact not_congr h2)]
theorem bestO_congr {p q : Int} : ∀ {rows : List Ov} {b : Option Ov}, (∀ o ∈ rows, cov p o = cov q o) → bestO p rows b = bestO q rows b
  | [], _, _ => rfl
  | o :: rows, b, h => by
    have : hit p b o = hit q b o := by unfold hit; rw [h o (.head _)]
    show bestO p rows _ = bestO q rows _
    rw [this]; exact bestO_congr fun x hx => h x (List.mem_cons_of_mem _ hx)
noncomputable def val (ch : Nat → V) (rows : List Ov) (p : Nat) : V := fnd (ch p) (bestO (p : Nat) rows .none)
theorem val_congr {ch : Nat → V} {rows : List Ov} {p q : Nat} (h : ∀ o ∈ rows, cov (p : Nat) o = cov (q : Nat) o) (hc : ch p = ch q) : val ch rows p = val ch rows q := by
  unfold val; rw [hc, bestO_congr h]
structure PropsCh (H : St) (pa : Nat) (ch : Nat → V) : Prop where
  ok : PropsOk H (.ref pa) ch
  vals : ∀ p, ∃ j, ch p = lawVal j
  next : ∀ st, Base H st → ∀ d a, a < 10 → ∃ v, C (d + 9) 59 [.ref pa, .int (a : Nat), .int 10] st = some (v, st) ∧ ((v = .none ∧ ∀ p, a ≤ p → p < 10 → ch p = ch a) ∨ ∃ k : Nat, v = .int (k : Nat) ∧ a < k ∧ k ≤ 10 ∧ ∀ p, a ≤ p → p < k → ch p = ch a)
  prev : ∀ st, Base H st → ∀ d a, 1 ≤ a → a ≤ 10 → ∃ v, C (d + 9) 60 [.ref pa, .int (a : Nat), .int 0] st = some (v, st) ∧ ((v = .none ∧ ∀ p, p < a → ch p = ch (a - 1)) ∨ ∃ k : Nat, v = .int (k : Nat) ∧ k < a ∧ ∀ p, k ≤ p → p < a → ch p = ch (a - 1))
  tree : ∃ tr, ∀ st, Base H st → st[pa]? = some (.inst 7 [(9, .ref tr)]) ∧ ∀ d, C (d + 2) 4 [.ref tr] st = some (.int 10, st)
section
variable {st H : St} {B pa : Nat} {t : T} {rows : List Ov} {ch : Nat → V} {d : Nat}
theorem cprop_ok (I : Inv st B t rows) (hB : Base H st) (hP : PropsCh H pa ch) (hn : rows.length ≤ 5) {a : Nat} (ha : a ≤ 10) : ∃ g : List O, C (d + 13) 71 [.ref 5, .ref 7, .ref pa, .int (a : Nat), .int 7] st = some (val ch rows a, st ++ g) := by
  obtain ⟨so, g, p, D, r⟩ := cp_ok (d := d) I hB hP.ok hn ha
  refine ⟨g, w_fun (ps := [50, 51, 60, 17, 25]) (B := B_char_property) rfl rfl (ov := some (val ch rows a)) (m1 := [50, 51, 60, 17, 25].zip [V.ref 5, V.ref 7, .ref pa, V.int (a : Nat), V.int 7]) ?_ rfl⟩
  delta B_char_property
  refine s_cons (s_ret (w_idx (w_call (vs := [V.ref 5, V.ref 7, .ref pa, V.int (a : Nat), V.int 7]) rfl r) w_val ?_)) s_stop
  rw [val, best_seen (by rw [I.num]; exact List.nodup_range) p D]
  cases seenO so <;> rfl
theorem Inv.nodeOf (I : Inv st B t rows) {y : ND} (hy : y ∈ t.inl) : ∃ o ∈ rows, y.b = o.b ∧ y.e = o.e := by
  have : y.key ∈ rows.map Ov.key := I.keys.mem_iff.mp (List.mem_map_of_mem hy)
  obtain ⟨o, ho, e⟩ := List.mem_map.mp this
  simp only [ND.key, Ov.key, Prod.mk.injEq] at e
  exact ⟨o, ho, e.2.2.1.symm, e.2.2.2.symm⟩
theorem nxo_spec (I : Inv st B t rows) {a : Nat} (ha : a < 10) : ∃ (g : List O) (r : Nat), C (d + 3) 57 [.ref 7, .int (a : Nat), .int 10] st = some (.int (r : Nat), st ++ g) ∧ a < r ∧ r ≤ 10 ∧ ∀ o ∈ rows, ((a : Int) < o.b → (r : Int) ≤ o.b) ∧ ((a : Int) < o.e → (r : Int) ≤ o.e) := by
  obtain ⟨g, r, h1, h2⟩ := nxo_ok (d := d) I (a := a) (Nat.le_of_lt ha)
  obtain ⟨k1, k2, k3⟩ := foldN_spec (a := a) (l := t.inl.filter fun y => decide (y.b ≤ 10 ∧ (a : Int) ≤ y.e)) (f := 10)
  rw [← h2] at k1 k2 k3
  have k2 := k2 (Int.ofNat_lt.mpr ha)
  obtain ⟨r, rfl⟩ := Int.eq_ofNat_of_zero_le (Int.le_of_lt (Int.lt_of_le_of_lt (Int.natCast_nonneg _) k2))
  refine ⟨g, r, h1, Int.ofNat_lt.mp k2, Int.ofNat_le.mp k1, fun o ho => ?_⟩
  obtain ⟨_, be1, be2⟩ := (I.ov o ho).be
  obtain ⟨y, hy, _, _, e3, e4⟩ := I.node ho
  rw [← e3, ← e4] at be1 ⊢
  rw [← e4] at be2
  by_cases q : (a : Int) ≤ y.e
  · exact k3 y (List.mem_filter.mpr ⟨hy, decide_eq_true ⟨Int.le_trans be1 be2, q⟩⟩)
  · exact ⟨fun h => absurd (Int.le_of_lt (Int.lt_of_lt_of_le h be1)) q, fun h => absurd (Int.le_of_lt h) q⟩
theorem pvo_spec (I : Inv st B t rows) {a : Nat} (h1a : 1 ≤ a) (ha : a ≤ 10) : ∃ (g : List O) (r : Nat), C (d + 3) 58 [.ref 7, .int (a : Nat), .int 0] st = some (.int (r : Nat), st ++ g) ∧ r < a ∧ ∀ o ∈ rows, (o.b < (a : Int) → o.b ≤ (r : Int)) ∧ (o.e < (a : Int) → o.e ≤ (r : Int)) := by
  obtain ⟨g, r, h1, h2⟩ := pvo_ok (d := d) I (a := a) ha
  obtain ⟨k1, k2, k3⟩ := foldP_spec (a := a) (l := t.inl.filter fun y => decide (y.b ≤ (a : Int) ∧ 0 ≤ y.e)) (f := 0)
  rw [← h2] at k1 k2 k3
  have k2 := k2 (Int.ofNat_lt.mpr h1a)
  obtain ⟨r, rfl⟩ := Int.eq_ofNat_of_zero_le k1
  refine ⟨g, r, h1, Int.ofNat_lt.mp k2, fun o ho => ?_⟩
  obtain ⟨be0, be1, _⟩ := (I.ov o ho).be
  obtain ⟨y, hy, _, _, e3, e4⟩ := I.node ho
  rw [← e3, ← e4] at be1 ⊢
  rw [← e3] at be0
  by_cases q : y.b ≤ (a : Int)
  · exact k3 y (List.mem_filter.mpr ⟨hy, decide_eq_true ⟨q, Int.le_trans be0 be1⟩⟩)
  · exact ⟨fun h => absurd (Int.le_of_lt h) q, fun h => absurd (Int.le_of_lt (Int.lt_of_le_of_lt be1 h)) q⟩
theorem ncc_ok (I : Inv st B t rows) (hB : Base H st) (hP : PropsCh H pa ch) {a : Nat} (ha : a < 10) : ∃ (g : List O) (r : Nat), C (d + 10) 72 [.ref 7, .ref pa, .int (a : Nat), .int 10] st = some (.int (r : Nat), st ++ g) ∧ a < r ∧ r ≤ 10 ∧ ∀ p, a ≤ p → p < r → val ch rows p = val ch rows a := by
  obtain ⟨v, r1, hv⟩ := hP.next st hB d a ha
  obtain ⟨g, r, r2, q1, q2, q3⟩ := nxo_spec (d := d + 6) I ha
  have cv : ∀ p : Nat, a ≤ p → p < r → ∀ o ∈ rows, cov (p : Nat) o = cov (a : Nat) o := fun p h1 h2 o ho => by
    have z : ∀ {x : Int}, ((a : Int) < x → (r : Int) ≤ x) → (x ≤ (p : Int) ↔ x ≤ (a : Int)) := fun k => ⟨fun h => Int.not_lt.mp fun z => absurd (Int.le_trans (k z) h) (Int.not_le.mpr (Int.ofNat_lt.mpr h2)), fun h => Int.le_trans h (Int.ofNat_le.mpr h1)⟩
    exact cov_same (z (q3 o ho).1) (z (q3 o ho).2)
  have run : ∀ w : Nat, (evE clss nidxTab (C (d + 9)) (.ite (.cmp .is (.var 34) (.val .none)) (.var 10) (.min2 (.var 34) (.var 10))) (put 10 (V.int (r : Nat)) (put 34 v ([51, 60, 17, 57].zip [V.ref 7, V.ref pa, V.int (a : Nat), V.int 10]))) (st ++ g) = some (.int (w : Nat), st ++ g)) → C (d + 10) 72 [.ref 7, .ref pa, .int (a : Nat), .int 10] st = some (.int (w : Nat), st ++ g) := fun w hw => by
    apply w_fun (ps := [51, 60, 17, 57]) (B := B_next_char_change) rfl rfl
    · delta B_next_char_change
      exact s_cons (s_asg (w_call (vs := [.ref pa, .int (a : Nat), .int 10]) rfl r1)) (s_go (s_cons (s_asg (w_call (vs := [.ref 7, .int (a : Nat), .int 10]) rfl r2)) (s_go (s_cons (s_ret hw) s_stop))))
    · rfl
  rcases hv with ⟨rfl, hc⟩ | ⟨k, rfl, k1, k2, hc⟩
  · exact ⟨g, r, run r rfl, q1, q2, fun p h1 h2 => val_congr (cv p h1 h2) (hc p h1 (Nat.lt_of_lt_of_le h2 q2))⟩
  · exact ⟨g, min k r, run (min k r) (by rw [show ((min k r : Nat) : Int) = min (k : Int) (r : Int) by omega]; rfl), Nat.lt_min.mpr ⟨k1, q1⟩, Nat.le_trans (Nat.min_le_left _ _) k2, fun p h1 h2 => val_congr (cv p h1 (Nat.lt_of_lt_of_le h2 (Nat.min_le_right _ _))) (hc p h1 (Nat.lt_of_lt_of_le h2 (Nat.min_le_left _ _)))⟩
theorem pcc_ok (I : Inv st B t rows) (hB : Base H st) (hP : PropsCh H pa ch) {a : Nat} (h1a : 1 ≤ a) (ha : a ≤ 10) : ∃ (g : List O) (r : Nat), C (d + 10) 73 [.ref 7, .ref pa, .int (a : Nat), .int 0] st = some (.int (r : Nat), st ++ g) ∧ r < a ∧ ∀ p, r ≤ p → p < a → val ch rows p = val ch rows (a - 1) := by
  obtain ⟨v, r1, hv⟩ := hP.prev st hB d a h1a ha
  obtain ⟨g, r, r2, q1, q3⟩ := pvo_spec (d := d + 6) I h1a ha
  have cv : ∀ p : Nat, r ≤ p → p < a → ∀ o ∈ rows, cov (p : Nat) o = cov ((a - 1 : Nat) : Int) o := fun p h1 h2 o ho => by
    have z : ∀ {x : Int}, (x < (a : Int) → x ≤ (r : Int)) → (x ≤ (p : Int) ↔ x ≤ ((a - 1 : Nat) : Int)) := fun k => ⟨fun h => Int.le_trans h (Int.ofNat_le.mpr (Nat.le_sub_one_of_lt h2)), fun h => Int.le_trans (k (Int.lt_of_le_of_lt h (Int.ofNat_lt.mpr (Nat.sub_lt h1a (by decide))))) (Int.ofNat_le.mpr h1)⟩
    exact cov_same (z (q3 o ho).1) (z (q3 o ho).2)
  have run : ∀ w : Nat, (evE clss nidxTab (C (d + 9)) (.ite (.cmp .is (.var 34) (.val .none)) (.var 10) (.max2 (.var 34) (.var 10))) (put 10 (V.int (r : Nat)) (put 34 v ([51, 60, 17, 59].zip [V.ref 7, V.ref pa, V.int (a : Nat), V.int 0]))) (st ++ g) = some (.int (w : Nat), st ++ g)) → C (d + 10) 73 [.ref 7, .ref pa, .int (a : Nat), .int 0] st = some (.int (w : Nat), st ++ g) := fun w hw => by
    apply w_fun (ps := [51, 60, 17, 59]) (B := B_previous_char_change) rfl rfl
    · delta B_previous_char_change
      exact s_cons (s_asg (w_call (vs := [.ref pa, .int (a : Nat), .int 0]) rfl r1)) (s_go (s_cons (s_asg (w_call (vs := [.ref 7, .int (a : Nat), .int 0]) rfl r2)) (s_go (s_cons (s_ret hw) s_stop))))
    · rfl
  rcases hv with ⟨rfl, hc⟩ | ⟨k, rfl, k1, hc⟩
  · exact ⟨g, r, run r rfl, q1, fun p h1 h2 => val_congr (cv p h1 h2) (hc p h2)⟩
  · exact ⟨g, max k r, run (max k r) (by rw [show ((max k r : Nat) : Int) = max (k : Int) (r : Int) by omega]; rfl), Nat.max_lt.mpr ⟨k1, q1⟩, fun p h1 h2 => val_congr (cv p (Nat.le_trans (Nat.le_max_right _ _) h1) h2) (hc p (Nat.le_trans (Nat.le_max_left _ _) h1) h2)⟩
theorem eq_ok {j k : Nat} : C (d + 1) 37 [lawVal j, lawVal k] st = some (.bool (V.same (lawVal j) (lawVal k)), st) :=
  law_cases (P := fun v => C (d + 1) 37 [v, lawVal k] st = some (.bool (V.same v (lawVal k)), st)) (law_cases (P := fun w => C (d + 1) 37 [_, w] st = some (.bool (V.same _ w), st)) rfl rfl rfl rfl k) (law_cases (P := fun w => C (d + 1) 37 [_, w] st = some (.bool (V.same _ w), st)) rfl rfl rfl rfl k)
    (law_cases (P := fun w => C (d + 1) 37 [_, w] st = some (.bool (V.same _ w), st)) rfl rfl rfl rfl k) (law_cases (P := fun w => C (d + 1) 37 [_, w] st = some (.bool (V.same _ w), st)) rfl rfl rfl rfl k) j
theorem val_law (I : Inv st B t rows) (hP : PropsCh H pa ch) (p : Nat) : ∃ j, val ch rows p = lawVal j := by
  unfold val
  rcases bestO_mem (at_ := (p : Nat)) (rows := rows) (best := .none) with e | ⟨o, ho, e⟩
  · rw [e]; exact hP.vals p
  · rw [e]
    rcases (I.ov o ho).yk with e | ⟨j, e⟩
    · exact ⟨0, by show o.yv = _; rw [Ov.yv, e]; rfl⟩
    · exact ⟨j, by show o.yv = _; rw [Ov.yv, e]; rfl⟩
end
end Mine
end
section
namespace Mine
section
variable {st H : St} {B pa : Nat} {t : T} {rows : List Ov} {ch : Nat → V} {d : Nat}
noncomputable abbrev sLo (pa : Nat) (c : Nat) (lim v : V) : Lo := [(50, .ref 5), (51, .ref 7), (60, .ref pa), (17, .int (c : Nat)), (25, .int 7), (31, lim), (57, .int 10), (38, v)]
noncomputable abbrev xTest (d : Nat) := evE clss nidxTab (C d) (.cmp .lt (.var 17) (.var 31))
noncomputable abbrev xBody (d : Nat) := exSs clss nidxTab (C d) (.cons (.asg 17 (.call 72 (.cons (.var 51) (.cons (.var 60) (.cons (.var 17) (.cons (.var 57) .nil)))))) (.cons (.ite (.bor (.cons (.cmp .ge (.var 17) (.var 31)) (.cons (.cmp .ge (.var 17) (.var 57)) .nil))) (.cons (.ret (.min2 (.var 31) (.var 57))) .nil) .nil) (.cons (.ite (.not (.call 37 (.cons (.call 71 (.cons (.var 50) (.cons (.var 51) (.cons (.var 60) (.cons (.var 17) (.cons (.var 25) .nil)))))) (.cons (.var 38) .nil)))) (.cons (.ret (.var 17)) .nil) .nil) .nil)))
theorem same_ne {v w : V} (h : V.same v w = false) : v ≠ w := fun e => ff (h.symm.trans (e ▸ V.same_refl v))
theorem same_val (I : Inv st B t rows) (hP : PropsCh H pa ch) {p q : Nat} {s : St} : C (d + 1) 37 [val ch rows p, val ch rows q] s = some (.bool (V.same (val ch rows p) (val ch rows q)), s) := by
  obtain ⟨j1, hj1⟩ := val_law I hP p
  obtain ⟨j2, hj2⟩ := val_law I hP q
  rw [hj1, hj2]; exact eq_ok
theorem x_loop (hP : PropsCh H pa ch) (hn : rows.length ≤ 5) {a k : Nat} : ∀ {c : Nat} {st : St}, Inv st B t rows → Base H st → a ≤ c → c < 10 → 10 - c ≤ k → (∀ p, a ≤ p → p ≤ c → val ch rows p = val ch rows a) →
    ∃ (g : List O) (r : Nat) (m' : Lo), loopW (xTest (d + 13)) (xBody (d + 13)) k (sLo pa c (.int 10) (val ch rows a)) st = some (some (.int (r : Nat)), m', st ++ g) ∧ a < r ∧ r ≤ 10 ∧ (∀ p, a ≤ p → p < r → val ch rows p = val ch rows a) ∧ (r = 10 ∨ val ch rows r ≠ val ch rows a) := by
  induction k with
  | zero => exact fun _ _ _ h hk _ => absurd (Nat.le_of_sub_eq_zero (Nat.le_zero.mp hk)) (Nat.not_le.mpr h)
  | succ k ih =>
    intro c st I hB hac hc hk hv
    obtain ⟨g, r, e1, q1, q2, q3⟩ := ncc_ok (d := d + 3) I hB hP hc
    have hval : ∀ p, a ≤ p → p < r → val ch rows p = val ch rows a := fun p h1 h2 => (Nat.le_total p c).elim (hv p h1) fun z => (q3 p z h2).trans (hv c hac (Nat.le_refl _))
    have hc' : (c : Int) < 10 := Int.ofNat_lt.mpr hc
    have har := Nat.lt_of_le_of_lt hac q1
    have ht : xTest (d + 13) (sLo pa c (.int 10) (val ch rows a)) st = some (.bool true, st) := by repeat walk_at "w1"
    by_cases hr : r = 10
    · subst hr
      refine ⟨g, 10, sLo pa 10 (.int 10) (val ch rows a), lw_ret ht ?_, har, Nat.le_refl _, hval, .inl rfl⟩
      repeat walk_at "w1"
    · have hr' : r < 10 := Nat.lt_of_le_of_ne q2 hr
      have g1 : ¬ (10 : Int) ≤ (r : Nat) := Int.not_le.mpr (Int.ofNat_lt.mpr hr')
      obtain ⟨g2, e2⟩ := cprop_ok (d := d) (I.app g) (hB.app g) hP hn q2
      have e3 := same_val (d := d + 12) (p := r) (q := a) (s := st ++ g ++ g2) I hP
      cases hs : V.same (val ch rows r) (val ch rows a) with
      | false =>
        rw [hs] at e3
        refine ⟨g ++ g2, r, sLo pa r (.int 10) (val ch rows a), ?_, har, q2, hval, .inr (same_ne hs)⟩
        rw [← List.append_assoc]
        apply lw_ret ht
        repeat walk_at "w1"
      | true =>
        rw [hs] at e3
        obtain ⟨g3, r', m', e4, k1, k2, k3, k4⟩ := ih ((I.app g).app g2) ((hB.app g).app g2) (Nat.le_of_lt har) hr' (by (first | lia | omega)) fun p h1 h2 => (Nat.lt_or_eq_of_le h2).elim (hval p h1) fun e => e ▸ V.same_eq hs
        refine ⟨g ++ g2 ++ g3, r', m', ?_, k1, k2, k3, k4⟩
        rw [← List.append_assoc, ← List.append_assoc]
        refine lw_go ht ?_ e4
        repeat walk_at "w1"
theorem nss_ok (I : Inv st B t rows) (hB : Base H st) (hP : PropsCh H pa ch) (hn : rows.length ≤ 5) {a : Nat} (ha : a < 10) : ∃ (g : List O) (r : Nat), C (d + 14) 74 [.ref 5, .ref 7, .ref pa, .int (a : Nat), .int 7, .int 10] st = some (.int (r : Nat), st ++ g) ∧ a < r ∧ r ≤ 10 ∧ (∀ p, a ≤ p → p < r → val ch rows p = val ch rows a) ∧ (r = 10 ∨ val ch rows r ≠ val ch rows a) := by
  obtain ⟨tr, htr⟩ := hP.tree
  obtain ⟨t1, t2⟩ := htr st hB
  have t2 := t2 (d + 11)
  obtain ⟨g, e1⟩ := cprop_ok (d := d) I hB hP hn (Nat.le_of_lt ha)
  obtain ⟨g2, r, m', e2, k1, k2, k3, k4⟩ := x_loop (d := d) (k := 64) (c := a) (a := a) hP hn (I.app g) (hB.app g) (Nat.le_refl _) ha (Nat.le_trans (Nat.sub_le _ _) (by decide)) fun p h1 h2 => Nat.le_antisymm h2 h1 ▸ rfl
  refine ⟨g ++ g2, r, ?_, k1, k2, k3, k4⟩
  rw [← List.append_assoc]
  refine w_fun (ps := [50, 51, 60, 17, 25, 31]) (B := B_next_single_char_change) rfl rfl (ov := some (.int (r : Nat))) (m1 := m') ?_ rfl
  delta B_next_single_char_change
  refine s_cons (s_asg (w_call (vs := [.ref tr]) (st1 := st) ?_ t2)) (s_go (s_cons (s_asg (w_call (vs := [.ref 5, .ref 7, .ref pa, .int (a : Nat), .int 7]) rfl e1)) (s_go (s_cons (s_whl e2) s_stop))))
  repeat walk_at "w1"
noncomputable abbrev yLo (pa : Nat) (c : Nat) (v : V) : Lo := [(50, .ref 5), (51, .ref 7), (60, .ref pa), (17, .int (c : Nat)), (25, .int 7), (31, .int 0), (38, v)]
noncomputable abbrev yTest (d : Nat) := evE clss nidxTab (C d) (.cmp .gt (.var 17) (.var 31))
noncomputable abbrev yBody (d : Nat) := exSs clss nidxTab (C d) (.cons (.asg 17 (.call 73 (.cons (.var 51) (.cons (.var 60) (.cons (.var 17) (.cons (.val (.int 0)) .nil)))))) (.cons (.ite (.cmp .le (.var 17) (.var 31)) (.cons (.ret (.var 31)) .nil) .nil) (.cons (.ite (.not (.call 37 (.cons (.call 71 (.cons (.var 50) (.cons (.var 51) (.cons (.var 60) (.cons (.bin .sub (.var 17) (.val (.int 1))) (.cons (.var 25) .nil)))))) (.cons (.var 38) .nil)))) (.cons (.ret (.var 17)) .nil) .nil) .nil)))
theorem y_loop (hP : PropsCh H pa ch) (hn : rows.length ≤ 5) {a k : Nat} (ha : a ≤ 10) : ∀ {c : Nat} {st : St}, Inv st B t rows → Base H st → c ≤ a → 1 ≤ c → c ≤ k → (∀ p, c - 1 ≤ p → p < a → val ch rows p = val ch rows (a - 1)) →
    ∃ (g : List O) (r : Nat) (m' : Lo), loopW (yTest (d + 13)) (yBody (d + 13)) k (yLo pa c (val ch rows (a - 1))) st = some (some (.int (r : Nat)), m', st ++ g) ∧ r < a ∧ (∀ p, r ≤ p → p < a → val ch rows p = val ch rows (a - 1)) ∧ (r = 0 ∨ val ch rows (r - 1) ≠ val ch rows (a - 1)) := by
  induction k with
  | zero => exact fun _ _ _ h hk _ => absurd (Nat.le_trans h hk) (by decide)
  | succ k ih =>
    intro c st I hB hca hc hk hv
    obtain ⟨g, r, e1, q1, q3⟩ := pcc_ok (d := d + 3) I hB hP hc (Nat.le_trans hca ha)
    have hval : ∀ p, r ≤ p → p < a → val ch rows p = val ch rows (a - 1) := fun p h1 h2 => (Nat.lt_or_ge p c).elim (fun z => (q3 p h1 z).trans (hv (c - 1) (Nat.le_refl _) (Nat.lt_of_lt_of_le (Nat.sub_lt hc (by decide)) hca))) fun z => hv p (Nat.le_trans (Nat.sub_le _ _) z) h2
    have hc' : (0 : Int) < c := Int.ofNat_lt.mpr hc
    have hra := Nat.lt_of_lt_of_le q1 hca
    have ht : yTest (d + 13) (yLo pa c (val ch rows (a - 1))) st = some (.bool true, st) := by repeat walk_at "w1"
    by_cases hr : r = 0
    · subst hr
      refine ⟨g, 0, yLo pa 0 (val ch rows (a - 1)), lw_ret ht ?_, hra, hval, .inl rfl⟩
      repeat walk_at "w1"
    · have hr' : 1 ≤ r := Nat.pos_of_ne_zero hr
      have g1 : ¬ ((r : Nat) : Int) ≤ 0 := Int.not_le.mpr (Int.ofNat_lt.mpr hr')
      have hsub : ((r - 1 : Nat) : Int) = ((r : Nat) : Int) - 1 := Int.ofNat_sub hr'
      obtain ⟨g2, e2⟩ := cprop_ok (d := d) (I.app g) (hB.app g) hP hn (a := r - 1) (Nat.le_trans (Nat.sub_le _ _) (Nat.le_trans (Nat.le_of_lt hra) ha))
      rw [hsub] at e2
      have e3 := same_val (d := d + 12) (p := r - 1) (q := a - 1) (s := st ++ g ++ g2) I hP
      cases hs : V.same (val ch rows (r - 1)) (val ch rows (a - 1)) with
      | false =>
        rw [hs] at e3
        refine ⟨g ++ g2, r, yLo pa r (val ch rows (a - 1)), ?_, hra, hval, .inr (same_ne hs)⟩
        rw [← List.append_assoc]
        apply lw_ret ht
        repeat walk_at "w1"
      | true =>
        rw [hs] at e3
        obtain ⟨g3, r', m', e4, k1, k3, k4⟩ := ih ((I.app g).app g2) ((hB.app g).app g2) (Nat.le_of_lt hra) hr' (Nat.le_of_lt_succ (Nat.lt_of_lt_of_le q1 hk)) fun p h1 h2 => (Nat.lt_or_ge p r).elim (fun z => Nat.le_antisymm (Nat.le_sub_one_of_lt z) h1 ▸ V.same_eq hs) fun z => hval p z h2
        refine ⟨g ++ g2 ++ g3, r', m', ?_, k1, k3, k4⟩
        rw [← List.append_assoc, ← List.append_assoc]
        refine lw_go ht ?_ e4
        repeat walk_at "w1"
theorem pss_ok (I : Inv st B t rows) (hB : Base H st) (hP : PropsCh H pa ch) (hn : rows.length ≤ 5) {a : Nat} (ha : a ≤ 10) : ∃ (g : List O) (r : Nat), C (d + 14) 75 [.ref 5, .ref 7, .ref pa, .int (a : Nat), .int 7, .int 0] st = some (.int (r : Nat), st ++ g) ∧ r ≤ a ∧ (1 ≤ a → r < a) ∧ (∀ p, r ≤ p → p < a → val ch rows p = val ch rows (a - 1)) ∧ (r = 0 ∨ val ch rows (r - 1) ≠ val ch rows (a - 1)) := by
  by_cases h0 : a = 0
  · subst h0
    refine ⟨[], 0, ?_, Nat.le_refl _, fun h => absurd h (by decide), fun p _ h => absurd h (Nat.not_lt_zero _), .inl rfl⟩
    rw [List.append_nil]
    kernel_rfl
  · have h1 : 1 ≤ a := Nat.pos_of_ne_zero h0
    have hsub : ((a - 1 : Nat) : Int) = ((a : Nat) : Int) - 1 := Int.ofNat_sub h1
    have g1 : ¬ ((a : Nat) : Int) ≤ 0 := Int.not_le.mpr (Int.ofNat_lt.mpr h1)
    obtain ⟨g, e1⟩ := cprop_ok (d := d) I hB hP hn (a := a - 1) (Nat.le_trans (Nat.sub_le _ _) ha)
    rw [hsub] at e1
    obtain ⟨g2, r, m', e2, k1, k3, k4⟩ := y_loop (d := d) (k := 64) (c := a) (a := a) hP hn ha (I.app g) (hB.app g) (Nat.le_refl _) h1 (Nat.le_trans ha (by decide)) fun p h1 h2 => Nat.le_antisymm (Nat.le_sub_one_of_lt h2) h1 ▸ rfl
    refine ⟨g ++ g2, r, ?_, Nat.le_of_lt k1, fun _ => k1, k3, k4⟩
    rw [← List.append_assoc]
    refine w_fun (ps := [50, 51, 60, 17, 25, 31]) (B := B_previous_single_char_change) rfl rfl (ov := some (.int (r : Nat))) (m1 := m') ?_ rfl
    delta B_previous_single_char_change
    have z : exS clss nidxTab (C (d + 13)) (.whl (.cmp .gt (.var 17) (.var 31)) _) (put 38 (val ch rows (a - 1)) ([50, 51, 60, 17, 25, 31].zip [V.ref 5, V.ref 7, V.ref pa, V.int (a : Nat), V.int 7, V.int 0])) (st ++ g) = some (some (.int (r : Nat)), m', st ++ g ++ g2) := s_whl e2
    repeat walk_at "w1"
end
end Mine
end
section
namespace Mine
noncomputable def Lacks (k : Int) (P : List V) : Prop := (k = 104 ∧ P = []) ∨ (k = 7 ∧ ∃ r : Pr, P = r.l)
section
variable {st : St} {d a nd pl : Nat} {i k : Int} {h v : V} {P : List V}
theorem find_ok (hp : st[pl]? = some (.list P)) (L : Lacks k P) : C (d + 1) 38 [.ref pl, .int k] st = some (.int (-1), st) := by
  refine frame0 [pl] [.list P] (by simp) (by simp only [List.map_cons, List.map_nil, hp]) fun σ rest hσ => ?_
  have h0 := hσ 0 pl rfl
  rcases L with ⟨rfl, rfl⟩ | ⟨rfl, r, rfl⟩
  · simp only [renL, ren, List.map_cons, List.map_nil, renO, h0]; kernel_rfl
  · cases r <;> simp only [renL, ren, List.map_cons, List.map_nil, renO, Pr.l, h0] <;> kernel_rfl
theorem holds_no (hp : st[pl]? = some (.list P)) (L : Lacks k P) : C (d + 2) 41 [.ref pl, .int k, v] st = some (.bool false, st) := by
  refine frame0 [pl] [.list P] (by simp) (by simp only [List.map_cons, List.map_nil, hp]) fun σ rest hσ => ?_
  have h0 := hσ 0 pl rfl
  rcases L with ⟨rfl, rfl⟩ | ⟨rfl, r, rfl⟩
  · simp only [renL, ren, List.map_cons, List.map_nil, renO, h0]; kernel_rfl
  · cases r <;> simp only [renL, ren, List.map_cons, List.map_nil, renO, Pr.l, h0] <;> kernel_rfl
theorem lacks_len (L : Lacks k P) : P.length ≤ 1 := by
  rcases L with ⟨_, rfl⟩ | ⟨_, r, rfl⟩
  · exact Nat.zero_le _
  · cases r <;> simp [Pr.l]
theorem with_ok (hp : st[pl]? = some (.list P)) (L : Lacks k P) : C (d + 2) 40 [.ref pl, .int k, v] st = some (.ref (st.length + 1), st ++ [.list [.tup [.int k, v]], .list (P ++ [.tup [.int k, v]])]) := by
  have hf := find_ok (d := d) hp L
  have g1 : P.length + 1 ≤ maxSeq := Nat.le_trans (Nat.succ_le_succ (lacks_len L)) (Nat.le_of_ble_eq_true rfl)
  have hb : binV .add (.ref pl) (.ref st.length) (st ++ [.list [.tup [.int k, v]]]) = some (.ref (st.length + 1), st ++ [.list [.tup [.int k, v]], .list (P ++ [.tup [.int k, v]])]) := by
    refine (atL_of (h_app hp)).trans ((atL_of (vs := [.tup [.int k, v]]) app_at0).trans ((if_pos (show P.length + [V.tup [V.int k, v]].length ≤ maxSeq from g1)).trans ?_))
    rw [List.length_append, List.append_assoc]; rfl
  refine w_fun (ps := [2, 25, 38]) (B := B_plist_with) rfl rfl (ov := some (.ref (st.length + 1))) (m1 := put 17 (.int (-1)) ([2, 25, 38].zip [V.ref pl, V.int k, v])) ?_ rfl
  delta B_plist_with
  repeat walk_at "w1"
theorem oput_ok (h5 : st[5]? = some rulesO) (ha : st[a]? = some (ovO i nd h pl)) (hp : st[pl]? = some (.list P)) (L : Lacks k P) (n1 : 5 ≠ a) : C (d + 4) 54 [.ref 5, .ref a, .int k, v] st = some (.bool true, st.set a (ovO i nd h (st.length + 1)) ++ [.list [.tup [.int k, v]], .list (P ++ [.tup [.int k, v]])]) := by
  have e1 := holds_no (d := d + 1) (v := v) hp L
  have e2 := with_ok (d := d + 1) (v := v) hp L
  have hs : (st ++ [O.list [.tup [.int k, v]], .list (P ++ [.tup [.int k, v]])]).set a (wrO 2 (.ref (st.length + 1)) (ovO i nd h pl)) = st.set a (ovO i nd h (st.length + 1)) ++ [.list [.tup [.int k, v]], .list (P ++ [.tup [.int k, v]])] := List.set_append_left _ _ (lt_of_at ha)
  have hk : cmpV .eq (.int k) (.int 103) = some false := by
    rcases L with ⟨rfl, _⟩ | ⟨rfl, _⟩ <;> rfl
  have n2 := Ne.symm n1
  refine w_fun (ps := [50, 53, 25, 38]) (B := B_overlay_put) rfl rfl (ov := some (.bool true)) (m1 := put 54 (.bool true) ([50, 53, 25, 38].zip [V.ref 5, V.ref a, V.int k, v])) ?_ rfl
  delta B_overlay_put
  repeat walk_at "w1"
end
end Mine
end
section
namespace Mine
structure Fil (s3 : St) (L : List Int) (N : Nat) (i : Int) (s : St) (k pl : Nat) (P : List V) : Prop where
  len : s3.length ≤ s.length
  keep : ∀ z, z < s3.length → z ≠ 2 → z ≠ 10 → z ≠ N → s[z]? = s3[z]?
  r10 : s[10]? = s3[10]?
  ov : s[N]? = some (ovO i (N + 1) (.ref 7) pl)
  pl_ : s[pl]? = some (.list P)
  new : pl = N + 2 ∨ s3.length ≤ pl
  deck : Dk s L k
  low : 13 ≤ N ∧ N + 3 ≤ s3.length
section
variable {s3 s : St} {L : List Int} {N : Nat} {i : Int} {k pl : Nat} {P : List V} {d : Nat}
theorem Fil.app (F : Fil s3 L N i s k pl P) (g : St) : Fil s3 L N i (s ++ g) k pl P := by
  obtain ⟨a1, a2, a3, a4, a5, a6, a7, a8⟩ := F
  have lt : ∀ {z : Nat}, z < s3.length → (s ++ g)[z]? = s[z]? := fun h => List.getElem?_append_left (by (first | lia | omega))
  refine ⟨by rw [List.length_append]; (first | lia | omega), fun z h1 h2 h3 h4 => by rw [lt h1]; exact a2 z h1 h2 h3 h4, by rw [lt (by (first | lia | omega))]; exact a3, by rw [lt (by (first | lia | omega))]; exact a4, (List.getElem?_append_left (lt_of_at a5)).trans a5, a6, ?_, a8⟩
  exact a7.congr (lt (by (first | lia | omega))) (lt (by (first | lia | omega)))
theorem Fil.deck' (F : Fil s3 L N i s k pl P) (hk : k < 1000) : Fil s3 L N i (s.set 2 (.list [.ref 1, .int (k + 1 : Nat)])) (k + 1) pl P := by
  obtain ⟨a1, a2, a3, a4, a5, a6, a7, a8⟩ := F
  have hpl : pl ≠ 2 := by (first | lia | omega)
  refine ⟨by rw [List.length_set]; exact a1, fun z h1 h2 h3 h4 => by rw [List.getElem?_set_ne (Ne.symm h2)]; exact a2 z h1 h2 h3 h4, by rw [List.getElem?_set_ne (by decide)]; exact a3, by rw [List.getElem?_set_ne (by (first | lia | omega))]; exact a4, by rw [List.getElem?_set_ne (Ne.symm hpl)]; exact a5, a6, a7.next hk, a8⟩
theorem Fil.draw (F : Fil s3 L N i s k pl P) (hk : k < 1000) {many : Int} (h0 : 0 < many) (h1 : many < 1000) : ∃ (x : Int) (s' : St), 0 ≤ x ∧ x < many ∧ C (d + 1) 79 [.ref 2, .int many] s = some (.int x, s') ∧ Fil s3 L N i s' (k + 1) pl P := by
  obtain ⟨x, q0, q1, e⟩ := draw_ok (d := d) F.deck h0 h1
  exact ⟨x, _, q0, q1, e, F.deck' hk⟩
theorem Fil.value (F : Fil s3 L N i s k pl P) (hk : k < 1000) : ∃ (j : Nat) (s' : St), j < 4 ∧ C (d + 2) 80 [.ref 2] s = some (lawVal j, s') ∧ Fil s3 L N i s' (k + 1) pl P := by
  obtain ⟨j, q, e⟩ := value_ok (d := d) F.deck (by have := F.len; have := F.low; (first | lia | omega))
  exact ⟨j, _, q, e, (F.deck' hk).app _⟩
theorem Fil.rules (F : Fil s3 L N i s k pl P) (h : s3[5]? = some rulesO) : s[5]? = some rulesO := by
  have := F.low
  rw [F.keep 5 (by (first | lia | omega)) (by decide) (by decide) (by (first | lia | omega))]; exact h
theorem Fil.put (F : Fil s3 L N i s k pl P) (h : s3[5]? = some rulesO) {q : Int} {v : V} (Lk : Lacks q P) : ∃ (s' : St) (pl' : Nat), C (d + 4) 54 [.ref 5, .ref N, .int q, v] s = some (.bool true, s') ∧ Fil s3 L N i s' k pl' (P ++ [.tup [.int q, v]]) := by
  have lw := F.low
  have e := oput_ok (d := d) (v := v) (F.rules h) F.ov F.pl_ Lk (by (first | lia | omega))
  refine ⟨_, s.length + 1, e, ?_⟩
  obtain ⟨a1, a2, a3, a4, a5, a6, a7, a8⟩ := F
  have ln := lt_of_at a4
  have sl : (s.set N (ovO i (N + 1) (.ref 7) (s.length + 1))).length = s.length := List.length_set
  have lt : ∀ {z : Nat}, z < s.length → z ≠ N → (s.set N (ovO i (N + 1) (.ref 7) (s.length + 1)) ++ [O.list [.tup [.int q, v]], .list (P ++ [.tup [.int q, v]])])[z]? = s[z]? := fun h h2 => by
    rw [List.getElem?_append_left (by rw [sl]; exact h), List.getElem?_set_ne (Ne.symm h2)]
  refine ⟨by rw [List.length_append, sl]; (first | lia | omega), fun z h1 h2 h3 h4 => by rw [lt (by (first | lia | omega)) h4]; exact a2 z h1 h2 h3 h4, by rw [lt (by (first | lia | omega)) (by (first | lia | omega))]; exact a3, ?_, ?_, .inr (by (first | lia | omega)), a7.congr (lt (by (first | lia | omega)) (by (first | lia | omega))) (lt (by (first | lia | omega)) (by (first | lia | omega))), a8⟩
  · rw [List.getElem?_append_left (by rw [sl]; exact ln), List.getElem?_set_self ln]
  · have := app_at (st := s.set N (ovO i (N + 1) (.ref 7) (s.length + 1))) (l := [O.list [.tup [.int q, v]], .list (P ++ [.tup [.int q, v]])]) (k := 1)
    rw [sl] at this; exact this
end
end Mine
end
section
namespace Mine
noncomputable def heldY : Option V → V | .none => .none | .some v => .tup [v]
section
variable {st H : St} {B k : Nat} {t : T} {rows : List Ov} {L : List Int} {d : Nat}
theorem lookI_rows {rows : List Ov} (hn : rows.map Ov.i = List.range rows.length) : lookI (rows.length : Int) (rowsD rows) = .none := by
  have : ∀ l : List Ov, (∀ o ∈ l, o.i ≠ rows.length) → lookI (rows.length : Int) (rowsD l) = .none := fun l => by
    induction l with
    | nil => intro _; rfl
    | cons x l ih =>
      intro h
      have h1 : ¬ ((rows.length : Nat) : Int) = (x.i : Int) := fun e => h x (.head _) (by (first | lia | omega))
      simp only [rowsD, List.map_cons, lookI, h1, if_false]
      exact ih fun o ho => h o (List.mem_cons_of_mem _ ho)
  refine this rows fun o ho e => ?_
  have : o.i ∈ rows.map Ov.i := List.mem_map_of_mem ho
  rw [hn, List.mem_range] at this
  (first | lia | omega)
theorem lov_ok (I : Inv st B t rows) (hB : Base H st) (hBl : B = H.length) (D : Dk st L k) (hk : k ≤ 900) (hn : rows.length < 5) (hr : st[10]? = some (.list (rows.map rowV))) :
    ∃ (st' : St) (t' : T) (o : Ov) (k' : Nat), C (d + 9) 81 [.ref 2, .ref 7, .ref 10, .int (rows.length : Nat)] st = some (.none, st') ∧ Inv st' B t' (rows ++ [o]) ∧ Base H st' ∧ Dk st' L k' ∧ k' ≤ k + 10 ∧ st'[10]? = some (.list ((rows ++ [o]).map rowV)) := by
  have lst : B ≤ st.length := hBl ▸ hB.len
  have low : ∀ {z}, z < 13 → z < st.length := fun h => Nat.lt_of_lt_of_le h (Nat.le_trans I.B13 lst)
  have kk : ∀ {j}, j ≤ 99 → k + j < 1000 := fun h => Nat.lt_of_le_of_lt (Nat.add_le_add hk h) (by decide)
  obtain ⟨b, b0, b1, e1⟩ := draw_ok (d := d + 7) D (many := 10) (by decide) (by decide)
  have D1 := D.next (kk (j := 0) (by decide))
  obtain ⟨q, q0, q1, e2⟩ := draw_ok (d := d + 7) D1 (many := 5) (by decide) (by decide)
  have D2 := D1.next (kk (j := 1) (by decide))
  have n2 : ∀ {z}, z ≠ 2 → ((st.set 2 (.list [.ref 1, .int (k + 1 : Nat)])).set 2 (.list [.ref 1, .int (k + 1 + 1 : Nat)]))[z]? = st[z]? := fun hz => (List.getElem?_set_ne (Ne.symm hz)).trans (List.getElem?_set_ne (Ne.symm hz))
  have len2 : ((st.set 2 (.list [.ref 1, .int (k + 1 : Nat)])).set 2 (.list [.ref 1, .int (k + 1 + 1 : Nat)])).length = st.length := List.length_set.trans List.length_set
  generalize (st.set 2 (.list [.ref 1, .int (k + 1 : Nat)])).set 2 (.list [.ref 1, .int (k + 1 + 1 : Nat)]) = s2 at *
  have nb : ∀ {z}, z < B → z ∉ t.inl.map ND.a := fun h1 h2 => absurd (I.bt _ h2) (Nat.not_le.mpr h1)
  have nb13 : ∀ {z}, z < 13 → z ∉ t.inl.map ND.a := fun h => nb (Nat.lt_of_lt_of_le h I.B13)
  have K2 : TreeOk s2 8 rows.length rows.length t := I.tree.congr fun z hz => n2 (hz.elim (fun e => e ▸ by decide) fun hz e => nb13 (by decide) (e ▸ hz))
  have be : b ≤ min 10 (b + q) := Int.le_min.mpr ⟨Int.le_of_lt b1, Int.le_add_of_nonneg_right q0⟩
  obtain ⟨s3, t', e3, K3, P3, L3, g0, g2, g9, F3⟩ := made_ok (d := d) (i := (rows.length : Nat)) (b := b) (e := min 10 (b + q)) hn K2 ((n2 (by decide)).trans I.home) ((n2 (by decide)).trans I.dict) (lookI_rows I.num) (by rw [rowsD, List.length_map]; exact Nat.le_trans (Nat.le_of_lt hn) (by decide)) be ⟨nb13 (by decide), nb13 (by decide)⟩
  rw [len2] at e3 L3 g0 g2 g9 F3 P3
  have L3' : st.length < s3.length := L3 ▸ Nat.lt_add_of_pos_right (by decide)
  have f3 : ∀ {z}, z < st.length → z ≠ 2 → z ≠ 8 → z ≠ 9 → z ∉ t.inl.map ND.a → s3[z]? = st[z]? := fun h1 h2 h3 h4 h5 => (F3 _ h1 h3 h4 h5).trans (n2 h2)
  have f13 : ∀ {z}, z < 13 → z ≠ 2 → z ≠ 8 → z ≠ 9 → s3[z]? = st[z]? := fun h h2 h3 h4 => f3 (low h) h2 h3 h4 (nb13 h)
  have hs5 : s3[5]? = some rulesO := (f13 (by decide) (by decide) (by decide) (by decide)).trans I.rules
  have Fl0 : Fil s3 L st.length (rows.length : Nat) s3 (k + 1 + 1) (st.length + 2) [] :=
    ⟨Nat.le_refl _, fun _ _ _ _ _ => rfl, rfl, g0, g2, .inl rfl, D2.congr (F3 1 (low (by decide)) (by decide) (by decide) (nb13 (by decide))) (F3 2 (low (by decide)) (by decide) (by decide) (nb13 (by decide))), Nat.le_trans I.B13 lst, Nat.le_of_eq L3.symm⟩
  obtain ⟨w, s4, w0, w1, e4, Fl1⟩ := Fl0.draw (d := d + 7) (many := 3) (kk (j := 2) (by decide)) (by decide) (by decide)
  obtain ⟨p, s5, p0, p1, e5, Fl2⟩ := Fl1.draw (d := d + 7) (many := 3) (kk (j := 3) (by decide)) (by decide) (by decide)
  obtain ⟨z, s6, z0, z1, e6, Fl3⟩ := Fl2.draw (d := d + 7) (many := 2) (kk (j := 4) (by decide)) (by decide) (by decide)
  have hw : w = 0 ∨ w = 1 ∨ w = 2 := by omega
  have i1 : exS clss nidxTab (C (d + 8)) (.asgT [18, 16] (.tup (.cons (.call 79 (.cons (.var 67) (.cons (.val (.int 10)) .nil))) (.cons (.call 79 (.cons (.var 67) (.cons (.val (.int 5)) .nil))) .nil)))) ([67, 51, 68, 25].zip [.ref 2, .ref 7, .ref 10, .int (rows.length : Nat)]) st = some (.none, put 16 (.int q) (put 18 (.int b) ([67, 51, 68, 25].zip [.ref 2, .ref 7, .ref 10, .int (rows.length : Nat)])), s2) := by repeat walk_at "w1"
  have i2 : exS clss nidxTab (C (d + 8)) (.asg 37 (.call 52 (.cons (.var 51) (.cons (.var 25) (.cons (.var 18) (.cons (.min2 (.val (.int 10)) (.bin .add (.var 18) (.var 16))) (.cons (.val (.bool false)) (.cons (.val (.bool false)) .nil)))))))) (put 16 (.int q) (put 18 (.int b) ([67, 51, 68, 25].zip [.ref 2, .ref 7, .ref 10, .int (rows.length : Nat)]))) s2 = some (.none, put 37 (.ref st.length) (put 16 (.int q) (put 18 (.int b) ([67, 51, 68, 25].zip [.ref 2, .ref 7, .ref 10, .int (rows.length : Nat)]))), s3) := by repeat walk_at "w1"
  obtain ⟨m4, hm4⟩ : ∃ m4 : Lo, m4 = put 63 (.int z) (put 59 (.int p) (put 70 (.int w) (put 37 (.ref st.length) (put 16 (.int q) (put 18 (.int b) ([67, 51, 68, 25].zip [.ref 2, .ref 7, .ref 10, .int (rows.length : Nat)])))))) := ⟨_, rfl⟩
  have i3 : exS clss nidxTab (C (d + 8)) (.asgT [70, 59, 63] (.tup (.cons (.call 79 (.cons (.var 67) (.cons (.val (.int 3)) .nil))) (.cons (.call 79 (.cons (.var 67) (.cons (.val (.int 3)) .nil))) (.cons (.call 79 (.cons (.var 67) (.cons (.val (.int 2)) .nil))) .nil))))) (put 37 (.ref st.length) (put 16 (.int q) (put 18 (.int b) ([67, 51, 68, 25].zip [.ref 2, .ref 7, .ref 10, .int (rows.length : Nat)])))) s3 = some (.none, m4, s6) := by
    rw [hm4]; repeat walk_at "w1"
  have k70 : look 70 m4 = some (.int w) := hm4 ▸ rfl
  have k59 : look 59 m4 = some (.int p) := hm4 ▸ rfl
  have k63 : look 63 m4 = some (.int z) := hm4 ▸ rfl
  have k51 : look 51 m4 = some (.ref 7) := hm4 ▸ rfl
  have k37 : look 37 m4 = some (.ref st.length) := hm4 ▸ rfl
  have k67 : look 67 m4 = some (.ref 2) := hm4 ▸ rfl
  have k68 : look 68 m4 = some (.ref 10) := hm4 ▸ rfl
  have k18 : look 18 m4 = some (.int b) := hm4 ▸ rfl
  have k16 : look 16 m4 = some (.int q) := hm4 ▸ rfl
  have k25 : look 25 m4 = some (.int (rows.length : Nat)) := hm4 ▸ rfl
  clear hm4
  have h7 : ∀ {s : St} {kk pl : Nat} {P : List V}, Fil s3 L st.length (rows.length : Nat) s kk pl P → s[7]? = some homeO := fun {s kk pl P} F => (F.keep 7 (Nat.lt_trans (low (by decide)) L3') (by decide) (by decide) (Nat.ne_of_lt (low (by decide)))).trans ((f13 (by decide) (by decide) (by decide) (by decide)).trans I.home)
  have prio : ∃ (r : Pr) (s7 : St) (pl : Nat), r.v1 = (if w = 0 then 0 else p) ∧ r.v2 = (if w = 2 then z else 0) ∧ Fil s3 L st.length (rows.length : Nat) s7 (k + 1 + 1 + 1 + 1 + 1) pl r.l ∧
      ∀ ss : Ss, exSs clss nidxTab (C (d + 8)) (.cons (.ite (.cmp .eq (.var 70) (.val (.int 1))) (.cons (.exp (.call 54 (.cons (.attr (.var 51) 50) (.cons (.var 37) (.cons (.val (.int 104)) (.cons (.var 59) .nil)))))) .nil) .nil) (.cons (.ite (.cmp .eq (.var 70) (.val (.int 2))) (.cons (.exp (.call 54 (.cons (.attr (.var 51) 50) (.cons (.var 37) (.cons (.val (.int 104)) (.cons (.tup (.cons (.val (.str 62)) (.cons (.var 59) (.cons (.var 63) .nil)))) .nil)))))) .nil) .nil) ss)) m4 s6 = exSs clss nidxTab (C (d + 8)) ss m4 s7 := by
    have g7 := h7 Fl3
    rcases hw with h | h | h
    · rw [h] at k70
      refine ⟨.no, s6, st.length + 2, (if_pos h).symm, (if_neg (by rw [h]; decide)).symm, Fl3, fun ss => ?_⟩
      repeat walk_at "w1"
    · rw [h] at k70
      obtain ⟨s7, pl, e7, F7⟩ := Fl3.put (d := d + 4) (q := 104) (v := .int p) hs5 (.inl ⟨rfl, rfl⟩)
      refine ⟨.one p, s7, pl, (if_neg (by rw [h]; decide)).symm, (if_neg (by rw [h]; decide)).symm, F7, fun ss => ?_⟩
      repeat walk_at "w1"
    · rw [h] at k70
      obtain ⟨s7, pl, e7, F7⟩ := Fl3.put (d := d + 4) (q := 104) (v := .tup [.str 62, .int p, .int z]) hs5 (.inl ⟨rfl, rfl⟩)
      refine ⟨.two p z, s7, pl, (if_neg (by rw [h]; decide)).symm, (if_pos h).symm, F7, fun ss => ?_⟩
      repeat walk_at "w1"
  obtain ⟨r, s7, pl7, rv1, rv2, F7, i45⟩ := prio
  obtain ⟨s8, hs8⟩ : ∃ s8, s8 = s7 ++ [O.list [.tup [.int 0, .int 0], .tup [.int p, .int 0], .tup [.int p, .int z]]] := ⟨_, rfl⟩
  have F8 : Fil s3 L st.length (rows.length : Nat) s8 (k + 1 + 1 + 1 + 1 + 1) pl7 r.l := hs8 ▸ F7.app _
  have i6 : ∀ ss : Ss, exSs clss nidxTab (C (d + 8)) (.cons (.asg 41 (.idx (.lst (.cons (.tup (.cons (.val (.int 0)) (.cons (.val (.int 0)) .nil))) (.cons (.tup (.cons (.var 59) (.cons (.val (.int 0)) .nil))) (.cons (.tup (.cons (.var 59) (.cons (.var 63) .nil))) .nil)))) (.var 70))) (.cons (.asg 69 (.val .none)) ss)) m4 s7 = exSs clss nidxTab (C (d + 8)) ss (put 69 .none (put 41 (.tup [.int r.v1, .int r.v2]) m4)) s8 := fun ss => by
    have a2 : idxV (s7 ++ [O.list [.tup [.int 0, .int 0], .tup [.int p, .int 0], .tup [.int p, .int z]]]) (.ref s7.length) (.int w) = some (.tup [.int r.v1, .int r.v2]) := by
      refine i_list app_at0 ⟨w0, Int.lt_trans w1 (by decide)⟩ ?_
      rw [rv1, rv2]
      rcases hw with h | h | h <;> subst h <;> rfl
    rw [hs8]
    repeat walk_at "w1"
  obtain ⟨u, s9, u0, u1, e9, F9⟩ := F8.draw (d := d + 7) (many := 4) (kk (j := 5) (by decide)) (by decide) (by decide)
  obtain ⟨m5, hm5⟩ : ∃ m5 : Lo, m5 = put 69 .none (put 41 (.tup [.int r.v1, .int r.v2]) m4) := ⟨_, rfl⟩
  have prop : ∃ (y : Option V) (sA : St) (plA kA : Nat), (y = .none ∨ ∃ j, y = some (lawVal j)) ∧ Fil s3 L st.length (rows.length : Nat) sA kA plA (PL r y) ∧ kA ≤ k + 9 ∧
      ∃ m6 : Lo, (∀ x, x ≠ 69 → look x m6 = look x m5) ∧ look 69 m6 = some (heldY y) ∧ ∀ ss : Ss, exSs clss nidxTab (C (d + 8)) (.cons (.ite (.cmp .gt (.call 79 (.cons (.var 67) (.cons (.val (.int 4)) .nil))) (.val (.int 0))) (.cons (.asg 69 (.tup (.cons (.call 80 (.cons (.var 67) .nil)) .nil))) (.cons (.exp (.call 54 (.cons (.attr (.var 51) 50) (.cons (.var 37) (.cons (.val (.int 7)) (.cons (.idx (.var 69) (.val (.int 0))) .nil)))))) .nil)) .nil) ss) m5 s8 = exSs clss nidxTab (C (d + 8)) ss m6 sA := by
    have q67 : look 67 m5 = some (.ref 2) := hm5 ▸ l_pn (by decide) (l_pn (by decide) k67)
    have q51 : look 51 m5 = some (.ref 7) := hm5 ▸ l_pn (by decide) (l_pn (by decide) k51)
    have q37 : look 37 m5 = some (.ref st.length) := hm5 ▸ l_pn (by decide) (l_pn (by decide) k37)
    by_cases hu : 0 < u
    · obtain ⟨j, sA, j4, eA, FA⟩ := F9.value (d := d + 6) (kk (j := 6) (by decide))
      obtain ⟨sB, plB, eB, FB⟩ := FA.put (d := d + 4) (q := 7) (v := lawVal j) hs5 (.inr ⟨rfl, r, rfl⟩)
      have g7 := h7 FA
      refine ⟨some (lawVal j), sB, plB, _, .inr ⟨j, rfl⟩, FB, Nat.add_le_add_left (by decide : 7 ≤ 9) k, put 69 (.tup [lawVal j]) m5, fun x hx => look_put_ne hx, look_pt, fun ss => ?_⟩
      repeat walk_at "w1"
    · refine ⟨.none, s9, pl7, _, .inl rfl, (by rw [PL, yL, List.append_nil]; exact F9), Nat.add_le_add_left (by decide : 6 ≤ 9) k, m5, fun _ _ => rfl, hm5 ▸ look_pt, fun ss => ?_⟩
      repeat walk_at "w1"
  obtain ⟨y, sA, plA, kA, hy, FA, hkA, m6, km, k69, i8⟩ := prop
  have kx : ∀ {x : Nat} {v : V}, look x m4 = some v → x ≠ 69 → x ≠ 41 → look x m6 = some v := fun {x v} h h1 h2 => (km x h1).trans (hm5 ▸ l_pn h1 (l_pn h2 h))
  have k41 : look 41 m6 = some (.tup [.int r.v1, .int r.v2]) := (km 41 (by decide)).trans (hm5 ▸ l_pn (by decide) look_pt)
  obtain ⟨o, ho⟩ : ∃ o : Ov, o = ⟨rows.length, st.length, st.length + 1, plA, b, min 10 (b + q), r, y⟩ := ⟨_, rfl⟩
  have lA : ∀ {z}, z < 13 → z < sA.length := fun h => Nat.lt_of_lt_of_le (Nat.lt_trans (low h) L3') FA.len
  have l10 : 10 < sA.length := lA (by decide)
  have r10 : sA[10]? = some (.list (rows.map rowV)) := FA.r10.trans ((f13 (by decide) (by decide) (by decide) (by decide)).trans hr)
  have keep : ∀ {z}, z < s3.length → z ≠ 2 → z ≠ 10 → z ≠ st.length → (sA.set 10 (.list ((rows ++ [o]).map rowV)))[z]? = s3[z]? := fun h1 h2 h3 h4 => (List.getElem?_set_ne (Ne.symm h3)).trans (FA.keep _ h1 h2 h3 h4)
  have k13 : ∀ {z}, z < 13 → z ≠ 2 → z ≠ 10 → (sA.set 10 (.list ((rows ++ [o]).map rowV)))[z]? = s3[z]? := fun h h2 h3 => keep (Nat.lt_trans (low h) L3') h2 h3 (Nat.ne_of_lt (low h))
  have keys' : (t'.inl.map ND.key).Perm ((rows ++ [o]).map Ov.key) := by
    refine P3.trans ?_
    rw [List.map_append, List.map_singleton, ho]
    exact (List.Perm.cons _ I.keys).trans (List.perm_append_singleton _ _).symm
  have ta : ∀ {z}, z ∈ t'.inl.map ND.a → z = st.length + 1 ∨ z ∈ t.inl.map ND.a := fun {z} hz => by
    have e : ∀ l : List ND, l.map ND.a = (l.map ND.key).map (·.1) := fun l => by rw [List.map_map]; rfl
    rw [e] at hz
    have := (P3.map (·.1)).mem_iff.mp hz
    rw [List.map_cons, ← e] at this
    exact List.mem_cons.mp this
  have tlt : ∀ {z}, z ∈ t'.inl.map ND.a → B ≤ z ∧ z < s3.length ∧ z ≠ st.length := fun {z} hz => by
    rcases ta hz with rfl | hz
    · exact ⟨Nat.le_trans lst (Nat.le_add_right _ _), L3 ▸ Nat.add_lt_add_left (by decide) _, Nat.ne_of_gt (Nat.lt_succ_self _)⟩
    · have h2 := At_lt I.tree.at_ hz
      exact ⟨I.bt z hz, Nat.lt_trans h2 L3', Nat.ne_of_lt h2⟩
  have nB : ∀ {z}, B ≤ z → ∀ {j}, j < 13 → z ≠ j := fun h _ hj e => absurd (Nat.le_trans I.B13 h) (Nat.not_le.mpr (e ▸ hj))
  refine ⟨sA.set 10 (.list ((rows ++ [o]).map rowV)), t', o, kA, ?_, ⟨?_, keys', ?_, ?_, ?_, ?_, fun x hx => ?_, ?_, I.B13, fun z hz => (tlt hz).1⟩, ⟨?_, fun z h1 h2 h3 h4 h5 => ?_⟩, FA.deck.congr (List.getElem?_set_ne (by decide)) (List.getElem?_set_ne (by decide)), Nat.le_trans hkA (Nat.add_le_add_left (by decide) _), List.getElem?_set_self l10⟩
  · have hle : (rows.map rowV).length ≤ maxSeq := by rw [List.length_map]; exact Nat.le_trans (Nat.le_of_lt hn) (Nat.le_of_ble_eq_true rfl)
    have h69 : heldY y = held o := by rw [ho]; cases y <;> rfl
    rw [h69] at k69
    have k68 := kx k68 (by decide) (by decide)
    have k18 := kx k18 (by decide) (by decide)
    have k16 := kx k16 (by decide) (by decide)
    have k25 := kx k25 (by decide) (by decide)
    have hs : sA.set 10 (.list (rows.map rowV ++ [rowV o])) = sA.set 10 (.list ((rows ++ [o]).map rowV)) := by rw [List.map_append]; rfl
    apply w_fun (ps := [67, 51, 68, 25]) (B := B_law_overlay) rfl rfl
    · refine s_cons i1 (s_go (s_cons i2 (s_go (s_cons i3 (s_go ((i45 _).trans ((i6 _).trans ?_)))))))
      rw [← hm5]
      refine (i8 _).trans (s_cons (s_exp (w_lapp (w_var k68) r10 hle (v := rowV o) ?_ r10 hle hs)) (s_go s_nil))
      have e : rowV o = V.tup [.int b, .int (min 10 (b + q)), .tup [.int r.v1, .int r.v2], held o, .int (rows.length : Nat)] := by rw [ho]; rfl
      rw [e]
      repeat walk_at "w1"
    · rfl
  · rw [show (rows ++ [o]).length = rows.length + 1 from List.length_append]
    exact K3.congr fun z hz => by
      rcases hz with rfl | hz
      · exact k13 (by decide) (by decide) (by decide)
      · have h := tlt hz
        exact keep h.2.1 (nB h.1 (by decide)) (nB h.1 (by decide)) h.2.2
  · exact (k13 (by decide) (by decide) (by decide)).trans ((f13 (by decide) (by decide) (by decide) (by decide)).trans I.lisp)
  · exact (k13 (by decide) (by decide) (by decide)).trans hs5
  · exact (k13 (by decide) (by decide) (by decide)).trans ((f13 (by decide) (by decide) (by decide) (by decide)).trans I.home)
  · refine (k13 (by decide) (by decide) (by decide)).trans (g9.trans ?_)
    rw [rowsD, rowsD, List.map_append, ho]; rfl
  · rcases List.mem_append.mp hx with hx | hx
    · obtain ⟨a1, a2, a3, a4, a5, a6, a7, a8, a9⟩ := I.ov x hx
      have lt1 := lt_of_at a1
      have lt2 := lt_of_at a2
      have far : ∀ {z}, z < st.length → z ∉ t.inl.map ND.a → z ∉ t'.inl.map ND.a := fun h1 h2 h => (ta h).elim (fun e => absurd (Nat.le_succ _) (Nat.not_le.mpr (e ▸ h1))) h2
      exact ⟨(keep (Nat.lt_trans lt1 L3') (nB a3 (by decide)) (nB a3 (by decide)) (Nat.ne_of_lt lt1)).trans ((f3 lt1 (nB a3 (by decide)) (nB a3 (by decide)) (nB a3 (by decide)) a6).trans a1), (keep (Nat.lt_trans lt2 L3') (nB a4 (by decide)) (nB a4 (by decide)) (Nat.ne_of_lt lt2)).trans ((f3 lt2 (nB a4 (by decide)) (nB a4 (by decide)) (nB a4 (by decide)) a7).trans a2), a3, a4, a5, far lt1 a6, far lt2 a7, a8, a9⟩
    · obtain rfl := List.mem_singleton.mp hx
      have hpl : st.length < plA := FA.new.elim (fun e => e ▸ Nat.lt_add_of_pos_right (by decide)) fun h => Nat.lt_of_lt_of_le L3' h
      have hp2 : plA ≠ st.length + 1 := FA.new.elim (fun e => e ▸ fun h => absurd (Nat.add_left_cancel h) (by decide)) fun h => Nat.ne_of_gt (Nat.lt_of_lt_of_le (L3 ▸ Nat.add_lt_add_left (by decide) _) h)
      rw [ho]
      exact ⟨(List.getElem?_set_ne (Ne.symm (nB lst (by decide)))).trans FA.ov, (List.getElem?_set_ne (Ne.symm (nB (Nat.le_trans lst (Nat.le_of_lt hpl)) (by decide)))).trans FA.pl_, lst, Nat.le_trans lst (Nat.le_of_lt hpl), Nat.ne_of_lt hpl,
        fun h => (ta h).elim (fun e => absurd e (Nat.ne_of_lt (Nat.lt_succ_self _))) fun h => absurd (At_lt I.tree.at_ h) (Nat.lt_irrefl _), fun h => (ta h).elim hp2 fun h => absurd (At_lt I.tree.at_ h) (Nat.not_lt.mpr (Nat.le_of_lt hpl)), hy, b0, be, Int.min_le_left _ _⟩
  · rw [List.map_append, I.num, List.length_append, List.length_singleton, List.range_succ, ho]; rfl
  · rw [List.length_set]; exact hBl ▸ Nat.le_trans lst (Nat.le_trans (Nat.le_of_lt L3') FA.len)
  · have hz : z < st.length := Nat.lt_of_lt_of_le h1 hB.len
    exact (keep (Nat.lt_trans hz L3') h2 h5 (Nat.ne_of_lt hz)).trans ((f3 hz h2 h3 h4 (nb (hBl ▸ h1))).trans (hB.get z h1 h2 h3 h4 h5))
end
end Mine
end
section
namespace Mine
noncomputable def kL : Nat → List V
  | 0 => []
  | j + 1 => [.tup [.int 7, lawVal j]]
noncomputable def kV : Nat → V
  | 0 => .none
  | j + 1 => lawVal j
noncomputable def menuV : O := .list [.none, .int 1, .bool true, .int 2]
noncomputable def segG (s : Nat × Nat) : List O := [menuV, .list (kL s.2), .list [kV s.2], .list (List.replicate s.1 (kV s.2))]
noncomputable def chF : List (Nat × Nat) → List V
  | [] => []
  | s :: l => List.replicate s.1 (kV s.2) ++ chF l
noncomputable def runsF : Nat → List (Nat × Nat) → List V
  | _, [] => []
  | a, s :: l => .tup [.int (s.1 : Nat), .ref (a + 1)] :: runsF (a + 4) l
noncomputable def segsG : List (Nat × Nat) → List O
  | [] => []
  | s :: l => segG s ++ segsG l
noncomputable def PRE (x0 : O) (L : List Int) (k : Nat) (cs rs : List V) (tail : St) : St :=
  x0 :: .list (L.map V.int) :: .list [.ref 1, .int (k : Nat)] :: lispO :: .dict [] :: rulesO :: .dict [] :: homeO :: treeO .none 0 :: .dict [] :: .list [] :: .list cs :: .list rs :: tail
noncomputable abbrev segB (d : Nat) := exSs clss nidxTab (C d) (.cons (.asg 38 (.call 80 (.cons (.var 67) .nil))) (.cons (.exp (.lapp (.var 78) (.tup (.cons (.var 16) (.cons (.ite (.bor (.cons (.cmp .gt (.call 79 (.cons (.var 67) (.cons (.val (.int 3)) .nil))) (.val (.int 0))) (.cons (.cmp .isn (.var 38) (.val .none)) .nil))) (.lst (.cons (.tup (.cons (.val (.int 7)) (.cons (.var 38) .nil))) .nil)) (.lst .nil)) .nil))))) (.cons (.exp (.lext (.var 71) (.bin .mul (.lst (.cons (.var 38) .nil)) (.var 16)))) .nil)))
section
variable {x0 : O} {L : List Int} {k : Nat} {cs rs : List V} {tail : St} {d : Nat}
theorem PRE_set2 {n : Nat} : (PRE x0 L k cs rs tail).set 2 (.list [.ref 1, .int (n : Nat)]) = PRE x0 L n cs rs tail := rfl
theorem PRE_set11 {ds : List V} : (PRE x0 L k cs rs tail).set 11 (.list ds) = PRE x0 L k ds rs tail := rfl
theorem PRE_set12 {ds : List V} : (PRE x0 L k cs rs tail).set 12 (.list ds) = PRE x0 L k cs ds tail := rfl
theorem PRE_app {g : St} : PRE x0 L k cs rs tail ++ g = PRE x0 L k cs rs (tail ++ g) := rfl
theorem PRE_len : (PRE x0 L k cs rs tail).length = tail.length + 13 := rfl
theorem PRE_dk (hl : L.length ≤ 63) (hk : k ≤ 1000) : Dk (PRE x0 L k cs rs tail) L k := ⟨rfl, rfl, hl, hk⟩
theorem seg_ok {many : Nat} {m : Lo} (hl : L.length ≤ 63) (hk : k ≤ 900) (lc : cs.length ≤ 100) (lr : rs.length ≤ 100) (hm : many ≤ 64) (m67 : look 67 m = some (.ref 2)) (m71 : look 71 m = some (.ref 11)) (m78 : look 78 m = some (.ref 12)) :
    ∃ j, j < 5 ∧ segB (d + 2) (put 16 (.int (many : Nat)) m) (PRE x0 L k cs rs tail) = some (.none, put 38 (kV j) (put 16 (.int (many : Nat)) m), PRE x0 L (k + 2) (cs ++ List.replicate many (kV j)) (rs ++ [.tup [.int (many : Nat), .ref (tail.length + 13 + 1)]]) (tail ++ segG (many, j))) := by
  have hk1 : k + 1 ≤ 1000 := Nat.le_trans (Nat.succ_le_succ hk) (by decide)
  obtain ⟨v, v4, e1⟩ := value_ok (d := d) (PRE_dk (x0 := x0) (cs := cs) (rs := rs) (tail := tail) hl (Nat.le_of_succ_le hk1)) (Nat.le_add_left 3 (tail.length + 10))
  rw [PRE_set2, PRE_app] at e1
  obtain ⟨x, x0', x3, e2⟩ := draw_ok (d := d + 1) (PRE_dk (x0 := x0) (cs := cs) (rs := rs) (tail := tail ++ [menuV]) hl hk1) (many := 3) (by decide) (by decide)
  rw [PRE_set2] at e2
  have lr' : rs.length ≤ maxSeq := Nat.le_trans lr (Nat.le_of_ble_eq_true rfl)
  have lc' : cs.length ≤ maxSeq := Nat.le_trans lc (Nat.le_of_ble_eq_true rfl)
  have q0 : (PRE x0 L (k + 1) cs rs (tail ++ [menuV]))[12]? = some (.list rs) := rfl
  have pl : ∃ j, j < 5 ∧ kV j = lawVal v ∧ evE clss nidxTab (C (d + 2)) (.ite (.bor (.cons (.cmp .gt (.call 79 (.cons (.var 67) (.cons (.val (.int 3)) .nil))) (.val (.int 0))) (.cons (.cmp .isn (.var 38) (.val .none)) .nil))) (.lst (.cons (.tup (.cons (.val (.int 7)) (.cons (.var 38) .nil))) .nil)) (.lst .nil)) (put 38 (lawVal v) (put 16 (.int (many : Nat)) m)) (PRE x0 L (k + 1) cs rs (tail ++ [menuV])) =
      some (.ref (PRE x0 L (k + 2) cs rs (tail ++ [menuV])).length, PRE x0 L (k + 2) cs rs (tail ++ [menuV]) ++ [.list (kL j)]) := by
    by_cases hx : 0 < x
    · refine ⟨v + 1, Nat.succ_lt_succ v4, rfl, ?_⟩
      show _ = some (V.ref (PRE x0 L (k + 1 + 1) cs rs (tail ++ [menuV])).length, PRE x0 L (k + 1 + 1) cs rs (tail ++ [menuV]) ++ [O.list [.tup [.int 7, lawVal v]]])
      repeat walk_at "w1"
    · rcases Nat.eq_zero_or_pos v with hv | hv
      · refine ⟨0, by decide, (by rw [hv]; rfl), ?_⟩
        have isn : cmpV .isn (lawVal v) .none = some false := by rw [hv]; rfl
        show _ = some (V.ref (PRE x0 L (k + 1 + 1) cs rs (tail ++ [menuV])).length, PRE x0 L (k + 1 + 1) cs rs (tail ++ [menuV]) ++ [O.list []])
        repeat walk_at "w1"
      · refine ⟨v + 1, Nat.succ_lt_succ v4, rfl, ?_⟩
        have isn : cmpV .isn (lawVal v) .none = some true := match v, hv with
          | 1, _ => rfl
          | 2, _ => rfl
          | _ + 3, _ => rfl
        show _ = some (V.ref (PRE x0 L (k + 1 + 1) cs rs (tail ++ [menuV])).length, PRE x0 L (k + 1 + 1) cs rs (tail ++ [menuV]) ++ [O.list [.tup [.int 7, lawVal v]]])
        repeat walk_at "w1"
  obtain ⟨j, j5, jv, e3⟩ := pl
  refine ⟨j, j5, ?_⟩
  have hN : (PRE x0 L (k + 2) cs rs (tail ++ [menuV])).length = tail.length + 13 + 1 := congrArg (· + 13) List.length_append
  rw [hN] at e3
  have q1 : (PRE x0 L (k + 2) cs rs (tail ++ [menuV]) ++ [.list (kL j)])[12]? = some (.list rs) := rfl
  have s1 : (PRE x0 L (k + 2) cs rs (tail ++ [menuV]) ++ [O.list (kL j)]).set 12 (.list (rs ++ [.tup [.int (many : Nat), .ref (tail.length + 13 + 1)]])) = PRE x0 L (k + 2) cs (rs ++ [.tup [.int (many : Nat), .ref (tail.length + 13 + 1)]]) (tail ++ [menuV] ++ [.list (kL j)]) := rfl
  have q2 : (PRE x0 L (k + 2) cs (rs ++ [.tup [.int (many : Nat), .ref (tail.length + 13 + 1)]]) (tail ++ [menuV] ++ [.list (kL j)]))[11]? = some (.list cs) := rfl
  have s2 : ∀ x y, (PRE x0 L (k + 2) cs (rs ++ [.tup [.int (many : Nat), .ref (tail.length + 13 + 1)]]) (tail ++ [menuV] ++ [.list (kL j)]) ++ [x] ++ [y]).set 11 (.list (cs ++ List.replicate many (lawVal v))) = PRE x0 L (k + 2) (cs ++ List.replicate many (lawVal v)) (rs ++ [.tup [.int (many : Nat), .ref (tail.length + 13 + 1)]]) (tail ++ [menuV] ++ [.list (kL j)] ++ [x] ++ [y]) := fun _ _ => rfl
  have lT : (11 : Nat) < (PRE x0 L (k + 2) cs (rs ++ [.tup [.int (many : Nat), .ref (tail.length + 13 + 1)]]) (tail ++ [menuV] ++ [.list (kL j)])).length := Nat.le_add_left 12 _
  have fin : PRE x0 L (k + 2) (cs ++ List.replicate many (lawVal v)) (rs ++ [.tup [.int (many : Nat), .ref (tail.length + 13 + 1)]]) (tail ++ [menuV] ++ [.list (kL j)] ++ [.list [lawVal v]] ++ [.list (List.replicate many (lawVal v))]) = PRE x0 L (k + 2) (cs ++ List.replicate many (kV j)) (rs ++ [.tup [.int (many : Nat), .ref (tail.length + 13 + 1)]]) (tail ++ segG (many, j)) := by
    rw [jv, List.append_assoc, List.append_assoc, List.append_assoc, segG, jv]; rfl
  rw [← fin, jv]
  generalize PRE x0 L (k + 2) cs (rs ++ [.tup [.int (many : Nat), .ref (tail.length + 13 + 1)]]) (tail ++ [menuV] ++ [.list (kL j)]) = T1 at q2 s1 s2 lT
  have s2 := s2 (.list [lawVal v]) (.list (List.replicate many (lawVal v)))
  have h16 : look 16 (put 38 (lawVal v) (put 16 (.int (many : Nat)) m)) = some (.int (many : Nat)) := l_pn (by decide) look_pt
  have lm : cs.length + (List.replicate many (lawVal v)).length ≤ maxSeq := by
    rw [List.length_replicate]; exact Nat.le_trans (Nat.add_le_add lc hm) (Nat.le_of_ble_eq_true rfl)
  have b1 := m_list (v := lawVal v) (st := T1 ++ [.list [lawVal v]]) (a := T1.length) (y := (many : Nat)) app_at0 ⟨Int.natCast_nonneg _, Int.ofNat_le.mpr hm⟩
  rw [Int.toNat_natCast] at b1
  refine s_cons (s_asg (w_call (vs := [.ref 2]) ?_ e1)) (s_go (s_cons (s_exp (w_lapp (w_var ?_) q0 lr' (w_tup (w_cons (w_var h16) (w_cons e3 w_nil))) q1 lr' s1)) (s_go (s_cons (s_exp (w_lext (w_var ?_) q2 lc' (w_bin (w_lst (w_cons (w_var look_pt) w_nil)) (w_var h16) b1) (h_app (h_app q2)) app_at0 ⟨fun e => ?_, lm⟩ s2)) (s_go s_nil)))))
  · repeat walk_at "w1"
  · repeat walk_at "w1"
  · repeat walk_at "w1"
  · rw [e, List.length_append] at lT; exact absurd lT (Nat.not_lt.mpr (Nat.le_add_right _ 1))
theorem seg_loop (hl : L.length ≤ 63) {all : List V} {ms : List Nat} : ∀ {k : Nat} {cs rs : List V} {tail : St} {m : Lo}, (∀ a ∈ ms, a ≤ 10) → k + 2 * ms.length ≤ 900 → cs.length + 10 * ms.length ≤ 100 → rs.length + ms.length ≤ 100 → look 67 m = some (.ref 2) → look 71 m = some (.ref 11) → look 78 m = some (.ref 12) →
    ∃ (l : List (Nat × Nat)) (m' : Lo), l.map (·.1) = ms ∧ (∀ s ∈ l, s.2 < 5) ∧ (∀ x, x ≠ 16 → x ≠ 38 → look x m' = look x m) ∧
      loopF .none all (fun v m => some (put 16 v m)) (segB (d + 2)) (ms.map fun n => V.int (n : Nat)) m (PRE x0 L k cs rs tail) = some (.none, m', PRE x0 L (k + 2 * ms.length) (cs ++ chF l) (rs ++ runsF (tail.length + 13) l) (tail ++ segsG l)) := by
  induction ms with
  | nil => exact fun {k cs rs tail m} _ _ _ _ _ _ _ => ⟨[], m, rfl, fun _ h => (nomatch h), fun _ _ _ => rfl, by rw [chF, runsF, segsG, List.append_nil, List.append_nil, List.append_nil]; rfl⟩
  | cons a ms ih =>
    intro k cs rs tail m ha hk lc lr m67 m71 m78
    rw [List.length_cons] at hk lc lr
    have a10 := ha a (.head _)
    obtain ⟨j, j5, e⟩ := seg_ok (d := d) (x0 := x0) (tail := tail) (many := a) (k := k) (cs := cs) (rs := rs) hl (by omega) (by omega) (by omega) (Nat.le_trans a10 (by decide)) m67 m71 m78
    obtain ⟨l, m', q1, q2, q3, q4⟩ := ih (k := k + 2) (cs := cs ++ List.replicate a (kV j)) (rs := rs ++ [.tup [.int (a : Nat), .ref (tail.length + 13 + 1)]]) (tail := tail ++ segG (a, j)) (m := put 38 (kV j) (put 16 (.int (a : Nat)) m)) (fun x hx => ha x (List.mem_cons_of_mem _ hx)) (by omega) (by rw [List.length_append, List.length_replicate]; omega) (by rw [List.length_append, List.length_singleton]; omega)
      (l_pn (by decide) (l_pn (by decide) m67)) (l_pn (by decide) (l_pn (by decide) m71)) (l_pn (by decide) (l_pn (by decide) m78))
    refine ⟨(a, j) :: l, m', by rw [List.map_cons, q1], fun s hs => ?_, fun x h1 h2 => (q3 x h1 h2).trans (l_pn h2 (look_put_ne h1)), ?_⟩
    · rcases List.mem_cons.mp hs with rfl | hs
      · exact j5
      · exact q2 s hs
    · refine lf_go rfl e rfl (q4.trans ?_)
      rw [List.length_cons, chF, runsF, segsG, List.append_assoc, List.append_assoc, List.append_assoc, List.length_append, show (segG (a, j)).length = 4 from rfl]
      rw [show k + 2 + 2 * ms.length = k + 2 * (ms.length + 1) by omega, Nat.add_right_comm tail.length 4 13]; rfl
end
end Mine
end
section
namespace Mine
noncomputable def extF : Nat → St
  | 0 => [.inst 7 [(9, .ref 20)], .list [], .inst 1 [(7, .ref 21)], .inst 0 [(1, .int 10), (2, .ref 15), (5, .none), (4, .none), (3, .none)]]
  | 2 => [.inst 7 [(9, .ref 24)], .list [], .inst 1 [(7, .ref 25)], .inst 0 [(1, .int 10), (2, .ref 15), (5, .none), (4, .none), (3, .none)], .inst 0 [(1, .int 10), (2, .ref 19), (5, .ref 25), (4, .none), (3, .none)], .list [], .list [.ref 26, .ref 25], .list []]
  | 1 => [.inst 7 [(9, .ref 24)], .list [], .inst 1 [(7, .ref 26)], .inst 0 [(1, .int 4), (2, .ref 15), (5, .none), (4, .none), (3, .ref 26)], .inst 0 [(1, .int 10), (2, .ref 19), (5, .ref 25), (4, .none), (3, .none)], .list [], .list [.ref 26, .ref 25]]
  | 6 => [.inst 7 [(9, .ref 28)], .list [], .inst 1 [(7, .ref 29)], .inst 0 [(1, .int 10), (2, .ref 15), (5, .none), (4, .none), (3, .none)], .inst 0 [(1, .int 7), (2, .ref 19), (5, .ref 29), (4, .none), (3, .none)], .list [], .list [.ref 30, .ref 29], .list [], .inst 0 [(1, .int 3), (2, .ref 23), (5, .none), (4, .none), (3, .ref 29)], .list [], .list [], .list []]
  | 5 => [.inst 7 [(9, .ref 28)], .list [], .inst 1 [(7, .ref 29)], .inst 0 [(1, .int 10), (2, .ref 15), (5, .none), (4, .ref 34), (3, .none)], .inst 0 [(1, .int 7), (2, .ref 19), (5, .ref 29), (4, .none), (3, .none)], .list [], .list [.ref 30, .ref 29], .list [], .inst 0 [(1, .int 3), (2, .ref 23), (5, .none), (4, .none), (3, .ref 29)], .list []]
  | 3 => [.inst 7 [(9, .ref 28)], .list [], .inst 1 [(7, .ref 30)], .inst 0 [(1, .int 2), (2, .ref 15), (5, .none), (4, .none), (3, .ref 30)], .inst 0 [(1, .int 10), (2, .ref 19), (5, .ref 29), (4, .ref 33), (3, .none)], .list [], .list [.ref 30, .ref 29], .inst 0 [(1, .int 3), (2, .ref 23), (5, .none), (4, .none), (3, .ref 30)], .list []]
  | 4 => [.inst 7 [(9, .ref 28)], .list [], .inst 1 [(7, .ref 30)], .inst 0 [(1, .int 2), (2, .ref 15), (5, .none), (4, .none), (3, .ref 30)], .inst 0 [(1, .int 10), (2, .ref 19), (5, .ref 29), (4, .none), (3, .none)], .list [], .list [.ref 30, .ref 29], .inst 0 [(1, .int 3), (2, .ref 23), (5, .none), (4, .none), (3, .ref 30)], .list [], .list [], .list []]
  | _ => []
noncomputable def pAq : Nat → Nat
  | 0 => 18
  | 1 => 22
  | 2 => 22
  | _ => 26
noncomputable def lstO (o : Nat → O) : Nat → Nat → St → St
  | 0, _, t => t
  | n + 1, i, t => o i :: lstO o n (i + 1) t
noncomputable def SO (o : Nat → O) (q : Nat) (tail : St) : St := lstO o (pAq q) 0 (extF q ++ tail)
noncomputable def cuts : Nat → List Nat
  | 1 => [4]
  | 5 => [7]
  | 4 => [2]
  | 3 => [2, 7]
  | _ => []
noncomputable def enF (q p : Nat) : Nat := ((cuts q).find? fun c => decide (p < c)).getD 10
noncomputable def bgF (q p : Nat) : Nat := ((cuts q).reverse.find? fun c => decide (c ≤ p)).getD 0
noncomputable def plS (s : Nat) : Nat := if s = 0 then 15 else if s = 7 then 23 else 19
noncomputable def oU (o : Nat → O) (i x j y : Nat) (z : Nat) : O := if z = i then .list (kL x) else if z = j then .list (kL y) else o z
section
variable (o : Nat → O) (tail : St) (d : Nat)
theorem run63 : (List.range 7).map (fun q => (List.range 10).map fun p => C (d + 9) 63 [.ref (pAq q), .int (p : Nat)] (SO o q tail)) =
    (List.range 7).map (fun q => (List.range 10).map fun p => some (.ref (plS (bgF q p)), SO o q tail)) := by kernel_rfl
theorem run63e : (List.range 7).map (fun q => C (d + 9) 63 [.ref (pAq q), .int 10] (SO o q tail)) = (List.range 7).map (fun q => some (.ref (SO o q tail).length, SO o q tail ++ [.list []])) := by kernel_rfl
theorem run4 : (List.range 7).map (fun q => C (d + 2) 4 [.ref (pAq q + 2)] (SO o q tail)) = (List.range 7).map (fun q => some (.int 10, SO o q tail)) := by kernel_rfl
end
noncomputable def nxI (q p : Nat) : Nat := if enF q p < 10 then enF q p else bgF q p
noncomputable abbrev r59 (o : Nat → O) (tail : St) (d q : Nat) := (List.range 10).map fun p => (List.range 5).map fun x => (List.range (if enF q p < 10 then 5 else 1)).map fun y => if x = y ∧ enF q p < 10 then .none else
      C (d + 9) 59 [.ref (pAq q), .int (p : Nat), .int 10] (SO (oU o (plS (bgF q p)) x (plS (nxI q p)) y) q tail)
noncomputable abbrev g59 (o : Nat → O) (tail : St) (q : Nat) := (List.range 10).map fun p => (List.range 5).map fun x => (List.range (if enF q p < 10 then 5 else 1)).map fun y => if x = y ∧ enF q p < 10 then .none else
      some ((if enF q p < 10 then V.int (enF q p : Nat) else .none), SO (oU o (plS (bgF q p)) x (plS (nxI q p)) y) q tail)
noncomputable abbrev r60 (o : Nat → O) (tail : St) (d q : Nat) := (List.range 10).map fun p => (List.range 5).map fun x => (List.range (if 0 < bgF q p then 5 else 1)).map fun y => if x = y ∧ 0 < bgF q p then .none else
      C (d + 9) 60 [.ref (pAq q), .int (p + 1 : Nat), .int 0] (SO (oU o (plS (bgF q p)) x (plS (bgF q (bgF q p - 1))) y) q tail)
noncomputable abbrev g60 (o : Nat → O) (tail : St) (q : Nat) := (List.range 10).map fun p => (List.range 5).map fun x => (List.range (if 0 < bgF q p then 5 else 1)).map fun y => if x = y ∧ 0 < bgF q p then .none else
      some ((if 0 < bgF q p then V.int (bgF q p : Nat) else .none), SO (oU o (plS (bgF q p)) x (plS (bgF q (bgF q p - 1))) y) q tail)
section
variable (o : Nat → O) (tail : St) (d : Nat)
theorem run59_0 : r59 o tail d 0 = g59 o tail 0 := by kernel_rfl
theorem run59_1 : r59 o tail d 1 = g59 o tail 1 := by kernel_rfl
theorem run59_2 : r59 o tail d 2 = g59 o tail 2 := by kernel_rfl
theorem run59_3 : r59 o tail d 3 = g59 o tail 3 := by kernel_rfl
theorem run59_4 : r59 o tail d 4 = g59 o tail 4 := by kernel_rfl
theorem run59_5 : r59 o tail d 5 = g59 o tail 5 := by kernel_rfl
theorem run59_6 : r59 o tail d 6 = g59 o tail 6 := by kernel_rfl
theorem run60_0 : r60 o tail d 0 = g60 o tail 0 := by kernel_rfl
theorem run60_1 : r60 o tail d 1 = g60 o tail 1 := by kernel_rfl
theorem run60_2 : r60 o tail d 2 = g60 o tail 2 := by kernel_rfl
theorem run60_3 : r60 o tail d 3 = g60 o tail 3 := by kernel_rfl
theorem run60_4 : r60 o tail d 4 = g60 o tail 4 := by kernel_rfl
theorem run60_5 : r60 o tail d 5 = g60 o tail 5 := by kernel_rfl
theorem run60_6 : r60 o tail d 6 = g60 o tail 6 := by kernel_rfl
end
end Mine
end
section
namespace Mine
noncomputable def menuO : O := .list [.tup [.int 10], .tup [.int 4, .int 6], .tup [.int 2, .int 5, .int 3]]
noncomputable def heapF (x0 : O) (L : List Int) (l : List (Nat × Nat)) : St := PRE x0 L (1 + 2 * l.length) (chF l) (runsF 14 l) (menuO :: segsG l)
noncomputable def cfg1 : List (List (Nat × Nat)) := (List.range 5).map fun a => [(10, a)]
noncomputable def cfg2 (a : Nat) : List (List (Nat × Nat)) := (List.range 5).map fun b => [(4, a), (6, b)]
noncomputable def cfg3 (a b : Nat) : List (List (Nat × Nat)) := (List.range 5).map fun c => [(2, a), (5, b), (3, c)]
noncomputable def pA (l : List (Nat × Nat)) : Nat := 14 + 4 * l.length
noncomputable def pat (l : List (Nat × Nat)) : Nat := match l with
  | [_] => 0
  | [a, b] => if a.2 = b.2 then 2 else 1
  | [a, b, c] => if a.2 = b.2 then (if b.2 = c.2 then 6 else 5) else if b.2 = c.2 then 4 else 3
  | _ => 9
noncomputable def propH (x0 : O) (L : List Int) (l : List (Nat × Nat)) : St := heapF x0 L l ++ extF (pat l)
section
variable (x0 : O) (L : List Int)
theorem run62_1 : cfg1.map (fun l => C 40 62 [.ref 12] (heapF x0 L l)) = cfg1.map (fun l => some (.ref (pA l), propH x0 L l)) := by kernel_rfl
theorem run62_2_0 : (cfg2 0).map (fun l => C 40 62 [.ref 12] (heapF x0 L l)) = (cfg2 0).map (fun l => some (.ref (pA l), propH x0 L l)) := by kernel_rfl
theorem run62_2_1 : (cfg2 1).map (fun l => C 40 62 [.ref 12] (heapF x0 L l)) = (cfg2 1).map (fun l => some (.ref (pA l), propH x0 L l)) := by kernel_rfl
theorem run62_2_2 : (cfg2 2).map (fun l => C 40 62 [.ref 12] (heapF x0 L l)) = (cfg2 2).map (fun l => some (.ref (pA l), propH x0 L l)) := by kernel_rfl
theorem run62_2_3 : (cfg2 3).map (fun l => C 40 62 [.ref 12] (heapF x0 L l)) = (cfg2 3).map (fun l => some (.ref (pA l), propH x0 L l)) := by kernel_rfl
theorem run62_2_4 : (cfg2 4).map (fun l => C 40 62 [.ref 12] (heapF x0 L l)) = (cfg2 4).map (fun l => some (.ref (pA l), propH x0 L l)) := by kernel_rfl
theorem run62_3_00 : (cfg3 0 0).map (fun l => C 40 62 [.ref 12] (heapF x0 L l)) = (cfg3 0 0).map (fun l => some (.ref (pA l), propH x0 L l)) := by kernel_rfl
theorem run62_3_01 : (cfg3 0 1).map (fun l => C 40 62 [.ref 12] (heapF x0 L l)) = (cfg3 0 1).map (fun l => some (.ref (pA l), propH x0 L l)) := by kernel_rfl
theorem run62_3_02 : (cfg3 0 2).map (fun l => C 40 62 [.ref 12] (heapF x0 L l)) = (cfg3 0 2).map (fun l => some (.ref (pA l), propH x0 L l)) := by kernel_rfl
theorem run62_3_03 : (cfg3 0 3).map (fun l => C 40 62 [.ref 12] (heapF x0 L l)) = (cfg3 0 3).map (fun l => some (.ref (pA l), propH x0 L l)) := by kernel_rfl
theorem run62_3_04 : (cfg3 0 4).map (fun l => C 40 62 [.ref 12] (heapF x0 L l)) = (cfg3 0 4).map (fun l => some (.ref (pA l), propH x0 L l)) := by kernel_rfl
theorem run62_3_10 : (cfg3 1 0).map (fun l => C 40 62 [.ref 12] (heapF x0 L l)) = (cfg3 1 0).map (fun l => some (.ref (pA l), propH x0 L l)) := by kernel_rfl
theorem run62_3_11 : (cfg3 1 1).map (fun l => C 40 62 [.ref 12] (heapF x0 L l)) = (cfg3 1 1).map (fun l => some (.ref (pA l), propH x0 L l)) := by kernel_rfl
theorem run62_3_12 : (cfg3 1 2).map (fun l => C 40 62 [.ref 12] (heapF x0 L l)) = (cfg3 1 2).map (fun l => some (.ref (pA l), propH x0 L l)) := by kernel_rfl
theorem run62_3_13 : (cfg3 1 3).map (fun l => C 40 62 [.ref 12] (heapF x0 L l)) = (cfg3 1 3).map (fun l => some (.ref (pA l), propH x0 L l)) := by kernel_rfl
theorem run62_3_14 : (cfg3 1 4).map (fun l => C 40 62 [.ref 12] (heapF x0 L l)) = (cfg3 1 4).map (fun l => some (.ref (pA l), propH x0 L l)) := by kernel_rfl
theorem run62_3_20 : (cfg3 2 0).map (fun l => C 40 62 [.ref 12] (heapF x0 L l)) = (cfg3 2 0).map (fun l => some (.ref (pA l), propH x0 L l)) := by kernel_rfl
theorem run62_3_21 : (cfg3 2 1).map (fun l => C 40 62 [.ref 12] (heapF x0 L l)) = (cfg3 2 1).map (fun l => some (.ref (pA l), propH x0 L l)) := by kernel_rfl
theorem run62_3_22 : (cfg3 2 2).map (fun l => C 40 62 [.ref 12] (heapF x0 L l)) = (cfg3 2 2).map (fun l => some (.ref (pA l), propH x0 L l)) := by kernel_rfl
theorem run62_3_23 : (cfg3 2 3).map (fun l => C 40 62 [.ref 12] (heapF x0 L l)) = (cfg3 2 3).map (fun l => some (.ref (pA l), propH x0 L l)) := by kernel_rfl
theorem run62_3_24 : (cfg3 2 4).map (fun l => C 40 62 [.ref 12] (heapF x0 L l)) = (cfg3 2 4).map (fun l => some (.ref (pA l), propH x0 L l)) := by kernel_rfl
theorem run62_3_30 : (cfg3 3 0).map (fun l => C 40 62 [.ref 12] (heapF x0 L l)) = (cfg3 3 0).map (fun l => some (.ref (pA l), propH x0 L l)) := by kernel_rfl
theorem run62_3_31 : (cfg3 3 1).map (fun l => C 40 62 [.ref 12] (heapF x0 L l)) = (cfg3 3 1).map (fun l => some (.ref (pA l), propH x0 L l)) := by kernel_rfl
theorem run62_3_32 : (cfg3 3 2).map (fun l => C 40 62 [.ref 12] (heapF x0 L l)) = (cfg3 3 2).map (fun l => some (.ref (pA l), propH x0 L l)) := by kernel_rfl
theorem run62_3_33 : (cfg3 3 3).map (fun l => C 40 62 [.ref 12] (heapF x0 L l)) = (cfg3 3 3).map (fun l => some (.ref (pA l), propH x0 L l)) := by kernel_rfl
theorem run62_3_34 : (cfg3 3 4).map (fun l => C 40 62 [.ref 12] (heapF x0 L l)) = (cfg3 3 4).map (fun l => some (.ref (pA l), propH x0 L l)) := by kernel_rfl
theorem run62_3_40 : (cfg3 4 0).map (fun l => C 40 62 [.ref 12] (heapF x0 L l)) = (cfg3 4 0).map (fun l => some (.ref (pA l), propH x0 L l)) := by kernel_rfl
theorem run62_3_41 : (cfg3 4 1).map (fun l => C 40 62 [.ref 12] (heapF x0 L l)) = (cfg3 4 1).map (fun l => some (.ref (pA l), propH x0 L l)) := by kernel_rfl
theorem run62_3_42 : (cfg3 4 2).map (fun l => C 40 62 [.ref 12] (heapF x0 L l)) = (cfg3 4 2).map (fun l => some (.ref (pA l), propH x0 L l)) := by kernel_rfl
theorem run62_3_43 : (cfg3 4 3).map (fun l => C 40 62 [.ref 12] (heapF x0 L l)) = (cfg3 4 3).map (fun l => some (.ref (pA l), propH x0 L l)) := by kernel_rfl
theorem run62_3_44 : (cfg3 4 4).map (fun l => C 40 62 [.ref 12] (heapF x0 L l)) = (cfg3 4 4).map (fun l => some (.ref (pA l), propH x0 L l)) := by kernel_rfl
noncomputable def Cfg (l : List (Nat × Nat)) : Prop := (∃ a, a < 5 ∧ l = [(10, a)]) ∨ (∃ a b, a < 5 ∧ b < 5 ∧ l = [(4, a), (6, b)]) ∨ ∃ a b c, a < 5 ∧ b < 5 ∧ c < 5 ∧ l = [(2, a), (5, b), (3, c)]
theorem lt5 {a : Nat} (h : a < 5) : a = 0 ∨ a = 1 ∨ a = 2 ∨ a = 3 ∨ a = 4 := by (first | lia | omega)
theorem run62 {l : List (Nat × Nat)} (h : Cfg l) : C 40 62 [.ref 12] (heapF x0 L l) = some (.ref (pA l), propH x0 L l) := by
  rcases h with ⟨a, ha, rfl⟩ | ⟨a, b, ha, hb, rfl⟩ | ⟨a, b, c, ha, hb, hc, rfl⟩
  · exact List.map_inj_left.mp (run62_1 x0 L) _ (List.mem_map.mpr ⟨a, List.mem_range.mpr ha, rfl⟩)
  · have m : [(4, a), (6, b)] ∈ cfg2 a := List.mem_map.mpr ⟨b, List.mem_range.mpr hb, rfl⟩
    rcases lt5 ha with rfl | rfl | rfl | rfl | rfl
    · exact List.map_inj_left.mp (run62_2_0 x0 L) _ m
    · exact List.map_inj_left.mp (run62_2_1 x0 L) _ m
    · exact List.map_inj_left.mp (run62_2_2 x0 L) _ m
    · exact List.map_inj_left.mp (run62_2_3 x0 L) _ m
    · exact List.map_inj_left.mp (run62_2_4 x0 L) _ m
  · have m : [(2, a), (5, b), (3, c)] ∈ cfg3 a b := List.mem_map.mpr ⟨c, List.mem_range.mpr hc, rfl⟩
    rcases lt5 ha with rfl | rfl | rfl | rfl | rfl <;> rcases lt5 hb with rfl | rfl | rfl | rfl | rfl
    · exact List.map_inj_left.mp (run62_3_00 x0 L) _ m
    · exact List.map_inj_left.mp (run62_3_01 x0 L) _ m
    · exact List.map_inj_left.mp (run62_3_02 x0 L) _ m
    · exact List.map_inj_left.mp (run62_3_03 x0 L) _ m
    · exact List.map_inj_left.mp (run62_3_04 x0 L) _ m
    · exact List.map_inj_left.mp (run62_3_10 x0 L) _ m
    · exact List.map_inj_left.mp (run62_3_11 x0 L) _ m
    · exact List.map_inj_left.mp (run62_3_12 x0 L) _ m
    · exact List.map_inj_left.mp (run62_3_13 x0 L) _ m
    · exact List.map_inj_left.mp (run62_3_14 x0 L) _ m
    · exact List.map_inj_left.mp (run62_3_20 x0 L) _ m
    · exact List.map_inj_left.mp (run62_3_21 x0 L) _ m
    · exact List.map_inj_left.mp (run62_3_22 x0 L) _ m
    · exact List.map_inj_left.mp (run62_3_23 x0 L) _ m
    · exact List.map_inj_left.mp (run62_3_24 x0 L) _ m
    · exact List.map_inj_left.mp (run62_3_30 x0 L) _ m
    · exact List.map_inj_left.mp (run62_3_31 x0 L) _ m
    · exact List.map_inj_left.mp (run62_3_32 x0 L) _ m
    · exact List.map_inj_left.mp (run62_3_33 x0 L) _ m
    · exact List.map_inj_left.mp (run62_3_34 x0 L) _ m
    · exact List.map_inj_left.mp (run62_3_40 x0 L) _ m
    · exact List.map_inj_left.mp (run62_3_41 x0 L) _ m
    · exact List.map_inj_left.mp (run62_3_42 x0 L) _ m
    · exact List.map_inj_left.mp (run62_3_43 x0 L) _ m
    · exact List.map_inj_left.mp (run62_3_44 x0 L) _ m
end
end Mine
end
section
namespace Mine
theorem lstO_eq {st : St} {t : St} {n : Nat} : ∀ {i : Nat}, i + n ≤ st.length → lstO (fun z => st[z]?.getD (.list [])) n i t = (st.drop i).take n ++ t := by
  induction n with
  | zero => exact fun _ => rfl
  | succ n ih =>
    intro i h
    have hi : i < st.length := Nat.lt_of_lt_of_le (Nat.lt_add_of_pos_right (Nat.succ_pos n)) h
    rw [lstO, ih (by rw [Nat.add_right_comm]; exact h), List.drop_eq_getElem_cons hi, List.take_succ_cons, List.getElem?_eq_getElem hi]; rfl
theorem SO_of {st : St} {q : Nat} (hl : pAq q + (extF q).length ≤ st.length) (he : ∀ i, i < (extF q).length → st[pAq q + i]? = (extF q)[i]?) :
    st = SO (fun z => st[z]?.getD (.list [])) q (st.drop (pAq q + (extF q).length)) := by
  have e2 : (st.drop (pAq q)).take (extF q).length = extF q := by
    apply List.ext_getElem?
    intro i
    by_cases h : i < (extF q).length
    · rw [List.getElem?_take_of_lt h, List.getElem?_drop, he i h]
    · rw [List.getElem?_eq_none (Nat.le_trans (List.length_take_le _ _) (Nat.le_of_not_lt h)), List.getElem?_eq_none (Nat.le_of_not_lt h)]
  have e3 : st.drop (pAq q) = extF q ++ st.drop (pAq q + (extF q).length) := by
    have := (List.take_append_drop (extF q).length (st.drop (pAq q))).symm
    rw [e2, List.drop_drop] at this; exact this
  rw [SO, lstO_eq (Nat.le_trans (Nat.le_of_eq (Nat.zero_add _)) (Nat.le_trans (Nat.le_add_right _ _) hl)), List.drop_zero, ← e3, List.take_append_drop]
theorem oU_same {o : Nat → O} {i x j y : Nat} (hi : o i = .list (kL x)) (hj : o j = .list (kL y)) : oU o i x j y = o := by
  funext z
  unfold oU
  by_cases h : z = i
  · rw [if_pos h, h, hi]
  · rw [if_neg h]
    by_cases h2 : z = j
    · rw [if_pos h2, h2, hj]
    · rw [if_neg h2]
theorem oU_one {o : Nat → O} {i x j y : Nat} (hi : o i = .list (kL x)) (hij : o j = .list (kL y) ∨ j = i) : oU o i x j y = o := by
  funext z
  unfold oU
  by_cases h : z = i
  · rw [if_pos h, h, hi]
  · rw [if_neg h]
    by_cases h2 : z = j
    · rcases hij with e | e
      · rw [if_pos h2, h2, e]
      · exact absurd (h2.trans e) h
    · rw [if_neg h2]
noncomputable def kY : Nat → Option V
  | 0 => .none
  | j + 1 => some (lawVal j)
theorem kL_y : ∀ x, kL x = yL (kY x)
  | 0 => rfl
  | _ + 1 => rfl
theorem kV_y : ∀ x, kV x = (kY x).getD .none
  | 0 => rfl
  | _ + 1 => rfl
theorem kL_inj : ∀ {x y : Nat}, kL x = kL y → kV x = kV y
  | 0, 0, _ => rfl
  | x + 1, 0, h => by cases h
  | 0, y + 1, h => by cases h
  | x + 1, y + 1, h => by
    have h1 := (List.cons.inj h).1
    have h2 := V.tup.inj h1
    exact (List.cons.inj (List.cons.inj h2).2).1
theorem kV_law : ∀ x, ∃ j, kV x = lawVal j
  | 0 => ⟨0, rfl⟩
  | j + 1 => ⟨j, rfl⟩
structure PF (q : Nat) (H : St) (ch : Nat → V) : Prop where
  q7 : q < 7
  len : H.length = pAq q + (extF q).length
  ext : ∀ i, i < (extF q).length → H[pAq q + i]? = (extF q)[i]?
  rules : H[5]? = some rulesO
  at_ : ∀ p, p < 10 → ∃ x, x < 5 ∧ H[plS (bgF q p)]? = some (.list (kL x)) ∧ ch p = kV x ∧ (enF q p < 10 → ∃ y, y < 5 ∧ x ≠ y ∧ H[plS (enF q p)]? = some (.list (kL y))) ∧ (0 < bgF q p → ∃ y, y < 5 ∧ x ≠ y ∧ H[plS (bgF q (bgF q p - 1))]? = some (.list (kL y)))
  rest : ∀ p, 10 ≤ p → ch p = .none
theorem bg_same : ∀ q, q < 7 → ∀ p, p < 10 → ∀ p', p' < 10 → bgF q p ≤ p' → p' < enF q p → bgF q p' = bgF q p := by decide
theorem bg_en : ∀ q, q < 7 → ∀ p, p < 10 → bgF q p ≤ p ∧ p < enF q p ∧ enF q p ≤ 10 ∧ 18 ≤ pAq q ∧ plS (bgF q p) < pAq q ∧ plS (bgF q (bgF q p - 1)) < pAq q ∧ (enF q p < 10 → plS (enF q p) < pAq q) ∧ (extF q).length ≤ 12 := by decide
theorem pls_big (s : Nat) : 10 < plS s := by
  show 10 < (if s = 0 then 15 else if s = 7 then 23 else 19)
  by_cases h : s = 0
  · rw [if_pos h]; decide
  · rw [if_neg h]
    by_cases h : s = 7
    · rw [if_pos h]; decide
    · rw [if_neg h]; decide
theorem lt7 {q : Nat} (h : q < 7) : q = 0 ∨ q = 1 ∨ q = 2 ∨ q = 3 ∨ q = 4 ∨ q = 5 ∨ q = 6 := by (first | lia | omega)
theorem run59 (o : Nat → O) (tail : St) (d : Nat) {q : Nat} (h : q < 7) : r59 o tail d q = g59 o tail q := by
  rcases lt7 h with rfl | rfl | rfl | rfl | rfl | rfl | rfl
  · exact run59_0 o tail d
  · exact run59_1 o tail d
  · exact run59_2 o tail d
  · exact run59_3 o tail d
  · exact run59_4 o tail d
  · exact run59_5 o tail d
  · exact run59_6 o tail d
theorem run60 (o : Nat → O) (tail : St) (d : Nat) {q : Nat} (h : q < 7) : r60 o tail d q = g60 o tail q := by
  rcases lt7 h with rfl | rfl | rfl | rfl | rfl | rfl | rfl
  · exact run60_0 o tail d
  · exact run60_1 o tail d
  · exact run60_2 o tail d
  · exact run60_3 o tail d
  · exact run60_4 o tail d
  · exact run60_5 o tail d
  · exact run60_6 o tail d
section
variable {q : Nat} {H : St} {ch : Nat → V}
theorem PF.same (F : PF q H ch) {p p' : Nat} (hp : p < 10) (h1 : bgF q p ≤ p') (h2 : p' < enF q p) : ch p' = ch p := by
  have hp' := Nat.lt_of_lt_of_le h2 (bg_en q F.q7 p hp).2.2.1
  obtain ⟨x, _, a1, a2, _⟩ := F.at_ p hp
  obtain ⟨y, _, b1, b2, _⟩ := F.at_ p' hp'
  rw [bg_same q F.q7 p hp p' hp' h1 h2, a1] at b1
  rw [a2, b2]
  exact (kL_inj (O.list.inj (Option.some.inj b1))).symm
theorem PF.get (F : PF q H ch) {st : St} (hB : Base H st) {z : Nat} (h : 10 < z) (h2 : z < H.length) : st[z]? = H[z]? := hB.get z h2 (Nat.ne_of_gt (Nat.lt_trans (by decide) h)) (Nat.ne_of_gt (Nat.lt_trans (by decide) h)) (Nat.ne_of_gt (Nat.lt_trans (by decide) h)) (Nat.ne_of_gt h)
theorem PF.low (F : PF q H ch) {st : St} (hB : Base H st) {z : Nat} (h : 10 < z) (h2 : z < pAq q) : st[z]? = H[z]? := F.get hB h (F.len ▸ Nat.lt_of_lt_of_le h2 (Nat.le_add_right _ _))
theorem PF.r5 (F : PF q H ch) {st : St} (hB : Base H st) : st[5]? = some rulesO := (hB.get 5 (lt_of_at F.rules) (by decide) (by decide) (by decide) (by decide)).trans F.rules
theorem PF.ex (F : PF q H ch) {st : St} (hB : Base H st) {i : Nat} (hi : i < (extF q).length) : st[pAq q + i]? = (extF q)[i]? :=
  (F.get hB (Nat.lt_of_lt_of_le (Nat.lt_of_lt_of_le (by decide) (bg_en q F.q7 0 (by decide)).2.2.2.1) (Nat.le_add_right _ _)) (F.len ▸ Nat.add_lt_add_left hi _)).trans (F.ext i hi)
theorem PF.rep (F : PF q H ch) {st : St} (hB : Base H st) : st = SO (fun z => st[z]?.getD (.list [])) q (st.drop (pAq q + (extF q).length)) ∧ ∀ z, 10 < z → z < pAq q → ∀ v, H[z]? = some v → st[z]?.getD (.list []) = v :=
  ⟨SO_of (F.len ▸ hB.len) fun _ hi => F.ex hB hi, fun z h1 h2 v hv => by rw [F.low hB h1 h2, hv]; rfl⟩
theorem PF.props (F : PF q H ch) : PropsCh H (pAq q) ch := by
  have q7 := F.q7
  have hx : 1 ≤ (extF q).length ∧ (extF q)[0]? = some (.inst 7 [(9, .ref (pAq q + 2))]) := by
    rcases lt7 q7 with rfl | rfl | rfl | rfl | rfl | rfl | rfl <;> exact ⟨by decide, rfl⟩
  refine ⟨fun st hB d a ha => ?_, fun p => ?_, fun st hB d a ha => ?_, fun st hB d a h1a ha => ?_, ⟨pAq q + 2, fun st hB => ⟨(F.ex hB (i := 0) hx.1).trans hx.2, fun d => ?_⟩⟩⟩
  · obtain ⟨hs, _⟩ := F.rep hB
    have h5 := F.r5 hB
    rcases Nat.lt_or_eq_of_le ha with h | rfl
    · obtain ⟨x, x5, c1, c2, _⟩ := F.at_ a h
      have bb := bg_en q q7 a h
      have r := List.map_inj_left.mp (List.map_inj_left.mp (run63 (fun z => st[z]?.getD (.list [])) (st.drop (pAq q + (extF q).length)) d) q (List.mem_range.mpr q7)) a (List.mem_range.mpr h)
      rw [← hs] at r
      refine ⟨plS (bgF q a), [], by rw [List.append_nil]; exact r, ?_⟩
      rw [List.append_nil, c2, kV_y]
      exact valin_ok (d := d + 4) h5 (((F.low hB (pls_big _) bb.2.2.2.2.1).trans c1).trans (by rw [kL_y])) (Nat.ne_of_lt (Nat.lt_trans (by decide) (pls_big _)))
    · have r := List.map_inj_left.mp (run63e (fun z => st[z]?.getD (.list [])) (st.drop (pAq q + (extF q).length)) d) q (List.mem_range.mpr q7)
      rw [← hs] at r
      refine ⟨st.length, [.list []], r, ?_⟩
      rw [F.rest 10 (Nat.le_refl _)]
      exact valin_ok (d := d + 4) (y := .none) (h_app h5) app_at0 (Nat.ne_of_lt (lt_of_at h5))
  · rcases Nat.lt_or_ge p 10 with h | h
    · obtain ⟨x, _, _, c2, _⟩ := F.at_ p h
      rw [c2]; exact kV_law x
    · exact ⟨0, F.rest p h⟩
  · obtain ⟨hs, ho⟩ := F.rep hB
    obtain ⟨x, x5, c1, c2, c3, _⟩ := F.at_ a ha
    have bb := bg_en q q7 a ha
    have r := List.map_inj_left.mp (List.map_inj_left.mp (run59 (fun z => st[z]?.getD (.list [])) (st.drop (pAq q + (extF q).length)) d q7) a (List.mem_range.mpr ha)) x (List.mem_range.mpr x5)
    by_cases h : enF q a < 10
    · obtain ⟨y, y5, ne, c4⟩ := c3 h
      have r2 := List.map_inj_left.mp r y (List.mem_range.mpr (by rw [if_pos h]; exact y5))
      rw [if_neg (fun z => ne z.1), if_neg (fun z => ne z.1), if_pos h, nxI, if_pos h, oU_same (ho _ (pls_big _) bb.2.2.2.2.1 _ c1) (ho _ (pls_big _) (bb.2.2.2.2.2.2.1 h) _ c4), ← hs] at r2
      exact ⟨_, r2, .inr ⟨enF q a, rfl, bb.2.1, bb.2.2.1, fun p h1 h2 => F.same ha (Nat.le_trans bb.1 h1) h2⟩⟩
    · have r2 := List.map_inj_left.mp r 0 (List.mem_range.mpr (by rw [if_neg h]; decide))
      rw [if_neg (fun z => h z.2), if_neg (fun z => h z.2), if_neg h, nxI, if_neg h, oU_one (ho _ (pls_big _) bb.2.2.2.2.1 _ c1) (.inr rfl), ← hs] at r2
      exact ⟨_, r2, .inl ⟨rfl, fun p h1 h2 => F.same ha (Nat.le_trans bb.1 h1) (Nat.lt_of_lt_of_le h2 (Nat.le_of_not_lt h))⟩⟩
  · obtain ⟨hs, ho⟩ := F.rep hB
    have ha' : a - 1 < 10 := Nat.lt_of_lt_of_le (Nat.sub_lt h1a (by decide)) ha
    obtain ⟨x, x5, c1, c2, _, c3⟩ := F.at_ (a - 1) ha'
    have bb := bg_en q q7 (a - 1) ha'
    have r := List.map_inj_left.mp (List.map_inj_left.mp (run60 (fun z => st[z]?.getD (.list [])) (st.drop (pAq q + (extF q).length)) d q7) (a - 1) (List.mem_range.mpr ha')) x (List.mem_range.mpr x5)
    rw [Nat.sub_add_cancel h1a] at r
    have up : ∀ {p}, p < a → p < enF q (a - 1) := fun h => Nat.lt_of_le_of_lt (Nat.le_sub_one_of_lt h) bb.2.1
    by_cases h : 0 < bgF q (a - 1)
    · obtain ⟨y, y5, ne, c4⟩ := c3 h
      have r2 := List.map_inj_left.mp r y (List.mem_range.mpr (by rw [if_pos h]; exact y5))
      rw [if_neg (fun z => ne z.1), if_neg (fun z => ne z.1), if_pos h, oU_same (ho _ (pls_big _) bb.2.2.2.2.1 _ c1) (ho _ (pls_big _) bb.2.2.2.2.2.1 _ c4), ← hs] at r2
      exact ⟨_, r2, .inr ⟨bgF q (a - 1), rfl, Nat.lt_of_le_of_lt bb.1 (Nat.sub_lt h1a (by decide)), fun p h1 h2 => F.same ha' h1 (up h2)⟩⟩
    · have r2 := List.map_inj_left.mp r 0 (List.mem_range.mpr (by rw [if_neg h]; decide))
      have z0 : bgF q (a - 1) = 0 := Nat.eq_zero_of_not_pos h
      have zz : plS (bgF q (bgF q (a - 1) - 1)) = plS (bgF q (a - 1)) := by rw [z0]; exact congrArg plS ((bg_same q q7 (a - 1) ha' 0 (by decide) (Nat.le_of_eq z0) (up h1a)).trans z0)
      rw [if_neg (fun z => h z.2), if_neg (fun z => h z.2), if_neg h, oU_one (ho _ (pls_big _) bb.2.2.2.2.1 _ c1) (.inr zz), ← hs] at r2
      exact ⟨_, r2, .inl ⟨rfl, fun p h2 => F.same ha' (z0 ▸ Nat.zero_le _) (up h2)⟩⟩
  · obtain ⟨hs, _⟩ := F.rep hB
    have r := List.map_inj_left.mp (run4 (fun z => st[z]?.getD (.list [])) (st.drop (pAq q + (extF q).length)) d) q (List.mem_range.mpr q7)
    rw [← hs] at r; exact r
end
end Mine
end
section
namespace Mine
noncomputable def chE (l : List (Nat × Nat)) (p : Nat) : V := (chF l).getD p .none
noncomputable def sg (q p : Nat) : Nat := ((cuts q).filter fun c => decide (c ≤ p)).length
theorem sg_ok : ∀ q, q < 7 → ∀ p, p < 10 → sg q p < (cuts q).length + 1 ∧ (enF q p < 10 → sg q p < (cuts q).length ∧ sg q (enF q p) = sg q p + 1 ∧ bgF q (enF q p) = enF q p) ∧ (0 < bgF q p → sg q (bgF q p - 1) + 1 = sg q p ∧ sg q (bgF q p - 1) < (cuts q).length ∧ bgF q p - 1 < 10) := by decide
theorem PFof {x0 : O} {L : List Int} {l : List (Nat × Nat)} {q : Nat} (v : Nat → Nat) (hq : pat l = q) (q7 : q < 7) (hl : (heapF x0 L l).length = pAq q) (lc : (chF l).length = 10)
    (a1 : (List.range 10).map (fun p => (heapF x0 L l)[plS (bgF q p)]?) = (List.range 10).map fun p => some (O.list (kL (v (sg q p))))) (a2 : (List.range 10).map (chE l) = (List.range 10).map fun p => kV (v (sg q p)))
    (w5 : ∀ i, i < (cuts q).length + 1 → v i < 5) (ne : ∀ i, i < (cuts q).length → v i ≠ v (i + 1)) : PF q (propH x0 L l) (chE l) := by
  have up : ∀ {z w}, (heapF x0 L l)[z]? = some w → (propH x0 L l)[z]? = some w := fun h => h_app h
  have b1 := fun p (h : p < 10) => List.map_inj_left.mp a1 p (List.mem_range.mpr h)
  refine ⟨q7, by rw [propH, List.length_append, hl, hq], fun i hi => ?_, up rfl, fun p hp => ?_, fun p hp => ?_⟩
  · rw [propH, List.getElem?_append_right (hl ▸ Nat.le_add_right _ _), hl, hq, Nat.add_sub_cancel_left]
  · obtain ⟨s1, s2, s3⟩ := sg_ok q q7 p hp
    refine ⟨v (sg q p), w5 _ s1, up (b1 p hp), List.map_inj_left.mp a2 p (List.mem_range.mpr hp), fun h => ?_, fun h => ?_⟩
    · obtain ⟨t1, t2, t3⟩ := s2 h
      have e := b1 _ h
      rw [t2, t3] at e
      exact ⟨_, w5 _ (Nat.succ_lt_succ t1), ne _ t1, up e⟩
    · obtain ⟨t1, t2, t3⟩ := s3 h
      exact ⟨_, w5 _ (Nat.lt_succ_of_lt t2), t1 ▸ Ne.symm (ne _ t2), up (b1 _ t3)⟩
  · rw [chE, List.getD_eq_getElem?_getD, List.getElem?_eq_none (lc ▸ hp)]; rfl
section
variable {P : Nat → Prop} {n : Nat}
theorem all0 : ∀ i, i < 0 → P i := fun _ h => absurd h (Nat.not_lt_zero _)
theorem allS (h : ∀ i, i < n → P i) (hn : P n) : ∀ i, i < n + 1 → P i := fun i hi => (Nat.lt_or_eq_of_le (Nat.le_of_lt_succ hi)).elim (h i) fun e => e ▸ hn
end
theorem props_of {x0 : O} {L : List Int} {l : List (Nat × Nat)} (h : Cfg l) : PropsCh (propH x0 L l) (pA l) (chE l) := by
  rcases h with ⟨a, ha, rfl⟩ | ⟨a, b, ha, hb, rfl⟩ | ⟨a, b, c, ha, hb, hc, rfl⟩
  · exact PF.props (q := 0) (PFof (fun _ => a) rfl (by decide) rfl rfl rfl rfl (fun _ _ => ha) all0)
  · by_cases e : a = b
    · subst e
      exact PF.props (q := 2) (PFof (fun _ => a) (if_pos rfl) (by decide) rfl rfl rfl rfl (fun _ _ => ha) all0)
    · exact PF.props (q := 1) (PFof ([a, b].getD · 0) (if_neg e) (by decide) rfl rfl rfl rfl (allS (allS all0 ha) hb) (allS all0 e))
  · by_cases e : a = b
    · subst e
      by_cases e2 : a = c
      · subst e2
        exact PF.props (q := 6) (PFof (fun _ => a) ((if_pos rfl).trans (if_pos rfl)) (by decide) rfl rfl rfl rfl (fun _ _ => ha) all0)
      · exact PF.props (q := 5) (PFof ([a, c].getD · 0) ((if_pos rfl).trans (if_neg e2)) (by decide) rfl rfl rfl rfl (allS (allS all0 ha) hc) (allS all0 e2))
    · by_cases e2 : b = c
      · subst e2
        exact PF.props (q := 4) (PFof ([a, b].getD · 0) ((if_neg e).trans (if_pos rfl)) (by decide) rfl rfl rfl rfl (allS (allS all0 ha) hb) (allS all0 e))
      · exact PF.props (q := 3) (PFof ([a, b, c].getD · 0) ((if_neg e).trans (if_neg e2)) (by decide) rfl rfl rfl rfl (allS (allS (allS all0 ha) hb) hc) (allS (allS all0 e) e2))
end Mine
end
section
namespace Mine
theorem range_items {n : Nat} : rangeV 0 (n : Nat) = (List.range' 0 n).map fun i => V.int (i : Nat) := by
  unfold rangeV
  rw [Int.sub_zero, Int.toNat_natCast, List.range_eq_range']
  exact List.map_congr_left fun i _ => by rw [Int.zero_add]
theorem init_ok {x0 : O} {L : List Int} {l : List (Nat × Nat)} : Inv (propH x0 L l) (propH x0 L l).length .nil [] :=
  ⟨⟨by decide, trivial, rfl, by simp [T.inl], by simp [T.Bd], by simp [T.inl, Srt]⟩, .refl _, rfl, rfl, rfl, rfl, fun _ h => (by cases h), rfl, by
    show 13 ≤ (heapF x0 L l ++ extF (pat l)).length
    rw [List.length_append]
    have : 13 ≤ (heapF x0 L l).length := by rw [heapF, PRE_len]; (first | lia | omega)
    (first | lia | omega), fun _ h => by cases h⟩
section
variable {H : St} {B : Nat} {L : List Int} {d : Nat}
noncomputable abbrev ovB (d : Nat) := exSs clss nidxTab (C d) (.cons (.exp (.call 81 (.cons (.var 67) (.cons (.var 51) (.cons (.var 68) (.cons (.var 25) .nil)))))) .nil)
theorem ov_loop (hBl : B = H.length) {all : List V} {n : Nat} : ∀ {rows : List Ov} {st : St} {t : T} {k : Nat} {m : Lo}, Inv st B t rows → Base H st → Dk st L k → k + 10 * n ≤ 900 → rows.length + n ≤ 5 → st[10]? = some (.list (rows.map rowV)) → look 67 m = some (.ref 2) → look 51 m = some (.ref 7) → look 68 m = some (.ref 10) →
    ∃ (st' : St) (t' : T) (rows' : List Ov) (k' : Nat) (m' : Lo), loopF .none all (fun v m => some (put 25 v m)) (ovB (d + 9)) ((List.range' rows.length n).map fun i => V.int (i : Nat)) m st = some (.none, m', st') ∧ Inv st' B t' rows' ∧ Base H st' ∧ Dk st' L k' ∧ k' ≤ k + 10 * n ∧ rows'.length ≤ 5 ∧ st'[10]? = some (.list (rows'.map rowV)) ∧ ∀ x, x ≠ 25 → look x m' = look x m := by
  induction n with
  | zero => exact fun {rows st t k m} I hB D _ hr h10 _ _ _ => ⟨st, t, rows, k, m, rfl, I, hB, D, Nat.le_refl _, hr, h10, fun _ _ => rfl⟩
  | succ n ih =>
    intro rows st t k m I hB D hk hr h10 m67 m51 m68
    obtain ⟨st1, t1, o, k1, e, I1, hB1, D1, hk1, h101⟩ := lov_ok (d := d) I hB hBl D (by omega) (Nat.lt_of_lt_of_le (Nat.lt_add_of_pos_right (Nat.succ_pos n)) hr) h10
    have l1 : (rows ++ [o]).length = rows.length + 1 := List.length_append
    obtain ⟨st', t', rows', k', m', q1, q2, q3, q4, q5, q6, q7, q8⟩ := ih (m := put 25 (.int (rows.length : Nat)) m) I1 hB1 D1 (by omega) (by rw [l1, Nat.add_right_comm]; exact hr) h101 (l_pn (by decide) m67) (l_pn (by decide) m51) (l_pn (by decide) m68)
    rw [l1] at q1
    refine ⟨st', t', rows', k', m', lf_go (m2 := put 25 (.int (rows.length : Nat)) m) rfl ?_ rfl q1, q2, q3, q4, by omega, q6, q7, fun x hx => (q8 x hx).trans (look_put_ne hx)⟩
    repeat walk_at "w1"
end
section
variable {st : St} {rows : List Ov} {chs : List V} {d : Nat}
noncomputable def sV (chs : List V) (rows : List Ov) (p : Nat) : V := seenV (chs.getD p .none) (bestO (p : Nat) rows .none)
theorem seen_loop {all : List V} {m : Lo} (m71 : look 71 m = some (.ref 11)) (m68 : look 68 m = some (.ref 10)) (hr : st[10]? = some (.list (rows.map rowV))) (hc : st[11]? = some (.list chs)) (hl : chs.length = 10) (hn : rows.length ≤ 5) (hv : ∀ v ∈ chs, ∃ j, v = lawVal j) (hy : ∀ o ∈ rows, o.y = .none ∨ ∃ j, o.y = some (lawVal j)) {ps : List Nat} :
    loopC .none all 17 (evE clss nidxTab (C (d + 1)) (.call 82 (.cons (.var 71) (.cons (.var 68) (.cons (.var 17) .nil))))) (fun _ s => some (.bool true, s)) (ps.map fun i => V.int (i : Nat)) m st = some (ps.map (sV chs rows), st) := by
  induction ps with
  | nil => rfl
  | cons p ps ih =>
    have e := seen_ok (d := d) (at_ := p) hr hc hl hn hv hy
    refine lc_t rfl (w_call (vs := [.ref 11, .ref 10, .int (p : Nat)]) ?_ e) rfl ih
    repeat walk_at "w1"
theorem seen_list {m : Lo} (m71 : look 71 m = some (.ref 11)) (m68 : look 68 m = some (.ref 10)) (hr : st[10]? = some (.list (rows.map rowV))) (hc : st[11]? = some (.list chs)) (hl : chs.length = 10) (hn : rows.length ≤ 5) (hv : ∀ v ∈ chs, ∃ j, v = lawVal j) (hy : ∀ o ∈ rows, o.y = .none ∨ ∃ j, o.y = some (lawVal j)) :
    evE clss nidxTab (C (d + 1)) (.comp (.call 82 (.cons (.var 71) (.cons (.var 68) (.cons (.var 17) .nil)))) 17 (.rng1 (.val (.int 11)))) m st = some (.ref st.length, st ++ [.list ((List.range 11).map (sV chs rows))]) :=
  w_comp (vs := (List.range 11).map (fun i => V.int (i : Nat))) (oa := .none) rfl (Nat.le_of_ble_eq_true rfl) (seen_loop m71 m68 hr hc hl hn hv hy)
end
theorem flat_law (j : Nat) : (lawVal j).atom = true := law_cases (P := fun v => v.atom = true) rfl rfl rfl rfl j
theorem aeq_law (j : Nat) : atomEq (lawVal j) (lawVal j) = true := law_cases (P := fun v => atomEq v v = true) rfl rfl rfl rfl j
theorem isi_law (j : Nat) : isiV .bool (lawVal j) = some (isB (lawVal j)) := law_cases (P := fun v => isiV .bool v = some (isB v)) rfl rfl rfl rfl j
theorem ne_self {j : Nat} {b : Bool} {n : Int} : cmpV .ne (.tup [.bool b, lawVal j, .int n]) (.tup [.bool b, lawVal j, .int n]) = some false := by
  have h1 : (V.tup [.bool b, lawVal j, .int n]).flat = true := by
    show (true && ((lawVal j).atom && (true && true))) = true
    rw [flat_law]; rfl
  have h2 : eqA (V.tup [.bool b, lawVal j, .int n]) (V.tup [.bool b, lawVal j, .int n]) = true := by
    show ((b == b) && (atomEq (lawVal j) (lawVal j) && ((n == n) && true))) = true
    rw [aeq_law, beq_self_eq_true, beq_self_eq_true]; rfl
  show ob (if (V.tup [.bool b, lawVal j, .int n]).flat && (V.tup [.bool b, lawVal j, .int n]).flat then some (eqA (V.tup [.bool b, lawVal j, .int n]) (V.tup [.bool b, lawVal j, .int n])) else Option.none) _ = _
  rw [h1, h2]; rfl
theorem ne_pair {j k : Nat} : cmpV .ne (.tup [.bool (isB (lawVal j)), lawVal j]) (.tup [.bool (isB (lawVal k)), lawVal k]) = some (!V.same (lawVal j) (lawVal k)) :=
  law_cases (P := fun v => cmpV .ne (.tup [.bool (isB v), v]) (.tup [.bool (isB (lawVal k)), lawVal k]) = some (!V.same v (lawVal k)))
    (law_cases (P := fun w => cmpV .ne (.tup [.bool (isB _), _]) (.tup [.bool (isB w), w]) = some (!V.same _ w)) rfl rfl rfl rfl k)
    (law_cases (P := fun w => cmpV .ne (.tup [.bool (isB _), _]) (.tup [.bool (isB w), w]) = some (!V.same _ w)) rfl rfl rfl rfl k)
    (law_cases (P := fun w => cmpV .ne (.tup [.bool (isB _), _]) (.tup [.bool (isB w), w]) = some (!V.same _ w)) rfl rfl rfl rfl k)
    (law_cases (P := fun w => cmpV .ne (.tup [.bool (isB _), _]) (.tup [.bool (isB w), w]) = some (!V.same _ w)) rfl rfl rfl rfl k) j
end Mine
end
section
namespace Mine
section
variable {H : St} {B pa x : Nat} {t : T} {rows : List Ov} {chs : List V} {d : Nat}
noncomputable abbrev atB (d : Nat) := exSs clss nidxTab (C d) (.cons (.asgT [38, 37] (.call 70 (.cons (.attr (.var 51) 50) (.cons (.var 51) (.cons (.var 60) (.cons (.var 17) (.cons (.val (.int 7)) .nil))))))) (.cons (.ite (.cmp .ne (.tup (.cons (.isi .bool (.var 38)) (.cons (.var 38) (.cons (.ite (.cmp .is (.var 37) (.val .none)) (.neg (.val (.int 1))) (.attr (.var 37) 25)) .nil)))) (.idx (.var 76) (.var 17))) (.cons (.ret (.val (.bool false))) .nil) .nil) .nil))
theorem seen_at {st : St} (h : st[x]? = some (.list ((List.range 11).map (sV chs rows)))) {p : Nat} (hp : p ≤ 10) : idxV st (.ref x) (.int (p : Nat)) = some (sV chs rows p) := by
  refine i_list h ⟨Int.natCast_nonneg _, Int.lt_of_le_of_lt (Int.ofNat_le.mpr hp) (by decide)⟩ ?_
  rw [Int.toNat_natCast, List.getElem?_map, List.getElem?_range (Nat.lt_succ_of_le hp)]; rfl
theorem at_step {st : St} {m : Lo} (I : Inv st B t rows) (hB : Base H st) (hP : PropsCh H pa (fun p => chs.getD p .none)) (hn : rows.length ≤ 5) (hx : st[x]? = some (.list ((List.range 11).map (sV chs rows)))) (m51 : look 51 m = some (.ref 7)) (m60 : look 60 m = some (.ref pa)) (m76 : look 76 m = some (.ref x)) {p : Nat} (hp : p ≤ 10) :
    ∃ (g : List O) (m' : Lo), atB (d + 12) (put 17 (.int (p : Nat)) m) st = some (.none, m', st ++ g) ∧ ∀ z, z ≠ 17 → z ≠ 38 → z ≠ 37 → look z m' = look z m := by
  obtain ⟨so, g, pm, D, r⟩ := cp_ok (d := d) I hB hP.ok hn hp
  have hb := best_seen (by rw [I.num]; exact List.nodup_range) pm D
  have I2 := I.app g
  have hx2 := seen_at (h_app hx : (st ++ g)[x]? = _) hp
  have h7 := I.home
  have fin : ∀ (v w : V) (n : Int), C (d + 12) 70 [.ref 5, .ref 7, .ref pa, .int (p : Nat), .int 7] st = some (.tup [v, w], st ++ g) → (∃ j, v = lawVal j) → sV chs rows p = .tup [.bool (isB v), v, .int n] →
      evE clss nidxTab (C (d + 12)) (.ite (.cmp .is (.var 37) (.val .none)) (.neg (.val (.int 1))) (.attr (.var 37) 25)) (put 37 w (put 38 v (put 17 (.int (p : Nat)) m))) (st ++ g) = some (.int n, st ++ g) →
      ∃ (g : List O) (m' : Lo), atB (d + 12) (put 17 (.int (p : Nat)) m) st = some (.none, m', st ++ g) ∧ ∀ z, z ≠ 17 → z ≠ 38 → z ≠ 37 → look z m' = look z m := fun v w n e1 ej e2 e3 => by
    obtain ⟨j, hj⟩ := ej
    refine ⟨g, put 37 w (put 38 v (put 17 (.int (p : Nat)) m)), ?_, fun z h1 h2 h3 => l_pn h3 (l_pn h2 (look_put_ne h1))⟩
    have e4 : isiV .bool v = some (isB v) := by rw [hj]; exact isi_law j
    have e5 : cmpV .ne (.tup [.bool (isB v), v, .int n]) (.tup [.bool (isB v), v, .int n]) = some false := by rw [hj]; exact ne_self
    rw [e2] at hx2
    repeat walk_at "w1"
  cases hs : seenO so with
  | none =>
    rw [hs] at r hb
    refine fin _ _ (-1) r (hP.vals p) (by rw [sV, hb]; rfl) ?_
    repeat walk_at "w1"
  | some o =>
    rw [hs] at r hb
    have A := I2.ov o (List.mem_filter.mp (pm.mem_iff.mp (List.mem_of_find?_eq_some hs))).1
    have A1 := A.ov
    refine fin _ _ (o.i : Int) r ?_ (by rw [sV, hb]; rfl) ?_
    · exact A.yk.elim (fun e => ⟨0, by rw [Ov.yv, e]; rfl⟩) fun ⟨j, e⟩ => ⟨j, by rw [Ov.yv, e]; rfl⟩
    · repeat walk_at "w1"
theorem at_loop2 (hP : PropsCh H pa (fun p => chs.getD p .none)) (hn : rows.length ≤ 5) {all : List V} {ps : List Nat} : ∀ {st : St} {m : Lo}, (∀ p ∈ ps, p ≤ 10) → Inv st B t rows → Base H st → st[x]? = some (.list ((List.range 11).map (sV chs rows))) → look 51 m = some (.ref 7) → look 60 m = some (.ref pa) → look 76 m = some (.ref x) →
    ∃ (g : List O) (m' : Lo), loopF .none all (fun v m => some (put 17 v m)) (atB (d + 12)) (ps.map fun i => V.int (i : Nat)) m st = some (.none, m', st ++ g) ∧ ∀ z, z ≠ 17 → z ≠ 38 → z ≠ 37 → look z m' = look z m := by
  induction ps with
  | nil => exact fun {st m} _ _ _ _ _ _ _ => ⟨[], m, by rw [List.append_nil]; rfl, fun _ _ _ _ => rfl⟩
  | cons p ps ih =>
    intro st m hp I hB hx m51 m60 m76
    obtain ⟨g, m1, e, k⟩ := at_step (d := d) I hB hP hn hx m51 m60 m76 (hp p (.head _))
    obtain ⟨g2, m2, e2, k2⟩ := ih (fun q hq => hp q (List.mem_cons_of_mem _ hq)) (I.app g) (hB.app g) (h_app hx) ((k 51 (by decide) (by decide) (by decide)).trans m51) ((k 60 (by decide) (by decide) (by decide)).trans m60) ((k 76 (by decide) (by decide) (by decide)).trans m76)
    exact ⟨g ++ g2, m2, List.append_assoc st g g2 ▸ lf_go rfl e rfl e2, fun z h1 h2 h3 => (k2 z h1 h2 h3).trans (k z h1 h2 h3)⟩
end
end Mine
end
section
namespace Mine
theorem Inv.set2 {st : St} {B : Nat} {t : T} {rows : List Ov} (I : Inv st B t rows) (v : O) : Inv (st.set 2 v) B t rows := by
  have b : ∀ {z}, B ≤ z → z ≠ 2 := fun h e => absurd (Nat.le_trans I.B13 (e ▸ h)) (by decide)
  have ne : ∀ {z : Nat}, z ≠ 2 → (st.set 2 v)[z]? = st[z]? := fun h => List.getElem?_set_ne (Ne.symm h)
  refine ⟨I.tree.congr fun z hz => ne ?_, I.keys, (ne (by decide)).trans I.lisp, (ne (by decide)).trans I.rules, (ne (by decide)).trans I.home, (ne (by decide)).trans I.dict, fun o ho => ?_, I.num, I.B13, I.bt⟩
  · rcases hz with rfl | hz
    · decide
    · exact b (I.bt z hz)
  · obtain ⟨a1, a2, a3, a4, a5, a6, a7, a8, a9⟩ := I.ov o ho
    exact ⟨(ne (b a3)).trans a1, (ne (b a4)).trans a2, a3, a4, a5, a6, a7, a8, a9⟩
theorem Base.set2 {H st : St} (h : Base H st) (v : O) : Base H (st.set 2 v) :=
  ⟨(List.length_set (as := st)).symm ▸ h.len, fun z h1 h2 h3 h4 h5 => (List.getElem?_set_ne (Ne.symm h2)).trans (h.get z h1 h2 h3 h4 h5)⟩
theorem mn_is {l : List Int} {r : Int} (h : r ∈ l) (h2 : ∀ y ∈ l, r ≤ y) : minOf l = some r := by
  have e := List.min?_eq_some_iff.mpr ⟨h, h2⟩
  cases l <;> exact e
theorem mx_is {l : List Int} {r : Int} (h : r ∈ l) (h2 : ∀ y ∈ l, y ≤ r) : maxOf l = some r := by
  have e := List.max?_eq_some_iff.mpr ⟨h, h2⟩
  cases l <;> exact e
noncomputable abbrev nI (l : List Nat) : List V := l.map fun i => V.int (i : Nat)
theorem ints_n {z : Nat} {l : List Nat} : intsOf (nI l ++ [.int (z : Nat)]) = some ((l ++ [z]).map fun i => ((i : Nat) : Int)) := by
  induction l with
  | nil => rfl
  | cons x l ih =>
    show ob (intsOf (nI l ++ [.int (z : Nat)])) _ = _
    rw [ih]; rfl
theorem range_n {a n : Nat} : rangeV (a : Nat) ((a + n : Nat) : Int) = nI (List.range' a n) := by
  unfold rangeV nI
  rw [show ((((a + n : Nat) : Int) - (a : Nat)).toNat) = n by omega, List.range'_eq_map_range, List.map_map]
  exact List.map_congr_left fun i _ => congrArg V.int (Int.natCast_add a i).symm
theorem keep_loop {st : St} {all : List V} {m : Lo} {d : Nat} {cnd : Lo → St → Option (V × St)} {f : Nat → Bool} {ps : List Nat} : (∀ p ∈ ps, cnd (put 58 (.int (p : Nat)) m) st = some (.bool (f p), st)) →
    loopC .none all 58 (evE clss nidxTab (C d) (.var 58)) cnd (nI ps) m st = some (nI (ps.filter f), st) := by
  induction ps with
  | nil => exact fun _ => rfl
  | cons p ps ih =>
    intro h
    have hp := h p (.head _)
    have ih := ih fun q hq => h q (List.mem_cons_of_mem _ hq)
    rw [List.filter_cons]
    cases q : f p with
    | true => rw [q] at hp; exact lc_t hp (w_var look_pt) rfl ih
    | false => rw [q] at hp; exact lc_f hp rfl ih
section
variable {H st : St} {B pa x : Nat} {t : T} {rows : List Ov} {chs : List V} {d : Nat} {L : List Int} {k : Nat} {m : Lo}
noncomputable abbrev chV (chs : List V) (p : Nat) : V := chs.getD p .none
theorem pair_ok {p q : Nat} (I : Inv st B t rows) (hP : PropsCh H pa (chV chs)) : cmpV .ne (.tup [.bool (isB (val (chV chs) rows p)), val (chV chs) rows p]) (.tup [.bool (isB (val (chV chs) rows q)), val (chV chs) rows q]) = some (!V.same (val (chV chs) rows p) (val (chV chs) rows q)) := by
  obtain ⟨j, hj⟩ := val_law I hP p
  obtain ⟨i, hi⟩ := val_law I hP q
  rw [hj, hi]; exact ne_pair
theorem pairE {e : Ex} {m : Lo} {s : St} {p : Nat} (hs : s[x]? = some (.list ((List.range 11).map (sV chs rows)))) (hm : look 76 m = some (.ref x)) (he : evE clss nidxTab (C d) e m s = some (.int (p : Nat), s)) (hp : p ≤ 10) :
    evE clss nidxTab (C d) (.upto (.idx (.var 76) e) (.val (.int 2))) m s = some (.tup [.bool (isB (val (chV chs) rows p)), val (chV chs) rows p], s) :=
  w_upto (w_idx (w_var hm) he (seen_at hs hp)) w_val rfl
theorem later_ok (I : Inv st B t rows) (hP : PropsCh H pa (chV chs)) (hs : st[x]? = some (.list ((List.range 11).map (sV chs rows)))) (m76 : look 76 m = some (.ref x)) {a : Nat} (ha : a < 10) (m17 : look 17 m = some (.int (a : Nat))) :
    evE clss nidxTab (C d) (.compc (.var 58) 58 (.rng2 (.bin .add (.var 17) (.val (.int 1))) (.val (.int 10))) (.cmp .ne (.upto (.idx (.var 76) (.var 58)) (.val (.int 2))) (.upto (.idx (.var 76) (.var 17)) (.val (.int 2))))) m st =
    some (.ref st.length, st ++ [.list (nI ((List.range' (a + 1) (9 - a)).filter fun p => !V.same (val (chV chs) rows p) (val (chV chs) rows a)))]) := by
  have e : rangeV ((a : Int) + 1) 10 = nI (List.range' (a + 1) (9 - a)) := by
    rw [← range_n, show ((a + 1 + (9 - a) : Nat) : Int) = 10 by omega]; rfl
  have z := w_rng2 (C := C d) (m := m) (st := st) (w_bin (op := .add) (w_var m17) (w_val (v := .int 1)) rfl) (w_val (v := .int 10)) (by omega)
  rw [e] at z
  refine w_compc z ?_ (keep_loop fun p hp => ?_)
  · rw [nI, List.length_map, List.length_range']; exact Nat.le_trans (Nat.sub_le 9 a) (Nat.le_of_ble_eq_true rfl)
  · have hp' := List.mem_range'_1.mp hp
    exact w_cmp (pairE hs (l_pn (by decide) m76) (w_var look_pt) (by omega)) (pairE hs (l_pn (by decide) m76) (w_var (l_pn (by decide) m17)) (Nat.le_of_lt ha)) (pair_ok I hP)
theorem earlier_ok (I : Inv st B t rows) (hP : PropsCh H pa (chV chs)) (hs : st[x]? = some (.list ((List.range 11).map (sV chs rows)))) (m76 : look 76 m = some (.ref x)) {a : Nat} (ha : a < 10) (m17 : look 17 m = some (.int (a : Nat))) :
    evE clss nidxTab (C d) (.ite (.cmp .gt (.var 17) (.val (.int 0))) (.compc (.var 58) 58 (.rng2 (.val (.int 1)) (.var 17)) (.cmp .ne (.upto (.idx (.var 76) (.bin .sub (.var 58) (.val (.int 1)))) (.val (.int 2))) (.upto (.idx (.var 76) (.bin .sub (.var 17) (.val (.int 1)))) (.val (.int 2))))) (.lst .nil)) m st =
    some (.ref st.length, st ++ [.list (nI ((List.range' 1 (a - 1)).filter fun p => !V.same (val (chV chs) rows (p - 1)) (val (chV chs) rows (a - 1))))]) := by
  rcases Nat.eq_zero_or_pos a with h | h
  · subst h
    exact w_ite (t := false) (w_cmp (w_var m17) w_val rfl) (cF (w_lst w_nil))
  · have e : rangeV 1 (a : Int) = nI (List.range' 1 (a - 1)) := by
      rw [← range_n, Nat.add_sub_cancel' h]; rfl
    have z := w_rng2 (C := C d) (m := m) (st := st) (w_val (v := .int 1)) (w_var m17) (by omega)
    rw [e] at z
    have sub1 : ∀ {y : Nat} {m : Lo} {q : Nat}, 1 ≤ q → look y m = some (.int (q : Nat)) → evE clss nidxTab (C d) (.bin .sub (.var y) (.val (.int 1))) m st = some (.int ((q - 1 : Nat) : Int), st) := fun h1 h2 => by
      rw [Int.ofNat_sub h1]; exact w_bin (w_var h2) w_val rfl
    refine w_ite (w_cmp (w_var m17) w_val (c_gtT (Int.ofNat_lt.mpr h))) (cT (w_compc z ?_ (keep_loop fun p hp => ?_)))
    · rw [nI, List.length_map, List.length_range']; exact Nat.le_trans (Nat.sub_le a 1) (Nat.le_trans (Nat.le_of_lt ha) (Nat.le_of_ble_eq_true rfl))
    · have hp' := List.mem_range'_1.mp hp
      exact w_cmp (pairE hs (l_pn (by decide) m76) (sub1 hp'.1 look_pt) (by omega)) (pairE hs (l_pn (by decide) m76) (sub1 h (l_pn (by decide) m17)) (by omega)) (pair_ok I hP)
theorem min_ok {y : Nat} {l : List Nat} {r : Nat} (hl : l.length ≤ 10) (hy : st[y]? = some (.list (nI l))) {v : Nat} (m77 : look v m = some (.ref y)) (h1 : r ∈ l ++ [10]) (h2 : ∀ p ∈ l ++ [10], r ≤ p) : ∃ g : List O, evE clss nidxTab (C d) (.minL (.bin .add (.var v) (.lst (.cons (.val (.int 10)) .nil)))) m st = some (.int (r : Nat), st ++ g) := by
  have k : (nI l).length + [V.int 10].length ≤ maxSeq := by rw [nI, List.length_map]; exact Nat.le_trans (Nat.add_le_add_right hl 1) (Nat.le_of_ble_eq_true rfl)
  refine ⟨[.list [.int 10], .list (nI l ++ [.int 10])], (w_minL (w_bin (w_var m77) (w_lst (w_cons w_val w_nil)) (a_list (h_app hy) app_at0 k)) app_at0 (by rw [List.length_append]; exact k) (ints_n (z := 10)) (mn_is (r := (r : Nat)) (List.mem_map.mpr ⟨r, h1, rfl⟩) fun y hy => ?_)).trans (by rw [List.append_assoc]; rfl)⟩
  obtain ⟨p, hp, rfl⟩ := List.mem_map.mp hy
  exact Int.ofNat_le.mpr (h2 p hp)
theorem max_ok {y : Nat} {l : List Nat} {r : Nat} (hl : l.length ≤ 10) (hy : st[y]? = some (.list (nI l))) {v : Nat} (m77 : look v m = some (.ref y)) (h1 : r ∈ l ++ [0]) (h2 : ∀ p ∈ l ++ [0], p ≤ r) : ∃ g : List O, evE clss nidxTab (C d) (.maxL (.bin .add (.var v) (.lst (.cons (.val (.int 0)) .nil)))) m st = some (.int (r : Nat), st ++ g) := by
  have k : (nI l).length + [V.int 0].length ≤ maxSeq := by rw [nI, List.length_map]; exact Nat.le_trans (Nat.add_le_add_right hl 1) (Nat.le_of_ble_eq_true rfl)
  refine ⟨[.list [.int 0], .list (nI l ++ [.int 0])], (w_maxL (w_bin (w_var m77) (w_lst (w_cons w_val w_nil)) (a_list (h_app hy) app_at0 k)) app_at0 (by rw [List.length_append]; exact k) (ints_n (z := 0)) (mx_is (r := (r : Nat)) (List.mem_map.mpr ⟨r, h1, rfl⟩) fun y hy => ?_)).trans (by rw [List.append_assoc]; rfl)⟩
  obtain ⟨p, hp, rfl⟩ := List.mem_map.mp hy
  exact Int.ofNat_le.mpr (h2 p hp)
end
end Mine
end
section
namespace Mine
noncomputable abbrev tailS : Ss := .cons (.asg 17 (.call 79 (.cons (.var 67) (.cons (.val (.int 10)) .nil)))) (.cons (.asg 77 (.compc (.var 58) 58 (.rng2 (.bin .add (.var 17) (.val (.int 1))) (.val (.int 10))) (.cmp .ne (.upto (.idx (.var 76) (.var 58)) (.val (.int 2))) (.upto (.idx (.var 76) (.var 17)) (.val (.int 2)))))) (.cons (.ite (.cmp .ne (.call 74 (.cons (.attr (.var 51) 50) (.cons (.var 51) (.cons (.var 60) (.cons (.var 17) (.cons (.val (.int 7)) (.cons (.val (.int 10)) .nil))))))) (.minL (.bin .add (.var 77) (.lst (.cons (.val (.int 10)) .nil))))) (.cons (.ret (.val (.bool false))) .nil) .nil) (.cons (.asg 75 (.ite (.cmp .gt (.var 17) (.val (.int 0))) (.compc (.var 58) 58 (.rng2 (.val (.int 1)) (.var 17)) (.cmp .ne (.upto (.idx (.var 76) (.bin .sub (.var 58) (.val (.int 1)))) (.val (.int 2))) (.upto (.idx (.var 76) (.bin .sub (.var 17) (.val (.int 1)))) (.val (.int 2))))) (.lst .nil))) (.cons (.ret (.cmp .eq (.call 75 (.cons (.attr (.var 51) 50) (.cons (.var 51) (.cons (.var 60) (.cons (.var 17) (.cons (.val (.int 7)) (.cons (.val (.int 0)) .nil))))))) (.maxL (.bin .add (.var 75) (.lst (.cons (.val (.int 0)) .nil)))))) .nil))))
section
variable {H st : St} {B pa x : Nat} {t : T} {rows : List Ov} {chs : List V} {d : Nat} {L : List Int} {k : Nat} {m : Lo}
theorem call6 {s : St} {m : Lo} {a f : Nat} {z : Int} {v : V} {s' : St} (I : Inv s B t rows) (m51 : look 51 m = some (.ref 7)) (m60 : look 60 m = some (.ref pa)) (m17 : look 17 m = some (.int (a : Nat))) (h : C d f [.ref 5, .ref 7, .ref pa, .int (a : Nat), .int 7, .int z] s = some (v, s')) :
    evE clss nidxTab (C d) (.call f (.cons (.attr (.var 51) 50) (.cons (.var 51) (.cons (.var 60) (.cons (.var 17) (.cons (.val (.int 7)) (.cons (.val (.int z)) .nil))))))) m s = some (v, s') :=
  w_call (w_cons (w_attr (w_var m51) I.home rfl) (w_cons (w_var m51) (w_cons (w_var m60) (w_cons (w_var m17) (w_cons w_val (w_cons w_val w_nil)))))) h
theorem ne_int {r : Int} : cmpV .ne (.int r) (.int r) = some false := congrArg (fun b => some (!b)) (beq_self_eq_true r)
theorem eq_int {r : Int} : cmpV .eq (.int r) (.int r) = some true := congrArg some (beq_self_eq_true r)
theorem same_no {v w : V} (h : v ≠ w) : V.same v w = false := Bool.eq_false_iff.mpr fun e => h (V.same_eq e)
theorem tail_ok (I : Inv st B t rows) (hB : Base H st) (hP : PropsCh H pa (chV chs)) (hn : rows.length ≤ 5) (D : Dk st L k) (hk : k ≤ 900) (hs : st[x]? = some (.list ((List.range 11).map (sV chs rows)))) (hx : x ≠ 2) (m67 : look 67 m = some (.ref 2)) (m51 : look 51 m = some (.ref 7)) (m60 : look 60 m = some (.ref pa)) (m76 : look 76 m = some (.ref x)) :
    ∃ m' st', exSs clss nidxTab (C (d + 14)) tailS m st = some (some (.bool true), m', st') := by
  obtain ⟨z, z0, z1, e1⟩ := draw_ok (d := d + 13) D (many := 10) (by decide) (by decide)
  obtain ⟨a, rfl⟩ : ∃ a : Nat, z = (a : Nat) := ⟨z.toNat, by (first | lia | omega)⟩
  have ha : a < 10 := by (first | lia | omega)
  have I1 := I.set2 (.list [.ref 1, .int (k + 1 : Nat)])
  have hB1 := hB.set2 (.list [.ref 1, .int (k + 1 : Nat)])
  have hs1 : (st.set 2 (.list [.ref 1, .int (k + 1 : Nat)]))[x]? = some (.list ((List.range 11).map (sV chs rows))) := h_ne (Ne.symm hx) hs
  generalize st.set 2 (.list [.ref 1, .int (k + 1 : Nat)]) = st1 at e1 I1 hB1 hs1
  have a51 : look 51 (put 17 (V.int (a : Nat)) m) = some (.ref 7) := l_pn (by decide) m51
  have a60 : look 60 (put 17 (V.int (a : Nat)) m) = some (.ref pa) := l_pn (by decide) m60
  have a76 : look 76 (put 17 (V.int (a : Nat)) m) = some (.ref x) := l_pn (by decide) m76
  have a17 : look 17 (put 17 (V.int (a : Nat)) m) = some (.int (a : Nat)) := look_pt
  obtain ⟨m1, hm1⟩ : ∃ m1, m1 = put 17 (V.int (a : Nat)) m := ⟨_, rfl⟩
  rw [← hm1] at a51 a60 a76 a17
  have e2 := later_ok (d := d + 14) I1 hP hs1 a76 ha a17
  generalize hl1 : ((List.range' (a + 1) (9 - a)).filter fun p => !V.same (val (chV chs) rows p) (val (chV chs) rows a)) = l1 at e2
  have I2 := I1.app [.list (nI l1)]
  have hB2 := hB1.app [.list (nI l1)]
  have hs2 : (st1 ++ [O.list (nI l1)])[x]? = some (.list ((List.range 11).map (sV chs rows))) := (List.getElem?_append_left (lt_of_at hs1)).trans hs1
  have hy2 : (st1 ++ [O.list (nI l1)])[st1.length]? = some (.list (nI l1)) := app_at0
  generalize st1 ++ [O.list (nI l1)] = st2 at e2 I2 hB2 hs2 hy2
  obtain ⟨m2, hm2⟩ : ∃ m2, m2 = put 77 (V.ref st1.length) m1 := ⟨_, rfl⟩
  have b51 : look 51 m2 = some (.ref 7) := hm2 ▸ l_pn (by decide) a51
  have b60 : look 60 m2 = some (.ref pa) := hm2 ▸ l_pn (by decide) a60
  have b76 : look 76 m2 = some (.ref x) := hm2 ▸ l_pn (by decide) a76
  have b17 : look 17 m2 = some (.int (a : Nat)) := hm2 ▸ l_pn (by decide) a17
  have b77 : look 77 m2 = some (.ref st1.length) := hm2 ▸ look_pt
  obtain ⟨g, r, e3, r1, r2, r3, r4⟩ := nss_ok (d := d) I2 hB2 hP hn ha
  have I3 := I2.app g
  have hB3 := hB2.app g
  have mem1 : ∀ p, p ∈ l1 ↔ (a + 1 ≤ p ∧ p < 10) ∧ val (chV chs) rows p ≠ val (chV chs) rows a := fun p => by
    rw [← hl1, List.mem_filter, List.mem_range'_1, show a + 1 + (9 - a) = 10 by (first | lia | omega)]
    refine and_congr_right fun _ => ?_
    constructor
    · intro h e
      rw [e, V.same_refl] at h; cases h
    · intro h
      rw [same_no h]; rfl
  have len1 : l1.length ≤ 10 := by
    rw [← hl1]
    refine Nat.le_trans (List.length_filter_le _ _) ?_
    rw [List.length_range']; (first | lia | omega)
  obtain ⟨g2, e4⟩ := min_ok (d := d + 14) (m := m2) (r := r) len1 ((List.getElem?_append_left (lt_of_at hy2)).trans hy2 : (st2 ++ g)[st1.length]? = _) b77
    (by
      rcases r4 with h | h
      · rw [h]; exact List.mem_append_right _ (.head _)
      · by_cases q : r = 10
        · rw [q]; exact List.mem_append_right _ (.head _)
        · exact List.mem_append_left _ ((mem1 r).mpr ⟨⟨by (first | lia | omega), by (first | lia | omega)⟩, h⟩))
    (fun p hp => by
      rcases List.mem_append.mp hp with hp | hp
      · have q := (mem1 p).mp hp
        by_cases w : p < r
        · exact absurd (r3 p (by (first | lia | omega)) w) q.2
        · (first | lia | omega)
      · have : p = 10 := by simpa using hp
        (first | lia | omega))
  have I4 := I3.app g2
  have hB4 := hB3.app g2
  have hs4 : (st2 ++ g ++ g2)[x]? = some (.list ((List.range 11).map (sV chs rows))) := by
    rw [List.append_assoc]; exact (List.getElem?_append_left (lt_of_at hs2)).trans hs2
  generalize hst4 : st2 ++ g ++ g2 = st4 at e4 I4 hB4 hs4
  have e5 := earlier_ok (d := d + 14) I4 hP hs4 b76 ha b17
  generalize hl2 : ((List.range' 1 (a - 1)).filter fun p => !V.same (val (chV chs) rows (p - 1)) (val (chV chs) rows (a - 1))) = l2 at e5
  have I5 := I4.app [.list (nI l2)]
  have hB5 := hB4.app [.list (nI l2)]
  have hy5 : (st4 ++ [O.list (nI l2)])[st4.length]? = some (.list (nI l2)) := app_at0
  generalize st4 ++ [O.list (nI l2)] = st5 at e5 I5 hB5 hy5
  obtain ⟨m3, hm3⟩ : ∃ m3, m3 = put 75 (V.ref st4.length) m2 := ⟨_, rfl⟩
  have c51 : look 51 m3 = some (.ref 7) := hm3 ▸ l_pn (by decide) b51
  have c60 : look 60 m3 = some (.ref pa) := hm3 ▸ l_pn (by decide) b60
  have c17 : look 17 m3 = some (.int (a : Nat)) := hm3 ▸ l_pn (by decide) b17
  have c75 : look 75 m3 = some (.ref st4.length) := hm3 ▸ look_pt
  obtain ⟨g3, q, e6, q1, q2, q3, q4⟩ := pss_ok (d := d) I5 hB5 hP hn (a := a) (by (first | lia | omega))
  have mem2 : ∀ p, p ∈ l2 ↔ (1 ≤ p ∧ p < 1 + (a - 1)) ∧ val (chV chs) rows (p - 1) ≠ val (chV chs) rows (a - 1) := fun p => by
    rw [← hl2, List.mem_filter, List.mem_range'_1]
    refine and_congr_right fun _ => ?_
    constructor
    · intro h e
      rw [e, V.same_refl] at h; cases h
    · intro h
      rw [same_no h]; rfl
  have len2 : l2.length ≤ 10 := by
    rw [← hl2]
    refine Nat.le_trans (List.length_filter_le _ _) ?_
    rw [List.length_range']; (first | lia | omega)
  obtain ⟨g4, e7⟩ := max_ok (d := d + 14) (m := m3) (r := q) len2 ((List.getElem?_append_left (lt_of_at hy5)).trans hy5 : (st5 ++ g3)[st4.length]? = _) c75
    (by
      by_cases w : q = 0
      · rw [w]; exact List.mem_append_right _ (.head _)
      · rcases q4 with h | h
        · exact absurd h w
        · exact List.mem_append_left _ ((mem2 q).mpr ⟨⟨by (first | lia | omega), by have := q2 (by (first | lia | omega)); (first | lia | omega)⟩, h⟩))
    (fun p hp => by
      rcases List.mem_append.mp hp with hp | hp
      · have w := (mem2 p).mp hp
        by_cases u : q ≤ p - 1
        · exact absurd (q3 (p - 1) u (by (first | lia | omega))) w.2
        · (first | lia | omega)
      · have : p = 0 := by simpa using hp
        (first | lia | omega))
  refine ⟨m3, st5 ++ g3 ++ g4, s_cons (s_asg (w_call (w_cons (w_var m67) (w_cons w_val w_nil)) e1)) (s_go ?_)⟩
  rw [← hm1]
  refine s_cons (s_asg e2) (s_go ?_)
  rw [← hm2]
  refine s_cons (s_ite (w_cmp (call6 I2 b51 b60 b17 e3) e4 ne_int) (cF s_nil)) (s_go (s_cons (s_asg e5) (s_go ?_)))
  rw [← hm3]
  exact s_cons (s_ret (w_cmp (call6 I5 c51 c60 c17 e6) e7 eq_int)) s_stop
end
end Mine
end
section
namespace Mine
theorem abs_loop {st : St} {all : List V} {m : Lo} {d : Nat} (h : st[0]? = some (.list all)) {l : List Int} :
    loopC (some 0) all 79 (evE clss nidxTab (C d) (.abs (.var 79))) (fun _ s => some (.bool true, s)) (l.map V.int) m st = some ((l.map fun i => (i.natAbs : Int)).map V.int, st) := by
  induction l with
  | nil => rfl
  | cons i l ih => exact lc_t rfl (w_abs (w_var look_pt)) (stays_ok h) ih
theorem chF_law {v : V} {l : List (Nat × Nat)} : v ∈ chF l → ∃ j, v = lawVal j := by
  induction l with
  | nil => exact fun h => nomatch h
  | cons s l ih => exact fun h => (List.mem_append.mp h).elim (fun h => (List.mem_replicate.mp h).2 ▸ kV_law _) ih
theorem st1_ok {ns : List Int} (hn : ns.length ≤ 63) : exS clss nidxTab (C 40) (.asg 67 (.lst (.cons (.comp (.abs (.var 79)) 79 (.seq (.upto (.var 74) (.val (.int 63))))) (.cons (.val (.int 0)) .nil)))) [(74, .slist (ns.map V.int))] [] =
    some (.none, [(74, .slist (ns.map V.int)), (67, .ref 2)], [.list (ns.map V.int), .list ((ns.map fun i => (i.natAbs : Int)).map V.int), .list [.ref 1, .int 0]]) := by
  have l : (ns.map V.int).length ≤ 63 := (List.length_map (as := ns) V.int).symm ▸ hn
  have e1 : uptoV [] (.slist (ns.map V.int)) (.int 63) = some (.ref 0, [.list (ns.map V.int)]) :=
    (if_pos ⟨by decide, Nat.le_trans l (by decide)⟩).trans (by rw [show (63 : Int).toNat = 63 from rfl, List.take_of_length_le l]; rfl)
  exact s_asg (w_lst (w_cons (w_comp (w_seq (oa := some 0) (w_upto (w_var rfl) w_val e1) rfl) (Nat.le_trans l (Nat.le_of_ble_eq_true rfl)) (abs_loop rfl)) (w_cons w_val w_nil)))
theorem st2_ok {v : V} {o0 : O} {L : List Int} : exS clss nidxTab (C 40) (.asgT [51, 68, 71, 78] (.tup (.cons (.new 6 (.cons (.new 4 (.cons (.new 9 (.cons (.val (.int 100)) .nil)) .nil)) .nil)) (.cons (.lst .nil) (.cons (.lst .nil) (.cons (.lst .nil) .nil)))))) [(74, v), (67, .ref 2)] [o0, .list (L.map V.int), .list [.ref 1, .int 0]] =
    some (.none, [(74, v), (67, .ref 2), (51, .ref 7), (68, .ref 10), (71, .ref 11), (78, .ref 12)], PRE o0 L 0 [] [] []) := by kernel_rfl
theorem st3_ok {o0 : O} {L : List Int} {m : Lo} (hl : L.length ≤ 63) (m67 : look 67 m = some (.ref 2)) (m71 : look 71 m = some (.ref 11)) (m78 : look 78 m = some (.ref 12)) :
    ∃ (l : List (Nat × Nat)) (m' : Lo), Cfg l ∧ (∀ x, x ≠ 16 → x ≠ 38 → look x m' = look x m) ∧
      exS clss nidxTab (C 40) (.for1 16 (.seq (.idx (.lst (.cons (.tup (.cons (.val (.int 10)) .nil)) (.cons (.tup (.cons (.val (.int 4)) (.cons (.val (.int 6)) .nil))) (.cons (.tup (.cons (.val (.int 2)) (.cons (.val (.int 5)) (.cons (.val (.int 3)) .nil)))) .nil)))) (.call 79 (.cons (.var 67) (.cons (.val (.int 3)) .nil))))) (.cons (.asg 38 (.call 80 (.cons (.var 67) .nil))) (.cons (.exp (.lapp (.var 78) (.tup (.cons (.var 16) (.cons (.ite (.bor (.cons (.cmp .gt (.call 79 (.cons (.var 67) (.cons (.val (.int 3)) .nil))) (.val (.int 0))) (.cons (.cmp .isn (.var 38) (.val .none)) .nil))) (.lst (.cons (.tup (.cons (.val (.int 7)) (.cons (.var 38) .nil))) .nil)) (.lst .nil)) .nil))))) (.cons (.exp (.lext (.var 71) (.bin .mul (.lst (.cons (.var 38) .nil)) (.var 16)))) .nil)))) m (PRE o0 L 0 [] [] []) = some (.none, m', heapF o0 L l) := by
  obtain ⟨z, z0, z1, e1⟩ := draw_ok (d := 39) (PRE_dk (x0 := o0) (cs := []) (rs := []) (tail := [menuO]) hl (by decide : 0 ≤ 1000)) (many := 3) (by decide) (by decide)
  rw [PRE_set2] at e1
  have run : ∀ ms : List Nat, (∀ a ∈ ms, a ≤ 10) → ms.length ≤ 3 → (∀ l : List (Nat × Nat), l.map (·.1) = ms → (∀ s ∈ l, s.2 < 5) → Cfg l) → idxV (PRE o0 L 1 [] [] [menuO]) (.ref 13) (.int z) = some (.tup (ms.map fun n => V.int (n : Nat))) →
      ∃ (l : List (Nat × Nat)) (m' : Lo), Cfg l ∧ (∀ x, x ≠ 16 → x ≠ 38 → look x m' = look x m) ∧ exS clss nidxTab (C 40) (.for1 16 _ _) m (PRE o0 L 0 [] [] []) = some (.none, m', heapF o0 L l) := fun ms hms hlen hcf hi => by
    obtain ⟨l, m', q1, q2, q3, q4⟩ := seg_loop (d := 38) hl (all := ms.map fun n => V.int (n : Nat)) (ms := ms) (k := 1) (cs := []) (rs := []) (tail := [menuO]) (x0 := o0) (m := m) hms (by (first | lia | omega)) (by show 0 + 10 * ms.length ≤ 100; (first | lia | omega)) (by show 0 + ms.length ≤ 100; (first | lia | omega)) m67 m71 m78
    refine ⟨l, m', hcf l q1 q2, q3, ?_⟩
    have el : l.length = ms.length := q1 ▸ (List.length_map _).symm
    rw [heapF, el]
    rw [List.nil_append, List.nil_append] at q4
    exact s_for1 (w_seq (oa := .none) (w_idx (w_lst (w_cons (w_tup (w_cons w_val w_nil)) (w_cons (w_tup (w_cons w_val (w_cons w_val w_nil))) (w_cons (w_tup (w_cons w_val (w_cons w_val (w_cons w_val w_nil)))) w_nil)))) (w_call (w_cons (w_var m67) (w_cons w_val w_nil)) e1) hi) rfl) (by rw [List.length_map]; exact Nat.le_trans hlen (Nat.le_of_ble_eq_true rfl)) q4
  have hz : z = 0 ∨ z = 1 ∨ z = 2 := by (first | lia | omega)
  rcases hz with rfl | rfl | rfl
  · exact run [10] (by decide) (by decide) (fun l h1 h2 => by
      obtain ⟨s, l1, rfl, e1, h1⟩ := List.map_eq_cons_iff.mp h1
      obtain rfl := List.map_eq_nil_iff.mp h1
      exact .inl ⟨s.2, h2 s (.head _), by rw [← e1]⟩) rfl
  · exact run [4, 6] (by decide) (by decide) (fun l h1 h2 => by
      obtain ⟨s, l1, rfl, e1, h1⟩ := List.map_eq_cons_iff.mp h1
      obtain ⟨u, l2, rfl, e2, h1⟩ := List.map_eq_cons_iff.mp h1
      obtain rfl := List.map_eq_nil_iff.mp h1
      exact .inr (.inl ⟨s.2, u.2, h2 s (.head _), h2 u (.tail _ (.head _)), by rw [← e1, ← e2]⟩)) rfl
  · exact run [2, 5, 3] (by decide) (by decide) (fun l h1 h2 => by
      obtain ⟨s, l1, rfl, e1, h1⟩ := List.map_eq_cons_iff.mp h1
      obtain ⟨u, l2, rfl, e2, h1⟩ := List.map_eq_cons_iff.mp h1
      obtain ⟨w, l3, rfl, e3, h1⟩ := List.map_eq_cons_iff.mp h1
      obtain rfl := List.map_eq_nil_iff.mp h1
      exact .inr (.inr ⟨s.2, u.2, w.2, h2 s (.head _), h2 u (.tail _ (.head _)), h2 w (.tail _ (.tail _ (.head _))), by rw [← e1, ← e2, ← e3]⟩)) rfl
theorem cfg_len {l : List (Nat × Nat)} (h : Cfg l) : l.length ≤ 3 ∧ (chF l).length = 10 := by
  rcases h with ⟨a, _, rfl⟩ | ⟨a, b, _, _, rfl⟩ | ⟨a, b, c, _, _, _, rfl⟩ <;> exact ⟨Nat.le_of_ble_eq_true rfl, rfl⟩
noncomputable abbrev sixS : Ss := .cons (.asg 76 (.comp (.call 82 (.cons (.var 71) (.cons (.var 68) (.cons (.var 17) .nil)))) 17 (.rng1 (.val (.int 11))))) (.cons (.for1 17 (.rng1 (.val (.int 11))) (.cons (.asgT [38, 37] (.call 70 (.cons (.attr (.var 51) 50) (.cons (.var 51) (.cons (.var 60) (.cons (.var 17) (.cons (.val (.int 7)) .nil))))))) (.cons (.ite (.cmp .ne (.tup (.cons (.isi .bool (.var 38)) (.cons (.var 38) (.cons (.ite (.cmp .is (.var 37) (.val .none)) (.neg (.val (.int 1))) (.attr (.var 37) 25)) .nil)))) (.idx (.var 76) (.var 17))) (.cons (.ret (.val (.bool false))) .nil) .nil) .nil))) tailS)
noncomputable abbrev fiveS : Ss := .cons (.for1 25 (.rng1 (.call 79 (.cons (.var 67) (.cons (.val (.int 6)) .nil)))) (.cons (.exp (.call 81 (.cons (.var 67) (.cons (.var 51) (.cons (.var 68) (.cons (.var 25) .nil)))))) .nil)) sixS
section
variable {H st : St} {B pa : Nat} {t : T} {rows : List Ov} {chs : List V} {L : List Int} {k : Nat} {m : Lo}
theorem six_ok (I : Inv st B t rows) (hB : Base H st) (hP : PropsCh H pa (chV chs)) (rn : rows.length ≤ 5) (D : Dk st L k) (hk : k ≤ 900) (l13 : 13 ≤ H.length) (s10 : st[10]? = some (.list (rows.map rowV))) (s11 : st[11]? = some (.list chs)) (lc : chs.length = 10) (hv : ∀ v ∈ chs, ∃ j, v = lawVal j)
    (d67 : look 67 m = some (.ref 2)) (d51 : look 51 m = some (.ref 7)) (d60 : look 60 m = some (.ref pa)) (d68 : look 68 m = some (.ref 10)) (d71 : look 71 m = some (.ref 11)) :
    ∃ m' st', exSs clss nidxTab (C 40) sixS m st = some (some (.bool true), m', st') := by
  have h6 := seen_list (d := 39) d71 d68 s10 s11 lc rn hv (fun o ho => (I.ov o ho).yk)
  have I6 := I.app [.list ((List.range 11).map (sV chs rows))]
  have B6 := hB.app [.list ((List.range 11).map (sV chs rows))]
  have x6 : (st ++ [O.list ((List.range 11).map (sV chs rows))])[st.length]? = some (.list ((List.range 11).map (sV chs rows))) := app_at0
  have l5 := hB.len
  have D6 : Dk (st ++ [O.list ((List.range 11).map (sV chs rows))]) L k := D.congr (List.getElem?_append_left (by (first | lia | omega))) (List.getElem?_append_left (by (first | lia | omega)))
  generalize st ++ [O.list ((List.range 11).map (sV chs rows))] = st6 at h6 I6 B6 x6 D6
  obtain ⟨g, m7, r7, k7⟩ := at_loop2 (d := 28) (m := put 76 (V.ref st.length) m) hP rn (all := nI (List.range 11)) (ps := List.range 11) (fun p hp => Nat.le_of_lt_succ (List.mem_range.mp hp)) I6 B6 x6 (l_pn (by decide) d51) (l_pn (by decide) d60) look_pt
  have l6 := B6.len
  have D7 : Dk (st6 ++ g) L k := D6.congr (List.getElem?_append_left (by omega)) (List.getElem?_append_left (by omega))
  obtain ⟨m8, st8, r8⟩ := tail_ok (d := 26) (m := m7) (I6.app g) (B6.app g) hP rn D7 hk (h_app x6) (by omega) ((k7 67 (by decide) (by decide) (by decide)).trans (l_pn (by decide) d67)) ((k7 51 (by decide) (by decide) (by decide)).trans (l_pn (by decide) d51)) ((k7 60 (by decide) (by decide) (by decide)).trans (l_pn (by decide) d60)) ((k7 76 (by decide) (by decide) (by decide)).trans look_pt)
  exact ⟨m8, st8, s_cons (s_asg h6) (s_go (s_cons (s_for1 (vs := nI (List.range 11)) (w_rng1 w_val (by decide)) (Nat.le_of_ble_eq_true rfl) r7) (s_go r8)))⟩
theorem five_ok (I0 : Inv H H.length .nil []) (hP : PropsCh H pa (chV chs)) (D0 : Dk H L k) (hk : k ≤ 100) (h10 : H[10]? = some (.list [])) (h11 : H[11]? = some (.list chs)) (lc : chs.length = 10) (hv : ∀ v ∈ chs, ∃ j, v = lawVal j)
    (c67 : look 67 m = some (.ref 2)) (c51 : look 51 m = some (.ref 7)) (c60 : look 60 m = some (.ref pa)) (c68 : look 68 m = some (.ref 10)) (c71 : look 71 m = some (.ref 11)) :
    ∃ m' st', exSs clss nidxTab (C 40) fiveS m H = some (some (.bool true), m', st') := by
  obtain ⟨z, z0, z1, e5⟩ := draw_ok (d := 39) D0 (many := 6) (by decide) (by decide)
  obtain ⟨n, rfl⟩ : ∃ n : Nat, z = (n : Nat) := ⟨z.toNat, by (first | lia | omega)⟩
  have I1 := I0.set2 (.list [.ref 1, .int (k + 1 : Nat)])
  have B0 : Base H H := ⟨Nat.le_refl _, fun _ _ _ _ _ _ => rfl⟩
  have B1 := B0.set2 (.list [.ref 1, .int (k + 1 : Nat)])
  have D1 := D0.next (by (first | lia | omega))
  have l13 := I0.B13
  have g10 : (H.set 2 (.list [.ref 1, .int (k + 1 : Nat)]))[10]? = some (.list (([] : List Ov).map rowV)) := h_ne (by decide) h10
  generalize H.set 2 (.list [.ref 1, .int (k + 1 : Nat)]) = st4 at e5 I1 B1 D1 g10
  obtain ⟨st5, t5, rows, k5, m5, r5, I5, B5, D5, kk, rn, s10, k5m⟩ := ov_loop (d := 31) rfl (all := nI (List.range' 0 n)) (n := n) (rows := []) (m := m) I1 B1 D1 (by (first | lia | omega)) (by show 0 + n ≤ 5; (first | lia | omega)) g10 c67 c51 c68
  have s11 : st5[11]? = some (.list chs) := (B5.get 11 (Nat.lt_of_lt_of_le (by decide) l13) (by decide) (by decide) (by decide) (by decide)).trans h11
  obtain ⟨m8, st8, r8⟩ := six_ok I5 B5 hP rn D5 (by omega) l13 s10 s11 lc hv ((k5m 67 (by decide)).trans c67) ((k5m 51 (by decide)).trans c51) ((k5m 60 (by decide)).trans c60) ((k5m 68 (by decide)).trans c68) ((k5m 71 (by decide)).trans c71)
  have hr : rangeV 0 ((n : Nat) : Int) = nI (List.range' 0 n) := by
    have := range_n (a := 0) (n := n)
    rw [Nat.zero_add] at this; exact this
  have e7 := w_rng1 (m := m) (w_call (w_cons (w_var c67) (w_cons w_val w_nil)) e5) (show (0 : Int) ≤ (n : Nat) ∧ ((n : Nat) : Int) < 4294967296 by omega)
  rw [hr] at e7
  exact ⟨m8, st8, s_cons (s_for1 e7 (by rw [nI, List.length_map, List.length_range']; show n ≤ 4096; omega) r5) (s_go r8)⟩
end
theorem low_ok {o0 : O} {L : List Int} {l : List (Nat × Nat)} : (propH o0 L l)[10]? = some (.list []) ∧ (propH o0 L l)[11]? = some (.list (chF l)) ∧ (propH o0 L l)[1]? = some (.list (L.map V.int)) ∧ (propH o0 L l)[2]? = some (.list [.ref 1, .int (1 + 2 * l.length : Nat)]) := ⟨rfl, rfl, rfl, rfl⟩
theorem law_runs : ∀ ns : List Int, ns.length ≤ 63 → ∃ m' st', exSs clss nidxTab (C 40) B_law [(74, .slist (ns.map V.int))] [] = some (some (.bool true), m', st') := fun ns hn => by
  have h1 := st1_ok hn
  have hl : (ns.map fun i => (i.natAbs : Int)).length ≤ 63 := by rw [List.length_map]; exact hn
  generalize (ns.map fun i => (i.natAbs : Int)) = L at h1 hl
  have h2 := st2_ok (v := .slist (ns.map V.int)) (o0 := .list (ns.map V.int)) (L := L)
  generalize O.list (ns.map V.int) = o0 at h1 h2
  obtain ⟨l, m3, hc, k3, h3⟩ := st3_ok (o0 := o0) (m := [(74, V.slist (ns.map V.int)), (67, V.ref 2), (51, .ref 7), (68, .ref 10), (71, .ref 11), (78, .ref 12)]) hl rfl rfl rfl
  obtain ⟨ll, lc⟩ := cfg_len hc
  have h4 := run62 o0 L hc
  have hP := props_of (x0 := o0) (L := L) hc
  have I0 := init_ok (x0 := o0) (L := L) (l := l)
  obtain ⟨h10, h11, q1, q2⟩ := low_ok (o0 := o0) (L := L) (l := l)
  have D0 : Dk (propH o0 L l) L (1 + 2 * l.length) := ⟨q2, q1, hl, by omega⟩
  generalize propH o0 L l = H at h4 hP I0 D0 h10 h11
  generalize heapF o0 L l = H0 at h3 h4
  obtain ⟨m8, st8, r8⟩ := five_ok (m := put 60 (V.ref (pA l)) m3) I0 hP D0 (by omega) h10 h11 lc (fun v hv => chF_law hv) (l_pn (by decide) ((k3 67 (by decide) (by decide)).trans rfl)) (l_pn (by decide) ((k3 51 (by decide) (by decide)).trans rfl)) look_pt (l_pn (by decide) ((k3 68 (by decide) (by decide)).trans rfl)) (l_pn (by decide) ((k3 71 (by decide) (by decide)).trans rfl))
  refine ⟨m8, st8, ?_⟩
  delta B_law
  exact s_cons h1 (s_go (s_cons h2 (s_go (s_cons h3 (s_go (s_cons (s_asg (w_call (w_cons (w_var ((k3 78 (by decide) (by decide)).trans rfl)) w_nil) h4)) (s_go r8)))))))
end Mine
end
section
open PySem PySem.W PyProof.Rows
namespace Mine
theorem noD : (drecsOf MineH.qv).isEmpty = true := by rw [MineH.hD]; rfl
local macro_rules | `(tactic| decide +kernel) => `(tactic| first | with_reducible exact noD | decide (kernel := true))
local macro_rules | `(tactic| obtain $p:rcasesPatMed := $f:ident $T:ident $r:ident $a:ident $b:ident $c:ident) => `(tactic| first | obtain $p := $f $T (MineH.find_) $a $b $c | rcases $f:ident $T $r $a $b $c with $p)
local macro_rules | `(tactic| k_qdec) => `(tactic| first | with_reducible exact MineH.gl2 | exact MineH.gl1)
theorem room_law (env : Env) : Room 40 (callerA.deeper env) := ⟨rfl, by show callerA.depth + 1 + 8 * 40 + 16 < recursionLimit; decide (kernel := true), by show callerA.units + 3 + 64 * 40 + 256 ≤ cLine; decide +kernel⟩
noncomputable abbrev fChk (K : Frag) (f : Nat) : Bool := (fns[f]?).any fun F => fnChk K f F && fnGChk K f
theorem hc1 (P : Params) : (List.range 10).all (fun c => clsChk (MineH.hk P) c) = true := by kernel_rfl
theorem hc2 (P : Params) : (List.range' 0 28).all (fChk (MineH.hk P)) = true := by kernel_rfl
theorem hc3 (P : Params) : (List.range' 28 28).all (fChk (MineH.hk P)) = true := by kernel_rfl
theorem hc4 (P : Params) : (List.range' 56 28).all (fChk (MineH.hk P)) = true := by kernel_rfl
theorem hc5 (P : Params) : (bltNames.all (fun x => bltChk (MineH.hk P) x) && namesChk (MineH.hk P)) = true := by kernel_rfl
theorem hc6 (P : Params) : (List.range 84).all (fChk (MineH.hk P)) = true := by
  rw [show List.range 84 = List.range' 0 28 ++ (List.range' 28 28 ++ List.range' 56 28) from rfl, List.all_append, List.all_append, hc2, hc3, hc4]; rfl
theorem hchk (P : Params) : allChk (MineH.hk P) = true := by
  unfold allChk
  rw [hc1, hc6, hc5]; rfl
theorem hJ (HL : LawRuns) : PySem.Challenge.rw_np0112_01.Holds := MineH.hd (by
  k_go0
  rename_i w s0 s1 mg mb G Y fa o pm doc ho hg KX X V GL T TB TE TW a1 a2 M a3 a4 hcd ns hs hlay hL1 hrr hll A1 A2 l ws A3 hL ra w1 r0 hI hr0 hcond hcT K0 hD h1 tk1 F c3 c2 c1 c0 d3 d2 d1 d0 N0 X0
  have S : Stat (MineH.hk w.params) MineH.qv _ mg mb s1.heap := stat_of KX (topRead_of T) (hchk w.params)
  obtain ⟨m', st', e⟩ := HL ns (Int.ofNat_le.mp (Int.not_lt.mp hcond))
  clear hs hlay hL1 hrr hll ra w1 r0 hr0 G Y X V GL TB TE TW hD
  have hrun := ex_all (prog := PySem.Challenge.rw_np0112_01.row.prog) (w := w) S (calls_ok S 40) B_law
  refine hrun _ _ _ _ (by kernel_rfl) _ e _ [] _ _ _ (room_law _) (law_cx F N0 X0 rfl rfl rfl rfl rfl rfl rfl hL (ints_vrs hI)) ?_
  rintro ρ' f h' tk' X' N' ⟨x, rfl, R⟩
  cases R
  refine ⟨.inl ⟨.bool true, .bool true, [], rfl, fun _ => rfl, ?_, ?_, fun _ => ⟨List.nodup_nil, fun _ h => by cases h⟩⟩, X'.rel.base, rfl, hg⟩
  · exact .bool _
  · first | kernel_rfl | with_unfolding_all rfl)
end Mine
end
theorem PySem.Challenge.cw_np0112_01_holds : PySem.Challenge.rw_np0112_01.Holds := by
  exact Mine.hJ Mine.law_runs
