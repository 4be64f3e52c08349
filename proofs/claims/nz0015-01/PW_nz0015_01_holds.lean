import PyProof.Rows.All
import Wide.All
import OpenK.AllK
import Wide.FinOn
import Lean
import PySem.Challenge.RW_nz0015_01
open PySem PySem.W PyProof.Rows PySem.Calls
set_option Elab.async false
set_option maxRecDepth 100000
set_option maxHeartbeats 4000000
set_option linter.unusedSimpArgs false
set_option linter.unusedVariables false
set_option compiler.extract_closed false
namespace Mine

abbrev S (x : String) : Str := Str.ofString x
abbrev vs (x : String) (t : Nat) : Value := .str (Str.ofString x) t
abbrev vi (n : Int) : Value := .int n 0
abbrev vr (a : Nat) : Value := .ref a
abbrev de (P : Params) (x : String) (t : Nat) (v : Value) : DictEntry := .mk (PyData.keyHash P (Str.ofString x)) (.str (Str.ofString x) t) v
abbrev ot (xs : Array Value) : Obj := .mk (.type "tuple") none (.seq xs 0) #[]
abbrev oc (xs : Array Value) : Obj := .mk (.type "code") none (.fields xs) #[]
noncomputable def theP : Program := PySem.Challenge.rw_nz0015_01.row.prog
noncomputable def nthS : List Stmt → Nat → Option Stmt
  | [], _ => none
  | s :: _, 0 => some s
  | _ :: r, n + 1 => nthS r n
noncomputable def topS (i : Nat) : Option Stmt := nthS theP.main.body i
noncomputable def metS (i : Nat) : Option Stmt := match topS 20 with
  | some (.ClassDef _ _ _ b _ _ _ _ _ _ _) => nthS b i
  | _ => none
structure Fn where
  n : Str
  a : Arguments
  b : List Stmt
  s : Scope
noncomputable def fnS : Option Stmt → Option Fn
  | some (.FunctionDef n a b _ _ _ s _ _ _) => some ⟨n, a, b, s⟩
  | _ => none
noncomputable def fx21 : (n : Str) ×' (a : Arguments) ×' (b : List Stmt) ×' (s : Scope) ×' (fnS (topS 0) = some ⟨n, a, b, s⟩) := ⟨_, _, _, _, by with_unfolding_all rfl⟩
noncomputable def fx28 : (n : Str) ×' (a : Arguments) ×' (b : List Stmt) ×' (s : Scope) ×' (fnS (topS 2) = some ⟨n, a, b, s⟩) := ⟨_, _, _, _, by with_unfolding_all rfl⟩
noncomputable def fx35 : (n : Str) ×' (a : Arguments) ×' (b : List Stmt) ×' (s : Scope) ×' (fnS (topS 3) = some ⟨n, a, b, s⟩) := ⟨_, _, _, _, by with_unfolding_all rfl⟩
noncomputable def fx42 : (n : Str) ×' (a : Arguments) ×' (b : List Stmt) ×' (s : Scope) ×' (fnS (topS 4) = some ⟨n, a, b, s⟩) := ⟨_, _, _, _, by with_unfolding_all rfl⟩
noncomputable def fx49 : (n : Str) ×' (a : Arguments) ×' (b : List Stmt) ×' (s : Scope) ×' (fnS (topS 5) = some ⟨n, a, b, s⟩) := ⟨_, _, _, _, by with_unfolding_all rfl⟩
noncomputable def fx56 : (n : Str) ×' (a : Arguments) ×' (b : List Stmt) ×' (s : Scope) ×' (fnS (topS 6) = some ⟨n, a, b, s⟩) := ⟨_, _, _, _, by with_unfolding_all rfl⟩
noncomputable def fx63 : (n : Str) ×' (a : Arguments) ×' (b : List Stmt) ×' (s : Scope) ×' (fnS (topS 7) = some ⟨n, a, b, s⟩) := ⟨_, _, _, _, by with_unfolding_all rfl⟩
noncomputable def fx68 : (n : Str) ×' (a : Arguments) ×' (b : List Stmt) ×' (s : Scope) ×' (fnS (topS 9) = some ⟨n, a, b, s⟩) := ⟨_, _, _, _, by with_unfolding_all rfl⟩
noncomputable def fx73 : (n : Str) ×' (a : Arguments) ×' (b : List Stmt) ×' (s : Scope) ×' (fnS (topS 10) = some ⟨n, a, b, s⟩) := ⟨_, _, _, _, by with_unfolding_all rfl⟩
noncomputable def fx80 : (n : Str) ×' (a : Arguments) ×' (b : List Stmt) ×' (s : Scope) ×' (fnS (topS 11) = some ⟨n, a, b, s⟩) := ⟨_, _, _, _, by with_unfolding_all rfl⟩
noncomputable def fx87 : (n : Str) ×' (a : Arguments) ×' (b : List Stmt) ×' (s : Scope) ×' (fnS (topS 12) = some ⟨n, a, b, s⟩) := ⟨_, _, _, _, by with_unfolding_all rfl⟩
noncomputable def fx94 : (n : Str) ×' (a : Arguments) ×' (b : List Stmt) ×' (s : Scope) ×' (fnS (topS 13) = some ⟨n, a, b, s⟩) := ⟨_, _, _, _, by with_unfolding_all rfl⟩
noncomputable def fx101 : (n : Str) ×' (a : Arguments) ×' (b : List Stmt) ×' (s : Scope) ×' (fnS (topS 14) = some ⟨n, a, b, s⟩) := ⟨_, _, _, _, by with_unfolding_all rfl⟩
noncomputable def fx108 : (n : Str) ×' (a : Arguments) ×' (b : List Stmt) ×' (s : Scope) ×' (fnS (topS 15) = some ⟨n, a, b, s⟩) := ⟨_, _, _, _, by with_unfolding_all rfl⟩
noncomputable def fx115 : (n : Str) ×' (a : Arguments) ×' (b : List Stmt) ×' (s : Scope) ×' (fnS (topS 17) = some ⟨n, a, b, s⟩) := ⟨_, _, _, _, by with_unfolding_all rfl⟩
noncomputable def fx120 : (n : Str) ×' (a : Arguments) ×' (b : List Stmt) ×' (s : Scope) ×' (fnS (topS 18) = some ⟨n, a, b, s⟩) := ⟨_, _, _, _, by with_unfolding_all rfl⟩
noncomputable def fx134 : (n : Str) ×' (a : Arguments) ×' (b : List Stmt) ×' (s : Scope) ×' (fnS (metS 0) = some ⟨n, a, b, s⟩) := ⟨_, _, _, _, by with_unfolding_all rfl⟩
noncomputable def fx141 : (n : Str) ×' (a : Arguments) ×' (b : List Stmt) ×' (s : Scope) ×' (fnS (metS 1) = some ⟨n, a, b, s⟩) := ⟨_, _, _, _, by with_unfolding_all rfl⟩
noncomputable def fx148 : (n : Str) ×' (a : Arguments) ×' (b : List Stmt) ×' (s : Scope) ×' (fnS (metS 2) = some ⟨n, a, b, s⟩) := ⟨_, _, _, _, by with_unfolding_all rfl⟩
noncomputable def fx155 : (n : Str) ×' (a : Arguments) ×' (b : List Stmt) ×' (s : Scope) ×' (fnS (metS 3) = some ⟨n, a, b, s⟩) := ⟨_, _, _, _, by with_unfolding_all rfl⟩
noncomputable def fx162 : (n : Str) ×' (a : Arguments) ×' (b : List Stmt) ×' (s : Scope) ×' (fnS (metS 4) = some ⟨n, a, b, s⟩) := ⟨_, _, _, _, by with_unfolding_all rfl⟩
noncomputable def fx169 : (n : Str) ×' (a : Arguments) ×' (b : List Stmt) ×' (s : Scope) ×' (fnS (metS 5) = some ⟨n, a, b, s⟩) := ⟨_, _, _, _, by with_unfolding_all rfl⟩
noncomputable def fx176 : (n : Str) ×' (a : Arguments) ×' (b : List Stmt) ×' (s : Scope) ×' (fnS (metS 6) = some ⟨n, a, b, s⟩) := ⟨_, _, _, _, by with_unfolding_all rfl⟩
noncomputable def fx183 : (n : Str) ×' (a : Arguments) ×' (b : List Stmt) ×' (s : Scope) ×' (fnS (metS 7) = some ⟨n, a, b, s⟩) := ⟨_, _, _, _, by with_unfolding_all rfl⟩
noncomputable def fx190 : (n : Str) ×' (a : Arguments) ×' (b : List Stmt) ×' (s : Scope) ×' (fnS (metS 8) = some ⟨n, a, b, s⟩) := ⟨_, _, _, _, by with_unfolding_all rfl⟩
noncomputable def fx197 : (n : Str) ×' (a : Arguments) ×' (b : List Stmt) ×' (s : Scope) ×' (fnS (metS 9) = some ⟨n, a, b, s⟩) := ⟨_, _, _, _, by with_unfolding_all rfl⟩
noncomputable def fx204 : (n : Str) ×' (a : Arguments) ×' (b : List Stmt) ×' (s : Scope) ×' (fnS (metS 10) = some ⟨n, a, b, s⟩) := ⟨_, _, _, _, by with_unfolding_all rfl⟩
noncomputable def fx211 : (n : Str) ×' (a : Arguments) ×' (b : List Stmt) ×' (s : Scope) ×' (fnS (metS 11) = some ⟨n, a, b, s⟩) := ⟨_, _, _, _, by with_unfolding_all rfl⟩
noncomputable def fx218 : (n : Str) ×' (a : Arguments) ×' (b : List Stmt) ×' (s : Scope) ×' (fnS (metS 12) = some ⟨n, a, b, s⟩) := ⟨_, _, _, _, by with_unfolding_all rfl⟩
noncomputable def fx225 : (n : Str) ×' (a : Arguments) ×' (b : List Stmt) ×' (s : Scope) ×' (fnS (metS 13) = some ⟨n, a, b, s⟩) := ⟨_, _, _, _, by with_unfolding_all rfl⟩
noncomputable def fx232 : (n : Str) ×' (a : Arguments) ×' (b : List Stmt) ×' (s : Scope) ×' (fnS (metS 14) = some ⟨n, a, b, s⟩) := ⟨_, _, _, _, by with_unfolding_all rfl⟩
noncomputable def fx239 : (n : Str) ×' (a : Arguments) ×' (b : List Stmt) ×' (s : Scope) ×' (fnS (metS 15) = some ⟨n, a, b, s⟩) := ⟨_, _, _, _, by with_unfolding_all rfl⟩
noncomputable def fx246 : (n : Str) ×' (a : Arguments) ×' (b : List Stmt) ×' (s : Scope) ×' (fnS (metS 16) = some ⟨n, a, b, s⟩) := ⟨_, _, _, _, by with_unfolding_all rfl⟩
noncomputable def fx253 : (n : Str) ×' (a : Arguments) ×' (b : List Stmt) ×' (s : Scope) ×' (fnS (metS 17) = some ⟨n, a, b, s⟩) := ⟨_, _, _, _, by with_unfolding_all rfl⟩
noncomputable def fx260 : (n : Str) ×' (a : Arguments) ×' (b : List Stmt) ×' (s : Scope) ×' (fnS (metS 18) = some ⟨n, a, b, s⟩) := ⟨_, _, _, _, by with_unfolding_all rfl⟩
noncomputable def fx267 : (n : Str) ×' (a : Arguments) ×' (b : List Stmt) ×' (s : Scope) ×' (fnS (metS 19) = some ⟨n, a, b, s⟩) := ⟨_, _, _, _, by with_unfolding_all rfl⟩
noncomputable def fx281 : (n : Str) ×' (a : Arguments) ×' (b : List Stmt) ×' (s : Scope) ×' (fnS (topS 22) = some ⟨n, a, b, s⟩) := ⟨_, _, _, _, by with_unfolding_all rfl⟩
noncomputable def fx288 : (n : Str) ×' (a : Arguments) ×' (b : List Stmt) ×' (s : Scope) ×' (fnS (topS 23) = some ⟨n, a, b, s⟩) := ⟨_, _, _, _, by with_unfolding_all rfl⟩
noncomputable def fx293 : (n : Str) ×' (a : Arguments) ×' (b : List Stmt) ×' (s : Scope) ×' (fnS (topS 24) = some ⟨n, a, b, s⟩) := ⟨_, _, _, _, by with_unfolding_all rfl⟩
noncomputable def fx298 : (n : Str) ×' (a : Arguments) ×' (b : List Stmt) ×' (s : Scope) ×' (fnS (topS 25) = some ⟨n, a, b, s⟩) := ⟨_, _, _, _, by with_unfolding_all rfl⟩
noncomputable def fx303 : (n : Str) ×' (a : Arguments) ×' (b : List Stmt) ×' (s : Scope) ×' (fnS (topS 26) = some ⟨n, a, b, s⟩) := ⟨_, _, _, _, by with_unfolding_all rfl⟩
noncomputable def fx308 : (n : Str) ×' (a : Arguments) ×' (b : List Stmt) ×' (s : Scope) ×' (fnS (topS 27) = some ⟨n, a, b, s⟩) := ⟨_, _, _, _, by with_unfolding_all rfl⟩
noncomputable def fo (n : Str) (q : String) (a : Arguments) (b : List Stmt) (s : Scope) (pm : Value) (cd : Nat) : Obj :=
  .mk (.type "function") none (.func (.mk n (Str.ofString q) a (.stmts b) s 3 [] .none .none .none pm none (.ref cd) .none 0)) #[]
noncomputable def ob21 : Obj := (fun (x : Obj) (_ : x = fo fx21.1 "_wall" fx21.2.1 fx21.2.2.1 fx21.2.2.2.1 (vs "__main__" 164) 20) => x) _ (by dsimp only [fo, vs, fx21])
noncomputable def ob28 : Obj := (fun (x : Obj) (_ : x = fo fx28.1 "put_behind" fx28.2.1 fx28.2.2.1 fx28.2.2.2.1 (vs "fdsolve.domains" 194) 27) => x) _ (by dsimp only [fo, vs, fx28])
noncomputable def ob35 : Obj := (fun (x : Obj) (_ : x = fo fx35.1 "from_values" fx35.2.1 fx35.2.2.1 fx35.2.2.2.1 (vs "fdsolve.domains" 194) 34) => x) _ (by dsimp only [fo, vs, fx35])
noncomputable def ob42 : Obj := (fun (x : Obj) (_ : x = fo fx42.1 "least" fx42.2.1 fx42.2.2.1 fx42.2.2.2.1 (vs "fdsolve.domains" 194) 41) => x) _ (by dsimp only [fo, vs, fx42])
noncomputable def ob49 : Obj := (fun (x : Obj) (_ : x = fo fx49.1 "greatest" fx49.2.1 fx49.2.2.1 fx49.2.2.2.1 (vs "fdsolve.domains" 194) 48) => x) _ (by dsimp only [fo, vs, fx49])
noncomputable def ob56 : Obj := (fun (x : Obj) (_ : x = fo fx56.1 "next_from" fx56.2.1 fx56.2.2.1 fx56.2.2.2.1 (vs "fdsolve.domains" 194) 55) => x) _ (by dsimp only [fo, vs, fx56])
noncomputable def ob63 : Obj := (fun (x : Obj) (_ : x = fo fx63.1 "has" fx63.2.1 fx63.2.2.1 fx63.2.2.2.1 (vs "fdsolve.domains" 194) 62) => x) _ (by dsimp only [fo, vs, fx63])
noncomputable def ob68 : Obj := (fun (x : Obj) (_ : x = fo fx68.1 "up_to" fx68.2.1 fx68.2.2.1 fx68.2.2.2.1 (vs "fdsolve.domains" 194) 67) => x) _ (by dsimp only [fo, vs, fx68])
noncomputable def ob73 : Obj := (fun (x : Obj) (_ : x = fo fx73.1 "from_on" fx73.2.1 fx73.2.2.1 fx73.2.2.2.1 (vs "fdsolve.domains" 194) 72) => x) _ (by dsimp only [fo, vs, fx73])
noncomputable def ob80 : Obj := (fun (x : Obj) (_ : x = fo fx80.1 "without" fx80.2.1 fx80.2.2.1 fx80.2.2.2.1 (vs "fdsolve.domains" 194) 79) => x) _ (by dsimp only [fo, vs, fx80])
noncomputable def ob87 : Obj := (fun (x : Obj) (_ : x = fo fx87.1 "meet" fx87.2.1 fx87.2.2.1 fx87.2.2.2.1 (vs "fdsolve.domains" 194) 86) => x) _ (by dsimp only [fo, vs, fx87])
noncomputable def ob94 : Obj := (fun (x : Obj) (_ : x = fo fx94.1 "negation" fx94.2.1 fx94.2.2.1 fx94.2.2.2.1 (vs "fdsolve.domains" 194) 93) => x) _ (by dsimp only [fo, vs, fx94])
noncomputable def ob101 : Obj := (fun (x : Obj) (_ : x = fo fx101.1 "struck" fx101.2.1 fx101.2.2.1 fx101.2.2.2.1 (vs "fdsolve.domains" 194) 100) => x) _ (by dsimp only [fo, vs, fx101])
noncomputable def ob108 : Obj := (fun (x : Obj) (_ : x = fo fx108.1 "said_of" fx108.2.1 fx108.2.2.1 fx108.2.2.2.1 (vs "fdsolve.domains" 194) 107) => x) _ (by dsimp only [fo, vs, fx108])
noncomputable def ob115 : Obj := (fun (x : Obj) (_ : x = fo fx115.1 "lacking" fx115.2.1 fx115.2.2.1 fx115.2.2.2.1 (vs "fdsolve.tables" 309) 114) => x) _ (by dsimp only [fo, vs, fx115])
noncomputable def ob120 : Obj := (fun (x : Obj) (_ : x = fo fx120.1 "once_each" fx120.2.1 fx120.2.2.1 fx120.2.2.2.1 (vs "fdsolve.tables" 309) 119) => x) _ (by dsimp only [fo, vs, fx120])
noncomputable def ob134 : Obj := (fun (x : Obj) (_ : x = fo fx134.1 "Store.__init__" fx134.2.1 fx134.2.2.1 fx134.2.2.2.1 (vs "fdsolve.store" 326) 133) => x) _ (by dsimp only [fo, vs, fx134])
noncomputable def ob141 : Obj := (fun (x : Obj) (_ : x = fo fx141.1 "Store.new_var" fx141.2.1 fx141.2.2.1 fx141.2.2.2.1 (vs "fdsolve.store" 326) 140) => x) _ (by dsimp only [fo, vs, fx141])
noncomputable def ob148 : Obj := (fun (x : Obj) (_ : x = fo fx148.1 "Store.size" fx148.2.1 fx148.2.2.1 fx148.2.2.2.1 (vs "fdsolve.store" 326) 147) => x) _ (by dsimp only [fo, vs, fx148])
noncomputable def ob155 : Obj := (fun (x : Obj) (_ : x = fo fx155.1 "Store.dom" fx155.2.1 fx155.2.2.1 fx155.2.2.2.1 (vs "fdsolve.store" 326) 154) => x) _ (by dsimp only [fo, vs, fx155])
noncomputable def ob162 : Obj := (fun (x : Obj) (_ : x = fo fx162.1 "Store.initial" fx162.2.1 fx162.2.2.1 fx162.2.2.2.1 (vs "fdsolve.store" 326) 161) => x) _ (by dsimp only [fo, vs, fx162])
noncomputable def ob169 : Obj := (fun (x : Obj) (_ : x = fo fx169.1 "Store.low" fx169.2.1 fx169.2.2.1 fx169.2.2.2.1 (vs "fdsolve.store" 326) 168) => x) _ (by dsimp only [fo, vs, fx169])
noncomputable def ob176 : Obj := (fun (x : Obj) (_ : x = fo fx176.1 "Store.high" fx176.2.1 fx176.2.2.1 fx176.2.2.2.1 (vs "fdsolve.store" 326) 175) => x) _ (by dsimp only [fo, vs, fx176])
noncomputable def ob183 : Obj := (fun (x : Obj) (_ : x = fo fx183.1 "Store.has" fx183.2.1 fx183.2.2.1 fx183.2.2.2.1 (vs "fdsolve.store" 326) 182) => x) _ (by dsimp only [fo, vs, fx183])
noncomputable def ob190 : Obj := (fun (x : Obj) (_ : x = fo fx190.1 "Store.is_fixed" fx190.2.1 fx190.2.2.1 fx190.2.2.2.1 (vs "fdsolve.store" 326) 189) => x) _ (by dsimp only [fo, vs, fx190])
noncomputable def ob197 : Obj := (fun (x : Obj) (_ : x = fo fx197.1 "Store.value" fx197.2.1 fx197.2.2.1 fx197.2.2.2.1 (vs "fdsolve.store" 326) 196) => x) _ (by dsimp only [fo, vs, fx197])
noncomputable def ob204 : Obj := (fun (x : Obj) (_ : x = fo fx204.1 "Store.width" fx204.2.1 fx204.2.2.1 fx204.2.2.2.1 (vs "fdsolve.store" 326) 203) => x) _ (by dsimp only [fo, vs, fx204])
noncomputable def ob211 : Obj := (fun (x : Obj) (_ : x = fo fx211.1 "Store.holds" fx211.2.1 fx211.2.2.1 fx211.2.2.2.1 (vs "fdsolve.store" 326) 210) => x) _ (by dsimp only [fo, vs, fx211])
noncomputable def ob218 : Obj := (fun (x : Obj) (_ : x = fo fx218.1 "Store.enter" fx218.2.1 fx218.2.2.1 fx218.2.2.2.1 (vs "fdsolve.store" 326) 217) => x) _ (by dsimp only [fo, vs, fx218])
noncomputable def ob225 : Obj := (fun (x : Obj) (_ : x = fo fx225.1 "Store.strike" fx225.2.1 fx225.2.2.1 fx225.2.2.2.1 (vs "fdsolve.store" 326) 224) => x) _ (by dsimp only [fo, vs, fx225])
noncomputable def ob232 : Obj := (fun (x : Obj) (_ : x = fo fx232.1 "Store.decide" fx232.2.1 fx232.2.2.1 fx232.2.2.2.1 (vs "fdsolve.store" 326) 231) => x) _ (by dsimp only [fo, vs, fx232])
noncomputable def ob239 : Obj := (fun (x : Obj) (_ : x = fo fx239.1 "Store.fail" fx239.2.1 fx239.2.2.1 fx239.2.2.2.1 (vs "fdsolve.store" 326) 238) => x) _ (by dsimp only [fo, vs, fx239])
noncomputable def ob246 : Obj := (fun (x : Obj) (_ : x = fo fx246.1 "Store.push" fx246.2.1 fx246.2.2.1 fx246.2.2.2.1 (vs "fdsolve.store" 326) 245) => x) _ (by dsimp only [fo, vs, fx246])
noncomputable def ob253 : Obj := (fun (x : Obj) (_ : x = fo fx253.1 "Store.pop" fx253.2.1 fx253.2.2.1 fx253.2.2.2.1 (vs "fdsolve.store" 326) 252) => x) _ (by dsimp only [fo, vs, fx253])
noncomputable def ob260 : Obj := (fun (x : Obj) (_ : x = fo fx260.1 "Store.depth" fx260.2.1 fx260.2.2.1 fx260.2.2.2.1 (vs "fdsolve.store" 326) 259) => x) _ (by dsimp only [fo, vs, fx260])
noncomputable def ob267 : Obj := (fun (x : Obj) (_ : x = fo fx267.1 "Store.changed" fx267.2.1 fx267.2.2.1 fx267.2.2.2.1 (vs "fdsolve.store" 326) 266) => x) _ (by dsimp only [fo, vs, fx267])
noncomputable def ob281 : Obj := (fun (x : Obj) (_ : x = fo fx281.1 "_law_draw" fx281.2.1 fx281.2.2.1 fx281.2.2.2.1 (vs "law_nz0015_01" 520) 280) => x) _ (by dsimp only [fo, vs, fx281])
noncomputable def ob288 : Obj := (fun (x : Obj) (_ : x = fo fx288.1 "_law_bars" fx288.2.1 fx288.2.2.1 fx288.2.2.2.1 (vs "law_nz0015_01" 520) 287) => x) _ (by dsimp only [fo, vs, fx288])
noncomputable def ob293 : Obj := (fun (x : Obj) (_ : x = fo fx293.1 "_law_drawn" fx293.2.1 fx293.2.2.1 fx293.2.2.2.1 (vs "law_nz0015_01" 520) 292) => x) _ (by dsimp only [fo, vs, fx293])
noncomputable def ob298 : Obj := (fun (x : Obj) (_ : x = fo fx298.1 "_law_is_fit" fx298.2.1 fx298.2.2.1 fx298.2.2.2.1 (vs "law_nz0015_01" 520) 297) => x) _ (by dsimp only [fo, vs, fx298])
noncomputable def ob303 : Obj := (fun (x : Obj) (_ : x = fo fx303.1 "_law_is_told" fx303.2.1 fx303.2.2.1 fx303.2.2.2.1 (vs "law_nz0015_01" 520) 302) => x) _ (by dsimp only [fo, vs, fx303])
noncomputable def ob308 : Obj := (fun (x : Obj) (_ : x = fo fx308.1 "law" fx308.2.1 fx308.2.2.1 fx308.2.2.2.1 (vs "law_nz0015_01" 520) 307) => x) _ (by dsimp only [fo, vs, fx308])
noncomputable def hd.heap_39 : Params → Frag := 
  fun P => (nat_lit 2, (PySem.Obj.mk PySem.Value.none none (PySem.Data.dict #[] 0) #[])) ::
  (nat_lit 3, (PySem.Obj.mk (PySem.Value.type "dict") none (PySem.Data.dict ([(de P "__name__" 165 (vs "law_nz0015_01" 520)), (de P "__doc__" 166 PySem.Value.none), (de P "__package__" 167 PySem.Value.none), (de P "__loader__" 168 (PySem.Value.builtin "__main__.__loader__#opaque")), (de P "__spec__" 169 PySem.Value.none), (de P "__annotations__" 170 (vr 6)), (de P "__builtins__" 171 (vr 4)), (de P "__file__" 173 (vs "/claim/cut.py" 172)), (de P "__cached__" 174 PySem.Value.none), (de P "_wall" 193 (vr 21)), (de P "put_behind" 204 (vr 28)), (de P "from_values" 213 (vr 35)), (de P "least" 220 (vr 42)), (de P "greatest" 227 (vr 49)), (de P "next_from" 237 (vr 56)), (de P "has" 245 (vr 63)), (de P "has_domains" 246 (vr 63)), (de P "up_to" 252 (vr 68)), (de P "from_on" 258 (vr 73)), (de P "without" 266 (vr 80)), (de P "meet" 279 (vr 87)), (de P "negation" 289 (vr 94)), (de P "struck" 299 (vr 101)), (de P "said_of" 308 (vr 108)), (de P "lacking" 319 (vr 115)), (de P "once_each" 325 (vr 120)), (de P "Store" 519 (vr 270)), (de P "_law_draw" 531 (vr 281)), (de P "_law_bars" 542 (vr 288)), (de P "_law_drawn" 548 (vr 293)), (de P "_law_is_fit" 554 (vr 298)), (de P "_law_is_told" 560 (vr 303)), (de P "law" 566 (vr 308))]).toArray 33) #[])) ::
  (nat_lit 15, (ot #[])) ::
  (nat_lit 17, (ot ([(vs "k" 190)]).toArray)) ::
  (nat_lit 18, (ot #[])) ::
  (nat_lit 20, (oc ([(vs "_wall" 187), (vs "_wall" 188), (vs "/claim/cut.py" 189), (vi 1), (vi 1), (vi 0), (vi 0), (vi 3), (vr 15), (PySem.Value.bool Bool.true), (vi 181), (vr 16), PySem.Value.none, (vr 17), (vr 18), (vr 19), (vi 191), (vi 1), (vs "/claim/cut.py" 192)]).toArray)) ::
  (nat_lit 21, ob21) ::
  (nat_lit 22, (ot #[])) ::
  (nat_lit 24, (ot ([(vs "found" 199), (vs "low" 200), (vs "high" 201)]).toArray)) ::
  (nat_lit 25, (ot #[])) ::
  (nat_lit 27, (oc ([(vs "put_behind" 196), (vs "put_behind" 197), (vs "/claim/cut.py" 198), (vi 5), (vi 3), (vi 0), (vi 0), (vi 3), (vr 22), (PySem.Value.bool Bool.true), (vi 181), (vr 23), PySem.Value.none, (vr 24), (vr 25), (vr 26), (vi 202), (vi 5), (vs "/claim/cut.py" 203)]).toArray)) ::
  (nat_lit 28, ob28) ::
  (nat_lit 29, (ot #[])) ::
  (nat_lit 31, (ot ([(vs "numbers" 208), (vs "found" 209), (vs "v" 210)]).toArray)) ::
  (nat_lit 32, (ot #[])) ::
  (nat_lit 34, (oc ([(vs "from_values" 205), (vs "from_values" 206), (vs "/claim/cut.py" 207), (vi 11), (vi 1), (vi 0), (vi 0), (vi 3), (vr 29), (PySem.Value.bool Bool.true), (vi 181), (vr 30), PySem.Value.none, (vr 31), (vr 32), (vr 33), (vi 211), (vi 11), (vs "/claim/cut.py" 212)]).toArray)) ::
  (nat_lit 35, ob35) ::
  (nat_lit 36, (ot #[])) ::
  (nat_lit 38, (ot ([(vs "d" 217)]).toArray)) ::
  (nat_lit 39, (ot #[])) ::
  (nat_lit 41, (oc ([(vs "least" 214), (vs "least" 215), (vs "/claim/cut.py" 216), (vi 16), (vi 1), (vi 0), (vi 0), (vi 3), (vr 36), (PySem.Value.bool Bool.true), (vi 181), (vr 37), PySem.Value.none, (vr 38), (vr 39), (vr 40), (vi 218), (vi 16), (vs "/claim/cut.py" 219)]).toArray)) ::
  (nat_lit 42, ob42) ::
  (nat_lit 43, (ot #[])) ::
  (nat_lit 45, (ot ([(vs "d" 224)]).toArray)) ::
  (nat_lit 46, (ot #[])) ::
  (nat_lit 48, (oc ([(vs "greatest" 221), (vs "greatest" 222), (vs "/claim/cut.py" 223), (vi 18), (vi 1), (vi 0), (vi 0), (vi 3), (vr 43), (PySem.Value.bool Bool.true), (vi 181), (vr 44), PySem.Value.none, (vr 45), (vr 46), (vr 47), (vi 225), (vi 18), (vs "/claim/cut.py" 226)]).toArray)) ::
  (nat_lit 49, ob49) ::
  (nat_lit 50, (ot #[])) ::
  (nat_lit 52, (ot ([(vs "d" 231), (vs "v" 232), (vs "low" 233), (vs "high" 234)]).toArray)) ::
  (nat_lit 53, (ot #[])) ::
  (nat_lit 55, (oc ([(vs "next_from" 228), (vs "next_from" 229), (vs "/claim/cut.py" 230), (vi 20), (vi 2), (vi 0), (vi 0), (vi 3), (vr 50), (PySem.Value.bool Bool.true), (vi 181), (vr 51), PySem.Value.none, (vr 52), (vr 53), (vr 54), (vi 235), (vi 20), (vs "/claim/cut.py" 236)]).toArray)) ::
  (nat_lit 56, ob56) ::
  (nat_lit 57, (ot #[])) ::
  (nat_lit 59, (ot ([(vs "d" 241), (vs "v" 242)]).toArray)) ::
  (nat_lit 60, (ot #[])) ::
  (nat_lit 62, (oc ([(vs "has" 238), (vs "has" 239), (vs "/claim/cut.py" 240), (vi 25), (vi 2), (vi 0), (vi 0), (vi 3), (vr 57), (PySem.Value.bool Bool.true), (vi 181), (vr 58), PySem.Value.none, (vr 59), (vr 60), (vr 61), (vi 243), (vi 25), (vs "/claim/cut.py" 244)]).toArray)) ::
  (nat_lit 63, ob63) ::
  (nat_lit 64, (ot #[])) ::
  (nat_lit 67, (oc ([(vs "up_to" 247), (vs "up_to" 248), (vs "/claim/cut.py" 249), (vi 28), (vi 2), (vi 0), (vi 0), (vi 3), (vr 64), (PySem.Value.bool Bool.true), (vi 181), (vr 65), PySem.Value.none, PySem.Value.none, PySem.Value.none, (vr 66), (vi 250), (vi 28), (vs "/claim/cut.py" 251)]).toArray)) ::
  (nat_lit 68, ob68) ::
  (nat_lit 69, (ot #[])) ::
  (nat_lit 72, (oc ([(vs "from_on" 253), (vs "from_on" 254), (vs "/claim/cut.py" 255), (vi 30), (vi 2), (vi 0), (vi 0), (vi 3), (vr 69), (PySem.Value.bool Bool.true), (vi 181), (vr 70), PySem.Value.none, PySem.Value.none, PySem.Value.none, (vr 71), (vi 256), (vi 30), (vs "/claim/cut.py" 257)]).toArray)) ::
  (nat_lit 73, ob73) ::
  (nat_lit 74, (ot #[])) ::
  (nat_lit 76, (ot ([(vs "d" 262), (vs "v" 263)]).toArray)) ::
  (nat_lit 77, (ot #[])) ::
  (nat_lit 79, (oc ([(vs "without" 259), (vs "without" 260), (vs "/claim/cut.py" 261), (vi 32), (vi 2), (vi 0), (vi 0), (vi 3), (vr 74), (PySem.Value.bool Bool.true), (vi 181), (vr 75), PySem.Value.none, (vr 76), (vr 77), (vr 78), (vi 264), (vi 32), (vs "/claim/cut.py" 265)]).toArray)) ::
  (nat_lit 80, ob80) ::
  (nat_lit 81, (ot #[])) ::
  (nat_lit 83, (ot ([(vs "d" 270), (vs "e" 271), (vs "found" 272), (vs "i" 273), (vs "j" 274), (vs "low" 275), (vs "high" 276)]).toArray)) ::
  (nat_lit 84, (ot #[])) ::
  (nat_lit 86, (oc ([(vs "meet" 267), (vs "meet" 268), (vs "/claim/cut.py" 269), (vi 34), (vi 2), (vi 0), (vi 0), (vi 3), (vr 81), (PySem.Value.bool Bool.true), (vi 181), (vr 82), PySem.Value.none, (vr 83), (vr 84), (vr 85), (vi 277), (vi 34), (vs "/claim/cut.py" 278)]).toArray)) ::
  (nat_lit 87, ob87) ::
  (nat_lit 88, (ot #[])) ::
  (nat_lit 90, (ot ([(vs "literal" 283), (vs "x" 284), (vs "sign" 285), (vs "k" 286)]).toArray)) ::
  (nat_lit 91, (ot #[])) ::
  (nat_lit 93, (oc ([(vs "negation" 280), (vs "negation" 281), (vs "/claim/cut.py" 282), (vi 45), (vi 1), (vi 0), (vi 0), (vi 3), (vr 88), (PySem.Value.bool Bool.true), (vi 181), (vr 89), PySem.Value.none, (vr 90), (vr 91), (vr 92), (vi 287), (vi 45), (vs "/claim/cut.py" 288)]).toArray)) ::
  (nat_lit 94, ob94) ::
  (nat_lit 95, (ot #[])) ::
  (nat_lit 97, (ot ([(vs "literal" 293), (vs "d" 294), (vs "sign" 295), (vs "k" 296)]).toArray)) ::
  (nat_lit 98, (ot #[])) ::
  (nat_lit 100, (oc ([(vs "struck" 290), (vs "struck" 291), (vs "/claim/cut.py" 292), (vi 52), (vi 2), (vi 0), (vi 0), (vi 3), (vr 95), (PySem.Value.bool Bool.true), (vi 181), (vr 96), PySem.Value.none, (vr 97), (vr 98), (vr 99), (vi 297), (vi 52), (vs "/claim/cut.py" 298)]).toArray)) ::
  (nat_lit 101, ob101) ::
  (nat_lit 102, (ot #[])) ::
  (nat_lit 104, (ot ([(vs "literal" 303), (vs "d" 304), (vs "kept" 305)]).toArray)) ::
  (nat_lit 105, (ot #[])) ::
  (nat_lit 107, (oc ([(vs "said_of" 300), (vs "said_of" 301), (vs "/claim/cut.py" 302), (vi 59), (vi 2), (vi 0), (vi 0), (vi 3), (vr 102), (PySem.Value.bool Bool.true), (vi 181), (vr 103), PySem.Value.none, (vr 104), (vr 105), (vr 106), (vi 306), (vi 59), (vs "/claim/cut.py" 307)]).toArray)) ::
  (nat_lit 108, ob108) ::
  (nat_lit 109, (ot #[])) ::
  (nat_lit 111, (ot ([(vs "store" 314), (vs "x" 315), (vs "v" 316)]).toArray)) ::
  (nat_lit 112, (ot #[])) ::
  (nat_lit 114, (oc ([(vs "lacking" 311), (vs "lacking" 312), (vs "/claim/cut.py" 313), (vi 65), (vi 3), (vi 0), (vi 0), (vi 3), (vr 109), (PySem.Value.bool Bool.true), (vi 181), (vr 110), PySem.Value.none, (vr 111), (vr 112), (vr 113), (vi 317), (vi 65), (vs "/claim/cut.py" 318)]).toArray)) ::
  (nat_lit 115, ob115) ::
  (nat_lit 116, (ot #[])) ::
  (nat_lit 119, (oc ([(vs "once_each" 320), (vs "once_each" 321), (vs "/claim/cut.py" 322), (vi 73), (vi 1), (vi 0), (vi 0), (vi 3), (vr 116), (PySem.Value.bool Bool.true), (vi 181), (vr 117), PySem.Value.none, PySem.Value.none, PySem.Value.none, (vr 118), (vi 323), (vi 73), (vs "/claim/cut.py" 324)]).toArray)) ::
  (nat_lit 120, ob120) ::
  (nat_lit 128, (ot #[])) ::
  (nat_lit 130, (ot ([(vs "self" 343)]).toArray)) ::
  (nat_lit 131, (ot #[])) ::
  (nat_lit 133, (oc ([(vs "__init__" 340), (vs "Store.__init__" 341), (vs "/claim/cut.py" 342), (vi 78), (vi 1), (vi 0), (vi 0), (vi 3), (vr 128), (PySem.Value.bool Bool.true), (vi 181), (vr 129), PySem.Value.none, (vr 130), (vr 131), (vr 132), (vi 344), (vi 78), (vs "/claim/cut.py" 345)]).toArray)) ::
  (nat_lit 134, ob134) ::
  (nat_lit 135, (ot #[])) ::
  (nat_lit 137, (ot ([(vs "self" 350), (vs "domain" 351)]).toArray)) ::
  (nat_lit 138, (ot #[])) ::
  (nat_lit 140, (oc ([(vs "new_var" 347), (vs "Store.new_var" 348), (vs "/claim/cut.py" 349), (vi 88), (vi 2), (vi 0), (vi 0), (vi 3), (vr 135), (PySem.Value.bool Bool.true), (vi 181), (vr 136), PySem.Value.none, (vr 137), (vr 138), (vr 139), (vi 352), (vi 88), (vs "/claim/cut.py" 353)]).toArray)) ::
  (nat_lit 141, ob141) ::
  (nat_lit 142, (ot #[])) ::
  (nat_lit 144, (ot ([(vs "self" 358)]).toArray)) ::
  (nat_lit 145, (ot #[])) ::
  (nat_lit 147, (oc ([(vs "size" 355), (vs "Store.size" 356), (vs "/claim/cut.py" 357), (vi 95), (vi 1), (vi 0), (vi 0), (vi 3), (vr 142), (PySem.Value.bool Bool.true), (vi 181), (vr 143), PySem.Value.none, (vr 144), (vr 145), (vr 146), (vi 359), (vi 95), (vs "/claim/cut.py" 360)]).toArray)) ::
  (nat_lit 148, ob148) ::
  (nat_lit 149, (ot #[])) ::
  (nat_lit 151, (ot ([(vs "self" 365), (vs "x" 366)]).toArray)) ::
  (nat_lit 152, (ot #[])) ::
  (nat_lit 154, (oc ([(vs "dom" 362), (vs "Store.dom" 363), (vs "/claim/cut.py" 364), (vi 98), (vi 2), (vi 0), (vi 0), (vi 3), (vr 149), (PySem.Value.bool Bool.true), (vi 181), (vr 150), PySem.Value.none, (vr 151), (vr 152), (vr 153), (vi 367), (vi 98), (vs "/claim/cut.py" 368)]).toArray)) ::
  (nat_lit 155, ob155) ::
  (nat_lit 156, (ot #[])) ::
  (nat_lit 158, (ot ([(vs "self" 373), (vs "x" 374)]).toArray)) ::
  (nat_lit 159, (ot #[])) ::
  (nat_lit 161, (oc ([(vs "initial" 370), (vs "Store.initial" 371), (vs "/claim/cut.py" 372), (vi 101), (vi 2), (vi 0), (vi 0), (vi 3), (vr 156), (PySem.Value.bool Bool.true), (vi 181), (vr 157), PySem.Value.none, (vr 158), (vr 159), (vr 160), (vi 375), (vi 101), (vs "/claim/cut.py" 376)]).toArray)) ::
  (nat_lit 162, ob162) ::
  (nat_lit 163, (ot #[])) ::
  (nat_lit 165, (ot ([(vs "self" 381), (vs "x" 382)]).toArray)) ::
  (nat_lit 166, (ot #[])) ::
  (nat_lit 168, (oc ([(vs "low" 378), (vs "Store.low" 379), (vs "/claim/cut.py" 380), (vi 104), (vi 2), (vi 0), (vi 0), (vi 3), (vr 163), (PySem.Value.bool Bool.true), (vi 181), (vr 164), PySem.Value.none, (vr 165), (vr 166), (vr 167), (vi 383), (vi 104), (vs "/claim/cut.py" 384)]).toArray)) ::
  (nat_lit 169, ob169) ::
  (nat_lit 170, (ot #[])) ::
  (nat_lit 172, (ot ([(vs "self" 389), (vs "x" 390)]).toArray)) ::
  (nat_lit 173, (ot #[])) ::
  (nat_lit 175, (oc ([(vs "high" 386), (vs "Store.high" 387), (vs "/claim/cut.py" 388), (vi 107), (vi 2), (vi 0), (vi 0), (vi 3), (vr 170), (PySem.Value.bool Bool.true), (vi 181), (vr 171), PySem.Value.none, (vr 172), (vr 173), (vr 174), (vi 391), (vi 107), (vs "/claim/cut.py" 392)]).toArray)) ::
  (nat_lit 176, ob176) ::
  (nat_lit 177, (ot #[])) ::
  (nat_lit 179, (ot ([(vs "self" 397), (vs "x" 398), (vs "v" 399)]).toArray)) ::
  (nat_lit 180, (ot #[])) ::
  (nat_lit 182, (oc ([(vs "has" 394), (vs "Store.has" 395), (vs "/claim/cut.py" 396), (vi 110), (vi 3), (vi 0), (vi 0), (vi 3), (vr 177), (PySem.Value.bool Bool.true), (vi 181), (vr 178), PySem.Value.none, (vr 179), (vr 180), (vr 181), (vi 400), (vi 110), (vs "/claim/cut.py" 401)]).toArray)) ::
  (nat_lit 183, ob183) ::
  (nat_lit 184, (ot #[])) ::
  (nat_lit 186, (ot ([(vs "self" 406), (vs "x" 407)]).toArray)) ::
  (nat_lit 187, (ot #[])) ::
  (nat_lit 189, (oc ([(vs "is_fixed" 403), (vs "Store.is_fixed" 404), (vs "/claim/cut.py" 405), (vi 113), (vi 2), (vi 0), (vi 0), (vi 3), (vr 184), (PySem.Value.bool Bool.true), (vi 181), (vr 185), PySem.Value.none, (vr 186), (vr 187), (vr 188), (vi 408), (vi 113), (vs "/claim/cut.py" 409)]).toArray)) ::
  (nat_lit 190, ob190) ::
  (nat_lit 191, (ot #[])) ::
  (nat_lit 193, (ot ([(vs "self" 414), (vs "x" 415)]).toArray)) ::
  (nat_lit 194, (ot #[])) ::
  (nat_lit 196, (oc ([(vs "value" 411), (vs "Store.value" 412), (vs "/claim/cut.py" 413), (vi 116), (vi 2), (vi 0), (vi 0), (vi 3), (vr 191), (PySem.Value.bool Bool.true), (vi 181), (vr 192), PySem.Value.none, (vr 193), (vr 194), (vr 195), (vi 416), (vi 116), (vs "/claim/cut.py" 417)]).toArray)) ::
  (nat_lit 197, ob197) ::
  (nat_lit 198, (ot #[])) ::
  (nat_lit 200, (ot ([(vs "self" 422), (vs "x" 423)]).toArray)) ::
  (nat_lit 201, (ot #[])) ::
  (nat_lit 203, (oc ([(vs "width" 419), (vs "Store.width" 420), (vs "/claim/cut.py" 421), (vi 119), (vi 2), (vi 0), (vi 0), (vi 3), (vr 198), (PySem.Value.bool Bool.true), (vi 181), (vr 199), PySem.Value.none, (vr 200), (vr 201), (vr 202), (vi 424), (vi 119), (vs "/claim/cut.py" 425)]).toArray)) ::
  (nat_lit 204, ob204) ::
  (nat_lit 205, (ot #[])) ::
  (nat_lit 207, (ot ([(vs "self" 430), (vs "literal" 431)]).toArray)) ::
  (nat_lit 208, (ot #[])) ::
  (nat_lit 210, (oc ([(vs "holds" 427), (vs "Store.holds" 428), (vs "/claim/cut.py" 429), (vi 122), (vi 2), (vi 0), (vi 0), (vi 3), (vr 205), (PySem.Value.bool Bool.true), (vi 181), (vr 206), PySem.Value.none, (vr 207), (vr 208), (vr 209), (vi 432), (vi 122), (vs "/claim/cut.py" 433)]).toArray)) ::
  (nat_lit 211, ob211) ::
  (nat_lit 212, (ot #[])) ::
  (nat_lit 214, (ot ([(vs "self" 438), (vs "literal" 439), (vs "reasons" 440), (vs "speaker" 441), (vs "x" 442), (vs "old" 443), (vs "fresh" 444)]).toArray)) ::
  (nat_lit 215, (ot #[])) ::
  (nat_lit 217, (oc ([(vs "enter" 435), (vs "Store.enter" 436), (vs "/claim/cut.py" 437), (vi 125), (vi 4), (vi 0), (vi 0), (vi 3), (vr 212), (PySem.Value.bool Bool.true), (vi 181), (vr 213), PySem.Value.none, (vr 214), (vr 215), (vr 216), (vi 445), (vi 125), (vs "/claim/cut.py" 446)]).toArray)) ::
  (nat_lit 218, ob218) ::
  (nat_lit 219, (ot #[])) ::
  (nat_lit 221, (ot ([(vs "self" 451), (vs "literal" 452), (vs "reasons" 453)]).toArray)) ::
  (nat_lit 222, (ot #[])) ::
  (nat_lit 224, (oc ([(vs "strike" 448), (vs "Store.strike" 449), (vs "/claim/cut.py" 450), (vi 138), (vi 3), (vi 0), (vi 0), (vi 3), (vr 219), (PySem.Value.bool Bool.true), (vi 181), (vr 220), PySem.Value.none, (vr 221), (vr 222), (vr 223), (vi 454), (vi 138), (vs "/claim/cut.py" 455)]).toArray)) ::
  (nat_lit 225, ob225) ::
  (nat_lit 226, (ot #[])) ::
  (nat_lit 228, (ot ([(vs "self" 460), (vs "literal" 461)]).toArray)) ::
  (nat_lit 229, (ot #[])) ::
  (nat_lit 231, (oc ([(vs "decide" 457), (vs "Store.decide" 458), (vs "/claim/cut.py" 459), (vi 141), (vi 2), (vi 0), (vi 0), (vi 3), (vr 226), (PySem.Value.bool Bool.true), (vi 181), (vr 227), PySem.Value.none, (vr 228), (vr 229), (vr 230), (vi 462), (vi 141), (vs "/claim/cut.py" 463)]).toArray)) ::
  (nat_lit 232, ob232) ::
  (nat_lit 233, (ot #[])) ::
  (nat_lit 235, (ot ([(vs "self" 468), (vs "reasons" 469)]).toArray)) ::
  (nat_lit 236, (ot #[])) ::
  (nat_lit 238, (oc ([(vs "fail" 465), (vs "Store.fail" 466), (vs "/claim/cut.py" 467), (vi 144), (vi 2), (vi 0), (vi 0), (vi 3), (vr 233), (PySem.Value.bool Bool.true), (vi 181), (vr 234), PySem.Value.none, (vr 235), (vr 236), (vr 237), (vi 470), (vi 144), (vs "/claim/cut.py" 471)]).toArray)) ::
  (nat_lit 239, ob239) ::
  (nat_lit 240, (ot #[])) ::
  (nat_lit 242, (ot ([(vs "self" 476)]).toArray)) ::
  (nat_lit 243, (ot #[])) ::
  (nat_lit 245, (oc ([(vs "push" 473), (vs "Store.push" 474), (vs "/claim/cut.py" 475), (vi 149), (vi 1), (vi 0), (vi 0), (vi 3), (vr 240), (PySem.Value.bool Bool.true), (vi 181), (vr 241), PySem.Value.none, (vr 242), (vr 243), (vr 244), (vi 477), (vi 149), (vs "/claim/cut.py" 478)]).toArray)) ::
  (nat_lit 246, ob246) ::
  (nat_lit 247, (ot #[])) ::
  (nat_lit 249, (ot ([(vs "self" 483), (vs "n" 484), (vs "mark" 485), (vs "entry" 486)]).toArray)) ::
  (nat_lit 250, (ot #[])) ::
  (nat_lit 252, (oc ([(vs "pop" 480), (vs "Store.pop" 481), (vs "/claim/cut.py" 482), (vi 152), (vi 2), (vi 0), (vi 0), (vi 3), (vr 247), (PySem.Value.bool Bool.true), (vi 181), (vr 248), PySem.Value.none, (vr 249), (vr 250), (vr 251), (vi 487), (vi 152), (vs "/claim/cut.py" 488)]).toArray)) ::
  (nat_lit 253, ob253) ::
  (nat_lit 254, (ot #[])) ::
  (nat_lit 256, (ot ([(vs "self" 493)]).toArray)) ::
  (nat_lit 257, (ot #[])) ::
  (nat_lit 259, (oc ([(vs "depth" 490), (vs "Store.depth" 491), (vs "/claim/cut.py" 492), (vi 164), (vi 1), (vi 0), (vi 0), (vi 3), (vr 254), (PySem.Value.bool Bool.true), (vi 181), (vr 255), PySem.Value.none, (vr 256), (vr 257), (vr 258), (vi 494), (vi 164), (vs "/claim/cut.py" 495)]).toArray)) ::
  (nat_lit 260, ob260) ::
  (nat_lit 261, (ot #[])) ::
  (nat_lit 263, (ot ([(vs "self" 500)]).toArray)) ::
  (nat_lit 264, (ot #[])) ::
  (nat_lit 266, (oc ([(vs "changed" 497), (vs "Store.changed" 498), (vs "/claim/cut.py" 499), (vi 167), (vi 1), (vi 0), (vi 0), (vi 3), (vr 261), (PySem.Value.bool Bool.true), (vi 181), (vr 262), PySem.Value.none, (vr 263), (vr 264), (vr 265), (vi 501), (vi 167), (vs "/claim/cut.py" 502)]).toArray)) ::
  (nat_lit 267, ob267) ::
  (nat_lit 268, (ot ([(vs "clash" 504), (vs "domains" 505), (vs "firsts" 506), (vs "is_failed" 507), (vs "marks" 508), (vs "news" 509), (vs "speaker" 510), (vs "trail" 511)]).toArray)) ::
  (nat_lit 269, (PySem.Obj.mk (PySem.Value.type "dict") none (PySem.Data.dict ([(de P "__module__" 335 (vs "fdsolve.store" 326)), (de P "__firstlineno__" 339 (PySem.Value.int 76 338)), (de P "__init__" 346 (vr 134)), (de P "new_var" 354 (vr 141)), (de P "size" 361 (vr 148)), (de P "dom" 369 (vr 155)), (de P "initial" 377 (vr 162)), (de P "low" 385 (vr 169)), (de P "high" 393 (vr 176)), (de P "has" 402 (vr 183)), (de P "is_fixed" 410 (vr 190)), (de P "value" 418 (vr 197)), (de P "width" 426 (vr 204)), (de P "holds" 434 (vr 211)), (de P "enter" 447 (vr 218)), (de P "strike" 456 (vr 225)), (de P "decide" 464 (vr 232)), (de P "fail" 472 (vr 239)), (de P "push" 479 (vr 246)), (de P "pop" 489 (vr 253)), (de P "depth" 496 (vr 260)), (de P "changed" 503 (vr 267)), (de P "__static_attributes__" 512 (vr 268)), (de P "__dict__" 514 (vr 271)), (de P "__weakref__" 516 (vr 272)), (de P "__doc__" 517 PySem.Value.none)]).toArray 4) #[])) ::
  (nat_lit 270, (PySem.Obj.mk (PySem.Value.type "type") none (PySem.Data.cls (PySem.ClassData.mk (S "Store") [(PySem.Value.type "object")] [(vr 270), (PySem.Value.type "object")] 269 (S "Store") Bool.true [] [] Bool.false none Bool.false)) ([none, none, (some (vs "Store" 328)), (some (vs "Store" 336)), (some (PySem.Value.builtin "object.__new__")), (some (PySem.Value.bool Bool.true))]).toArray)) ::
  (nat_lit 271, (PySem.Obj.mk (PySem.Value.type "getset_descriptor") none (PySem.Data.fields ([(vs "__dict__" 513), (vr 270), (PySem.Value.builtin "function.__dict__"), (PySem.Value.builtin "function.__dict__#set")]).toArray) #[])) ::
  (nat_lit 272, (PySem.Obj.mk (PySem.Value.type "getset_descriptor") none (PySem.Data.fields ([(vs "__weakref__" 515), (vr 270), (PySem.Value.builtin "ExceptionGroup.__weakref__"), PySem.Value.none]).toArray) #[])) ::
  (nat_lit 275, (ot #[])) ::
  (nat_lit 277, (ot ([(vs "feed" 525), (vs "many" 526), (vs "k" 527), (vs "cells" 528)]).toArray)) ::
  (nat_lit 278, (ot #[])) ::
  (nat_lit 280, (oc ([(vs "_law_draw" 522), (vs "_law_draw" 523), (vs "/claim/cut.py" 524), (vi 170), (vi 2), (vi 0), (vi 0), (vi 3), (vr 275), (PySem.Value.bool Bool.true), (vi 181), (vr 276), PySem.Value.none, (vr 277), (vr 278), (vr 279), (vi 529), (vi 170), (vs "/claim/cut.py" 530)]).toArray)) ::
  (nat_lit 281, ob281) ::
  (nat_lit 282, (ot #[])) ::
  (nat_lit 284, (ot ([(vs "literal" 535), (vs "v" 536), (vs "x" 537), (vs "sign" 538), (vs "k" 539)]).toArray)) ::
  (nat_lit 285, (ot #[])) ::
  (nat_lit 287, (oc ([(vs "_law_bars" 532), (vs "_law_bars" 533), (vs "/claim/cut.py" 534), (vi 176), (vi 2), (vi 0), (vi 0), (vi 3), (vr 282), (PySem.Value.bool Bool.true), (vi 181), (vr 283), PySem.Value.none, (vr 284), (vr 285), (vr 286), (vi 540), (vi 176), (vs "/claim/cut.py" 541)]).toArray)) ::
  (nat_lit 288, ob288) ::
  (nat_lit 289, (ot #[])) ::
  (nat_lit 292, (oc ([(vs "_law_drawn" 543), (vs "_law_drawn" 544), (vs "/claim/cut.py" 545), (vi 183), (vi 1), (vi 0), (vi 0), (vi 3), (vr 289), (PySem.Value.bool Bool.true), (vi 181), (vr 290), PySem.Value.none, PySem.Value.none, PySem.Value.none, (vr 291), (vi 546), (vi 183), (vs "/claim/cut.py" 547)]).toArray)) ::
  (nat_lit 293, ob293) ::
  (nat_lit 294, (ot #[])) ::
  (nat_lit 297, (oc ([(vs "_law_is_fit" 549), (vs "_law_is_fit" 550), (vs "/claim/cut.py" 551), (vi 186), (vi 5), (vi 0), (vi 0), (vi 3), (vr 294), (PySem.Value.bool Bool.true), (vi 181), (vr 295), PySem.Value.none, PySem.Value.none, PySem.Value.none, (vr 296), (vi 552), (vi 186), (vs "/claim/cut.py" 553)]).toArray)) ::
  (nat_lit 298, ob298) ::
  (nat_lit 299, (ot #[])) ::
  (nat_lit 302, (oc ([(vs "_law_is_told" 555), (vs "_law_is_told" 556), (vs "/claim/cut.py" 557), (vi 197), (vi 4), (vi 0), (vi 0), (vi 3), (vr 299), (PySem.Value.bool Bool.true), (vi 181), (vr 300), PySem.Value.none, PySem.Value.none, PySem.Value.none, (vr 301), (vi 558), (vi 197), (vs "/claim/cut.py" 559)]).toArray)) ::
  (nat_lit 303, ob303) ::
  (nat_lit 304, (ot #[])) ::
  (nat_lit 307, (oc ([(vs "law" 561), (vs "law" 562), (vs "/claim/cut.py" 563), (vi 209), (vi 1), (vi 0), (vi 0), (vi 3), (vr 304), (PySem.Value.bool Bool.true), (vi 181), (vr 305), PySem.Value.none, PySem.Value.none, PySem.Value.none, (vr 306), (vi 564), (vi 209), (vs "/claim/cut.py" 565)]).toArray)) ::
  (nat_lit 308, ob308) :: []
noncomputable def hd.view_39 : Program := { theP with main := { theP.main with body := [0, 2, 3, 4, 5, 6, 7, 8, 9, 10, 11, 12, 13, 14, 15, 17, 18, 20, 22, 23, 24, 25, 26, 27].filterMap topS } }
noncomputable def as39 : List Addr := 2 :: 3 :: 15 :: 17 :: 18 :: 20 :: 21 :: 22 :: 24 :: 25 :: 27 :: 28 :: 29 :: 31 :: 32 :: 34 :: 35 :: 36 :: 38 :: 39 :: 41 :: 42 :: 43 :: 45 :: 46 :: 48 :: 49 :: 50 :: 52 :: 53 :: 55 :: 56 :: 57 :: 59 :: 60 :: 62 :: 63 :: 64 :: 67 :: 68 :: 69 :: 72 :: 73 :: 74 :: 76 :: 77 :: 79 :: 80 :: 81 :: 83 :: 84 :: 86 :: 87 :: 88 :: 90 :: 91 :: 93 :: 94 :: 95 :: 97 :: 98 :: 100 :: 101 :: 102 :: 104 :: 105 :: 107 :: 108 :: 109 :: 111 :: 112 :: 114 :: 115 :: 116 :: 119 :: 120 :: 128 :: 130 :: 131 :: 133 :: 134 :: 135 :: 137 :: 138 :: 140 :: 141 :: 142 :: 144 :: 145 :: 147 :: 148 :: 149 :: 151 :: 152 :: 154 :: 155 :: 156 :: 158 :: 159 :: 161 :: 162 :: 163 :: 165 :: 166 :: 168 :: 169 :: 170 :: 172 :: 173 :: 175 :: 176 :: 177 :: 179 :: 180 :: 182 :: 183 :: 184 :: 186 :: 187 :: 189 :: 190 :: 191 :: 193 :: 194 :: 196 :: 197 :: 198 :: 200 :: 201 :: 203 :: 204 :: 205 :: 207 :: 208 :: 210 :: 211 :: 212 :: 214 :: 215 :: 217 :: 218 :: 219 :: 221 :: 222 :: 224 :: 225 :: 226 :: 228 :: 229 :: 231 :: 232 :: 233 :: 235 :: 236 :: 238 :: 239 :: 240 :: 242 :: 243 :: 245 :: 246 :: 247 :: 249 :: 250 :: 252 :: 253 :: 254 :: 256 :: 257 :: 259 :: 260 :: 261 :: 263 :: 264 :: 266 :: 267 :: 268 :: 269 :: 270 :: 271 :: 272 :: 275 :: 277 :: 278 :: 280 :: 281 :: 282 :: 284 :: 285 :: 287 :: 288 :: 289 :: 292 :: 293 :: 294 :: 297 :: 298 :: 299 :: 302 :: 303 :: 304 :: 307 :: 308 :: []
noncomputable def HK : Hook := kHook hd.heap_39 as39 (fun _ => by kernel_rfl)
theorem hl_run : LeftO theP hd.view_39 [Str.ofString "has_domains"] (fun s => xlAt hd.view_39 [] s && recOk [] s) (Hook.obs HK) (Hook.val HK) 3198 := fun w => by kernel_rfl
section
local macro_rules | `(tactic| obtain $p:rcasesPatMed := $e:term) => `(tactic| first | (refine Classical.byContradiction fun k9 => ?_; (rcases $e:term with $p) <;> (refine k9 ?_; clear k9)) | rcases $e:term with $p)
local macro_rules | `(tactic| walk_at $s:str) => `(tactic| k_extra $s)
section
inductive Ex3 {T1 T2 T3 : Type} (p : T1 → T2 → T3 → Prop) : Prop | mk (a1 : T1) (a2 : T2) (a3 : T3) (h : p a1 a2 a3) : Ex3 p
inductive Ex4 {T1 T2 T3 T4 : Type} (p : T1 → T2 → T3 → T4 → Prop) : Prop | mk (a1 : T1) (a2 : T2) (a3 : T3) (a4 : T4) (h : p a1 a2 a3 a4) : Ex4 p
inductive Ex5 {T1 T2 T3 T4 T5 : Type} (p : T1 → T2 → T3 → T4 → T5 → Prop) : Prop | mk (a1 : T1) (a2 : T2) (a3 : T3) (a4 : T4) (a5 : T5) (h : p a1 a2 a3 a4 a5) : Ex5 p
inductive Ex6 {T1 T2 T3 T4 T5 T6 : Type} (p : T1 → T2 → T3 → T4 → T5 → T6 → Prop) : Prop | mk (a1 : T1) (a2 : T2) (a3 : T3) (a4 : T4) (a5 : T5) (a6 : T6) (h : p a1 a2 a3 a4 a5 a6) : Ex6 p
inductive Ex7 {T1 T2 T3 T4 T5 T6 T7 : Type} (p : T1 → T2 → T3 → T4 → T5 → T6 → T7 → Prop) : Prop | mk (a1 : T1) (a2 : T2) (a3 : T3) (a4 : T4) (a5 : T5) (a6 : T6) (a7 : T7) (h : p a1 a2 a3 a4 a5 a6 a7) : Ex7 p
inductive Ex8 {T1 T2 T3 T4 T5 T6 T7 T8 : Type} (p : T1 → T2 → T3 → T4 → T5 → T6 → T7 → T8 → Prop) : Prop | mk (a1 : T1) (a2 : T2) (a3 : T3) (a4 : T4) (a5 : T5) (a6 : T6) (a7 : T7) (a8 : T8) (h : p a1 a2 a3 a4 a5 a6 a7 a8) : Ex8 p
inductive Ex9 {T1 T2 T3 T4 T5 T6 T7 T8 T9 : Type} (p : T1 → T2 → T3 → T4 → T5 → T6 → T7 → T8 → T9 → Prop) : Prop | mk (a1 : T1) (a2 : T2) (a3 : T3) (a4 : T4) (a5 : T5) (a6 : T6) (a7 : T7) (a8 : T8) (a9 : T9) (h : p a1 a2 a3 a4 a5 a6 a7 a8 a9) : Ex9 p
inductive Ex11 {T1 T2 T3 T4 T5 T6 T7 T8 T9 T10 T11 : Type} (p : T1 → T2 → T3 → T4 → T5 → T6 → T7 → T8 → T9 → T10 → T11 → Prop) : Prop | mk (a1 : T1) (a2 : T2) (a3 : T3) (a4 : T4) (a5 : T5) (a6 : T6) (a7 : T7) (a8 : T8) (a9 : T9) (a10 : T10) (a11 : T11) (h : p a1 a2 a3 a4 a5 a6 a7 a8 a9 a10 a11) : Ex11 p
inductive Ex18 {T1 T2 T3 T4 T5 T6 T7 T8 T9 T10 T11 T12 T13 T14 T15 T16 T17 T18 : Type} (p : T1 → T2 → T3 → T4 → T5 → T6 → T7 → T8 → T9 → T10 → T11 → T12 → T13 → T14 → T15 → T16 → T17 → T18 → Prop) : Prop | mk (a1 : T1) (a2 : T2) (a3 : T3) (a4 : T4) (a5 : T5) (a6 : T6) (a7 : T7) (a8 : T8) (a9 : T9) (a10 : T10) (a11 : T11) (a12 : T12) (a13 : T13) (a14 : T14) (a15 : T15) (a16 : T16) (a17 : T17) (a18 : T18) (h : p a1 a2 a3 a4 a5 a6 a7 a8 a9 a10 a11 a12 a13 a14 a15 a16 a17 a18) : Ex18 p
end
section

/-- what a call of `f` with `vs` over the ledger `news` does: it comes back with `r` over a ledger `news'` -/
def Does (w : World) (f : Addr) (news : List (Addr × Obj)) (vs : List Value) (D U : Nat) (Post : Value → List (Addr × Obj) → Prop) : Prop :=
  ∀ (mean : ExcName → Option Value) (mg mb : Str → Option Value) (dp un : Nat) (gd : Option (List Code)) (cn : Str) (cs : Scope) (a : Addr) (ccd : Value) (cl : List (Str × Addr)) (outer : List Env) (A₀ : Around) (base h₀ : Heap) (L : Addr) (m : Str → Option Value) (s : Shared) (Q E : Value → Shared → Prop),
    Below A₀ base outer h₀ → Fr h₀ L s.heap m → (Mine.hd.heap_39 w.params).In h₀ → News h₀ L s.heap news → Top Mine.hd.view_39 (looseW Mine.hd.view_39 [Str.ofString "has_domains"]) mean mg mb h₀ → cs.kind = .function →
    dp + D < recursionLimit → un + U < cLine →
    (∀ r news' h' tk', Post r news' → Fr h₀ L h' m → News h₀ L h' news' → Q r { s with heap := h', toks := tk' }) →
      wpAny (model PySem.Challenge.rw_nz0015_01.row.prog w) (ktrTop dp un gd cn cs L a ccd cl outer) (call (.ref f) vs) Q E s

abbrev tupO (vs : List Value) (n : Nat) : Obj := { cls := .type "tuple", data := .seq vs.toArray n }
theorem rmA {d b l : Nat} (h : d + b < l) : d < l := Nat.lt_of_le_of_lt (Nat.le_add_right d b) h
theorem rmB {d a b l : Nat} (h : d + b < l) (e : Nat.ble a b = true) : d + a < l := Nat.lt_of_le_of_lt (Nat.add_le_add_left (Nat.le_of_ble_eq_true e) d) h
theorem rmC {d c a b l : Nat} (h : d + b < l) (e : Nat.ble (c + a) b = true) : d + c + a < l := by rw [Nat.add_assoc]; exact rmB h e
theorem lt63 {x : Int} (h : x < 1000) : x < 2 ^ 63 := by lia
theorem le1 {x y : Int} (h : x ≤ y) : x ≤ y + 1 := Int.le_add_one h
theorem all_cons {α : Type} {P : α → Prop} {q : α} {l : List α} (h1 : P q) (h2 : ∀ p ∈ l, P p) : ∀ p ∈ q :: l, P p := fun p hp => by
  cases hp with
  | head => exact h1
  | tail _ hp => exact h2 p hp
theorem all_app {α : Type} {P : α → Prop} {k l : List α} (h1 : ∀ p ∈ k, P p) (h2 : ∀ p ∈ l, P p) : ∀ p ∈ k ++ l, P p := fun p hp => (List.mem_append.mp hp).elim (h1 p) (h2 p)
theorem news_c {h₀ h : Heap} {L : Addr} {q : Addr × Obj} {l : List (Addr × Obj)} (h1 : h.get? q.1 = some q.2 ∧ q.1 ≠ L ∧ h₀.get? q.1 = none) (N : News h₀ L h l) : News h₀ L h (q :: l) := all_cons h1 N
end
section

theorem Does.use {w : World} {f : Addr} {news : List (Addr × Obj)} {vs : List Value} {D U : Nat} {Post : Value → List (Addr × Obj) → Prop} (H : Does w f news vs D U Post)
    {mean : ExcName → Option Value} {mg mb : Str → Option Value} {dp un : Nat} {gd : Option (List Code)} {cn : Str} {cs : Scope} {a : Addr} {ccd : Value} {cl : List (Str × Addr)} {outer : List Env} {A₀ : Around} {base h₀ : Heap} {L : Addr} {m : Str → Option Value} {s : Shared} {Q E : Value → Shared → Prop}
    (B : Below A₀ base outer h₀) (F : Fr h₀ L s.heap m) (X : (Mine.hd.heap_39 w.params).In h₀) (N : News h₀ L s.heap news) (T : Top Mine.hd.view_39 (looseW Mine.hd.view_39 [Str.ofString "has_domains"]) mean mg mb h₀) (hk : cs.kind = .function)
    (hd : dp + D < recursionLimit) (hu : un + U < cLine)
    (ret : ∀ r news' h' tk', Post r news' → Fr h₀ L h' m → News h₀ L h' news' → Q r { s with heap := h', toks := tk' }) :
      wpAny (model PySem.Challenge.rw_nz0015_01.row.prog w) (ktrTop dp un gd cn cs L a ccd cl outer) (call (.ref f) vs) Q E s :=
  H mean mg mb dp un gd cn cs a ccd cl outer A₀ base h₀ L m s Q E B F X N T hk hd hu ret

theorem Does.useA {w : World} {f : Addr} {news : List (Addr × Obj)} {vs : List Value} {D U : Nat} {rest : List (Addr × Obj)} {P : Addr → List (Addr × Obj) → Prop} (H : Does w f news vs D U (fun r news' => ∃ a tl, r = .ref a ∧ news' = tl ++ rest ∧ P a tl))
    {mean : ExcName → Option Value} {mg mb : Str → Option Value} {dp un : Nat} {gd : Option (List Code)} {cn : Str} {cs : Scope} {a : Addr} {ccd : Value} {cl : List (Str × Addr)} {outer : List Env} {A₀ : Around} {base h₀ : Heap} {L : Addr} {m : Str → Option Value} {s : Shared} {Q E : Value → Shared → Prop}
    (B : Below A₀ base outer h₀) (F : Fr h₀ L s.heap m) (X : (Mine.hd.heap_39 w.params).In h₀) (N : News h₀ L s.heap news) (T : Top Mine.hd.view_39 (looseW Mine.hd.view_39 [Str.ofString "has_domains"]) mean mg mb h₀) (hk : cs.kind = .function)
    (hd : dp + D < recursionLimit) (hu : un + U < cLine)
    (ret : ∀ h' tk', Fr h₀ L h' m → ∀ a tl, P a tl → News h₀ L h' (tl ++ rest) → Q (.ref a) { s with heap := h', toks := tk' }) :
      wpAny (model PySem.Challenge.rw_nz0015_01.row.prog w) (ktrTop dp un gd cn cs L a ccd cl outer) (call (.ref f) vs) Q E s :=
  H mean mg mb dp un gd cn cs a ccd cl outer A₀ base h₀ L m s Q E B F X N T hk hd hu fun _ _ h' tk' ⟨a, tl, e1, e2, p⟩ F N => by subst e1 e2; exact ret h' tk' F a tl p N
theorem Does.useT {w : World} {f : Addr} {news : List (Addr × Obj)} {vs : List Value} {D U : Nat} {Y : List (Addr × Obj)} {k : Int} (H : Does w f news vs D U (fun r news' => news' = Y ∧ ∃ t, r = .int k t))
    {mean : ExcName → Option Value} {mg mb : Str → Option Value} {dp un : Nat} {gd : Option (List Code)} {cn : Str} {cs : Scope} {a : Addr} {ccd : Value} {cl : List (Str × Addr)} {outer : List Env} {A₀ : Around} {base h₀ : Heap} {L : Addr} {m : Str → Option Value} {s : Shared} {Q E : Value → Shared → Prop}
    (B : Below A₀ base outer h₀) (F : Fr h₀ L s.heap m) (X : (Mine.hd.heap_39 w.params).In h₀) (N : News h₀ L s.heap news) (T : Top Mine.hd.view_39 (looseW Mine.hd.view_39 [Str.ofString "has_domains"]) mean mg mb h₀) (hk : cs.kind = .function)
    (hd : dp + D < recursionLimit) (hu : un + U < cLine)
    (ret : ∀ h' tk', Fr h₀ L h' m → News h₀ L h' Y → ∀ t, Q (.int k t) { s with heap := h', toks := tk' }) :
      wpAny (model PySem.Challenge.rw_nz0015_01.row.prog w) (ktrTop dp un gd cn cs L a ccd cl outer) (call (.ref f) vs) Q E s :=
  H mean mg mb dp un gd cn cs a ccd cl outer A₀ base h₀ L m s Q E B F X N T hk hd hu fun _ _ h' tk' ⟨e2, t, e1⟩ F N => by subst e1 e2; exact ret h' tk' F N t
theorem Does.useR {w : World} {f : Addr} {news : List (Addr × Obj)} {vs : List Value} {D U : Nat} {Y : List (Addr × Obj)} (H : Does w f news vs D U (fun r news' => news' = Y ∧ ∃ a, r = .ref a))
    {mean : ExcName → Option Value} {mg mb : Str → Option Value} {dp un : Nat} {gd : Option (List Code)} {cn : Str} {cs : Scope} {a : Addr} {ccd : Value} {cl : List (Str × Addr)} {outer : List Env} {A₀ : Around} {base h₀ : Heap} {L : Addr} {m : Str → Option Value} {s : Shared} {Q E : Value → Shared → Prop}
    (B : Below A₀ base outer h₀) (F : Fr h₀ L s.heap m) (X : (Mine.hd.heap_39 w.params).In h₀) (N : News h₀ L s.heap news) (T : Top Mine.hd.view_39 (looseW Mine.hd.view_39 [Str.ofString "has_domains"]) mean mg mb h₀) (hk : cs.kind = .function)
    (hd : dp + D < recursionLimit) (hu : un + U < cLine)
    (ret : ∀ h' tk', Fr h₀ L h' m → News h₀ L h' Y → ∀ a, Q (.ref a) { s with heap := h', toks := tk' }) :
      wpAny (model PySem.Challenge.rw_nz0015_01.row.prog w) (ktrTop dp un gd cn cs L a ccd cl outer) (call (.ref f) vs) Q E s :=
  H mean mg mb dp un gd cn cs a ccd cl outer A₀ base h₀ L m s Q E B F X N T hk hd hu fun _ _ h' tk' ⟨e2, t, e1⟩ F N => by subst e1 e2; exact ret h' tk' F N t
theorem Does.useE {w : World} {f : Addr} {news : List (Addr × Obj)} {vs : List Value} {D U : Nat} {Y : List (Addr × Obj)} {v : Value} (H : Does w f news vs D U (fun r news' => news' = Y ∧ r = v))
    {mean : ExcName → Option Value} {mg mb : Str → Option Value} {dp un : Nat} {gd : Option (List Code)} {cn : Str} {cs : Scope} {a : Addr} {ccd : Value} {cl : List (Str × Addr)} {outer : List Env} {A₀ : Around} {base h₀ : Heap} {L : Addr} {m : Str → Option Value} {s : Shared} {Q E : Value → Shared → Prop}
    (B : Below A₀ base outer h₀) (F : Fr h₀ L s.heap m) (X : (Mine.hd.heap_39 w.params).In h₀) (N : News h₀ L s.heap news) (T : Top Mine.hd.view_39 (looseW Mine.hd.view_39 [Str.ofString "has_domains"]) mean mg mb h₀) (hk : cs.kind = .function)
    (hd : dp + D < recursionLimit) (hu : un + U < cLine)
    (ret : ∀ h' tk', Fr h₀ L h' m → News h₀ L h' Y → Q v { s with heap := h', toks := tk' }) :
      wpAny (model PySem.Challenge.rw_nz0015_01.row.prog w) (ktrTop dp un gd cn cs L a ccd cl outer) (call (.ref f) vs) Q E s :=
  H mean mg mb dp un gd cn cs a ccd cl outer A₀ base h₀ L m s Q E B F X N T hk hd hu fun _ _ h' tk' ⟨e2, e1⟩ F N => by subst e1 e2; exact ret h' tk' F N
theorem Does.useN {w : World} {f : Addr} {news : List (Addr × Obj)} {vs : List Value} {D U : Nat} {Y : List (Addr × Obj)} {P : Value → Prop} (H : Does w f news vs D U (fun r news' => news' = Y ∧ P r))
    {mean : ExcName → Option Value} {mg mb : Str → Option Value} {dp un : Nat} {gd : Option (List Code)} {cn : Str} {cs : Scope} {a : Addr} {ccd : Value} {cl : List (Str × Addr)} {outer : List Env} {A₀ : Around} {base h₀ : Heap} {L : Addr} {m : Str → Option Value} {s : Shared} {Q E : Value → Shared → Prop}
    (B : Below A₀ base outer h₀) (F : Fr h₀ L s.heap m) (X : (Mine.hd.heap_39 w.params).In h₀) (N : News h₀ L s.heap news) (T : Top Mine.hd.view_39 (looseW Mine.hd.view_39 [Str.ofString "has_domains"]) mean mg mb h₀) (hk : cs.kind = .function)
    (hd : dp + D < recursionLimit) (hu : un + U < cLine)
    (ret : ∀ r h' tk', Fr h₀ L h' m → News h₀ L h' Y → P r → Q r { s with heap := h', toks := tk' }) :
      wpAny (model PySem.Challenge.rw_nz0015_01.row.prog w) (ktrTop dp un gd cn cs L a ccd cl outer) (call (.ref f) vs) Q E s :=
  H mean mg mb dp un gd cn cs a ccd cl outer A₀ base h₀ L m s Q E B F X N T hk hd hu fun r _ h' tk' ⟨e2, p⟩ F N => by subst e2; exact ret r h' tk' F N p
theorem Does.useD {w : World} {f : Addr} {news : List (Addr × Obj)} {vs : List Value} {D U : Nat} {many : Int} {G : Obj → List (Addr × Obj)} {P : Tok → Obj → Prop} (H : Does w f news vs D U (fun r news' => Ex4 fun v t tk' o' => r = .int v t ∧ 0 ≤ v ∧ v < many ∧ news' = G o' ∧ P tk' o'))
    {mean : ExcName → Option Value} {mg mb : Str → Option Value} {dp un : Nat} {gd : Option (List Code)} {cn : Str} {cs : Scope} {a : Addr} {ccd : Value} {cl : List (Str × Addr)} {outer : List Env} {A₀ : Around} {base h₀ : Heap} {L : Addr} {m : Str → Option Value} {s : Shared} {Q E : Value → Shared → Prop}
    (B : Below A₀ base outer h₀) (F : Fr h₀ L s.heap m) (X : (Mine.hd.heap_39 w.params).In h₀) (N : News h₀ L s.heap news) (T : Top Mine.hd.view_39 (looseW Mine.hd.view_39 [Str.ofString "has_domains"]) mean mg mb h₀) (hk : cs.kind = .function)
    (hd : dp + D < recursionLimit) (hu : un + U < cLine)
    (ret : ∀ h' tk', Fr h₀ L h' m → ∀ v t k o, P k o → News h₀ L h' (G o) → 0 ≤ v → v < many → Q (.int v t) { s with heap := h', toks := tk' }) :
      wpAny (model PySem.Challenge.rw_nz0015_01.row.prog w) (ktrTop dp un gd cn cs L a ccd cl outer) (call (.ref f) vs) Q E s :=
  H mean mg mb dp un gd cn cs a ccd cl outer A₀ base h₀ L m s Q E B F X N T hk hd hu fun _ _ h' tk' ⟨v, t, k, o, e1, a1, a2, e2, p⟩ F N => by subst e1 e2; exact ret h' tk' F v t k o p N a1 a2
theorem Does.useP {w : World} {f : Addr} {news : List (Addr × Obj)} {vs : List Value} {D U : Nat} {G : List (Addr × Obj) → List Value → Nat → List (Addr × Obj)} {P : List (Addr × Obj) → List Value → Nat → Prop} (H : Does w f news vs D U (fun r news' => r = .none ∧ Ex3 fun tl vs' n' => news' = G tl vs' n' ∧ P tl vs' n'))
    {mean : ExcName → Option Value} {mg mb : Str → Option Value} {dp un : Nat} {gd : Option (List Code)} {cn : Str} {cs : Scope} {a : Addr} {ccd : Value} {cl : List (Str × Addr)} {outer : List Env} {A₀ : Around} {base h₀ : Heap} {L : Addr} {m : Str → Option Value} {s : Shared} {Q E : Value → Shared → Prop}
    (B : Below A₀ base outer h₀) (F : Fr h₀ L s.heap m) (X : (Mine.hd.heap_39 w.params).In h₀) (N : News h₀ L s.heap news) (T : Top Mine.hd.view_39 (looseW Mine.hd.view_39 [Str.ofString "has_domains"]) mean mg mb h₀) (hk : cs.kind = .function)
    (hd : dp + D < recursionLimit) (hu : un + U < cLine)
    (ret : ∀ h' tk', Fr h₀ L h' m → ∀ tl vs' n', P tl vs' n' → News h₀ L h' (G tl vs' n') → Q .none { s with heap := h', toks := tk' }) :
      wpAny (model PySem.Challenge.rw_nz0015_01.row.prog w) (ktrTop dp un gd cn cs L a ccd cl outer) (call (.ref f) vs) Q E s :=
  H mean mg mb dp un gd cn cs a ccd cl outer A₀ base h₀ L m s Q E B F X N T hk hd hu fun _ _ h' tk' ⟨e1, tl, vs', n', e2, p⟩ F N => by subst e1 e2; exact ret h' tk' F tl vs' n' p N
theorem Does.useX4 {w : World} {f : Addr} {news : List (Addr × Obj)} {vs : List Value} {D U : Nat} {rest : List (Addr × Obj)} {α β : Type} {P : Addr → List (Addr × Obj) → α → β → Prop} (H : Does w f news vs D U (fun r news' => Ex4 fun a tl x y => r = .ref a ∧ news' = tl ++ rest ∧ P a tl x y))
    {mean : ExcName → Option Value} {mg mb : Str → Option Value} {dp un : Nat} {gd : Option (List Code)} {cn : Str} {cs : Scope} {a : Addr} {ccd : Value} {cl : List (Str × Addr)} {outer : List Env} {A₀ : Around} {base h₀ : Heap} {L : Addr} {m : Str → Option Value} {s : Shared} {Q E : Value → Shared → Prop}
    (B : Below A₀ base outer h₀) (F : Fr h₀ L s.heap m) (X : (Mine.hd.heap_39 w.params).In h₀) (N : News h₀ L s.heap news) (T : Top Mine.hd.view_39 (looseW Mine.hd.view_39 [Str.ofString "has_domains"]) mean mg mb h₀) (hk : cs.kind = .function)
    (hd : dp + D < recursionLimit) (hu : un + U < cLine)
    (ret : ∀ h' tk', Fr h₀ L h' m → ∀ a tl x y, P a tl x y → News h₀ L h' (tl ++ rest) → Q (.ref a) { s with heap := h', toks := tk' }) :
      wpAny (model PySem.Challenge.rw_nz0015_01.row.prog w) (ktrTop dp un gd cn cs L a ccd cl outer) (call (.ref f) vs) Q E s :=
  H mean mg mb dp un gd cn cs a ccd cl outer A₀ base h₀ L m s Q E B F X N T hk hd hu fun _ _ h' tk' ⟨a, tl, x, y, e1, e2, p⟩ F N => by subst e1 e2; exact ret h' tk' F a tl x y p N
theorem Does.useO {w : World} {f : Addr} {news : List (Addr × Obj)} {vs : List Value} {D U : Nat} {v : Value} {G : List (Addr × Obj) → List (Addr × Obj)} {P : List (Addr × Obj) → Prop} (H : Does w f news vs D U (fun r news' => r = v ∧ ∃ nw', news' = G nw' ∧ P nw'))
    {mean : ExcName → Option Value} {mg mb : Str → Option Value} {dp un : Nat} {gd : Option (List Code)} {cn : Str} {cs : Scope} {a : Addr} {ccd : Value} {cl : List (Str × Addr)} {outer : List Env} {A₀ : Around} {base h₀ : Heap} {L : Addr} {m : Str → Option Value} {s : Shared} {Q E : Value → Shared → Prop}
    (B : Below A₀ base outer h₀) (F : Fr h₀ L s.heap m) (X : (Mine.hd.heap_39 w.params).In h₀) (N : News h₀ L s.heap news) (T : Top Mine.hd.view_39 (looseW Mine.hd.view_39 [Str.ofString "has_domains"]) mean mg mb h₀) (hk : cs.kind = .function)
    (hd : dp + D < recursionLimit) (hu : un + U < cLine)
    (ret : ∀ h' tk', Fr h₀ L h' m → ∀ nw', P nw' → News h₀ L h' (G nw') → Q v { s with heap := h', toks := tk' }) :
      wpAny (model PySem.Challenge.rw_nz0015_01.row.prog w) (ktrTop dp un gd cn cs L a ccd cl outer) (call (.ref f) vs) Q E s :=
  H mean mg mb dp un gd cn cs a ccd cl outer A₀ base h₀ L m s Q E B F X N T hk hd hu fun _ _ h' tk' ⟨e1, nw', e2, p⟩ F N => by subst e1 e2; exact ret h' tk' F nw' p N
theorem Does.useO2 {w : World} {f : Addr} {news : List (Addr × Obj)} {vs : List Value} {D U : Nat} {α : Type} {G : List (Addr × Obj) → List (Addr × Obj)} {P : Value → List (Addr × Obj) → α → Prop} (H : Does w f news vs D U (fun r news' => ∃ nw' R', news' = G nw' ∧ P r nw' R'))
    {mean : ExcName → Option Value} {mg mb : Str → Option Value} {dp un : Nat} {gd : Option (List Code)} {cn : Str} {cs : Scope} {a : Addr} {ccd : Value} {cl : List (Str × Addr)} {outer : List Env} {A₀ : Around} {base h₀ : Heap} {L : Addr} {m : Str → Option Value} {s : Shared} {Q E : Value → Shared → Prop}
    (B : Below A₀ base outer h₀) (F : Fr h₀ L s.heap m) (X : (Mine.hd.heap_39 w.params).In h₀) (N : News h₀ L s.heap news) (T : Top Mine.hd.view_39 (looseW Mine.hd.view_39 [Str.ofString "has_domains"]) mean mg mb h₀) (hk : cs.kind = .function)
    (hd : dp + D < recursionLimit) (hu : un + U < cLine)
    (ret : ∀ r h' tk', Fr h₀ L h' m → ∀ nw' R', P r nw' R' → News h₀ L h' (G nw') → Q r { s with heap := h', toks := tk' }) :
      wpAny (model PySem.Challenge.rw_nz0015_01.row.prog w) (ktrTop dp un gd cn cs L a ccd cl outer) (call (.ref f) vs) Q E s :=
  H mean mg mb dp un gd cn cs a ccd cl outer A₀ base h₀ L m s Q E B F X N T hk hd hu fun r _ h' tk' ⟨nw', R', e2, p⟩ F N => by subst e2; exact ret r h' tk' F nw' R' p N
theorem Does.useV {w : World} {f : Addr} {news : List (Addr × Obj)} {vs : List Value} {D U : Nat} {α β : Type} {G : α → β → List (Addr × Obj)} (H : Does w f news vs D U (fun _ news' => ∃ x y, news' = G x y))
    {mean : ExcName → Option Value} {mg mb : Str → Option Value} {dp un : Nat} {gd : Option (List Code)} {cn : Str} {cs : Scope} {a : Addr} {ccd : Value} {cl : List (Str × Addr)} {outer : List Env} {A₀ : Around} {base h₀ : Heap} {L : Addr} {m : Str → Option Value} {s : Shared} {Q E : Value → Shared → Prop}
    (B : Below A₀ base outer h₀) (F : Fr h₀ L s.heap m) (X : (Mine.hd.heap_39 w.params).In h₀) (N : News h₀ L s.heap news) (T : Top Mine.hd.view_39 (looseW Mine.hd.view_39 [Str.ofString "has_domains"]) mean mg mb h₀) (hk : cs.kind = .function)
    (hd : dp + D < recursionLimit) (hu : un + U < cLine)
    (ret : ∀ r h' tk', Fr h₀ L h' m → ∀ x y, News h₀ L h' (G x y) → Q r { s with heap := h', toks := tk' }) :
      wpAny (model PySem.Challenge.rw_nz0015_01.row.prog w) (ktrTop dp un gd cn cs L a ccd cl outer) (call (.ref f) vs) Q E s :=
  H mean mg mb dp un gd cn cs a ccd cl outer A₀ base h₀ L m s Q E B F X N T hk hd hu fun r _ h' tk' ⟨x, y, e2⟩ F N => by subst e2; exact ret r h' tk' F x y N
section
variable {prog : Program} {w : World} {A : Around} {E : Value → Shared → Prop} {s : Shared} {h₀ : Heap} {L : Addr} {news : List (Addr × Obj)}

theorem isTup_of (N : News h₀ L s.heap news) {a : Addr} {vs : List Value} {n : Nat} (hm : (a, tupO vs n) ∈ news) : IsTup s.heap a vs.toArray := ⟨_, (N _ hm).1, rfl, n, rfl⟩
theorem isList_of (N : News h₀ L s.heap news) {a : Addr} {vs : List Value} {n : Nat} (hm : (a, listOf vs.toArray n) ∈ news) : s.heap.IsList a vs.toArray := ⟨_, (N _ hm).1, rfl, n, rfl⟩

theorem len_tupN {a : Addr} {vs : List Value} {n : Nat} {Q : Value → Shared → Prop} (N : News h₀ L s.heap news) (hm : (a, tupO vs n) ∈ news) (hz : vs.length ≤ 100000) (h : Q (.int (vs.length : Nat) (s.toks + 1)) { s with toks := s.toks + 1 + 1 }) : wpAny (model prog w) A (call (.builtin "len") [.ref a]) Q E s :=
  len_tuple (isTup_of N hm) (by rw [List.size_toArray]; lia) (by rw [List.size_toArray]; exact h)
theorem len_listN {a : Addr} {vs : List Value} {n : Nat} {Q : Value → Shared → Prop} (N : News h₀ L s.heap news) (hm : (a, listOf vs.toArray n) ∈ news) (hz : vs.length ≤ 100000) (h : Q (.int (vs.length : Nat) (s.toks + 1)) { s with toks := s.toks + 1 + 1 }) : wpAny (model prog w) A (call (.builtin "len") [.ref a]) Q E s :=
  Calls.call_len_list (isList_of N hm) (by rw [List.size_toArray]; lia) (by rw [List.size_toArray]; exact h)
theorem allNe_of {d : Addr} : ∀ {l : List (Addr × Obj)}, AllLt d l → ∀ p ∈ l, p.1 ≠ d := fun h p hp => Nat.ne_of_lt (ktn_ltOf h p hp)
theorem seqIdx_nn {k : Int} {l : Nat} (h0 : 0 ≤ k) (h1 : k.toNat < l) : seqIndex? k l = some k.toNat := by
  unfold seqIndex?
  have e : ¬ k < 0 := by lia
  simp only [e, if_false]
  have : 0 ≤ k ∧ k < (l : Int) := ⟨h0, by lia⟩
  simp [this]
theorem seqIdx_neg {k : Int} {l : Nat} (h0 : k < 0) (h1 : 0 ≤ k + l) : seqIndex? k l = some (k + l).toNat := by
  unfold seqIndex?
  simp only [h0, if_true]
  have : 0 ≤ k + (l : Int) ∧ k + (l : Int) < (l : Int) := ⟨h1, by lia⟩
  simp [this]

theorem sub_tup {value slice : PySem.Expr} {a : Addr} {vs : List Value} {n : Nat} {k : Int} {u : Tok} {v : Value} {Q : Value → Shared → Prop} (N : News h₀ L s.heap news) (hm : (a, tupO vs n) ∈ news)
    (h0 : 0 ≤ k) (hk : k < 2 ^ 63) (hx : vs[k.toNat]? = some v) (h : Q v s)
    (hs : subscripted slice false (.ref a) (.int k u) = operate [.ref a, .int k u] (getItem (.ref a) (.int k u)) := by with_unfolding_all rfl) :
    wpAny (model prog w) A (subscriptTail value slice (.ref a) (.int k u)) Q E s :=
  item_tupleT (isTup_of N hm) (by lia) hk (seqIdx_nn h0 (by obtain ⟨h, _⟩ := List.getElem?_eq_some_iff.mp hx; exact h)) hx h hs
theorem sub_tup_neg {value slice : PySem.Expr} {a : Addr} {vs : List Value} {n : Nat} {k : Int} {u : Tok} {v : Value} {Q : Value → Shared → Prop} (N : News h₀ L s.heap news) (hm : (a, tupO vs n) ∈ news)
    (h0 : k < 0) (hk : 0 ≤ k + (vs.length : Nat)) (hl : -(2 ^ 63) ≤ k) (hx : vs[(k + (vs.length : Nat)).toNat]? = some v) (h : Q v s)
    (hs : subscripted slice false (.ref a) (.int k u) = operate [.ref a, .int k u] (getItem (.ref a) (.int k u)) := by with_unfolding_all rfl) :
    wpAny (model prog w) A (subscriptTail value slice (.ref a) (.int k u)) Q E s :=
  item_tupleT (isTup_of N hm) hl (by lia) (seqIdx_neg h0 hk) hx h hs
theorem sub_list {value slice : PySem.Expr} {a : Addr} {vs : List Value} {n : Nat} {k : Int} {u : Tok} {v : Value} {Q : Value → Shared → Prop} (N : News h₀ L s.heap news) (hm : (a, listOf vs.toArray n) ∈ news)
    (h0 : 0 ≤ k) (hk : k < 2 ^ 63) (hx : vs[k.toNat]? = some v) (h : Q v s)
    (hs : subscripted slice false (.ref a) (.int k u) = operate [.ref a, .int k u] (getItem (.ref a) (.int k u)) := by with_unfolding_all rfl) :
    wpAny (model prog w) A (subscriptTail value slice (.ref a) (.int k u)) Q E s :=
  have hL := isList_of N hm
  tail_any hL.typeIs slot_list_getitem.lookup (wpAny_getItem_list hL h0 hk (by simpa using hx) h) hs
end

/-- pairs of ints, each a tuple of the ledger -/
def PairsIn (news : List (Addr × Obj)) : List Value → List (Int × Int) → Prop
  | [], [] => True
  | v :: vs, p :: ps => (Ex4 fun b t1 t2 n => v = .ref b ∧ (b, tupO [.int p.1 t1, .int p.2 t2] n) ∈ news) ∧ PairsIn news vs ps
  | _, _ => False
theorem PairsIn.mono {news news' : List (Addr × Obj)} (h : ∀ p ∈ news, p ∈ news') : ∀ {vs : List Value} {ps : List (Int × Int)}, PairsIn news vs ps → PairsIn news' vs ps
  | [], [], _ => trivial
  | [], _ :: _, x => x.elim
  | _ :: _, [], x => x.elim
  | _ :: _, _ :: _, ⟨⟨b, t1, t2, n, e, hm⟩, r⟩ => ⟨⟨b, t1, t2, n, e, h _ hm⟩, r.mono h⟩
theorem PairsIn.length {news : List (Addr × Obj)} : ∀ {vs : List Value} {ps : List (Int × Int)}, PairsIn news vs ps → vs.length = ps.length
  | [], [], _ => rfl
  | [], _ :: _, x => x.elim
  | _ :: _, [], x => x.elim
  | _ :: _, _ :: _, ⟨_, r⟩ => by simp [r.length]
theorem PairsIn.snoc {news : List (Addr × Obj)} {p : Int × Int} {b : Addr} {t1 t2 : Tok} {n : Nat} (hb : (b, tupO [.int p.1 t1, .int p.2 t2] n) ∈ news) : ∀ {vs : List Value} {ps : List (Int × Int)}, PairsIn news vs ps → PairsIn news (vs ++ [.ref b]) (ps ++ [p])
  | [], [], _ => ⟨⟨b, t1, t2, n, rfl, hb⟩, trivial⟩
  | [], _ :: _, x => x.elim
  | _ :: _, [], x => x.elim
  | _ :: _, _ :: _, ⟨h, r⟩ => ⟨h, r.snoc hb⟩
theorem PairsIn.append {news : List (Addr × Obj)} : ∀ {vs us : List Value} {ps qs : List (Int × Int)}, PairsIn news vs ps → PairsIn news us qs → PairsIn news (vs ++ us) (ps ++ qs)
  | [], _, [], _, _, y => y
  | [], _, _ :: _, _, x, _ => x.elim
  | _ :: _, _, [], _, x, _ => x.elim
  | _ :: _, _, _ :: _, _, ⟨h, r⟩, y => ⟨h, r.append y⟩
theorem PairsIn.get {news : List (Addr × Obj)} : ∀ {vs : List Value} {ps : List (Int × Int)} {i : Nat} {v : Value}, PairsIn news vs ps → vs[i]? = some v → Ex5 fun p b t1 t2 n => ps[i]? = some p ∧ v = .ref b ∧ (b, tupO [.int p.1 t1, .int p.2 t2] n) ∈ news
  | [], [], _, _, _, h => by simp at h
  | [], _ :: _, _, _, x, _ => x.elim
  | _ :: _, [], _, _, x, _ => x.elim
  | _ :: _, p :: _, 0, _, ⟨⟨b, t1, t2, n, e, hb⟩, _⟩, h => by
    simp at h; subst h; exact ⟨p, b, t1, t2, n, rfl, e, hb⟩
  | _ :: _, _ :: _, i + 1, _, ⟨_, r⟩, h => by
    simp at h; obtain ⟨q, b, t1, t2, n, e, z⟩ := r.get h; exact ⟨q, b, t1, t2, n, by simpa using e, z⟩
/-- a domain: a tuple of such pairs -/
def DomIn (news : List (Addr × Obj)) (a : Addr) (ps : List (Int × Int)) : Prop := ∃ vs n, (a, tupO vs n) ∈ news ∧ PairsIn news vs ps
theorem DomIn.mono {news news' : List (Addr × Obj)} {a : Addr} {ps : List (Int × Int)} (x : DomIn news a ps) (h : ∀ p ∈ news, p ∈ news') : DomIn news' a ps :=
  let ⟨vs, n, hm, hp⟩ := x; ⟨vs, n, h _ hm, hp.mono h⟩

section
variable {prog : Program} {w : World} {A : Around} {E : Value → Shared → Prop} {env : Env} {h₀ : Heap} {target : PySem.Expr} {body : List Stmt} {Q : Flow → Shared → Prop} {s : Shared} {ws : List (Addr × String)} {keep : List (Addr × Obj)}
theorem items_ind (J : List Value → (Str → Option Value) → List (Addr × Obj) → Prop)
    (nil : ∀ m news, J [] m news → ItemsRest prog w A E h₀ env target body Q s ws keep [] m news)
    (cons : ∀ v l m news, J (v :: l) m news → (∀ m' news', J l m' news' → ItemsRest prog w A E h₀ env target body Q s ws keep (l.map .val) m' news') → ItemsRest prog w A E h₀ env target body Q s ws keep (.val v :: l.map .val) m news) :
    ∀ l m news, J l m news → ItemsRest prog w A E h₀ env target body Q s ws keep (l.map .val) m news
  | [], m, news, h => nil m news h
  | v :: l, m, news, h => cons v l m news h (items_ind J nil cons l)
end

theorem forget {h₀ h : Heap} {L : Addr} {m m₀ : Str → Option Value} (xs : List Str) (F : Fr h₀ L h m) (hm : ∀ z, xs.contains z = false → m z = m₀ z) : Fr h₀ L h (fun z => if xs.contains z = true then m z else m₀ z) := by
  have e : (fun z => if xs.contains z = true then m z else m₀ z) = m := by
    funext z
    cases h : xs.contains z with
    | true => simp
    | false => simp only [Bool.false_eq_true, if_false]; exact (hm z h).symm
  rw [e]; exact F

theorem turn_end {h₀ h' : Heap} {L I : Addr} {o : Obj} {news' all : List (Addr × Obj)} {rest : (Str → Option Value) → List (Addr × Obj) → Prop} {s₁ : Shared} {tk : Nat} {m' : Str → Option Value} (F : Fr h₀ L h' m') (N : News h₀ L h' all)
    (hI : (I, o) ∈ all) (sub : ∀ p ∈ news', p ∈ all) (off : ∀ p ∈ news', p.1 ≠ I) (k : rest m' news') : UnrEndW h₀ L s₁ [(I, o)] rest { s₁ with heap := h', toks := tk } :=
  ⟨h', tk, m', news', rfl, F, fun p hp => by
    rcases List.mem_append.mp hp with hp | hp
    · rw [List.mem_singleton.mp hp]; exact N _ hI
    · exact N _ (sub p hp), fun p hp q hq e => by rw [List.mem_singleton.mp hq] at e; exact off p hp e, k⟩

theorem dom_add {prog : Program} {w : World} {A : Around} {E : Value → Shared → Prop} {s : Shared} {h₀ : Heap} {L : Addr} {m : Str → Option Value} {news : List (Addr × Obj)} {a b : Addr} {ps qs : List (Int × Int)} {Q : Value → Shared → Prop}
    (F : Fr h₀ L s.heap m) (N : News h₀ L s.heap news) (ha : DomIn news a ps) (hb : DomIn news b qs) (hz : ps.length + qs.length ≤ 1000)
    (h : ∀ c tl h', Fr h₀ L h' m → News h₀ L h' (tl ++ news) → DomIn (tl ++ news) c (ps ++ qs) → Q (.ref c) { s with heap := h' }) : wpAny (model prog w) A (binaryOp .Add (.ref a) (.ref b)) Q E s := by
  obtain ⟨vs, n, hva, hpa⟩ := ha
  obtain ⟨us, n', hub, hqb⟩ := hb
  have e1 := hpa.length
  have e2 := hqb.length
  refine add_tuples F N (isTup_of N hva) (isTup_of N hub) (fun h0 => ?_) (fun _ h0 => ?_) (fun _ _ h' F' N' => ?_) (by rw [sizeLine_eq]; lia)
  · subst h0
    match ps, hpa with
    | [], _ => exact h b [] s.heap F N ⟨us, n', hub, hqb⟩
  · subst h0
    match qs, hqb with
    | [], _ => exact h a [] s.heap F N ⟨vs, n, hva, by rw [List.append_nil]; exact hpa⟩
  · exact h _ [_] h' F' N' ⟨_, _, .head _, (hpa.append hqb).mono fun p hp => .tail _ hp⟩
theorem put {h₀ h : Heap} {L : Addr} {m : Str → Option Value} {x : Str} {v : Value} (F : Fr h₀ L h m) (e : m x = some v) : Fr h₀ L h (fun z => if z = x then some v else m z) := by
  have q : (fun z => if z = x then some v else m z) = m := by
    funext z
    by_cases h : z = x
    · rw [if_pos h, h, e]
    · rw [if_neg h]
  rw [q]; exact F

def over : List (Str × Value) → (Str → Option Value) → Str → Option Value
  | [], m, z => m z
  | p :: r, m, z => if z = p.1 then some p.2 else over r m z
def Hes (m : Str → Option Value) : List (Str × Value) → Prop
  | [] => True
  | p :: r => m p.1 = some p.2 ∧ Hes m r
theorem over_eq {m : Str → Option Value} : ∀ {es : List (Str × Value)}, Hes m es → over es m = m
  | [], _ => rfl
  | p :: r, h => by
    funext z
    show (if z = p.1 then some p.2 else over r m z) = m z
    rw [over_eq h.2]
    by_cases e : z = p.1
    · rw [if_pos e, e, h.1]
    · rw [if_neg e]
theorem overs {h₀ h : Heap} {L : Addr} {m m₀ : Str → Option Value} (F : Fr h₀ L h m) (xs : List Str) (hm : ∀ z, xs.contains z = false → m z = m₀ z) (es : List (Str × Value)) (he : Hes m es) : Fr h₀ L h (over es fun z => if xs.contains z = true then m z else m₀ z) := by
  have e : (fun z => if xs.contains z = true then m z else m₀ z) = m := by
    funext z
    cases h : xs.contains z with
    | true => simp
    | false => simp only [Bool.false_eq_true, if_false]; exact (hm z h).symm
  rw [e, over_eq he]; exact F

section
variable {prog : Program} {w : World} {A : Around} {E : Value → Shared → Prop} {env : Env} {test : PySem.Expr} {body orelse : List Stmt} {Q : Flow → Shared → Prop}
/-- a while at its head -/
def Loop (prog : Program) (w : World) (A : Around) (E : Value → Shared → Prop) (env : Env) (test : PySem.Expr) (body orelse : List Stmt) (Q : Flow → Shared → Prop) (s : Shared) : Prop := WhlRest prog w A E env test body orelse Q 0 s
theorem Loop.start {pos : Pos} {s : Shared} (h : Loop prog w A E env test body orelse Q s) : wpAny (model prog w) A (exec (.While test body orelse pos) env) Q E s := whl_start 0 h
def LoopPost (Q : Flow → Shared → Prop) (I : Nat → Shared → Prop) (n : Nat) (f : Flow) (s : Shared) : Prop := match f with
  | .ret v => Q (.ret v) s
  | .brk => Q .next s
  | _ => ∃ k, k < n ∧ I k s
theorem Loop.ind (hE : PassesOwn (model prog w) A env E) (I : Nat → Shared → Prop)
    (step : ∀ n s, I n s → wpAny (model prog w) A (isTrue test env (eval test env)) (fun b s₂ => if b = true then wpAny (model prog w) A (execs body env) (LoopPost Q I n) E s₂ else wpAny (model prog w) A (execs orelse env) Q E s₂) E s) :
    ∀ n s, I n s → Loop prog w A E env test body orelse Q s := by
  intro n
  induction n using Nat.strongRecOn with
  | ind n ih =>
    intro s hI
    refine whl_turn (k := 0) hE (wpAny_mono (step n s hI) (fun b s₂ h₂ => ?_) fun _ _ e => e)
    cases b with
    | false => exact WhlIf.no rfl h₂
    | true =>
      refine WhlIf.yes rfl (wpAny_mono h₂ (fun f s₃ h₃ => ?_) fun _ _ e => e)
      cases f with
      | next => obtain ⟨k, hk, hI'⟩ := h₃; exact ih k hk s₃ hI'
      | cont => obtain ⟨k, hk, hI'⟩ := h₃; exact ih k hk s₃ hI'
      | brk => exact h₃
      | ret v => exact h₃
end
theorem perm_b {h₀ h : Heap} {L : Addr} {q x d : Addr × Obj} {l : List (Addr × Obj)} (N : News h₀ L h (q :: x :: d :: l)) : News h₀ L h (d :: q :: l) := fun p hp => N p (by
  simp only [List.mem_cons] at hp ⊢
  rcases hp with h | h | h <;> simp [h])
theorem ne_cons {d : Addr} {q : Addr × Obj} {l : List (Addr × Obj)} (h : q.1 ≠ d) (hl : ∀ p ∈ l, p.1 ≠ d) : ∀ p ∈ q :: l, p.1 ≠ d := fun p hp => by
  rcases List.mem_cons.mp hp with rfl | hp
  · exact h
  · exact hl p hp
theorem drop_c {h₀ h : Heap} {L : Addr} {q x : Addr × Obj} {tl rest : List (Addr × Obj)} (N : News h₀ L h (q :: x :: (tl ++ rest))) : News h₀ L h ((q :: tl) ++ rest) := fun p hp => N p (by
  simp only [List.cons_append, List.mem_cons, List.mem_append] at hp ⊢
  rcases hp with h | h | h <;> simp [h])
theorem drop_h {h₀ h : Heap} {L : Addr} {q : Addr × Obj} {l : List (Addr × Obj)} (N : News h₀ L h (q :: l)) : News h₀ L h l := fun p hp => N p (.tail _ hp)
theorem drop_b {h₀ h : Heap} {L : Addr} {tl tl2 rest : List (Addr × Obj)} (N : News h₀ L h (tl ++ (tl2 ++ rest))) : News h₀ L h ((tl ++ tl2) ++ rest) := by rw [List.append_assoc]; exact N
theorem drop_a {h₀ h : Heap} {L : Addr} {q x c : Addr × Obj} {tl rest : List (Addr × Obj)} (N : News h₀ L h (q :: x :: (tl ++ c :: rest))) : News h₀ L h ((q :: tl) ++ rest) := fun p hp => N p (by
  simp only [List.cons_append, List.mem_cons, List.mem_append] at hp ⊢
  rcases hp with h | h | h <;> simp [h])

def nextFrom : List (Int × Int) → Int → Option Int
  | [], _ => none
  | p :: r, v => if v ≤ p.2 then some (max p.1 v) else nextFrom r v
def OptIs : Option Int → Value → Prop
  | none, r => r = .none
  | some k, r => ∃ t, r = .int k t
end
section
open PyProof.Rows.LCg

section
variable {prog : Program} {w : World} {A : Around} {E : Value → Shared → Prop} {R : Result → Shared → Prop} {s : Shared}

abbrev tests (ifs : List PySem.Expr) (env : Env) : Sem Bool := forIn ifs true fun c r => if r = true then do let ok ← isTrue c env (eval c env); pure (ForInStep.yield ok) else pure (ForInStep.yield r)

/-- a turn of a comprehension: the target, the tests, the element -/
def TurnGo (prog : Program) (w : World) (A : Around) (elt target : PySem.Expr) (ifs : List PySem.Expr) (cenv : Env) (v : Value) (E K1 : Value → Shared → Prop) (K0 : Shared → Prop) (s : Shared) : Prop :=
  wpAny (model prog w) A (assign target cenv v) (fun _ s₂ => wpAny (model prog w) A (tests ifs cenv) (fun ok s₃ => if ok = true then wpAny (model prog w) A (eval elt cenv) K1 E s₃ else K0 s₃) E s₂) E s
theorem TurnGo.mono {elt target : PySem.Expr} {ifs : List PySem.Expr} {cenv : Env} {v : Value} {K1 K1' : Value → Shared → Prop} {K0 K0' : Shared → Prop} (h : TurnGo prog w A elt target ifs cenv v E K1 K0 s) (h1 : ∀ x s, K1 x s → K1' x s) (h0 : ∀ s, K0 s → K0' s) : TurnGo prog w A elt target ifs cenv v E K1' K0' s :=
  wpAny_mono h (fun _ _ h₂ => wpAny_mono h₂ (fun ok s₃ h₃ => match ok, h₃ with
    | false, h₃ => h0 _ h₃
    | true, h₃ => wpAny_mono h₃ h1 fun _ _ e => e) fun _ _ e => e) fun _ _ e => e

theorem compLoop_K {elt target iter : PySem.Expr} {ifs : List PySem.Expr} {scope : Scope} {pos : Pos} {it acc : Value} {env : Env} (I : Nat → Shared → Prop) (E₁ : Value → Shared → Prop) (hE : E₁ = notedBy (model prog w) A env fun e s' => R (.error e) s')
    (turn : ∀ n s, I n s → wpAny (model prog w) A (pyNext it) (fun r s₁ => match r with
      | none => R (.ok .next) s₁
      | some v => wpAny (model prog w) A (letOwnedTupleGo target it v) (fun _ => TurnGo prog w A elt target ifs env v E₁ (fun x => wpAny (model prog w) A (call (.builtin "list.append") [acc, x]) (fun _ s₅ => ∃ m, m < n ∧ I m s₅) E₁) (fun s₃ => ∃ m, m < n ∧ I m s₃)) E₁ s₁) E₁ s)
    (n : Nat) (h : I n s) :
    codeAny (model prog w) A (.compLoop (.ListComp elt [⟨target, iter, ifs, 0⟩] scope pos) 0 it acc env) R s := by
  refine codeAny_loop rfl I (fun n s hI => ?_) n h
  show wpAny _ A ((compTurn (.ListComp elt [⟨target, iter, ifs, 0⟩] scope pos) 0 it acc env).onRaise (fun x => do noteFrame x env; theTreesLotGoes x)) _ _ s
  refine wpAny_noted ?_
  rw [compTurn_list, ← hE]
  refine wpAny_bind (wpAny_standAt (wpAny_bind (wpAny_mono (turn n s hI) (fun r s₁ h₁ => ?_) fun _ _ h' => h')))
  cases r with
  | none => exact wpAny_pure h₁
  | some v =>
    refine wpAny_bind (wpAny_mono h₁ (fun _ s₁' h₁' => ?_) fun _ _ h' => h')
    refine wpAny_bind (wpAny_mono h₁' (fun _ s₂ h₂ => wpAny_bind (wpAny_mono h₂ (fun ok s₃ h₃ => ?_) fun _ _ h' => h')) fun _ _ h' => h')
    cases ok with
    | false => exact wpAny_pure ⟨rfl, h₃⟩
    | true =>
      exact wpAny_bind (wpAny_bind (wpAny_mono h₃ (fun x s₄ h₄ => wpAny_bind (wpAny_mono h₄ (fun _ s₅ h₅ => wpAny_pure (wpAny_pure ⟨rfl, h₅⟩)) fun _ _ h' => h')) fun _ _ h' => h'))

/-- what stands at the end of a comprehension's turn; `Dr`: what is known of the orders drawn -/
inductive TurnOkD (Dr : Drawn → Prop) (h₀ : Heap) (L : Addr) (m : Str → Option Value) (gs : Array GenState) (os : OsState) (I : Addr) (oI : Obj) (C D : Addr) (oD : Obj) (rest : List (Addr × Obj) → Prop) : Shared → Prop
  | mk (h' : Heap) (tk : Nat) (d : Drawn) (news' : List (Addr × Obj)) (oC' : Obj) (m' : Str → Option Value) (hd : Dr d) (F : Fr h₀ L h' m) (N : News h₀ L h' ((I, oI) :: (C, oC') :: (D, oD) :: news')) (hC : NsObj oC' m') (off : Off3 I C D news') (r : rest news') : TurnOkD Dr h₀ L m gs os I oI C D oD rest { heap := h', gens := gs, drawn := d, toks := tk, os := os }
def TurnOk (h₀ : Heap) (L : Addr) (m : Str → Option Value) (s₁ : Shared) (I : Addr) (oI : Obj) (C D : Addr) (oD : Obj) (rest : List (Addr × Obj) → Prop) (s₂ : Shared) : Prop := TurnOkD (fun d => d = s₁.drawn) h₀ L m s₁.gens s₁.os I oI C D oD rest s₂
def TurnOkX (h₀ : Heap) (L : Addr) (m : Str → Option Value) (s₁ : Shared) (I : Addr) (oI : Obj) (C D : Addr) (oD : Obj) (rest : List (Addr × Obj) → Prop) (s₂ : Shared) : Prop := TurnOkD (fun _ => True) h₀ L m s₁.gens s₁.os I oI C D oD rest s₂

/-- what stands ahead of a turn -/
inductive LoopAt (Dr : Drawn → Prop) (h₀ : Heap) (L : Addr) (m : Str → Option Value) (s : Shared) (I C D : Addr) (n : Nat) (St : Nat → Heap → Prop) (J : Nat → List Value → List (Addr × Obj) → Prop) : Nat → Shared → Prop
  | mk (h' : Heap) (tk : Nat) (d : Drawn) (i : Nat) (ys : List Value) (m' : Str → Option Value) (news' : List (Addr × Obj)) (hd : Dr d) (hi : i ≤ n) (hyl : ys.length ≤ i) (hst : St i h') (F : Fr h₀ L h' m) (hn : h'.Ns C m') (N : News h₀ L h' ((D, lst ys) :: news')) (off : Off3 I C D news') (hJ : J i ys news') : LoopAt Dr h₀ L m s I C D n St J (n + 1 - i) { s with heap := h', toks := tk, drawn := d }

variable {h₀ : Heap} {L : Addr} {m : Str → Option Value}
theorem off3_ne {I C D : Addr} {l : List (Addr × Obj)} (x : Off3 I C D l) : ∀ p ∈ l, p.1 ≠ I ∧ p.1 ≠ C ∧ p.1 ≠ D := fun p hp => Off3.mem x p hp
theorem news_cons {h : Heap} {q : Addr × Obj} {l : List (Addr × Obj)} (h1 : h.get? q.1 = some q.2) (h2 : q.1 ≠ L) (h3 : h₀.get? q.1 = none) (N : News h₀ L h l) : News h₀ L h (q :: l) := all_cons ⟨h1, h2, h3⟩ N

theorem comp_loopD {elt target iter : PySem.Expr} {ifs : List PySem.Expr} {scope : Scope} {pos : Pos} {cenv : Env} {I D : Addr} {fp : List Addr} {n : Nat} {P : Nat → Value → Prop} {Md : Nat → Value → Heap → Prop} {St : Nat → Heap → Prop} {Dr : Drawn → Prop}
    {news : List (Addr × Obj)} {m₀ : Str → Option Value} (W : KTurns prog w A target I fp [I] n (fun i v _ => P i v) Md St) (hsz : n ≤ sizeLine)
    (hIo : ∀ i h, St i h → ∃ o, h.get? I = some o)
    (S : List (Addr × Obj) → Prop) (hSt : ∀ i h h' o nw, St i h → h.get? I = some o → h'.get? I = some o → (∀ b o, h₀.get? b = some o → h'.get? b = some o) → News h₀ L h' nw → S nw → St i h')
    (hIC : I ≠ cenv.locals) (hID : I ≠ D) (hCD : cenv.locals ≠ D) (hIL : L ≠ I) (hCL : cenv.locals ≠ L) (hDL : D ≠ L)
    (hI₀ : h₀.get? I = none) (hC₀ : h₀.get? cenv.locals = none) (hD₀ : h₀.get? D = none)
    (J : Nat → List Value → List (Addr × Obj) → Prop) (h0 : J 0 [] news) (hd0 : Dr s.drawn) (hst : St 0 s.heap) (F : Fr h₀ L s.heap m) (N : News h₀ L s.heap ((D, lst []) :: news)) (hn : s.heap.Ns cenv.locals m₀) (off : Off3 I cenv.locals D news)
    (hJS : ∀ i ys news, J i ys news → S news)
    (turn : ∀ i ys news v oI oC m₂ h tk d (E' : Value → Shared → Prop), i < n → P i v → J i ys news → Dr d → Fr h₀ L h m → News h₀ L h ((I, oI) :: (cenv.locals, oC) :: (D, lst ys) :: news) → NsObj oC m₂ → Off3 I cenv.locals D news →
      TurnGo prog w A elt target ifs cenv v E' (fun y => TurnOkD Dr h₀ L m s.gens s.os I oI cenv.locals D (lst ys) (J (i + 1) (ys ++ [y]))) (TurnOkD Dr h₀ L m s.gens s.os I oI cenv.locals D (lst ys) (J (i + 1) ys)) { s with heap := h, toks := tk, drawn := d })
    (fin : ∀ h tk d ys news' m', Dr d → Fr h₀ L h m → News h₀ L h ((D, lst ys) :: news') → Off3 I cenv.locals D news' → h.Ns cenv.locals m' → J n ys news' → R (.ok .next) { s with heap := h, toks := tk, drawn := d }) :
    codeAny (model prog w) A (.compLoop (.ListComp elt [⟨target, iter, ifs, 0⟩] scope pos) 0 (.ref I) (.ref D) cenv) R s := by
  refine compLoop_K (LoopAt Dr h₀ L m s I cenv.locals D n St J) _ rfl ?_ (n + 1) (.mk s.heap s.toks s.drawn 0 [] _ news hd0 (Nat.zero_le _) (Nat.le_refl _) hst F hn N off h0)
  intro k s' hI
  cases hI with
  | mk h' tk d i ys m' news' hd hi hyl hst' F' hn' N' off' hJ =>
  generalize notedBy (model prog w) A cenv (fun e s' => R (.error e) s') = E₁
  by_cases hlt : i < n
  · refine W.item i _ _ _ hlt hst' fun v h₂ tk₂ hMd hk₂ => ?_
    refine W.go i v _ _ _ hMd fun h₃ hP hst₃ hk₃ => ?_
    have hk : ∀ b o, b ∉ [I] → h'.get? b = some o → h₃.get? b = some o := fun b o hb e => hk₃ b o hb (hk₂ b o hb e)
    clear hk₂ hk₃
    obtain ⟨oI, heI⟩ := hIo _ _ hst₃
    have hn₃ : h₃.Ns cenv.locals m' := hn'.at' fun o e => hk _ o (fun hm => hIC (List.mem_singleton.mp hm).symm) e
    obtain ⟨oC, heC, hoC⟩ := ns_obj hn₃
    have F₃ : Fr h₀ L h₃ m := fr_but F' hk hIL hI₀
    have N₂ : News h₀ L h₃ ((D, lst ys) :: news') := news_but N' hk (all_cons (Ne.symm hID) fun p hp => (off3_ne off' p hp).1)
    have N₃ : News h₀ L h₃ ((I, oI) :: (cenv.locals, oC) :: (D, lst ys) :: news') := news_cons heI (Ne.symm hIL) hI₀ (news_cons heC hCL hC₀ N₂)
    have step : ∀ (ys' : List Value) (h₄ : Heap) (tk₄ : Nat) (d₄ : Drawn) (news₄ : List (Addr × Obj)) (oC₄ : Obj) (m₄ : Str → Option Value), Dr d₄ → ys'.length ≤ i + 1 → Fr h₀ L h₄ m → News h₀ L h₄ ((I, oI) :: (cenv.locals, oC₄) :: (D, lst ys') :: news₄) → NsObj oC₄ m₄ → Off3 I cenv.locals D news₄ →
        J (i + 1) ys' news₄ → ∃ k, k < n + 1 - i ∧ LoopAt Dr h₀ L m s I cenv.locals D n St J k { s with heap := h₄, toks := tk₄, drawn := d₄ } := by
      intro ys' h₄ tk₄ d₄ news₄ oC₄ m₄ hd₄ hlen F₄ N₄ hoC₄ off₄ hJ₄
      have zI := (N₄ (I, oI) List.mem_cons_self).1
      have zC := (N₄ (cenv.locals, oC₄) (List.mem_cons_of_mem _ List.mem_cons_self)).1
      have N₄' : News h₀ L h₄ ((D, lst ys') :: news₄) := fun p hp => N₄ p (List.mem_cons_of_mem _ (List.mem_cons_of_mem _ hp))
      have hst₄ : St (i + 1) h₄ := hSt _ _ _ _ _ hst₃ heI zI F₄.keep (fun p hp => N₄' p (List.mem_cons_of_mem _ hp)) (hJS _ _ _ hJ₄)
      exact ⟨n + 1 - (i + 1), Nat.sub_lt_sub_left (Nat.lt_succ_of_lt hlt) (Nat.lt_succ_self i), .mk h₄ tk₄ d₄ (i + 1) ys' m₄ news₄ hd₄ hlt hlen hst₄ F₄ (hoC₄.ns zC) N₄' off₄ hJ₄⟩
    refine (turn i ys news' v oI oC m' h₃ tk₂ d _ hlt hP hJ hd F₃ N₃ hoC off').mono (fun y s₄ h₄ => ?_) fun s₃ h₃ => ?_
    · clear F₃ N₃ N₂
      cases h₄ with
      | mk h₄ tk₄ d₄ news₄ oC₄ m₄ hd₄ F₄ N₄ hoC₄ off₄ hJ₄ =>
      have zD := (N₄ (D, lst ys) (List.mem_cons_of_mem _ (List.mem_cons_of_mem _ List.mem_cons_self))).1
      refine append_at (hsz := by show ys.toArray.size ≤ sizeLine; rw [List.size_toArray]; exact Nat.le_trans (Nat.le_trans hyl hi) hsz) zD fun h₅ hs₅ hD₅ => ?_
      refine step (ys ++ [y]) h₅ tk₄ d₄ news₄ oC₄ m₄ hd₄ (by rw [List.length_append, List.length_singleton]; exact Nat.succ_le_succ hyl) (F₄.change hs₅ hDL hD₀) ?_ hoC₄ off₄ hJ₄
      have z1 := N₄ _ List.mem_cons_self
      have z2 := N₄ _ (List.mem_cons_of_mem _ List.mem_cons_self)
      exact news_cons (hs₅.extBut _ _ hID z1.1) z1.2.1 z1.2.2 (news_cons (hs₅.extBut _ _ hCD z2.1) z2.2.1 z2.2.2 (news_cons (hD₅.trans (congrArg some (lst_snoc ys y))) hDL hD₀ fun p hp =>
        have z := N₄ p (List.mem_cons_of_mem _ (List.mem_cons_of_mem _ (List.mem_cons_of_mem _ hp)))
        ⟨hs₅.extBut _ _ (off3_ne off₄ p hp).2.2 z.1, z.2⟩))
    · cases h₃ with
      | mk h₄ tk₄ d₄ news₄ oC₄ m₄ hd₄ F₄ N₄ hoC₄ off₄ hJ₄ =>
      exact step ys h₄ tk₄ d₄ news₄ oC₄ m₄ hd₄ (Nat.le_succ_of_le hyl) F₄ N₄ hoC₄ off₄ hJ₄
  · obtain rfl : i = n := Nat.le_antisymm hi (Nat.not_lt.mp hlt)
    refine W.done _ _ _ hst' fun h₂ tk₂ hk₂ => ?_
    exact fin h₂ tk₂ d ys news' m' hd (fr_but F' hk₂ hIL hI₀) (news_but N' hk₂ (all_cons (Ne.symm hID) fun p hp => (off3_ne off' p hp).1)) off' (hn'.at' fun o e => hk₂ _ o (fun hm => hIC (List.mem_singleton.mp hm).symm) e) hJ

/-- the object that a comprehension goes over: a tuple or a list of the ledger, or a range -/
inductive SrcIs (h : Heap) (a : Addr) : Nat → (Nat → Value → Prop) → (List (Addr × Obj) → Prop) → Prop
  | tup (vs : List Value) (k : Nat) : SrcIs h a vs.length (fun i v => vs[i]? = some v) (fun nw => (a, tupO vs k) ∈ nw)
  | lst (vs : List Value) (k : Nat) : SrcIs h a vs.length (fun i v => vs[i]? = some v) (fun nw => (a, listOf vs.toArray k) ∈ nw)
  | rng (lo hi : Int) (t u v : Tok) (n : Nat) (hr : IsRange h a lo hi 1 t u v) (hsm : Builtin.Range.small lo hi 1 = true) (hn : Builtin.Range.rangeSize lo hi 1 = ((n : Nat) : Int)) : SrcIs h a n (fun i v => ∃ t, v = .int (lo + (i : Int)) t) (fun _ => True)

/-- the frame of a comprehension, with the cells that its own scope lays -/
def NewEnvIs (prog : Program) (w : World) (A : Around) (scope : Scope) (cl : List (Str × Addr)) (env : Env) (cl2 : Addr → List (Str × Addr)) (extra : Addr → List (Addr × Obj)) : Prop :=
  ∀ (s : Shared) (E : Value → Shared → Prop) (Q : Env → Shared → Prop), (∀ h', h'.Ns s.heap.objs.size (fun _ => none) → (∀ b o, s.heap.get? b = some o → h'.get? b = some o) → (∀ p ∈ extra s.heap.objs.size, h'.get? p.1 = some p.2 ∧ s.heap.objs.size < p.1) →
    Q (newEnv scope s.heap.objs.size env.globals (cl2 s.heap.objs.size) env.qual none .none (some env) builtinsNs) { s with heap := h', toks := s.toks + ([] : List (Str × Value)).length }) → wpAny (model prog w) A (newFunctionEnv scope env.globals cl [] env.qual none .none (some env)) Q E s
theorem newEnv_plain {scope : Scope} {cl : List (Str × Addr)} {env : Env} (hcell : ∀ y ∈ scope.names, y.2 ≠ .cell) (hkind : scope.kind = .function) : NewEnvIs prog w A scope cl env (fun _ => cl) (fun _ => []) := by
  intro s E Q h
  refine wpAny_newFunctionEnv hcell (by intro y hy; simp at hy) (fun h₁ hns₁ hsb₁ => ?_) hkind
  exact h h₁ hns₁ (fun b o e => hsb₁.extBut b o (Nat.ne_of_lt (Heap.lt_size e)) (Heap.get?_push_of_some _ e)) (fun p hp => by simp at hp)

/-- all that is to be shown of the turns -/
inductive CompTurns (prog : Program) (w : World) (A : Around) (h₀ : Heap) (L : Addr) (m : Str → Option Value) (env : Env) (elt target : PySem.Expr) (ifs : List PySem.Expr) (scope : Scope) (cl2 : Addr → List (Str × Addr)) (extra : Addr → List (Addr × Obj)) (Dr : Drawn → Prop)
    (Fin : Addr → List Value → List (Addr × Obj) → Prop) (s₁ : Shared) (n : Nat) (P : Nat → Value → Prop) (S : List (Addr × Obj) → Prop) (news : List (Addr × Obj)) (I C D : Addr) : Prop
  | mk (J : Nat → List Value → List (Addr × Obj) → Prop) (h0 : J 0 [] (extra C ++ news)) (hJS : ∀ i ys nw, J i ys nw → S nw)
      (turn : ∀ i ys news v oI oC m₂ h tk d (E' : Value → Shared → Prop), i < n → P i v → J i ys news → Dr d → Fr h₀ L h m → News h₀ L h ((I, oI) :: (C, oC) :: (D, lst ys) :: news) → NsObj oC m₂ → Off3 I C D news →
        TurnGo prog w A elt target ifs (compEnvC scope (cl2 C) C env) v E' (fun y => TurnOkD Dr h₀ L m s₁.gens s₁.os I oI C D (lst ys) (J (i + 1) (ys ++ [y]))) (TurnOkD Dr h₀ L m s₁.gens s₁.os I oI C D (lst ys) (J (i + 1) ys)) { s₁ with heap := h, toks := tk, drawn := d })
      (fin : ∀ ys news', Off1 D news' → J n ys news' → Fin D ys news')
/-- the turns, for all addresses that the iterator, the frame and the list may get -/
def AllTurns (prog : Program) (w : World) (A : Around) (h₀ : Heap) (L : Addr) (m : Str → Option Value) (env : Env) (elt target : PySem.Expr) (ifs : List PySem.Expr) (scope : Scope) (cl2 : Addr → List (Str × Addr)) (extra : Addr → List (Addr × Obj)) (Dr : Drawn → Prop)
    (Fin : Addr → List Value → List (Addr × Obj) → Prop) (s₁ : Shared) (n : Nat) (P : Nat → Value → Prop) (S : List (Addr × Obj) → Prop) (news : List (Addr × Obj)) : Prop :=
  ∀ I C D : Addr, Off3 I C D (extra C ++ news) → I ≠ C → I ≠ D → C ≠ D → (∀ p ∈ news, p.1 < I ∧ p.1 < C ∧ p.1 < D) → (∀ p ∈ extra C, C < p.1) → CompTurns prog w A h₀ L m env elt target ifs scope cl2 extra Dr Fin s₁ n P S news I C D
/-- all that is to be shown of a comprehension once its iterable is there -/
inductive CompGoD (prog : Program) (w : World) (A : Around) (h₀ : Heap) (L : Addr) (m : Str → Option Value) (env : Env) (elt target : PySem.Expr) (ifs : List PySem.Expr) (scope : Scope) (cl2 : Addr → List (Str × Addr)) (extra : Addr → List (Addr × Obj)) (Dr : Drawn → Drawn → Prop)
    (Fin : Shared → Addr → List Value → List (Addr × Obj) → Prop) (s₁ : Shared) : Value → Prop
  | mk (a : Addr) (news : List (Addr × Obj)) (n : Nat) (P : Nat → Value → Prop) (S : List (Addr × Obj) → Prop) (hh : A.handled = none) (F : Fr h₀ L s₁.heap m) (N : News h₀ L s₁.heap news) (src : SrcIs s₁.heap a n P S) (hS : S news) (hsz : n ≤ sizeLine)
      (G : AllTurns prog w A h₀ L m env elt target ifs scope cl2 extra (Dr s₁.drawn) (Fin s₁) s₁ n P S news) : CompGoD prog w A h₀ L m env elt target ifs scope cl2 extra Dr Fin s₁ (.ref a)
def CompGo (prog : Program) (w : World) (A : Around) (h₀ : Heap) (L : Addr) (m : Str → Option Value) (env : Env) (elt target : PySem.Expr) (ifs : List PySem.Expr) (scope : Scope) (cl : List (Str × Addr))
    (Fin : Shared → Addr → List Value → List (Addr × Obj) → Prop) (xv : Value) (s₁ : Shared) : Prop := CompGoD prog w A h₀ L m env elt target ifs scope (fun _ => cl) (fun _ => []) (fun a d => d = a) Fin s₁ xv
def CompGoX (prog : Program) (w : World) (A : Around) (h₀ : Heap) (L : Addr) (m : Str → Option Value) (env : Env) (elt target : PySem.Expr) (ifs : List PySem.Expr) (scope : Scope) (cl2 : Addr → List (Str × Addr)) (extra : Addr → List (Addr × Obj))
    (Fin : Shared → Addr → List Value → List (Addr × Obj) → Prop) (xv : Value) (s₁ : Shared) : Prop := CompGoD prog w A h₀ L m env elt target ifs scope cl2 extra (fun _ _ => True) Fin s₁ xv

/-- what the rest is to take up -/
def Ends (h₀ : Heap) (L : Addr) (m : Str → Option Value) (Dr : Drawn → Prop) (Fin : Addr → List Value → List (Addr × Obj) → Prop) (RR : Value → Addr → Result → Shared → Prop) (s₁ : Shared) : Prop :=
  ∀ D C h tk d m' ys news', Dr d → Fr h₀ L h m → News h₀ L h ((D, lst ys) :: news') → Off1 D news' → h.Ns C m' → h₀.get? C = none → C ≠ L → C ≠ D → (∀ p ∈ news', p.1 ≠ C) → Fin D ys news' → RR (.ref D) C (.ok .next) { s₁ with heap := h, toks := tk, drawn := d }
/-- the block of a comprehension, its iterator laid -/
def Block (prog : Program) (w : World) (A : Around) (elt target iter : PySem.Expr) (ifs : List PySem.Expr) (scope : Scope) (cl : List (Str × Addr)) (pos : Pos) (env : Env) (RR : Value → Addr → Result → Shared → Prop) (E : Value → Shared → Prop) (it : Value) : Shared → Prop :=
  wpAny (model prog w) A (newList []) (fun acc => wpAny (model prog w) A (newFunctionEnv scope env.globals cl [] env.qual none .none (some env)) (fun cenv =>
      codeAny (model prog w) A (.compStart (.ListComp elt [⟨target, iter, ifs, 0⟩] scope pos) 0 it acc { cenv with scope := relabel scope env }) (RR acc cenv.locals)) E) E

/-- the loop once the list and the frame of the block are laid -/
theorem comp_blockD {elt target iter : PySem.Expr} {ifs : List PySem.Expr} {scope : Scope} {cl : List (Str × Addr)} {cl2 : Addr → List (Str × Addr)} {extra : Addr → List (Addr × Obj)} {pos : Pos} {env : Env} {s₁ : Shared} {hp2 : Heap} {I : Addr} {fp : List Addr} {n : Nat} {P : Nat → Value → Prop} {Md : Nat → Value → Heap → Prop} {St : Nat → Heap → Prop} {Dr : Drawn → Prop}
    {news : List (Addr × Obj)} {S : List (Addr × Obj) → Prop} {Fin : Addr → List Value → List (Addr × Obj) → Prop} {RR : Value → Addr → Result → Shared → Prop} (W : KTurns prog w A target I fp [I] n (fun i v _ => P i v) Md St) (hsz : n ≤ sizeLine) (hDr : Dr s₁.drawn)
    (hIo : ∀ i h, St i h → ∃ o, h.get? I = some o)
    (hSt : ∀ i h h' o nw, St i h → h.get? I = some o → h'.get? I = some o → (∀ b o, h₀.get? b = some o → h'.get? b = some o) → News h₀ L h' nw → S nw → St i h')
    (hnew : NewEnvIs prog w A scope cl env cl2 extra) (hst : St 0 hp2) (hself : ∀ (s : Shared) (Q : Value → Shared → Prop) (E : Value → Shared → Prop), St 0 s.heap → Q (.ref I) s → wpAny (model prog w) A (pyIter (.ref I)) Q E s) (hfp : ∀ b ∈ fp, b < hp2.objs.size)
    (F : Fr h₀ L hp2 m) (N : News h₀ L hp2 news) (hIL : L ≠ I) (hI₀ : h₀.get? I = none) (hnI : ∀ p ∈ news, p.1 < I)
    (G : AllTurns prog w A h₀ L m env elt target ifs scope cl2 extra Dr Fin s₁ n P S news) (hRR : Ends h₀ L m Dr Fin RR s₁) :
    Block prog w A elt target iter ifs scope cl pos env RR E (.ref I) { s₁ with heap := hp2 } := by
  refine wpAny_newObj_type ?_
  refine hnew _ _ _ (fun h₁ hns₁ hsb₁ hex₁ => ?_)
  dsimp only at hns₁ hsb₁ hex₁
  generalize hH2 : hp2.push { cls := .type "list", dict := none, data := .seq ([] : List Value).toArray } = H2 at hns₁ hsb₁ hex₁ ⊢
  have hC : H2.objs.size = hp2.objs.size + 1 := by rw [← hH2, Heap.size_push]
  have hDC : hp2.objs.size ≠ H2.objs.size := by rw [hC]; exact Nat.ne_of_lt (Nat.lt_succ_self _)
  have below : ∀ b, b < hp2.objs.size → b ≠ H2.objs.size ∧ b ≠ hp2.objs.size := fun b hb => ⟨by rw [hC]; exact Nat.ne_of_lt (Nat.lt_succ_of_lt hb), Nat.ne_of_lt hb⟩
  have hIlt : I < hp2.objs.size := hfp I (W.sub I (List.mem_singleton.mpr rfl))
  have old : ∀ b o, hp2.get? b = some o → h₁.get? b = some o := fun b o e => hsb₁ b o (hH2 ▸ Heap.get?_push_of_some _ e)
  have hacc : h₁.get? hp2.objs.size = some (lst []) := hsb₁ _ _ (hH2 ▸ Heap.get?_push_size _ rfl)
  have hst₁ : St 0 h₁ := W.frame _ _ _ hst fun b _ o e => old b o e
  have hCs : hp2.objs.size ≤ H2.objs.size := by rw [hC]; exact Nat.le_succ _
  have hexlt : ∀ p ∈ extra H2.objs.size, hp2.objs.size < p.1 := fun p hp => Nat.lt_of_le_of_lt hCs (hex₁ p hp).2
  clear hH2 hsb₁
  have fresh₀ : ∀ a, hp2.objs.size ≤ a → h₀.get? a = none := fun a ha => by
    cases e : h₀.get? a with
    | none => rfl
    | some o' => exact absurd (Heap.lt_size (F.keep a o' e)) (Nat.not_lt.mpr ha)
  have hC₀ := fresh₀ _ hCs
  have hL := below L F.ns.lt
  have hI := below I hIlt
  have off₀ : Off3 I H2.objs.size hp2.objs.size (extra H2.objs.size ++ news) := Off3.of (all_app (fun p hp => ⟨Ne.symm (Nat.ne_of_lt (Nat.lt_trans hIlt (hexlt p hp))), Ne.symm (Nat.ne_of_lt (hex₁ p hp).2), Ne.symm (Nat.ne_of_lt (hexlt p hp))⟩)
    fun p hp => have z := below _ (Heap.lt_size (N p hp).1); ⟨Nat.ne_of_lt (hnI p hp), z.1, z.2⟩)
  cases G I H2.objs.size hp2.objs.size off₀ hI.1 hI.2 (Ne.symm hDC) (fun p hp => ⟨hnI p hp, by rw [hC]; exact Nat.lt_succ_of_lt (Heap.lt_size (N p hp).1), Heap.lt_size (N p hp).1⟩) (fun p hp => (hex₁ p hp).2) with
  | mk J h0 hJS turn fin =>
  have loop : codeAny (model prog w) A (.compLoop (.ListComp elt [⟨target, iter, ifs, 0⟩] scope pos) 0 (.ref I) (.ref hp2.objs.size) (compEnvC scope (cl2 H2.objs.size) H2.objs.size env)) (RR (.ref hp2.objs.size) H2.objs.size)
      { s₁ with heap := h₁, toks := s₁.toks + ([] : List (Str × Value)).length } := by
    refine comp_loopD (cenv := compEnvC scope (cl2 H2.objs.size) H2.objs.size env) (s := { s₁ with heap := h₁, toks := s₁.toks + ([] : List (Str × Value)).length }) W hsz hIo S hSt hI.1 hI.2 (Ne.symm hDC) hIL (Ne.symm hL.1) (Ne.symm hL.2) hI₀ hC₀ (fresh₀ _ (Nat.le_refl _)) J h0 hDr hst₁ (F.keeps old) ?_ hns₁ off₀ hJS turn ?_
    · exact news_cons hacc (Ne.symm hL.2) (fresh₀ _ (Nat.le_refl _)) (all_app (fun p hp => ⟨(hex₁ p hp).1, Ne.symm (Nat.ne_of_lt (Nat.lt_trans F.ns.lt (hexlt p hp))), fresh₀ _ (Nat.le_of_lt (hexlt p hp))⟩) fun p hp => ⟨old _ _ (N p hp).1, (N p hp).2⟩)
    · intro h tk d ys news' m' hd F' N' off' hn' hJ
      exact hRR _ _ h tk d m' ys news' hd F' N' off'.one hn' hC₀ (Ne.symm hL.1) (Ne.symm hDC) (fun p hp => (off3_ne off' p hp).2.1) (fin ys news' off'.one hJ)
  exact codeAny_compStart_list loop (hself _ _ _ hst₁ loop)

theorem walks_self {I : Addr} {fp wr : List Addr} {n : Nat} {P : Nat → Value → Prop} {St : Nat → Heap → Prop} (W : Walks prog w A I fp wr n P St) : ∀ (s : Shared) (Q : Value → Shared → Prop) (E : Value → Shared → Prop), St 0 s.heap → Q (.ref I) s → wpAny (model prog w) A (pyIter (.ref I)) Q E s :=
  fun s Q E h q => W.self 0 s Q E h q

theorem comp_preD {elt target iter : PySem.Expr} {ifs : List PySem.Expr} {scope : Scope} {cl : List (Str × Addr)} {cl2 : Addr → List (Str × Addr)} {extra : Addr → List (Addr × Obj)} {pos : Pos} {env : Env} {Dr : Drawn → Drawn → Prop} {Fin : Shared → Addr → List Value → List (Addr × Obj) → Prop} {RR : Value → Addr → Result → Shared → Prop} {xv : Value} {s₁ : Shared}
    (htg : ∀ (I : Addr) (v : Value) (Q' : Unit → Shared → Prop) (E : Value → Shared → Prop) (s' : Shared), (∃ o, s'.heap.get? I = some o ∧ (o.cls = .type "tuple_iterator" ∨ o.cls = .type "list_iterator" ∨ o.cls = .type "range_iterator")) → Q' () s' → wpAny (model prog w) A (letOwnedTupleGo target (.ref I) v) Q' E s')
    (hnew : NewEnvIs prog w A scope cl env cl2 extra) (hDr : Dr s₁.drawn s₁.drawn)
    (G : CompGoD prog w A h₀ L m env elt target ifs scope cl2 extra Dr Fin s₁ xv) (hRR : Ends h₀ L m (Dr s₁.drawn) (Fin s₁) RR s₁) :
    wpAny (model prog w) A (pyIter xv) (Block prog w A elt target iter ifs scope cl pos env RR E) E s₁ := by
  cases G with
  | mk a news n P S hh F N src hS hsz G =>
  have hnI : ∀ p ∈ news, p.1 < s₁.heap.objs.size := fun p hp => Heap.lt_size (N p hp).1
  have N' : ∀ o, News h₀ L (s₁.heap.push o) news := fun o p hp => ⟨Heap.get?_push_of_some _ (N p hp).1, (N p hp).2⟩
  have put : ∀ {fp : List Addr} {Md St} (o : Obj) (_ : KTurns prog w A target s₁.heap.objs.size fp [s₁.heap.objs.size] n (fun i v _ => P i v) Md St) (_ : ∀ i h, St i h → ∃ o, h.get? s₁.heap.objs.size = some o)
      (_ : ∀ i h h' o nw, St i h → h.get? s₁.heap.objs.size = some o → h'.get? s₁.heap.objs.size = some o → (∀ b o, h₀.get? b = some o → h'.get? b = some o) → News h₀ L h' nw → S nw → St i h') (_ : St 0 (s₁.heap.push o))
      (_ : ∀ (s : Shared) (Q : Value → Shared → Prop) (E : Value → Shared → Prop), St 0 s.heap → Q (.ref s₁.heap.objs.size) s → wpAny (model prog w) A (pyIter (.ref s₁.heap.objs.size)) Q E s) (_ : ∀ b ∈ fp, b < (s₁.heap.push o).objs.size),
      Block prog w A elt target iter ifs scope cl pos env RR E (.ref s₁.heap.objs.size) { s₁ with heap := s₁.heap.push o } := fun o W k1 k2 k3 k4 k5 =>
    comp_blockD W hsz hDr k1 k2 hnew k3 k4 k5 (F.push _) (N' _) (Nat.ne_of_lt F.ns.lt) (next_is_new F) hnI G hRR
  clear hRR G hnI hDr hnew F hsz N'
  revert put hS
  cases src with
  | tup vs k =>
    intro hS put
    have z := N _ hS
    have hl : s₁.heap.IsTuple a vs.toArray := ⟨_, z.1, rfl, k, rfl⟩
    have hlt : a < s₁.heap.objs.size := Heap.lt_size z.1
    refine wpAny_pyIter_tuple hl ?_
    have W := Walks.tuple (prog := prog) (w := w) hh s₁.heap.objs.size a (Nat.ne_of_lt hlt) vs.toArray
    have hlen : vs.toArray.size = vs.length := List.size_toArray ..
    rw [hlen] at W
    have W' : Walks prog w A s₁.heap.objs.size [s₁.heap.objs.size, a] [s₁.heap.objs.size] vs.length (fun i v => vs[i]? = some v) _ := { W with item := fun i s Q E h st q => W.item i s Q E h st fun v h' tk hP => q v h' tk (by rw [← List.getElem?_toArray]; exact hP) }
    refine put _ (KTurns.ofWalks W' fun i v s Q E st q => ?_) (fun i h st => ?_) ?_ ?_ (walks_self W') ?_
    · obtain ⟨o, ho, hc, _⟩ := st.1
      exact htg _ _ _ _ _ ⟨o, ho, .inl hc⟩ q
    · obtain ⟨o, ho, _⟩ := st.1
      exact ⟨o, ho⟩
    · intro i h h' o nw st e e' kk N' hS'
      obtain ⟨o', q, r⟩ := st.1
      obtain rfl := Option.some.inj (e.symm.trans q)
      exact ⟨⟨o, e', r⟩, ⟨_, (N' _ hS').1, rfl, k, rfl⟩⟩
    · exact ⟨⟨_, Heap.get?_push_size _ rfl, rfl, rfl⟩, hl.at fun o e => Heap.get?_push_of_some _ e⟩
    · intro b hb
      rw [Heap.size_push]
      rcases List.mem_cons.mp hb with rfl | hb
      · exact Nat.lt_succ_self _
      · rw [List.mem_singleton.mp hb]; exact Nat.lt_succ_of_lt hlt
  | lst vs k =>
    intro hS put
    have z := N _ hS
    have hl : s₁.heap.IsList a vs.toArray := ⟨_, z.1, rfl, k, rfl⟩
    have hlt : a < s₁.heap.objs.size := Heap.lt_size z.1
    refine wpAny_pyIter_list hl ?_
    have W := Walks.list (prog := prog) (w := w) hh s₁.heap.objs.size a (Nat.ne_of_lt hlt) vs.toArray
    have hlen : vs.toArray.size = vs.length := List.size_toArray ..
    rw [hlen] at W
    have W' : Walks prog w A s₁.heap.objs.size [s₁.heap.objs.size, a] [s₁.heap.objs.size] vs.length (fun i v => vs[i]? = some v) _ := { W with item := fun i s Q E h st q => W.item i s Q E h st fun v h' tk hP => q v h' tk (by rw [← List.getElem?_toArray]; exact hP) }
    refine put _ (KTurns.ofWalks W' fun i v s Q E st q => ?_) (fun i h st => ?_) ?_ ?_ (walks_self W') ?_
    · obtain ⟨o, ho, hc, _⟩ := st.1
      exact htg _ _ _ _ _ ⟨o, ho, .inr (.inl hc)⟩ q
    · obtain ⟨o, ho, _⟩ := st.1
      exact ⟨o, ho⟩
    · intro i h h' o nw st e e' kk N' hS'
      obtain ⟨o', q, r⟩ := st.1
      obtain rfl := Option.some.inj (e.symm.trans q)
      exact ⟨⟨o, e', r⟩, ⟨_, (N' _ hS').1, rfl, k, rfl⟩⟩
    · exact ⟨⟨_, Heap.get?_push_size _ rfl, rfl, rfl⟩, hl.at fun o e => Heap.get?_push_of_some _ e⟩
    · intro b hb
      rw [Heap.size_push]
      rcases List.mem_cons.mp hb with rfl | hb
      · exact Nat.lt_succ_self _
      · rw [List.mem_singleton.mp hb]; exact Nat.lt_succ_of_lt hlt
  | rng lo hi t u v n hr hsm hn =>
    intro hS put
    refine wpAny_pyIter_range hr hsm ?_
    have W' := LCg.range_walks (prog := prog) (w := w) (I := s₁.heap.objs.size) hh lo n
    refine put _ (KTurns.ofWalks W' fun i v s Q E st q => ?_) (fun i h st => ⟨_, st⟩) ?_ ?_ (walks_self W') ?_
    · exact htg _ _ _ _ _ ⟨_, st, .inr (.inr rfl)⟩ q
    · intro i h h' o nw st e e' _ _ _
      have st' : h.get? s₁.heap.objs.size = some _ := st
      show h'.get? s₁.heap.objs.size = some _
      rw [e', ← e]; exact st'
    · show IsRangeIter _ _ _ _ _
      rw [hn]
      simpa using Heap.get?_push_size _ rfl
    · intro b hb
      rw [List.mem_singleton.mp hb, Heap.size_push]; exact Nat.lt_succ_self _

theorem go_plain {target : PySem.Expr} (I : Addr) (v : Value) (Q' : Unit → Shared → Prop) (E : Value → Shared → Prop) (s' : Shared) (h : ∃ o, s'.heap.get? I = some o ∧ (o.cls = .type "tuple_iterator" ∨ o.cls = .type "list_iterator" ∨ o.cls = .type "range_iterator")) (q : Q' () s') :
    wpAny (model prog w) A (letOwnedTupleGo target (.ref I) v) Q' E s' := by
  obtain ⟨o, ho, hc⟩ := h
  unfold letOwnedTupleGo
  cases target <;> first
    | exact wpAny_pure q
    | (cases v <;> first
        | exact wpAny_pure q
        | (refine wpAny_bind (wpAny_load ho ?_)
           rcases hc with hc | hc | hc <;> rw [hc] <;> (cases o.data <;> first | exact wpAny_pure q | (dsimp only; rw [if_neg (by decide)]; exact wpAny_pure q))))

theorem comp_evalD {elt target iter : PySem.Expr} {ifs : List PySem.Expr} {scope : Scope} {cl : List (Str × Addr)} {cl2 : Addr → List (Str × Addr)} {extra : Addr → List (Addr × Obj)} {pos : Pos} {env : Env} {Dr : Drawn → Drawn → Prop} {Fin : Shared → Addr → List Value → List (Addr × Obj) → Prop} {Q : Value → Shared → Prop} (hDr : ∀ d, Dr d d)
    (hclos : closureFor scope env = pure cl) (hnew : NewEnvIs prog w A scope cl env cl2 extra) (hkind : scope.kind = .function) (hnames : ∀ y ∈ scope.names, y.2 = .local → scope.names.lookup y.1 = some .local)
    (h : wpAny (model prog w) A (eval iter env) (fun xv s₁ => CompGoD prog w A h₀ L m env elt target ifs scope cl2 extra Dr Fin s₁ xv) E s)
    (hFin : ∀ s₁ D ys news' h tk d, Fin s₁ D ys news' → Dr s₁.drawn d → Fr h₀ L h m → News h₀ L h ((D, lst ys) :: news') → Q (.ref D) { s₁ with heap := h, toks := tk, drawn := d })
    (hs : ∀ x, foldedSetIterable iter env x = pure x) :
    wpAny (model prog w) A (eval (.ListComp elt [⟨target, iter, ifs, 0⟩] scope pos) env) Q E s := by
  rw [eval_ListComp]
  refine wpAny_comprehension_free (use := none) rfl hs hclos hkind hnames (wpAny_mono h (fun xv s₁ h₁ => ?_) fun _ _ e => e)
  refine comp_preD go_plain hnew (hDr _) h₁ ?_
  intro D C h tk d m' ys news' hd F' N' o1 hn hC₀ hCL hCD offC fin
  exact ⟨m', hn, fun h'' hs'' => hFin s₁ D ys news' h'' tk d fin hd (F'.change hs'' hCL hC₀) (all_cons ⟨hs''.extBut _ _ (Ne.symm hCD) (N' _ (.head _)).1, (N' _ (.head _)).2⟩ fun p hp => ⟨hs''.extBut _ _ (offC p hp) (N' p (.tail _ hp)).1, (N' p (.tail _ hp)).2⟩)⟩
theorem comp_eval {elt target iter : PySem.Expr} {ifs : List PySem.Expr} {scope : Scope} {cl : List (Str × Addr)} {pos : Pos} {env : Env} {Q : Value → Shared → Prop} (_F₀ : Fr h₀ L s.heap m)
    (hclos : closureFor scope env = pure cl) (hcell : ∀ y ∈ scope.names, y.2 ≠ .cell) (hkind : scope.kind = .function) (hnames : ∀ y ∈ scope.names, y.2 = .local → scope.names.lookup y.1 = some .local)
    (h : wpAny (model prog w) A (eval iter env) (CompGo prog w A h₀ L m env elt target ifs scope cl (fun s₁ D ys news' => ∀ h tk, Fr h₀ L h m → News h₀ L h ((D, lst ys) :: news') → Q (.ref D) { s₁ with heap := h, toks := tk })) E s)
    (hs : ∀ x, foldedSetIterable iter env x = pure x := by intro _; rfl) :
    wpAny (model prog w) A (eval (.ListComp elt [⟨target, iter, ifs, 0⟩] scope pos) env) Q E s :=
  comp_evalD (cl2 := fun _ => cl) (extra := fun _ => []) (Dr := fun a d => d = a) (Fin := fun s₁ D ys news' => ∀ h tk, Fr h₀ L h m → News h₀ L h ((D, lst ys) :: news') → Q (.ref D) { s₁ with heap := h, toks := tk }) (fun _ => rfl) hclos (newEnv_plain hcell hkind) hkind hnames h (fun s₁ D ys news' h tk d fin hd F N => by cases hd; exact fin h tk F N) hs
theorem comp_evalX {elt target iter : PySem.Expr} {ifs : List PySem.Expr} {scope : Scope} {cl : List (Str × Addr)} {cl2 : Addr → List (Str × Addr)} {extra : Addr → List (Addr × Obj)} {pos : Pos} {env : Env} {Q : Value → Shared → Prop} (_F₀ : Fr h₀ L s.heap m)
    (hclos : closureFor scope env = pure cl) (hnew : NewEnvIs prog w A scope cl env cl2 extra) (hkind : scope.kind = .function) (hnames : ∀ y ∈ scope.names, y.2 = .local → scope.names.lookup y.1 = some .local)
    (h : wpAny (model prog w) A (eval iter env) (CompGoX prog w A h₀ L m env elt target ifs scope cl2 extra (fun s₁ D ys news' => ∀ h tk d, Fr h₀ L h m → News h₀ L h ((D, lst ys) :: news') → Q (.ref D) { s₁ with heap := h, toks := tk, drawn := d })) E s)
    (hs : ∀ x, foldedSetIterable iter env x = pure x := by intro _; rfl) :
    wpAny (model prog w) A (eval (.ListComp elt [⟨target, iter, ifs, 0⟩] scope pos) env) Q E s :=
  comp_evalD (Dr := fun _ _ => True) (Fin := fun s₁ D ys news' => ∀ h tk d, Fr h₀ L h m → News h₀ L h ((D, lst ys) :: news') → Q (.ref D) { s₁ with heap := h, toks := tk, drawn := d }) (fun _ => trivial) hclos hnew hkind hnames h (fun s₁ D ys news' h tk d fin _ F N => fin h tk d F N) hs

theorem comp_assign {elt target iter : PySem.Expr} {ifs : List PySem.Expr} {y : Str} {py : Pos} {scope : Scope} {cl : List (Str × Addr)} {pos spos : Pos} {env : Env} {Q : Flow → Shared → Prop} (_F₀ : Fr h₀ L s.heap m) (hLe : env.locals = L)
    (hsw : swapsWith (.ListComp elt [⟨target, iter, ifs, 0⟩] scope pos) (some (.Name y py)) spos.line env = pure true)
    (hclos : closureFor scope env = pure cl) (hcell : ∀ y ∈ scope.names, y.2 ≠ .cell) (hkind : scope.kind = .function) (hnames : ∀ y ∈ scope.names, y.2 = .local → scope.names.lookup y.1 = some .local)
    (hy : env.kindOf y = some .local) (hp : (env.scope.kind == .class || (env.scope.kind == .module && env.locals != env.globals)) = false)
    (h : wpAny (model prog w) A (eval iter env) (CompGo prog w A h₀ L m env elt target ifs scope cl (fun s₁ D ys news' => ∀ h tk, Fr h₀ L h (fun z => if z = y then some (.ref D) else m z) → News h₀ L h ((D, lst ys) :: news') → Q .next { s₁ with heap := h, toks := tk })) E s)
    (hs : ∀ x, foldedSetIterable iter env x = pure x := by intro _; rfl) :
    wpAny (model prog w) A (exec (.Assign [.Name y py] (.ListComp elt [⟨target, iter, ifs, 0⟩] scope pos) spos) env) Q E s := by
  subst hLe
  rw [exec_Assign_Name_used _ _ _ _ hsw]
  refine wpAny_bind (wpAny_standAt (wpAny_bind ?_))
  show wpAny _ A (do let _ ← comprehension (.ListComp elt [⟨target, iter, ifs, 0⟩] scope pos) scope env _ (newList []) false (eval iter env) (some (assign (.Name y py) env))) _ _ s
  refine wpAny_bind (wpAny_mono (wpAny_comprehension_free (use := some (assign (.Name y py) env)) (Q := fun _ s' => Q .next s') rfl hs hclos hkind hnames
    (wpAny_mono h (fun xv s₁ h₁ => ?_) fun _ _ e => e)) (fun _ s' hq => wpAny_pure (wpAny_pure hq)) fun _ _ e => e)
  refine comp_preD (Dr := fun a d => d = a) go_plain (newEnv_plain hcell hkind) rfl h₁ ?_
  intro D C h' tk d m' ys news' hd F' N' o1 hn hC₀ hCL hCD offC fin
  cases hd
  show wpAny _ A (assign (.Name y py) env (.ref D)) _ _ _
  refine wpAny_assign_Name (wpAny_storeName_local hy F'.ns (fun h₂ hn₂ hs₂ => ?_) hp)
  have hL₀ : h₀.get? env.locals = none := Heap.get?_none_of_le F'.above
  have F₂ : Fr h₀ env.locals h₂ (fun z => if z = y then some (.ref D) else m z) := ⟨hn₂, fun b o e => hs₂.extBut b o (fun q => by rw [q, hL₀] at e; cases e) (F'.keep b o e), F'.above⟩
  have N₂ : News h₀ env.locals h₂ ((D, lst ys) :: news') := fun p hp => ⟨hs₂.extBut _ _ (N' p hp).2.1 (N' p hp).1, (N' p hp).2⟩
  exact ⟨m', hn.sameBut hs₂ hCL, fun h'' hs'' => fin h'' _ (F₂.change hs'' hCL hC₀) (all_cons ⟨hs''.extBut _ _ (Ne.symm hCD) (N₂ _ (.head _)).1, (N₂ _ (.head _)).2⟩ fun p hp => ⟨hs''.extBut _ _ (offC p hp) (N₂ p (.tail _ hp)).1, (N₂ p (.tail _ hp)).2⟩)⟩

theorem comp_store {x : Str} {v : Value} {scope : Scope} {cl : List (Str × Addr)} {env : Env} {I C : Addr} {oI oC : Obj} {m₂ : Str → Option Value} {rest : List (Addr × Obj)} {Q : Unit → Shared → Prop}
    (F : Fr h₀ L s.heap m) (N : News h₀ L s.heap ((I, oI) :: (C, oC) :: rest)) (hC : NsObj oC m₂) (hIC : I ≠ C) (off : ∀ p ∈ rest, p.1 ≠ C)
    (hx : scope.names.lookup x = some .local) (hk : scope.kind = .function)
    (h : ∀ h' oC', Fr h₀ L h' m → News h₀ L h' ((I, oI) :: (C, oC') :: rest) → NsObj oC' (fun z => if z = x then some v else m₂ z) → Q () { s with heap := h', toks := s.toks + 1 }) :
    wpAny (model prog w) A (storeName (compEnvC scope cl C env) x v) Q E s := by
  have zC := N (C, oC) (.tail _ (.head _))
  refine wpAny_storeName_local (lookup_relabel_local hx) (hC.ns zC.1) (fun h' hn hs => ?_) (by show (scope.kind == .class || (scope.kind == .module && _)) = false; rw [hk]; rfl)
  obtain ⟨oC', heC, hoC⟩ := ns_obj hn
  have z := N _ (.head _)
  exact h h' oC' (F.change hs zC.2.1 zC.2.2) (news_cons (hs.extBut _ _ hIC z.1) z.2.1 z.2.2 (news_cons heC zC.2.1 zC.2.2 fun p hp => have z := N _ (.tail _ (.tail _ hp)); ⟨hs.extBut _ _ (off p hp) z.1, z.2⟩)) hoC

theorem comp_name {x : Str} {px : Pos} {v : Value} {scope : Scope} {cl : List (Str × Addr)} {env : Env} {I C : Addr} {oI oC : Obj} {m₂ : Str → Option Value} {rest : List (Addr × Obj)} {Q : Unit → Shared → Prop}
    (F : Fr h₀ L s.heap m) (N : News h₀ L s.heap ((I, oI) :: (C, oC) :: rest)) (hC : NsObj oC m₂) (hIC : I ≠ C) (off : ∀ p ∈ rest, p.1 ≠ C)
    (hx : scope.names.lookup x = some .local) (hk : scope.kind = .function)
    (h : ∀ h' tk oC', Fr h₀ L h' m → News h₀ L h' ((I, oI) :: (C, oC') :: rest) → NsObj oC' (fun z => if z = x then some v else m₂ z) → Q () { s with heap := h', toks := tk }) :
    wpAny (model prog w) A (assign (.Name x px) (compEnvC scope cl C env) v) Q E s :=
  wpAny_assign_Name (comp_store F N hC hIC off hx hk fun h' oC' F' N' hC' => h h' _ oC' F' N' hC')

theorem comp_pair {x y : Str} {px py : Pos} {kk : Nat} {pos : Pos} {b : Addr} {u v : Value} {k : Nat} {scope : Scope} {cl : List (Str × Addr)} {env : Env} {I C : Addr} {oI oC : Obj} {m₂ : Str → Option Value} {rest : List (Addr × Obj)} {Q : Unit → Shared → Prop}
    (hh : A.handled = none) (F : Fr h₀ L s.heap m) (N : News h₀ L s.heap ((I, oI) :: (C, oC) :: rest)) (hC : NsObj oC m₂) (hIC : I ≠ C) (off : ∀ p ∈ rest, p.1 ≠ C) (hb : (b, tupO [u, v] k) ∈ rest)
    (hx : scope.names.lookup x = some .local) (hy : scope.names.lookup y = some .local) (hk : scope.kind = .function)
    (h : ∀ h' tk oC', Fr h₀ L h' m → News h₀ L h' ((I, oI) :: (C, oC') :: rest) → NsObj oC' (fun z => if z = y then some v else if z = x then some u else m₂ z) → Q () { s with heap := h', toks := tk }) :
    wpAny (model prog w) A (assign (.Tuple [.Name x px, .Name y py] kk pos) (compEnvC scope cl C env) (.ref b)) Q E s := by
  refine unpackN_ F N (isTup_of N (.tail _ (.tail _ hb))) hh rfl rfl fun h₁ F₁ N₁ => ?_
  refine assignInOrder_cons ?_
  refine wpAny_assign_Name (comp_store (s := { s with heap := h₁ }) F₁ N₁ hC hIC off hx hk fun h₂ o₂ F₂ N₂ hC₂ => ?_)
  refine assignInOrder_cons ?_
  refine wpAny_assign_Name (comp_store F₂ N₂ hC₂ hIC off hy hk fun h₃ o₃ F₃ N₃ hC₃ => ?_)
  exact assignInOrder_nil (h h₃ _ o₃ F₃ N₃ hC₃)

theorem TurnOk.mk {s₁ : Shared} {I C D : Addr} {oI oC' oD : Obj} {rest : List (Addr × Obj) → Prop} {h' : Heap} {tk : Nat} {m' : Str → Option Value} {all : List (Addr × Obj)} (news' : List (Addr × Obj)) (F : Fr h₀ L h' m) (N : News h₀ L h' all) (hC : NsObj oC' m')
    (sub : ∀ p ∈ (I, oI) :: (C, oC') :: (D, oD) :: news', p ∈ all) (off : Off3 I C D news') (r : rest news') : TurnOk h₀ L m s₁ I oI C D oD rest { s₁ with heap := h', toks := tk } :=
  TurnOkD.mk h' tk s₁.drawn news' oC' m' rfl F (fun p hp => N p (sub p hp)) hC off r

theorem CompGo.tup {elt target : PySem.Expr} {ifs : List PySem.Expr} {scope : Scope} {cl : List (Str × Addr)} {env : Env} {Fin : Shared → Addr → List Value → List (Addr × Obj) → Prop} {a : Addr} {vs : List Value} {k : Nat} {news : List (Addr × Obj)} {s₁ : Shared}
    (hh : A.handled = none) (F : Fr h₀ L s₁.heap m) (N : News h₀ L s₁.heap news) (hm : (a, tupO vs k) ∈ news) (hsz : vs.length ≤ sizeLine) (J : Nat → List Value → List (Addr × Obj) → Prop) (h0 : J 0 [] news) (hJS : ∀ i ys nw, J i ys nw → (a, tupO vs k) ∈ nw)
    (turn : ∀ I C D i ys news v oI oC m₂ h tk (E' : Value → Shared → Prop), I ≠ C → I ≠ D → C ≠ D → vs[i]? = some v → J i ys news → Fr h₀ L h m → News h₀ L h ((I, oI) :: (C, oC) :: (D, lst ys) :: news) → NsObj oC m₂ → Off3 I C D news →
        wpAny (model prog w) A (assign target (compEnvC scope cl C env) v) (fun _ s₂ => wpAny (model prog w) A (tests ifs (compEnvC scope cl C env)) (fun ok s₃ =>
          if ok = true then wpAny (model prog w) A (eval elt (compEnvC scope cl C env)) (fun y => TurnOk h₀ L m s₁ I oI C D (lst ys) (J (i + 1) (ys ++ [y]))) E' s₃
          else TurnOk h₀ L m s₁ I oI C D (lst ys) (J (i + 1) ys) s₃) E' s₂) E' { s₁ with heap := h, toks := tk })
    (fin : ∀ D ys news', Off1 D news' → J vs.length ys news' → Fin s₁ D ys news') : CompGo prog w A h₀ L m env elt target ifs scope cl Fin (.ref a) s₁ :=
  CompGoD.mk a news vs.length _ _ hh F N (.tup vs k) hm hsz fun I C D _ h1 h2 h3 _ _ => .mk J h0 hJS (fun i ys news v oI oC m₂ h tk d E' _ hP hJ hd => by cases hd; exact turn I C D i ys news v oI oC m₂ h tk E' h1 h2 h3 hP hJ) (fin D)
theorem CompGo.list {elt target : PySem.Expr} {ifs : List PySem.Expr} {scope : Scope} {cl : List (Str × Addr)} {env : Env} {Fin : Shared → Addr → List Value → List (Addr × Obj) → Prop} {a : Addr} {vs : List Value} {k : Nat} {news : List (Addr × Obj)} {s₁ : Shared}
    (hh : A.handled = none) (F : Fr h₀ L s₁.heap m) (N : News h₀ L s₁.heap news) (hm : (a, listOf vs.toArray k) ∈ news) (hsz : vs.length ≤ sizeLine) (J : Nat → List Value → List (Addr × Obj) → Prop) (h0 : J 0 [] news) (hJS : ∀ i ys nw, J i ys nw → (a, listOf vs.toArray k) ∈ nw)
    (turn : ∀ I C D i ys news v oI oC m₂ h tk (E' : Value → Shared → Prop), I ≠ C → I ≠ D → C ≠ D → vs[i]? = some v → J i ys news → Fr h₀ L h m → News h₀ L h ((I, oI) :: (C, oC) :: (D, lst ys) :: news) → NsObj oC m₂ → Off3 I C D news →
        wpAny (model prog w) A (assign target (compEnvC scope cl C env) v) (fun _ s₂ => wpAny (model prog w) A (tests ifs (compEnvC scope cl C env)) (fun ok s₃ =>
          if ok = true then wpAny (model prog w) A (eval elt (compEnvC scope cl C env)) (fun y => TurnOk h₀ L m s₁ I oI C D (lst ys) (J (i + 1) (ys ++ [y]))) E' s₃
          else TurnOk h₀ L m s₁ I oI C D (lst ys) (J (i + 1) ys) s₃) E' s₂) E' { s₁ with heap := h, toks := tk })
    (fin : ∀ D ys news', Off1 D news' → J vs.length ys news' → Fin s₁ D ys news') : CompGo prog w A h₀ L m env elt target ifs scope cl Fin (.ref a) s₁ :=
  CompGoD.mk a news vs.length _ _ hh F N (.lst vs k) hm hsz fun I C D _ h1 h2 h3 _ _ => .mk J h0 hJS (fun i ys news v oI oC m₂ h tk d E' _ hP hJ hd => by cases hd; exact turn I C D i ys news v oI oC m₂ h tk E' h1 h2 h3 hP hJ) (fin D)
theorem CompGo.range {elt target : PySem.Expr} {ifs : List PySem.Expr} {scope : Scope} {cl : List (Str × Addr)} {env : Env} {Fin : Shared → Addr → List Value → List (Addr × Obj) → Prop} {a : Addr} {n : Nat} {lo hi : Int} {t u t' : Tok} {news : List (Addr × Obj)} {s₁ : Shared}
    (hh : A.handled = none) (F : Fr h₀ L s₁.heap m) (N : News h₀ L s₁.heap news) (hr : IsRange s₁.heap a lo hi 1 t u t') (hsm : Builtin.Range.small lo hi 1 = true) (hn : Builtin.Range.rangeSize lo hi 1 = ((n : Nat) : Int)) (hsz : n ≤ sizeLine) (J : Nat → List Value → List (Addr × Obj) → Prop) (h0 : J 0 [] news)
    (turn : ∀ I C D i ys news t oI oC m₂ h tk (E' : Value → Shared → Prop), I ≠ C → I ≠ D → C ≠ D → i < n → J i ys news → Fr h₀ L h m → News h₀ L h ((I, oI) :: (C, oC) :: (D, lst ys) :: news) → NsObj oC m₂ → Off3 I C D news →
        wpAny (model prog w) A (assign target (compEnvC scope cl C env) (.int (lo + (i : Int)) t)) (fun _ s₂ => wpAny (model prog w) A (tests ifs (compEnvC scope cl C env)) (fun ok s₃ =>
          if ok = true then wpAny (model prog w) A (eval elt (compEnvC scope cl C env)) (fun y => TurnOk h₀ L m s₁ I oI C D (lst ys) (J (i + 1) (ys ++ [y]))) E' s₃
          else TurnOk h₀ L m s₁ I oI C D (lst ys) (J (i + 1) ys) s₃) E' s₂) E' { s₁ with heap := h, toks := tk })
    (fin : ∀ D ys news', Off1 D news' → J n ys news' → Fin s₁ D ys news') : CompGo prog w A h₀ L m env elt target ifs scope cl Fin (.ref a) s₁ :=
  CompGoD.mk a news n _ _ hh F N (.rng lo hi t u t' n hr hsm hn) trivial hsz fun I C D _ h1 h2 h3 _ _ => .mk J h0 (fun _ _ _ _ => trivial) (fun i ys news v oI oC m₂ h tk d E' hi hP hJ hd => by cases hd; obtain ⟨t, rfl⟩ := hP; exact turn I C D i ys news t oI oC m₂ h tk E' h1 h2 h3 hi hJ) (fin D)

theorem off_C {I C D : Addr} {oD : Obj} {news : List (Addr × Obj)} (off : Off3 I C D news) (hCD : C ≠ D) : ∀ p ∈ (D, oD) :: news, p.1 ≠ C := all_cons (Ne.symm hCD) fun p hp => (off3_ne off p hp).2.1

theorem cm_own {news : List (Addr × Obj)} {C : Addr} {oC : Obj} {m₂ : Str → Option Value} {scope : Scope} {cl : List (Str × Addr)} {env : Env} {x : Str} {pos : Pos} {v : Value} {Q : Value → Shared → Prop} (hl : (compEnvC scope cl C env).kindOf x = some .local) (hk : (compEnvC scope cl C env).scope.kind = .function) (hd : (x == ("__debug__" : Str)) = false)
    (N : News h₀ L s.heap news) (hm : (C, oC) ∈ news) (hC : NsObj oC m₂) (hx : m₂ x = some v) (h : Q v s) : wpAny (model prog w) A (eval (.Name x pos) (compEnvC scope cl C env)) Q E s := ldVarK (hC.ns (N _ hm).1) hx h hk hl hd
theorem cm_cell {news : List (Addr × Obj)} {C c : Addr} {o : Obj} {scope : Scope} {cl : List (Str × Addr)} {env : Env} {x : Str} {pos : Pos} {v : Value} {Q : Value → Shared → Prop} (hl : (compEnvC scope cl C env).kindOf x = some .cell) (hk : (compEnvC scope cl C env).scope.kind = .function) (hd : (x == ("__debug__" : Str)) = false)
    (hc : cl.lookup x = some c) (N : News h₀ L s.heap news) (hm : (c, o) ∈ news) (ho : o.data = .cell (some v)) (h : Q v s) : wpAny (model prog w) A (eval (.Name x pos) (compEnvC scope cl C env)) Q E s :=
  wpAny_Name (wpAny_loadName_cell hk hl hc ⟨o, N.get hm, ho⟩ h) hd
theorem cm_glob {K : Frag} {mg mb : Str → Option Value} {p : Program} {loose : List Str} {mean : ExcName → Option Value} {C : Addr} {scope : Scope} {cl : List (Str × Addr)} {env : Env} {x : Str} {pos : Pos} {v : Value} {Q : Value → Shared → Prop} (hl : (compEnvC scope cl C env).kindOf x = some .globalImplicit) (hk : (compEnvC scope cl C env).scope.kind = .function) (hd : (x == ("__debug__" : Str)) = false) (hg : env.globals = mainGlobals)
    (F : Fr h₀ L s.heap m) (X : K.In h₀) (T : Top p loose mean mg mb h₀) (e : nsIn K mainGlobals x = some (some v)) (h : Q v s) : wpAny (model prog w) A (eval (.Name x pos) (compEnvC scope cl C env)) Q E s :=
  LCgL.ld_global F X T e h hg hk hl hd
theorem cm_built {K : Frag} {mg mb : Str → Option Value} {p : Program} {loose : List Str} {mean : ExcName → Option Value} {C : Addr} {scope : Scope} {cl : List (Str × Addr)} {env : Env} {x : Str} {pos : Pos} {v : Value} {Q : Value → Shared → Prop} (hl : (compEnvC scope cl C env).kindOf x = some .globalImplicit) (hk : (compEnvC scope cl C env).scope.kind = .function) (hd : (x == ("__debug__" : Str)) = false) (hg : env.globals = mainGlobals) (hb : env.builtins = builtinsNs)
    (F : Fr h₀ L s.heap m) (X : K.In h₀) (T : Top p loose mean mg mb h₀) (e : nsIn K mainGlobals x = some none) (hv : bootBuiltins x = some v) (hn : x ≠ "__name__") (h : Q v s) : wpAny (model prog w) A (eval (.Name x pos) (compEnvC scope cl C env)) Q E s :=
  LCgL.ld_built F X T e hv hn h hg hb hk hl hd

theorem intsAre_snoc {n : Int} {t : Tok} : ∀ {vs : List Value} {ns : List Int}, IntsAre vs ns → IntsAre (vs ++ [.int n t]) (ns ++ [n])
  | _, _, h => h.append (.cons _ _ .nil)
theorem TurnOk.mk0 {s₁ : Shared} {I C D : Addr} {oI oC' oD : Obj} {rest : List (Addr × Obj) → Prop} {h' : Heap} {tk : Nat} {m' : Str → Option Value} {news : List (Addr × Obj)} (F : Fr h₀ L h' m) (N : News h₀ L h' ((I, oI) :: (C, oC') :: (D, oD) :: news)) (hC : NsObj oC' m')
    (off : Off3 I C D news) (r : rest news) : TurnOk h₀ L m s₁ I oI C D oD rest { s₁ with heap := h', toks := tk } := TurnOkD.mk h' tk s₁.drawn news oC' m' rfl F N hC off r
theorem TurnOk.mk1 {s₁ : Shared} {I C D : Addr} {oI oC' oD : Obj} {rest : List (Addr × Obj) → Prop} {h' : Heap} {tk : Nat} {m' : Str → Option Value} {q : Addr} {oq : Obj} {news : List (Addr × Obj)} {W : Prop} (F : Fr h₀ L h' m) (N : News h₀ L h' ((q, oq) :: (I, oI) :: (C, oC') :: (D, oD) :: news)) (hC : NsObj oC' m')
    (lt : I < q ∧ C < q ∧ D < q ∧ W) (off : Off3 I C D news) (r : rest ((q, oq) :: news)) : TurnOk h₀ L m s₁ I oI C D oD rest { s₁ with heap := h', toks := tk } :=
  TurnOkD.mk h' tk s₁.drawn ((q, oq) :: news) oC' m' rfl F (all_cons (N _ (.tail _ (.head _))) (all_cons (N _ (.tail _ (.tail _ (.head _)))) (all_cons (N _ (.tail _ (.tail _ (.tail _ (.head _))))) (all_cons (N _ (.head _)) fun p hp => N p (.tail _ (.tail _ (.tail _ (.tail _ hp))))))))
    hC ⟨⟨Ne.symm (Nat.ne_of_lt lt.1), Ne.symm (Nat.ne_of_lt lt.2.1), Ne.symm (Nat.ne_of_lt lt.2.2.1)⟩, off⟩ r
theorem off1_nes {D : Addr} : ∀ {l : List (Addr × Obj)}, Off1 D l → ∀ p ∈ l, @Ne Nat D p.1
  | [], _, _, h => nomatch h
  | _ :: _, x, p, h => all_cons (P := fun p => @Ne Nat D p.1) (Ne.symm x.1) (off1_nes x.2) p h
/-- a comprehension that picks ints of a list by a test; the list is a new one -/
theorem CompGo.filtO {x : Str} {px px' : Pos} {test : PySem.Expr} {scope : Scope} {cl : List (Str × Addr)} {env : Env} {Fin : Shared → Addr → List Value → List (Addr × Obj) → Prop} {a : Addr} {vs : List Value} {ns : List Int} {k : Nat} {news : List (Addr × Obj)} {s₁ : Shared}
    (hh : A.handled = none) (F : Fr h₀ L s₁.heap m) (N : News h₀ L s₁.heap news) (hm : (a, listOf vs.toArray k) ∈ news) (hi : IntsAre vs ns) (hsz : ns.length ≤ 1000) (hx : scope.names.lookup x = some .local) (hk : scope.kind = .function) (hd : (x == ("__debug__" : Str)) = false) (p : Int → Bool)
    (turn : ∀ I C D n t ys oI oC m₂ h tk (E' : Value → Shared → Prop), n ∈ ns → I ≠ C → I ≠ D → C ≠ D → Fr h₀ L h m → News h₀ L h ((I, oI) :: (C, oC) :: (D, lst ys) :: news) → NsObj oC m₂ → m₂ x = some (.int n t) → Off3 I C D news →
        wpAny (model prog w) A (isTrue test (compEnvC scope cl C env) (eval test (compEnvC scope cl C env))) (fun ok s' => ok = p n ∧ ∃ h' tk', s' = { s₁ with heap := h', toks := tk' } ∧ Fr h₀ L h' m ∧ News h₀ L h' ((I, oI) :: (C, oC) :: (D, lst ys) :: news)) E' { s₁ with heap := h, toks := tk })
    (fin : ∀ D ys, (∀ p ∈ news, @Ne Nat D p.1) → IntsAre ys (ns.filter p) → Fin s₁ D ys news) : CompGo prog w A h₀ L m env (.Name x px) (.Name x px') [test] scope cl Fin (.ref a) s₁ := by
  have hlen := hi.length
  refine CompGo.list hh F N hm (by rw [sizeLine_eq]; lia) (fun i ys nw => nw = news ∧ IntsAre ys ((ns.take i).filter p)) ⟨rfl, .nil⟩ (fun i ys nw h => by rw [h.1]; exact hm) ?_ ?_
  · intro I C D i ys news v oI oC m₂ h tk E' hIC hID hCD hv x1_i
    obtain ⟨rfl, hys⟩ := x1_i
    intro F₁ N₁ hC off
    have hlt : i < ns.length := by obtain ⟨h, _⟩ := List.getElem?_eq_some_iff.mp hv; lia
    have hni : ns[i]? = some ns[i] := List.getElem?_eq_getElem hlt
    obtain ⟨t, ht⟩ := hi.get i ns[i] hni
    have hvt : v = .int ns[i] t := by rw [ht] at hv; exact (Option.some.inj hv).symm
    subst hvt
    have htake : (ns.take (i + 1)).filter p = (ns.take i).filter p ++ (if p ns[i] then [ns[i]] else []) := by
      rw [List.take_add_one, hni, List.filter_append]
      cases hp : p ns[i] <;> simp [hp]
    refine comp_name F₁ N₁ hC hIC (off_C off hCD) hx hk (fun h2 tk2 oC2 F2 N2 hC2 => ?_)
    refine wpAny_tests_one ?_
    refine wpAny_mono (turn I C D ns[i] t ys oI oC2 _ h2 tk2 E' (List.getElem_mem hlt) hIC hID hCD F2 N2 hC2 (by rw [if_pos rfl]) off) (fun ok s3 h3 => ?_) fun _ _ e => e
    obtain ⟨rfl, h', tk', rfl, F3, N3⟩ := h3
    cases hp : p ns[i] with
    | false =>
      simp only [Bool.false_eq_true, if_false]
      exact TurnOk.mk0 F3 N3 hC2 off ⟨rfl, by rw [htake, hp]; simpa using hys⟩
    | true =>
      simp only [if_true]
      refine ldVarK (hC2.ns (N3 _ (.tail _ (.head _))).1) (v := .int ns[i] t) (by rw [if_pos rfl]) ?_ hk (lookup_relabel_local hx) hd
      exact TurnOk.mk0 F3 N3 hC2 off ⟨rfl, by rw [htake, hp]; exact intsAre_snoc hys⟩
  · intro D ys nw off x1_i
    obtain ⟨rfl, hys⟩ := x1_i
    refine fin D ys (off1_nes off) ?_
    rw [hlen, List.take_length] at hys
    exact hys
/-- a comprehension that picks ints of a list by a test -/
theorem CompGo.filt {x : Str} {px px' : Pos} {test : PySem.Expr} {scope : Scope} {cl : List (Str × Addr)} {env : Env} {Fin : Shared → Addr → List Value → List (Addr × Obj) → Prop} {a : Addr} {vs : List Value} {ns : List Int} {k : Nat} {news : List (Addr × Obj)} {s₁ : Shared}
    (hh : A.handled = none) (F : Fr h₀ L s₁.heap m) (N : News h₀ L s₁.heap news) (hm : (a, listOf vs.toArray k) ∈ news) (hi : IntsAre vs ns) (hsz : ns.length ≤ 1000) (hx : scope.names.lookup x = some .local) (hk : scope.kind = .function) (hd : (x == ("__debug__" : Str)) = false) (p : Int → Bool)
    (turn : ∀ I C D n t ys oI oC m₂ h tk (E' : Value → Shared → Prop), n ∈ ns → I ≠ C → I ≠ D → C ≠ D → Fr h₀ L h m → News h₀ L h ((I, oI) :: (C, oC) :: (D, lst ys) :: news) → NsObj oC m₂ → m₂ x = some (.int n t) → Off3 I C D news →
        wpAny (model prog w) A (isTrue test (compEnvC scope cl C env) (eval test (compEnvC scope cl C env))) (fun ok s' => ok = p n ∧ ∃ h' tk', s' = { s₁ with heap := h', toks := tk' } ∧ Fr h₀ L h' m ∧ News h₀ L h' ((I, oI) :: (C, oC) :: (D, lst ys) :: news)) E' { s₁ with heap := h, toks := tk })
    (fin : ∀ D ys, IntsAre ys (ns.filter p) → Fin s₁ D ys news) : CompGo prog w A h₀ L m env (.Name x px) (.Name x px') [test] scope cl Fin (.ref a) s₁ :=
  CompGo.filtO hh F N hm hi hsz hx hk hd p turn fun D ys _ h => fin D ys h
end

theorem take_snoc {α : Type} {l : List α} {i : Nat} {a : α} (h : l[i]? = some a) : l.take (i + 1) = l.take i ++ [a] := by
  rw [List.take_add_one, h]; rfl
end
section
section
variable {prog : Program} {w : World} {A : Around} {E : Value → Shared → Prop} {s : Shared} {h₀ : Heap} {L : Addr} {news : List (Addr × Obj)} {Q : Value → Shared → Prop}
theorem eqv_ints (ns ms : List Int) : PyData.eqv (.list (ns.map PyData.int)) (.list (ms.map PyData.int)) = decide (ns = ms) := by
  rw [← SeqAt.same_eq_eqv _ _ (by simp only [SeqAt.noMix]; exact noMix_ints ns ms)]
  simp only [PySem.Spec.same]
  exact same_ints ns ms
theorem eq_ints {a b : Addr} {vs us : List Value} {ns ms : List Int} {n k : Nat} (N : News h₀ L s.heap news) (ha : (a, listOf vs.toArray n) ∈ news) (hb : (b, listOf us.toArray k) ∈ news) (hi : IntsAre vs ns) (hj : IntsAre us ms) (hu : A.units + 64 < cLine) (h : Q (.bool (decide (ns = ms))) s) :
    wpAny (model prog w) A (compareOp .Eq (.ref a) (.ref b)) Q E s :=
  SeqAt.rcAt_reads (reads_of_ints (isList_of N ha) hi) (reads_of_ints (isList_of N hb) hj) (SeqAt.canLay_of_shaped (shaped_ints ns)) (SeqAt.canLay_of_shaped (shaped_ints ms)) (SeqAt.room_of_shaped (shaped_ints ns) hu) prog w E Q (by rw [eqv_ints]; exact h)
theorem ne_ints {a b : Addr} {vs us : List Value} {ns ms : List Int} {n k : Nat} (N : News h₀ L s.heap news) (ha : (a, listOf vs.toArray n) ∈ news) (hb : (b, listOf us.toArray k) ∈ news) (hi : IntsAre vs ns) (hj : IntsAre us ms) (hu : A.units + 64 < cLine) (h : Q (.bool (!decide (ns = ms))) s) :
    wpAny (model prog w) A (compareOp .NotEq (.ref a) (.ref b)) Q E s :=
  SeqAt.rcNeAt_reads (reads_of_ints (isList_of N ha) hi) (reads_of_ints (isList_of N hb) hj) (SeqAt.canLay_of_shaped (shaped_ints ns)) (SeqAt.canLay_of_shaped (shaped_ints ms)) (SeqAt.room_of_shaped (shaped_ints ns) hu) prog w E Q (by rw [eqv_ints]; exact h)
theorem in_ints {a : Addr} {vs : List Value} {ns : List Int} {n : Nat} {k : Int} {t : Tok} (N : News h₀ L s.heap news) (ha : (a, listOf vs.toArray n) ∈ news) (hi : IntsAre vs ns) (h : Q (.bool (ns.contains k)) s) : wpAny (model prog w) A (compareOp .In (.int k t) (.ref a)) Q E s :=
  in_list_ints (isList_of N ha) hi (by rw [List.contains_eq_any_beq, show (fun x => x == k) = (fun x => k == x) from funext fun x => Bool.beq_comm] at *; exact h)
theorem notin_ints {a : Addr} {vs : List Value} {ns : List Int} {n : Nat} {k : Int} {t : Tok} (N : News h₀ L s.heap news) (ha : (a, listOf vs.toArray n) ∈ news) (hi : IntsAre vs ns) (h : Q (.bool (!ns.contains k)) s) : wpAny (model prog w) A (compareOp .NotIn (.int k t) (.ref a)) Q E s :=
  notin_list_ints (isList_of N ha) hi (by rw [List.contains_eq_any_beq, show (fun x => x == k) = (fun x => k == x) from funext fun x => Bool.beq_comm] at *; exact h)

def pairD (p : Int × Int) : PyData := .tuple [.int p.1, .int p.2]
theorem reads_pairs {h : Heap} (N : News h₀ L h news) : ∀ {vs : List Value} {ps : List (Int × Int)}, PairsIn news vs ps → ∃ as, ReadsAll h vs (ps.map pairD) as
  | [], [], _ => ⟨[], .nil⟩
  | [], _ :: _, x => x.elim
  | _ :: _, [], x => x.elim
  | _ :: _, p :: _, ⟨⟨b, t1, t2, n, e, hb⟩, r⟩ => by
    obtain ⟨as, hr⟩ := reads_pairs N r
    subst e
    exact ⟨_, .cons (.tuple (N _ hb).1 rfl rfl (.cons (.int _ _) (.cons (.int _ _) .nil))) hr⟩
theorem reads_dom {h : Heap} {a : Addr} {ps : List (Int × Int)} (N : News h₀ L h news) (x : DomIn news a ps) : ∃ as, Reads h (.ref a) (.tuple (ps.map pairD)) as := by
  obtain ⟨vs, n, hm, hp⟩ := x
  obtain ⟨as, hr⟩ := reads_pairs N hp
  exact ⟨as, .tuple (N _ hm).1 rfl rfl hr⟩
theorem noMix_pairs : ∀ ps qs : List (Int × Int), SeqAt.noMixAll (ps.map pairD) (qs.map pairD) = true
  | [], [] => rfl
  | [], _ :: _ => rfl
  | _ :: _, [] => rfl
  | p :: ps, q :: qs => by
    simp only [List.map_cons, SeqAt.noMixAll, pairD, SeqAt.noMix, Bool.true_and, Bool.and_true]
    exact noMix_pairs ps qs
theorem same_pairs : ∀ ps qs : List (Int × Int), PySem.Spec.sameAll (ps.map pairD) (qs.map pairD) = decide (ps = qs)
  | [], [] => rfl
  | [], _ :: _ => rfl
  | _ :: _, [] => rfl
  | p :: ps, q :: qs => by
    obtain ⟨a, b⟩ := p
    obtain ⟨c, d⟩ := q
    have ih := same_pairs ps qs
    simp only [List.map_cons, PySem.Spec.sameAll, pairD, PySem.Spec.same] at ih ⊢
    rw [show PySem.Spec.sameAll (List.map pairD ps) (List.map pairD qs) = decide (ps = qs) from same_pairs ps qs]
    by_cases h1 : a = c <;> by_cases h2 : b = d <;> by_cases h3 : ps = qs <;> simp [h1, h2, h3]
theorem eqv_pairs (ps qs : List (Int × Int)) : PyData.eqv (.tuple (ps.map pairD)) (.tuple (qs.map pairD)) = decide (ps = qs) := by
  rw [← SeqAt.same_eq_eqv _ _ (by simp only [SeqAt.noMix]; exact noMix_pairs ps qs)]
  simp only [PySem.Spec.same]
  exact same_pairs ps qs
theorem depthAll_pairs : ∀ ps : List (Int × Int), PyData.depthAll (ps.map pairD) ≤ 3
  | [] => by simp [PyData.depthAll]
  | p :: r => by
    have := depthAll_pairs r
    have e : PyData.depth (pairD p) ≤ 3 := by simp [pairD, PyData.depth, PyData.depthAll]
    simp only [List.map_cons, PyData.depthAll]
    lia
theorem canLayAll_pairs : ∀ ps : List (Int × Int), PyData.canLayAll0 (ps.map pairD) = true
  | [] => by simp [PyData.canLayAll0]
  | p :: r => by
    have := canLayAll_pairs r
    simp [PyData.canLayAll0, pairD, PyData.canLay0, this]
theorem shaped_pairs (ps : List (Int × Int)) : SeqAt.shaped (.tuple (ps.map pairD)) = true := by
  have h1 := depthAll_pairs ps
  have h2 : PyData.depth (.tuple (ps.map pairD)) ≤ 64 := by simp only [PyData.depth]; lia
  show (PyData.canLay0 (.tuple (ps.map pairD)) && decide (PyData.depth (.tuple (ps.map pairD)) ≤ 64)) = true
  rw [Bool.and_eq_true]
  exact ⟨by simp only [PyData.canLay0]; exact canLayAll_pairs ps, decide_eq_true h2⟩
theorem eq_doms {a b : Addr} {ps qs : List (Int × Int)} (N : News h₀ L s.heap news) (ha : DomIn news a ps) (hb : DomIn news b qs) (hu : A.units + 64 < cLine) (h : Q (.bool (decide (ps = qs))) s) :
    wpAny (model prog w) A (compareOp .Eq (.ref a) (.ref b)) Q E s := by
  obtain ⟨_, ra⟩ := reads_dom N ha
  obtain ⟨_, rb⟩ := reads_dom N hb
  exact SeqAt.rcAt_reads ra rb (SeqAt.canLay_of_shaped (shaped_pairs ps)) (SeqAt.canLay_of_shaped (shaped_pairs qs)) (SeqAt.room_of_shaped (shaped_pairs ps) hu) prog w E Q (by rw [eqv_pairs]; exact h)
theorem sub_list_neg {value slice : PySem.Expr} {a : Addr} {vs : List Value} {n : Nat} {k : Int} {u : Tok} {v : Value} (N : News h₀ L s.heap news) (hm : (a, listOf vs.toArray n) ∈ news)
    (h0 : k < 0) (hk : 0 ≤ k + (vs.length : Nat)) (hl : -(2 ^ 63) ≤ k) (hx : vs[(k + (vs.length : Nat)).toNat]? = some v) (h : Q v s)
    (hs : subscripted slice false (.ref a) (.int k u) = operate [.ref a, .int k u] (getItem (.ref a) (.int k u)) := by with_unfolding_all rfl) :
    wpAny (model prog w) A (subscriptTail value slice (.ref a) (.int k u)) Q E s :=
  have hL := isList_of N hm
  tail_any hL.typeIs slot_list_getitem.lookup (wpAny_getItem_list_neg hL h0 (by rw [List.size_toArray]; lia) hl (by rw [List.size_toArray]; simpa using hx) h) hs
theorem ints_head {vs : List Value} {ns : List Int} (h : IntsAre vs ns) (hne : ns ≠ []) : ∃ t, vs[(0 : Int).toNat]? = some (.int (ns.headD 0) t) := by
  match ns, hne with
  | n :: r, _ => exact h.get 0 n rfl
theorem ints_last {vs : List Value} {ns : List Int} (h : IntsAre vs ns) (hne : ns ≠ []) : 0 ≤ (-1 : Int) + (vs.length : Nat) ∧ ∃ t, vs[((-1 : Int) + (vs.length : Nat)).toNat]? = some (.int (ns.getLastD 0) t) := by
  have hl := h.length
  have hp : 0 < ns.length := List.length_pos_iff.mpr hne
  refine ⟨by lia, ?_⟩
  refine h.get _ _ ?_
  have e : ((-1 : Int) + (vs.length : Nat)).toNat = ns.length - 1 := by lia
  rw [e, ← List.getLast?_eq_getElem?]
  cases ns with
  | nil => exact absurd rfl hne
  | cons a r => simp [List.getLast?_cons, List.getLastD_cons]
theorem dom_nil {a : Addr} {n : Nat} (h : (a, tupO [] n) ∈ news) : DomIn news a [] := ⟨[], n, h, trivial⟩
end
end
theorem words_F : True := by
  k_with "m_enter" => (unfold Does; k_fill; intro mean mg mb dp un gd cn cs a ccd cl outer A₀ base h₀ L m s Q E B F X N T hk hdp hun hret; refine wpAny_call ?_; k_dflt (refine' code_def (by k_asm) (by k_asm) (by k_asm) (by k_asm) (by k_asm) (by exact rfl) (by exact rfl) (by assumption) (by k_is) (by k_is) (by ktr_room) (BindsTo.of_eq rfl) (locs (by exact rfl)) ?_ (by exact rfl) (by exact rfl) (by exact rfl) (by decide)); intro g1 L1 h1 FG1 F1 N1 B1 X1 T1; (try dsimp only); (try k_fold))
  k_with "m_enterC" => (unfold Does; k_fill; intro mean mg mb dp un gd cn cs a ccd cl outer A₀ base h₀ L m s Q E B F X N T hk hdp hun hret; refine wpAny_call ?_; k_dflt (refine' code_defC (by k_asm) (by k_asm) (by k_asm) (by k_asm) (by k_asm) (by exact rfl) (by exact rfl) (by assumption) (by k_is) (by k_is) (by ktr_room) (BindsTo.of_eq rfl) (by exact rfl) (by decide +kernel) ?_ (by exact rfl) (by exact rfl) (by exact rfl)); intro g1 L1 h1 tk1 cells1 FG1 F1 N1 Y1 B1 X1 T1 l1; k_cells Y1; (try simp only [List.cons_append, List.nil_append] at N1); (try dsimp only); (try k_fold))
  k_with "m_ret" => (refine hret _ _ _ _ ?_ (by assumption) (by assumption); dsimp only)
  k_with "m_retS" => (refine hret _ _ _ _ ⟨rfl, ?_⟩ (by assumption) (cb_drop (by assumption) (by intro p hp; first | exact hp | (simp [hp]; done))); try dsimp only)
  k_with "m_agree" => (intro z hz; have hz1 := hz; simp only [List.contains_cons, List.contains_nil, Bool.or_false, Bool.or_eq_false_iff, beq_eq_false_iff_ne, ne_eq] at hz1; simp [hz1])
  trivial
theorem words_F_p : True := by
  k_with "k_memK" => (first | with_reducible assumption | with_reducible exact List.mem_cons_self | (with_reducible refine List.mem_cons_of_mem _ ?_; k_extra "k_memK") | (with_reducible refine List.mem_append_right _ ?_; k_extra "k_memK") | (with_reducible refine List.mem_append_left _ ?_; k_extra "k_memK"))
  k_with "k_mem" => (k_memK)
  k_with "eval ListComp" => (((k_here; k_dflt (refine' comp_eval ?c0_q ?c1_q ?c2_q ?c3_q ?c4_q ?_ ?c5_q; (case c0_q => k_asm); (case c1_q => with_unfolding_all rfl); (case c2_q => decide); (case c3_q => rfl); (case c4_q => decide); (case c5_q => (intro _; with_unfolding_all rfl))))))
  k_with "eval Name" => (((k_here; (with_reducible show wpAny _ _ (eval (Expr.Name _ _) (compEnvC _ _ _ _)) _ _ _); k_dflt (first   | (refine' cm_own ?a_q ?b_q ?c_q ?N_q ?m_q ?d_q ?e_q ?_; (case a_q => rfl); (case b_q => rfl); (case c_q => decide); (case N_q => k_asm); (case m_q => k_mem); (case d_q => assumption); (case e_q => exact rfl); k_whole)   | (refine' cm_cell ?a_q ?b_q ?c_q ?d_q ?N_q ?m_q ?e_q ?_; (case a_q => rfl); (case b_q => rfl); (case c_q => decide); (case d_q => rfl); (case N_q => k_asm); (case m_q => k_mem); (case e_q => assumption); k_whole)   | (refine' cm_glob ?a_q ?b_q ?c_q ?d_q ?F_q ?X_q ?T_q ?e_q ?_; (case a_q => rfl); (case b_q => rfl); (case c_q => decide); (case d_q => rfl); (case F_q => k_asm); (case X_q => k_asm); (case T_q => k_asm); (case e_q => k_is); k_whole)   | (refine' cm_built ?a_q ?b_q ?c_q ?d_q ?f_q ?F_q ?X_q ?T_q ?e_q ?g_q ?i_q ?_; (case a_q => rfl); (case b_q => rfl); (case c_q => decide); (case d_q => rfl); (case f_q => rfl); (case F_q => k_asm); (case X_q => k_asm); (case T_q => k_asm); (case e_q => k_is); (case g_q => boot_by_name); (case i_q => decide); k_whole)))))
  k_with "call type:tuple" => (((k_here; (with_reducible show wpAny _ _ (call (Value.type _) [Value.ref _]) _ _ _); k_dflt (refine' kde_tupleOf ?k1_q ?k2_q (isList_of ?k3_q ?k4_q) ?k5_q rfl ?_; (case k1_q => k_asm); (case k2_q => k_asm); (case k3_q => k_asm); (case k4_q => k_memK); (case k5_q => (rw [List.size_toArray]; omega)); k_whole); intro D'_w h'_w F'_w N'_w l1_w; (try k_lt l1_w); (try k_sweep))); (try revert l1_w); (try revert N'_w); (try revert F'_w); (try revert h'_w); (try revert D'_w); intros)
  k_with "subscriptTail" => (((k_here; (with_reducible show wpAny _ _ (subscriptTail _ _ (Value.ref _) (Value.int _ _)) _ _ _); (with_unfolding_all refine' sub_tup ?k1_q ?k2_q ?k3_q ?k4_q ?k5_q ?_ ?k6_q; (case k1_q => k_asm); (case k2_q => k_memK); (case k3_q => first | decide | assumption | omega); (case k4_q => first | decide | exact lt63 (by assumption) | omega); (case k5_q => first | rfl | assumption); (case k6_q => with_unfolding_all rfl); k_whole))))
  k_with "subscriptTail" => (((k_here; (with_reducible show wpAny _ _ (subscriptTail _ _ (Value.ref _) (Value.int _ _)) _ _ _); (with_unfolding_all refine' sub_tup_neg ?k1_q ?k2_q ?k3_q ?k4_q ?k7_q ?k5_q ?_ ?k6_q; (case k1_q => k_asm); (case k2_q => k_memK); (case k3_q => decide); (case k7_q => decide); (case k4_q => first | assumption | (simp only [List.length_cons]; omega)); (case k5_q => assumption); (case k6_q => with_unfolding_all rfl); k_whole))))
  k_with "exec For Tuple Name cons nil" => (((k_here; (rename Fr _ _ _ _ => lF'_w); (with_unfolding_all refine' For_turns lF'_w ?_; k_whole))); (try revert lF'_w); intros)
  k_with "ktr_rel" => (first | assumption | exact DomIn.mono (by assumption) (by intro p hp; k_memK))
  k_with "call builtin:len" => (((k_here; (with_reducible show wpAny _ _ (call (Value.builtin _) [Value.ref _]) _ _ _); k_dflt (first   | (refine' len_tupN ?k1_q ?k2_q ?k3_q ?_; (case k1_q => k_asm); (case k2_q => k_memK); (case k3_q => first | omega | (simp only [List.length_cons, List.length_nil]; omega)); k_whole)   | (refine' len_listN ?k1_q ?k2_q ?k3_q ?_; (case k1_q => k_asm); (case k2_q => k_memK); (case k3_q => first | omega | (simp only [List.length_cons, List.length_nil]; omega)); k_whole)))))
  k_with "k_all" => (first | assumption | exact allNe_of (by assumption))
  k_with "exec While" => (((k_here; k_dflt (refine Loop.start ?_))))
  k_with "exec While Compare" => (((k_here; k_dflt (refine Loop.start ?_))))
  k_with "exec While BoolOp" => (((k_here; k_dflt (refine Loop.start ?_))))
  k_with "last exec While" => (((k_here; k_dflt (refine Loop.start ?_))))
  k_with "k_room" => (ktr_room)
  k_with "k_units" => (ktr_units)
  k_with "subscriptTail" => (((k_here; (with_reducible show wpAny _ _ (subscriptTail _ _ (Value.ref _) (Value.int _ _)) _ _ _); (with_unfolding_all refine' sub_list ?k1_q ?k2_q ?k3_q ?k4_q ?k5_q ?_ ?k6_q; (case k1_q => k_asm); (case k2_q => k_memK); (case k3_q => first | decide | assumption | omega); (case k4_q => first | decide | exact lt63 (by assumption) | omega); (case k5_q => first | rfl | assumption); (case k6_q => with_unfolding_all rfl); k_whole))))
  k_with "exec Assign cons ListComp" => (((k_here; k_dflt (refine' comp_assign ?c0_q ?c6_q ?c7_q ?c1_q ?c2_q ?c3_q ?c4_q ?c8_q ?c9_q ?_ ?c5_q; (case c0_q => k_asm); (case c6_q => rfl); (case c7_q => with_unfolding_all rfl); (case c1_q => with_unfolding_all rfl); (case c2_q => decide); (case c3_q => rfl); (case c4_q => decide); (case c8_q => rfl); (case c9_q => rfl); (case c5_q => (intro _; with_unfolding_all rfl))))))
  k_with "compareOp In int ref" => (((k_here; k_dflt (refine' in_ints ?k1_q ?k2_q ?k3_q ?_; (case k1_q => k_asm); (case k2_q => k_memK); (case k3_q => (first | assumption | exact .nil | exact .cons _ _ .nil)); k_whole))))
  k_with "compareOp NotIn int ref" => (((k_here; k_dflt (refine' notin_ints ?k1_q ?k2_q ?k3_q ?_; (case k1_q => k_asm); (case k2_q => k_memK); (case k3_q => (first | assumption | exact .nil | exact .cons _ _ .nil)); k_whole))))
  k_with "compareOp NotEq ref ref" => (((k_here; k_dflt (refine' ne_ints ?k1_q ?k2_q ?k3_q ?k4_q ?k5_q ?k6_q ?_; (case k1_q => k_asm); (case k2_q => k_memK); (case k3_q => k_memK); (case k4_q => (first | assumption | exact .nil | exact .cons _ _ .nil)); (case k5_q => (first | assumption | exact .nil | exact .cons _ _ .nil)); (case k6_q => (first | ktr_units | (simp only [ktrTop, Around.in1]; omega))); k_whole))))
  k_with "compareOp Eq ref ref" => (((k_here; k_dflt (first | (refine' eq_ints ?k1_q ?k2_q ?k3_q ?k4_q ?k5_q ?k6_q ?_; (case k1_q => k_asm); (case k2_q => k_memK); (case k3_q => k_memK); (case k4_q => (first | assumption | exact .nil | exact .cons _ _ .nil)); (case k5_q => (first | assumption | exact .nil | exact .cons _ _ .nil)); (case k6_q => (first | ktr_units | (simp only [ktrTop, Around.in1]; omega))); k_whole) | (refine' eq_doms ?k1_q ?k2_q ?k3_q ?k6_q ?_; (case k1_q => k_asm); (case k2_q => first | ktr_rel | exact dom_nil (by k_memK)); (case k3_q => first | ktr_rel | exact dom_nil (by k_memK)); (case k6_q => (first | ktr_units | (simp only [ktrTop, Around.in1]; omega))); k_whole)))))
  k_with "subscriptTail" => (((k_here; (with_reducible show wpAny _ _ (subscriptTail _ _ (Value.ref _) (Value.int _ _)) _ _ _); (with_unfolding_all refine' sub_list_neg ?k1_q ?k2_q ?k3_q ?k4_q ?k7_q ?k5_q ?_ ?k6_q; (case k1_q => k_asm); (case k2_q => k_memK); (case k3_q => decide); (case k7_q => decide); (case k4_q => first | assumption | (simp only [List.length_cons]; omega)); (case k5_q => assumption); (case k6_q => with_unfolding_all rfl); k_whole))))
  k_with "ktr_room" => (first | exact rmA (by with_reducible assumption) | exact rmB (by with_reducible assumption) (by decide) | exact rmC (by with_reducible assumption) (by decide))
  k_with "ktr_units" => (first | exact rmB (by with_reducible assumption) (by decide) | exact rmC (by with_reducible assumption) (by decide))
  k_with "k_conj" => ((rename (_ ∧ _) => q9; with_reducible first | exact q9.1 | exact q9.2.1 | exact q9.2.2.1 | exact q9.2.2.2.1 | exact q9.2.2.2.2.1 | exact q9.2.2.2.2.2.1 | exact q9.2.2.2.2.2.2.1 | exact q9.2.2.2.2.2.2.2.1 | exact q9.2.2.2.2.2.2.2.2.1 | exact q9.2.2.2.2.2.2.2.2.2.1 | exact q9.2.2.2.2.2.2.2.2.2.2.1 | exact q9.2.2.2.2.2.2.2.2.2.2.2.1 | exact q9.2.2.2.2.2.2.2.2.2.2.2.2.1 | exact q9.2.2.2.2.2.2.2.2.2.2.2.2.2.1 | exact q9.2.2.2.2.2.2.2.2.2.2.2.2.2.2.1 | exact q9.2.2.2.2.2.2.2.2.2.2.2.2.2.2.2.1 | exact q9.2.2.2.2.2.2.2.2.2.2.2.2.2.2.2.2.1 | exact q9.2.2.2.2.2.2.2.2.2.2.2.2.2.2.2.2.2.1 | exact q9.2 | exact q9.2.2 | exact q9.2.2.2 | exact q9.2.2.2.2.2.2 | exact q9.2.2.2.2 | exact q9.2.2.2.2.2 | (clear q9; k_extra "k_conj")))
  k_with "k_lts" => (first   | with_reducible assumption   | with_reducible exact Nat.lt_succ_self _   | k_extra "k_conj"   | (with_reducible refine Nat.lt_succ_of_lt ?_; k_extra "k_lts"))
  k_with "k_ne" => ((refine neN ?_; (try dsimp only); first   | with_reducible assumption   | (with_reducible refine Ne.symm ?_; with_reducible assumption)   | k_extra "k_conj"   | (with_reducible refine Ne.symm ?_; k_extra "k_conj")   | (with_reducible refine Nat.ne_of_lt ?_; k_extra "k_lts")   | (with_reducible refine Nat.ne_of_gt ?_; k_extra "k_lts")))
  trivial
local macro_rules | `(tactic| k_memK) => `(tactic| k_extra "k_memK")
local macro_rules | `(tactic| k_mem) => `(tactic| k_extra "k_mem")
local macro_rules | `(tactic| ktr_rel) => `(tactic| k_extra "ktr_rel")
local macro_rules | `(tactic| k_all) => `(tactic| k_extra "k_all")
local macro_rules | `(tactic| k_room) => `(tactic| k_extra "k_room")
local macro_rules | `(tactic| k_units) => `(tactic| k_extra "k_units")
local macro_rules | `(tactic| ktr_room) => `(tactic| k_extra "ktr_room")
local macro_rules | `(tactic| ktr_units) => `(tactic| k_extra "ktr_units")
local macro_rules | `(tactic| k_ne) => `(tactic| k_extra "k_ne")
section
theorem least_does (w : World) (rest : List (Addr × Obj)) (d p : Addr) (lo hi : Int) (t1 t2 : Tok) (vs : List Value) (n k : Nat)
   (hd : (d, tupO (.ref p :: vs) n) ∈ rest) (hp : (p, tupO [.int lo t1, .int hi t2] k) ∈ rest) :
   Does w 42 rest [.ref d] 1 8 (fun r news' => news' = rest ∧ ∃ t, r = .int lo t) := by
  k_extra "m_enter"
  k_steps
  k_extra "m_ret"
  exact ⟨rfl, _, rfl⟩
theorem greatest_does (w : World) (rest : List (Addr × Obj)) (d p : Addr) (lo hi : Int) (t1 t2 : Tok) (vs : List Value) (n k : Nat) (hl : 0 ≤ (-1 : Int) + (vs.length : Nat)) (hl2 : vs[((-1 : Int) + (vs.length : Nat)).toNat]? = some (.ref p))
   (hd : (d, tupO vs n) ∈ rest) (hp : (p, tupO [.int lo t1, .int hi t2] k) ∈ rest) :
   Does w 49 rest [.ref d] 1 8 (fun r news' => news' = rest ∧ ∃ t, r = .int hi t) := by
  k_extra "m_enter"
  k_steps
  k_extra "m_ret"
  exact ⟨rfl, _, rfl⟩
theorem next_from_does (w : World) (rest : List (Addr × Obj)) (d : Addr) (vs : List Value) (ps : List (Int × Int)) (n : Nat) (v : Int) (tv : Tok)
   (hd : (d, tupO vs n) ∈ rest) (hp : PairsIn rest vs ps) :
   Does w 56 rest [.ref d, .int v tv] 1 8 (fun r news' => news' = rest ∧ OptIs (nextFrom ps v) r) := by
  k_extra "m_enter"
  replace F1 : Fr _ _ _ (fun y => List.lookup y [(Str.ofString "v", Value.int v tv), (Str.ofString "d", Value.ref d)]) := F1
  k_steps
  refine iter_tupTurns (by rfl) (by assumption) (by assumption) hd rfl rfl (fun I hI => ?_)
  refine items_ind (fun l m news => news = rest ∧ (∀ z, ([Str.ofString "low", Str.ofString "high"] : List Str).contains z = false → m z = List.lookup z [(Str.ofString "v", Value.int v tv), (Str.ofString "d", Value.ref d)]) ∧ ∃ ps', PairsIn rest l ps' ∧ nextFrom ps' v = nextFrom ps v) ?_ ?_ _ _ _ ⟨rfl, fun _ _ => rfl, ps, hp, rfl⟩
  · intro m news x1_i
    obtain ⟨rfl, hm, ps', hps, e⟩ := x1_i
    refine ItemsRest.zero (fun h tk F N => ?_)
    have F2 := forget _ F hm
    dsimp only
    k_steps
    k_extra "m_ret"
    refine ⟨rfl, ?_⟩
    rw [← e]
    match ps', hps with
    | [], _ => exact rfl
  · intro u l m news x1_i
    obtain ⟨rfl, hm, ps', hps, e⟩ := x1_i
    intro IH
    refine ItemsRest.val (fun h tk F => ?_)
    refine AllObj.cons (fun o' hc' => ?_)
    refine AllObj.nil (fun N' => ?_)
    have F2 := forget _ F hm
    clear F
    simp only [List.cons_append, List.nil_append] at N'
    match ps', hps with
    | p :: r, ⟨⟨b, t1, t2, k, hu, hb⟩, hr⟩ =>
      subst hu
      k_steps
      · k_extra "m_retS"
        rw [← e]
        rename (v ≤ _) => hle
        unfold nextFrom
        rw [if_pos hle]
        have : max p.1 v = if v > p.1 then v else p.1 := by rw [Int.max_def]; split <;> split <;> lia
        rw [this]
        exact ⟨_, rfl⟩
      · refine turn_end (by assumption) (by assumption) (.head _) (fun p hp => .tail _ hp) (fun p hp => Nat.ne_of_lt (hI p hp)) ⟨⟨hd, trivial⟩, ?_⟩
        refine IH _ _ ⟨rfl, ?_, r, hr, ?_⟩
        · k_extra "m_agree"
        · rename (¬ v ≤ _) => hle
          rw [← e]
          unfold nextFrom
          rw [if_neg hle]
          cases r <;> rfl

end
theorem words_W1_1 : True := by
  k_with "call ref" => (((k_here; k_dflt (refine' Does.useN (next_from_does _ _ _ _ _ _ _ _ ?q1_q ?q2_q) ?k1_q ?k2_q ?k3_q ?k4_q ?k5_q ?k6_q ?k7_q ?k8_q ?_; (case k1_q => k_asm); (case k2_q => k_asm); (case k3_q => k_asm); (case k4_q => k_asm); (case k5_q => k_asm); (case k6_q => first | exact rfl | assumption); (case q1_q => k_mem); (case q2_q => assumption); (case k7_q => ktr_room); (case k8_q => ktr_units)); intro r9_w h9_w tk9_w F9_w N9_w p9_w)); (try revert p9_w); (try revert N9_w); (try revert F9_w); (try revert tk9_w); (try revert h9_w); (try revert r9_w); intros)
  trivial
section
theorem has_does (w : World) (rest : List (Addr × Obj)) (d : Addr) (ps : List (Int × Int)) (v : Int) (tv : Tok) (hd : DomIn rest d ps) :
   Does w 63 rest [.ref d, .int v tv] 2 16 (fun r news' => news' = rest ∧ r = .bool (decide (nextFrom ps v = some v))) := by
  obtain ⟨vs, n, hd, hp⟩ := hd
  k_extra "m_enter"
  k_steps
  rename OptIs _ _ => p
  cases hq : nextFrom ps v with
  | none =>
    rw [hq] at p
    cases p
    k_steps
    k_extra "m_retS"
    simp [hq]
  | some k =>
    rw [hq] at p
    obtain ⟨t, rfl⟩ := p
    k_steps
    k_extra "m_retS"
    by_cases hkv : k = v
    · simp [hkv, hq]
    · simp [hkv, hq]
end
section
def upTo (d : List (Int × Int)) (k : Int) : List (Int × Int) := (d.filter fun p => decide (p.1 ≤ k)).map fun p => (p.1, if k < p.2 then k else p.2)
def fromOn (d : List (Int × Int)) (k : Int) : List (Int × Int) := (d.filter fun p => decide (k ≤ p.2)).map fun p => (if k > p.1 then k else p.1, p.2)
theorem upTo_snoc (l : List (Int × Int)) (p : Int × Int) (k : Int) : upTo (l ++ [p]) k = upTo l k ++ if p.1 ≤ k then [(p.1, if k < p.2 then k else p.2)] else [] := by
  unfold upTo
  by_cases h : p.1 ≤ k <;> simp [List.filter_append, h]
theorem fromOn_snoc (l : List (Int × Int)) (p : Int × Int) (k : Int) : fromOn (l ++ [p]) k = fromOn l k ++ if k ≤ p.2 then [(if k > p.1 then k else p.1, p.2)] else [] := by
  unfold fromOn
  by_cases h : k ≤ p.2 <;> simp [List.filter_append, h]

theorem upTo_len (l : List (Int × Int)) (k : Int) : (upTo l k).length ≤ l.length := by unfold upTo; rw [List.length_map]; exact List.length_filter_le _ _
theorem fromOn_len (l : List (Int × Int)) (k : Int) : (fromOn l k).length ≤ l.length := by unfold fromOn; rw [List.length_map]; exact List.length_filter_le _ _
theorem up_to_does (w : World) (rest : List (Addr × Obj)) (d : Addr) (ps : List (Int × Int)) (k : Int) (tk : Tok) (hd : DomIn rest d ps) (hz : ps.length ≤ 100) :
   Does w 68 rest [.ref d, .int k tk] 1 8 (fun r news' => ∃ a tl, r = .ref a ∧ news' = tl ++ rest ∧ DomIn (tl ++ rest) a (upTo ps k)) := by
  obtain ⟨vs, n, hd, hp⟩ := hd
  have hlen := hp.length
  k_extra "m_enterC"
  replace F1 : Fr g1 L1 h1 (fun y => if y = Str.ofString "d" then some (Value.ref d) else none) := F1
  rename Obj => oK
  rename (oK.data = _) => hK
  replace hK : oK.data = Data.cell (some (Value.int k tk)) := hK
  k_steps
  refine CompGo.tup (by rfl) (by assumption) (by assumption) (.tail _ hd) (by rw [sizeLine_eq]; lia)
    (fun i ys news => ∃ tl, news = tl ++ ((L1 + 1, oK) :: rest) ∧ PairsIn (tl ++ rest) ys (upTo (ps.take i) k) ∧ ys.length ≤ i) ⟨[], rfl, trivial, Nat.le_refl _⟩ (fun i ys nw ⟨tl, e, _, _⟩ => by rw [e]; exact List.mem_append_right _ (.tail _ hd)) ?_ ?_
  · intro I C D i ys news v oI oC m₂ h tk E' hIC hID hCD hv x1_i
    obtain ⟨tl, rfl, hys, hyl⟩ := x1_i
    intro F N hC off
    obtain ⟨p, b, t1, t2, nb, hpi, rfl, hb⟩ := hp.get hv
    refine comp_pair (x := Str.ofString "low") (y := Str.ofString "high") (by rfl) F N hC hIC (off_C off hCD) (.tail _ (List.mem_append_right _ (.tail _ hb))) (by rfl) (by rfl) (by rfl) (fun h2 tk2 oC2 F2 N2 hC2 => ?_)
    refine wpAny_tests_one ?_
    k_steps
    · rename (_ ≤ k) => hle
      refine TurnOk.mk1 (by assumption) (by assumption) hC2 (by assumption) off ⟨_ :: tl, rfl, ?_, by simp; lia⟩
      rw [take_snoc hpi, upTo_snoc, if_pos hle]
      exact PairsIn.snoc (p := (p.1, if k < p.2 then k else p.2)) (List.mem_append_left _ List.mem_cons_self) (hys.mono fun q hq => List.mem_cons_of_mem _ hq)
    · rename (¬ _ ≤ k) => hle
      refine TurnOk.mk0 F2 N2 hC2 off ⟨tl, rfl, ?_, by lia⟩
      rw [take_snoc hpi, upTo_snoc, if_neg hle, List.append_nil]
      exact hys
  · intro D ys news' off x1_i
    obtain ⟨tl, rfl, hys, hyl⟩ := x1_i
    intro h2 tk2 F2 N2
    k_steps
    rw [hlen, List.take_length] at hys
    refine hret _ _ _ _ ⟨_, _ :: tl, rfl, rfl, ?_⟩ (by assumption) (drop_a (by assumption))
    exact ⟨_, _, List.mem_append_left _ List.mem_cons_self, hys.mono fun q hq => List.mem_cons_of_mem _ hq⟩
theorem from_on_does (w : World) (rest : List (Addr × Obj)) (d : Addr) (ps : List (Int × Int)) (k : Int) (tk : Tok) (hd : DomIn rest d ps) (hz : ps.length ≤ 100) :
   Does w 73 rest [.ref d, .int k tk] 1 8 (fun r news' => ∃ a tl, r = .ref a ∧ news' = tl ++ rest ∧ DomIn (tl ++ rest) a (fromOn ps k)) := by
  obtain ⟨vs, n, hd, hp⟩ := hd
  have hlen := hp.length
  k_extra "m_enterC"
  replace F1 : Fr g1 L1 h1 (fun y => if y = Str.ofString "d" then some (Value.ref d) else none) := F1
  rename Obj => oK
  rename (oK.data = _) => hK
  replace hK : oK.data = Data.cell (some (Value.int k tk)) := hK
  k_steps
  refine CompGo.tup (by rfl) (by assumption) (by assumption) (.tail _ hd) (by rw [sizeLine_eq]; lia)
    (fun i ys news => ∃ tl, news = tl ++ ((L1 + 1, oK) :: rest) ∧ PairsIn (tl ++ rest) ys (fromOn (ps.take i) k) ∧ ys.length ≤ i) ⟨[], rfl, trivial, Nat.le_refl _⟩ (fun i ys nw ⟨tl, e, _, _⟩ => by rw [e]; exact List.mem_append_right _ (.tail _ hd)) ?_ ?_
  · intro I C D i ys news v oI oC m₂ h tk E' hIC hID hCD hv x1_i
    obtain ⟨tl, rfl, hys, hyl⟩ := x1_i
    intro F N hC off
    obtain ⟨p, b, t1, t2, nb, hpi, rfl, hb⟩ := hp.get hv
    refine comp_pair (x := Str.ofString "low") (y := Str.ofString "high") (by rfl) F N hC hIC (off_C off hCD) (.tail _ (List.mem_append_right _ (.tail _ hb))) (by rfl) (by rfl) (by rfl) (fun h2 tk2 oC2 F2 N2 hC2 => ?_)
    refine wpAny_tests_one ?_
    k_steps
    · rename (k ≤ _) => hle
      refine TurnOk.mk1 (by assumption) (by assumption) hC2 (by assumption) off ⟨_ :: tl, rfl, ?_, by simp; lia⟩
      rw [take_snoc hpi, fromOn_snoc, if_pos hle]
      exact PairsIn.snoc (p := (if k > p.1 then k else p.1, p.2)) (List.mem_append_left _ List.mem_cons_self) (hys.mono fun q hq => List.mem_cons_of_mem _ hq)
    · rename (¬ k ≤ _) => hle
      refine TurnOk.mk0 F2 N2 hC2 off ⟨tl, rfl, ?_, by lia⟩
      rw [take_snoc hpi, fromOn_snoc, if_neg hle, List.append_nil]
      exact hys
  · intro D ys news' off x1_i
    obtain ⟨tl, rfl, hys, hyl⟩ := x1_i
    intro h2 tk2 F2 N2
    k_steps
    rw [hlen, List.take_length] at hys
    refine hret _ _ _ _ ⟨_, _ :: tl, rfl, rfl, ?_⟩ (by assumption) (drop_a (by assumption))
    exact ⟨_, _, List.mem_append_left _ List.mem_cons_self, hys.mono fun q hq => List.mem_cons_of_mem _ hq⟩

theorem DomIn.len {news : List (Addr × Obj)} {a : Addr} {ps : List (Int × Int)} (x : DomIn news a ps) : ∃ vs n, (a, tupO vs n) ∈ news ∧ PairsIn news vs ps ∧ vs.length = ps.length := let ⟨vs, n, h, p⟩ := x; ⟨vs, n, h, p, p.length⟩
end
theorem words_W2_1 : True := by
  k_with "call ref" => (((k_here; k_dflt (refine' Does.useA (up_to_does _ _ _ _ _ _ ?q1_q ?q2_q) ?k1_q ?k2_q ?k3_q ?k4_q ?k5_q ?k6_q ?k7_q ?k8_q ?_; (case k1_q => k_asm); (case k2_q => k_asm); (case k3_q => k_asm); (case k4_q => k_asm); (case k5_q => k_asm); (case k6_q => first | exact rfl | assumption); (case q1_q => ktr_rel); (case q2_q => assumption); (case k7_q => ktr_room); (case k8_q => ktr_units)); intro h9_w tk9_w F9_w a9_w tl9_w p9_w N9_w)); (try revert N9_w); (try revert p9_w); (try revert tl9_w); (try revert a9_w); (try revert F9_w); (try revert tk9_w); (try revert h9_w); intros)
  k_with "call ref" => (((k_here; k_dflt (refine' Does.useA (from_on_does _ _ _ _ _ _ ?q1_q ?q2_q) ?k1_q ?k2_q ?k3_q ?k4_q ?k5_q ?k6_q ?k7_q ?k8_q ?_; (case k1_q => k_asm); (case k2_q => k_asm); (case k3_q => k_asm); (case k4_q => k_asm); (case k5_q => k_asm); (case k6_q => first | exact rfl | assumption); (case q1_q => ktr_rel); (case q2_q => assumption); (case k7_q => ktr_room); (case k8_q => ktr_units)); intro h9_w tk9_w F9_w a9_w tl9_w p9_w N9_w)); (try revert N9_w); (try revert p9_w); (try revert tl9_w); (try revert a9_w); (try revert F9_w); (try revert tk9_w); (try revert h9_w); intros)
  trivial
section
theorem without_does (w : World) (rest : List (Addr × Obj)) (d : Addr) (ps : List (Int × Int)) (k : Int) (tk : Tok) (hd : DomIn rest d ps) (hz : ps.length ≤ 100) :
   Does w 80 rest [.ref d, .int k tk] 2 16 (fun r news' => ∃ a tl, r = .ref a ∧ news' = tl ++ rest ∧ DomIn (tl ++ rest) a (upTo ps (k - 1) ++ fromOn ps (k + 1))) := by
  have hu := upTo_len ps (k - 1)
  have hf := fromOn_len ps (k + 1)
  k_extra "m_enter"
  k_steps
  refine dom_add (by assumption) (by assumption) (by ktr_rel) (by ktr_rel) (by lia) (fun c tl h2 F2 N2 hd2 => ?_)
  k_steps
  refine hret _ _ _ _ ⟨_, _, rfl, rfl, ?_⟩ (by assumption) (drop_b (by rw [List.append_assoc]; assumption))
  rw [List.append_assoc, List.append_assoc]
  assumption
end
section
def meetK : List (Int × Int) → Int → List (Int × Int)
  | [], _ => []
  | p :: r, k => if p.2 < k then meetK r k else if p.1 ≤ k then [(k, k)] else []
theorem meetK_len (k : Int) : ∀ ps, (meetK ps k).length ≤ 1
  | [] => Nat.zero_le _
  | p :: r => by
    unfold meetK
    split
    · exact meetK_len k r
    · split <;> simp
theorem meet_does (w : World) (rest : List (Addr × Obj)) (d e b : Addr) (ps : List (Int × Int)) (k : Int) (t1 t2 : Tok) (n n' : Nat) (hd : DomIn rest d ps) (hz : ps.length ≤ 100) (he : (e, tupO [.ref b] n) ∈ rest) (hb : (b, tupO [.int k t1, .int k t2] n') ∈ rest) :
   Does w 87 rest [.ref d, .ref e] 1 8 (fun r news' => ∃ a tl, r = .ref a ∧ news' = tl ++ rest ∧ DomIn (tl ++ rest) a (meetK ps k)) := by
  obtain ⟨vs, nn, hd, hp⟩ := hd
  have hlen := hp.length
  k_extra "m_enter"
  replace F1 : Fr g1 L1 h1 (fun y => List.lookup y [(Str.ofString "e", Value.ref e), (Str.ofString "d", Value.ref d)]) := F1
  k_steps
  refine Loop.ind (by first | passes_own | with_unfolding_all passes_own)
    (fun c s' => Ex11 fun h tk m' D z ys tl i ti j tj => s' = { s with heap := h, toks := tk } ∧ Fr g1 L1 h m' ∧ News g1 L1 h ((D, listOf (List.toArray ys) z) :: (tl ++ rest)) ∧ (∀ p ∈ tl ++ rest, p.1 ≠ D) ∧
      (∀ z, ([Str.ofString "found", Str.ofString "i", Str.ofString "j", Str.ofString "low", Str.ofString "high"] : List Str).contains z = false → m' z = List.lookup z [(Str.ofString "e", Value.ref e), (Str.ofString "d", Value.ref d)]) ∧
      m' (Str.ofString "found") = some (.ref D) ∧ m' (Str.ofString "i") = some (.int ((i : Nat) : Int) ti) ∧ m' (Str.ofString "j") = some (.int ((j : Nat) : Int) tj) ∧
      ((j = 0 ∧ i ≤ ps.length ∧ c = ps.length - i + 1 ∧ ys = [] ∧ meetK (ps.drop i) k = meetK ps k) ∨ (j = 1 ∧ i ≤ ps.length ∧ c = 0 ∧ PairsIn (tl ++ rest) ys (meetK ps k)))) ?_ (ps.length + 1) _ ?_
  · intro c s' x1_i
    obtain ⟨h, tk, m', D, z, ys, tl, i, ti, j, tj, rfl, F, N, lt, ag, ef, ei, ej, hI⟩ := x1_i
    have F9 := overs F _ ag [(Str.ofString "found", _), (Str.ofString "i", _), (Str.ofString "j", _)] ⟨ef, ei, ej, trivial⟩
    dsimp only [over] at F9
    clear F ef ei ej
    obtain ⟨rfl, hi, rfl, rfl, hm⟩ | ⟨rfl, hi, rfl, hys⟩ := hI
    · rcases Nat.lt_or_ge i ps.length with hlt | hge
      · have hvi : vs[i]? = some vs[i] := List.getElem?_eq_getElem (by lia)
        obtain ⟨p, q, u1, u2, nq, hpi, hvq, hq⟩ := hp.get hvi
        have hv : vs[((i : Nat) : Int).toNat]? = some (.ref q) := by rw [Int.toNat_natCast, hvi, hvq]
        have hdrop : ps.drop i = p :: ps.drop (i + 1) := by
          rw [List.drop_eq_getElem_cons hlt]
          congr 1
          exact Option.some.inj ((List.getElem?_eq_getElem hlt).symm.trans hpi)
        rw [hdrop] at hm
        replace hm : (if p.2 < k then meetK (ps.drop (i + 1)) k else if p.1 ≤ k then [(k, k)] else []) = meetK ps k := hm
        k_steps
        · rename ((if k > p.fst then k else p.fst) ≤ if k < p.snd then k else p.snd) => hc
          have h1 : ¬ p.2 < k := by split at hc <;> split at hc <;> lia
          have h2 : p.1 ≤ k := by split at hc <;> split at hc <;> lia
          have e1 : (if k > p.1 then k else p.1) = k := by split <;> lia
          have e2 : (if k < p.2 then k else p.2) = k := by split <;> lia
          rw [if_neg h1, if_pos h2] at hm
          rename News _ _ _ _ => NN
          have N2 := perm_b NN
          have ho := (NN _ (List.mem_cons_self)).2
          refine ⟨0, by lia, _, _, _, D, _, [Value.ref _], _ :: tl, i, _, 1, _, rfl, by assumption, N2, ?_, ?_, rfl, rfl, rfl, .inr ⟨rfl, hi, rfl, ?_⟩⟩
          · rename (_ < _ ∧ D < _ ∧ AllLt _ _) => hl1
            exact ne_cons (Nat.ne_of_gt hl1.2.1) lt
          · k_extra "m_agree"
          · rw [← hm]
            refine ⟨⟨_, (if k > p.fst then t1 else u1), (if k < p.snd then t2 else u2), 0, rfl, ?_⟩, trivial⟩
            simp only [e1, e2]
            exact List.mem_append_left _ List.mem_cons_self
        · rename (p.snd < k) => hc
          rw [if_pos hc] at hm
          rename News _ _ _ _ => NN
          have N2 := drop_h NN
          refine ⟨ps.length - (i + 1) + 1, by lia, _, _, _, D, _, [], tl, i + 1, _, 0, _, rfl, by assumption, N2, lt, ?_, rfl, rfl, rfl, .inl ⟨rfl, hlt, rfl, rfl, hm⟩⟩
          k_extra "m_agree"
        · rename (¬ (if k > p.fst then k else p.fst) ≤ if k < p.snd then k else p.snd) => hc
          rename (¬ p.snd < k) => h1
          have h2 : ¬ p.1 ≤ k := by split at hc <;> split at hc <;> lia
          rw [if_neg h1, if_neg h2] at hm
          rename News _ _ _ _ => NN
          have N2 := drop_h NN
          refine ⟨0, by lia, _, _, _, D, _, [], tl, i, _, 1, _, rfl, by assumption, N2, lt, ?_, rfl, rfl, rfl, .inr ⟨rfl, hi, rfl, ?_⟩⟩
          · k_extra "m_agree"
          · rw [← hm]; trivial
        · rename (¬ _ < _) => hx
          exact absurd (by simp) hx
      · have hdrop : ps.drop i = [] := List.drop_eq_nil_of_le hge
        rw [hdrop] at hm
        k_steps
        refine hret _ _ _ _ ⟨_, _ :: tl, rfl, rfl, ?_⟩ (by assumption) (drop_c (by assumption))
        rw [← hm]
        exact ⟨[], 0, List.mem_append_left _ List.mem_cons_self, trivial⟩
    · have hyl : ys.length ≤ 1 := by rw [hys.length]; exact meetK_len _ _
      k_steps
      · rename (_ < _) => hx
        exact absurd hx (by simp)
      all_goals
        refine hret _ _ _ _ ⟨_, _ :: tl, rfl, rfl, ?_⟩ (by assumption) (drop_c (by assumption))
        exact ⟨ys, 0, List.mem_append_left _ List.mem_cons_self, hys.mono fun q hq => List.mem_cons_of_mem _ hq⟩
  · rename News _ _ _ _ => NN
    have N2 := drop_h NN
    rename (∀ p ∈ rest, p.1 < _) => hlt
    refine ⟨_, _, _, _, 0, [], [], 0, _, 0, _, rfl, by assumption, N2, fun p hp => Nat.ne_of_lt (hlt p hp), ?_, rfl, rfl, rfl, .inl ⟨rfl, Nat.zero_le _, rfl, rfl, rfl⟩⟩
    k_extra "m_agree"
end
section
inductive Sign where
  | le | ge | ne | eq
  deriving DecidableEq
def Sign.txt : Sign → Str
  | .le => Str.ofString "<="
  | .ge => Str.ofString ">="
  | .ne => Str.ofString "!="
  | .eq => Str.ofString "="
def LitIn (news : List (Addr × Obj)) (a : Addr) (x : Int) (sg : Sign) (k : Int) : Prop := Ex4 fun t1 t2 t3 n => (a, tupO [.int x t1, .str sg.txt t2, .int k t3] n) ∈ news
theorem LitIn.mono {news news' : List (Addr × Obj)} {a : Addr} {x k : Int} {sg : Sign} (h : LitIn news a x sg k) (s : ∀ p ∈ news, p ∈ news') : LitIn news' a x sg k := let ⟨t1, t2, t3, n, hm⟩ := h; ⟨t1, t2, t3, n, s _ hm⟩
def struckD (sg : Sign) (k : Int) (d : List (Int × Int)) : List (Int × Int) := match sg with
  | .le => upTo d k
  | .ge => fromOn d k
  | .eq => meetK d k
  | .ne => upTo d (k - 1) ++ fromOn d (k + 1)
theorem negation_does (w : World) (rest : List (Addr × Obj)) (l : Addr) (x k : Int) (sg : Sign) (hl : LitIn rest l x sg k) : Does w 94 rest [.ref l] 1 8 (fun r news' => news' = rest ∧ ∃ a, r = .ref a) := by
  obtain ⟨t1, t2, t3, n, hl⟩ := hl
  cases sg <;> dsimp only [Sign.txt] at hl
  all_goals
    k_extra "m_enter"
    k_steps
    k_extra "m_retS"
    exact ⟨_, rfl⟩
end
theorem words_W4_1 : True := by
  k_with "call ref" => (((k_here; k_dflt (refine' Does.useR (negation_does _ _ _ _ _ _ ?q1_q) ?k1_q ?k2_q ?k3_q ?k4_q ?k5_q ?k6_q ?k7_q ?k8_q ?_; (case k1_q => k_asm); (case k2_q => k_asm); (case k3_q => k_asm); (case k4_q => k_asm); (case k5_q => k_asm); (case k6_q => first | exact rfl | assumption); (case q1_q => ktr_rel); (case k7_q => ktr_room); (case k8_q => ktr_units)); intro h9_w tk9_w F9_w N9_w a9_w)); (try revert a9_w); (try revert N9_w); (try revert F9_w); (try revert tk9_w); (try revert h9_w); intros)
  trivial
theorem words_W4_3 : True := by
  k_with "ktr_rel" => (first | assumption | exact LitIn.mono (by assumption) (by intro p hp; k_memK))
  k_with "call ref" => (((k_here; k_dflt (refine' Does.useA (without_does _ _ _ _ _ _ ?q1_q ?q2_q) ?k1_q ?k2_q ?k3_q ?k4_q ?k5_q ?k6_q ?k7_q ?k8_q ?_; (case k1_q => k_asm); (case k2_q => k_asm); (case k3_q => k_asm); (case k4_q => k_asm); (case k5_q => k_asm); (case k6_q => first | exact rfl | assumption); (case q1_q => ktr_rel); (case q2_q => assumption); (case k7_q => ktr_room); (case k8_q => ktr_units)); intro h9_w tk9_w F9_w a9_w tl9_w p9_w N9_w)); (try revert N9_w); (try revert p9_w); (try revert tl9_w); (try revert a9_w); (try revert F9_w); (try revert tk9_w); (try revert h9_w); intros)
  k_with "call ref" => (((k_here; k_dflt (refine' Does.useA (meet_does _ _ _ _ _ _ _ _ _ _ _ ?q1_q ?q2_q ?q3_q ?q4_q) ?k1_q ?k2_q ?k3_q ?k4_q ?k5_q ?k6_q ?k7_q ?k8_q ?_; (case k1_q => k_asm); (case k2_q => k_asm); (case k3_q => k_asm); (case k4_q => k_asm); (case k5_q => k_asm); (case k6_q => first | exact rfl | assumption); (case q1_q => ktr_rel); (case q2_q => assumption); (case q3_q => k_memK); (case q4_q => k_memK); (case k7_q => ktr_room); (case k8_q => ktr_units)); intro h9_w tk9_w F9_w a9_w tl9_w p9_w N9_w)); (try revert N9_w); (try revert p9_w); (try revert tl9_w); (try revert a9_w); (try revert F9_w); (try revert tk9_w); (try revert h9_w); intros)
  trivial
section
theorem re1 {P : List (Addr × Obj) → Prop} {tl rest : List (Addr × Obj)} {q : Addr × Obj} (h : P (tl ++ q :: rest)) : P ((tl ++ [q]) ++ rest) := by rw [List.append_assoc]; exact h
theorem re3 {P : List (Addr × Obj) → Prop} {tl rest : List (Addr × Obj)} {q q2 q3 : Addr × Obj} (h : P (tl ++ q :: q2 :: q3 :: rest)) : P ((tl ++ [q, q2, q3]) ++ rest) := by rw [List.append_assoc]; exact h
theorem struck_does (w : World) (rest : List (Addr × Obj)) (l d : Addr) (x k : Int) (sg : Sign) (ps : List (Int × Int)) (hl : LitIn rest l x sg k) (hd : DomIn rest d ps) (hz : ps.length ≤ 100) :
   Does w 101 rest [.ref l, .ref d] 3 24 (fun r news' => ∃ a tl, r = .ref a ∧ news' = tl ++ rest ∧ DomIn (tl ++ rest) a (struckD sg k ps)) := by
  obtain ⟨t1, t2, t3, n, hl⟩ := hl
  cases sg <;> dsimp only [Sign.txt] at hl
  all_goals
    k_extra "m_enter"
    k_steps
  · rename DomIn _ _ (upTo ps k) => q
    exact hret _ _ _ _ ⟨_, _, rfl, rfl, re1 (P := fun l => DomIn l _ _) q⟩ (by assumption) (re1 (P := fun l => News _ _ _ l) (by assumption))
  · rename DomIn _ _ (fromOn ps k) => q
    exact hret _ _ _ _ ⟨_, _, rfl, rfl, re1 (P := fun l => DomIn l _ _) q⟩ (by assumption) (re1 (P := fun l => News _ _ _ l) (by assumption))
  · rename DomIn _ _ (upTo ps (k - 1) ++ fromOn ps (k + 1)) => q
    exact hret _ _ _ _ ⟨_, _, rfl, rfl, re1 (P := fun l => DomIn l _ _) q⟩ (by assumption) (re1 (P := fun l => News _ _ _ l) (by assumption))
  · rename DomIn _ _ (meetK ps k) => q
    exact hret _ _ _ _ ⟨_, _, rfl, rfl, re3 (P := fun l => DomIn l _ _) q⟩ (by assumption) (re3 (P := fun l => News _ _ _ l) (by assumption))
end
section
abbrev ent (P : Params) (name : Str) (t : Tok) (v : Value) : DictEntry := ⟨PyData.keyHash P name, .str name t, v⟩
/-- the fields of a store -/
abbrev stD (P : Params) (t1 t2 t3 t4 t5 t6 t7 t8 : Tok) (D Fi Tr Mk Nw : Addr) (sp : Tok) (fl : Bool) (cv : Value) (n : Nat) : Obj :=
  dictOf [ent P (Str.ofString "domains") t1 (.ref D), ent P (Str.ofString "firsts") t2 (.ref Fi), ent P (Str.ofString "trail") t3 (.ref Tr), ent P (Str.ofString "marks") t4 (.ref Mk), ent P (Str.ofString "news") t5 (.ref Nw),
    ent P (Str.ofString "speaker") t6 (.int (-1) sp), ent P (Str.ofString "is_failed") t7 (.bool fl), ent P (Str.ofString "clash") t8 cv] n
inductive StoreIn (P : Params) (news : List (Addr × Obj)) (st : Addr) (doms fs : List Value) : Prop
  | mk (dx : Addr) (t1 t2 t3 t4 t5 t6 t7 t8 : Tok) (D Fi Tr Mk Nw : Addr) (sp : Tok) (fl : Bool) (cv : Value) (n n1 n2 : Nat) (a : (st, instObj 270 dx) ∈ news) (b : (dx, stD P t1 t2 t3 t4 t5 t6 t7 t8 D Fi Tr Mk Nw sp fl cv n) ∈ news) (c : (D, listOf doms.toArray n1) ∈ news) (d : (Fi, listOf fs.toArray n2) ∈ news) : StoreIn P news st doms fs
theorem StoreIn.mono {P : Params} {news news' : List (Addr × Obj)} {st : Addr} {doms fs : List Value} (h : StoreIn P news st doms fs) (s : ∀ p ∈ news, p ∈ news') : StoreIn P news' st doms fs := by
  obtain ⟨dx, t1, t2, t3, t4, t5, t6, t7, t8, D, Fi, Tr, Mk, Nw, sp, fl, cv, n, n1, n2, a, b, c, d⟩ := h
  exact ⟨dx, t1, t2, t3, t4, t5, t6, t7, t8, D, Fi, Tr, Mk, Nw, sp, fl, cv, n, n1, n2, s _ a, s _ b, s _ c, s _ d⟩
theorem initial_does (w : World) (rest : List (Addr × Obj)) (st : Addr) (doms fs : List Value) (x : Int) (t : Tok) (v : Value) (hs : StoreIn w.params rest st doms fs) (h0 : 0 ≤ x) (h1 : x < 1000) (hv : fs[x.toNat]? = some v) :
    Does w 162 rest [.ref st, .int x t] 1 8 (fun r news' => news' = rest ∧ r = v) := by
  obtain ⟨dx, t1, t2, t3, t4, t5, t6, t7, t8, D, Fi, Tr, Mk, Nw, sp, fl, cv, n, n1, n2, m1, m2, m3, m4⟩ := hs
  k_extra "m_enter"
  k_steps
  k_extra "m_retS"
end
theorem words_W5_1 : True := by
  k_with "call ref" => (((k_here; k_dflt (refine' Does.useE (initial_does _ _ _ _ _ _ _ _ ?q1_q ?q2_q ?q3_q ?q4_q) ?k1_q ?k2_q ?k3_q ?k4_q ?k5_q ?k6_q ?k7_q ?k8_q ?_; (case k1_q => k_asm); (case k2_q => k_asm); (case k3_q => k_asm); (case k4_q => k_asm); (case k5_q => k_asm); (case k6_q => first | exact rfl | assumption); (case q1_q => ktr_rel); (case q2_q => omega); (case q3_q => omega); (case q4_q => assumption); (case k7_q => ktr_room); (case k8_q => ktr_units)); intro h9_w tk9_w F9_w N9_w)); (try revert N9_w); (try revert F9_w); (try revert tk9_w); (try revert h9_w); intros)
  k_with "ktr_rel" => (first | assumption | exact StoreIn.mono (by assumption) (by intro p hp; k_memK))
  k_with "call ref" => (((k_here; k_dflt (refine' Does.useT (least_does _ _ _ _ _ _ _ _ _ _ _ ?q1_q ?q2_q) ?k1_q ?k2_q ?k3_q ?k4_q ?k5_q ?k6_q ?k7_q ?k8_q ?_; (case k1_q => k_asm); (case k2_q => k_asm); (case k3_q => k_asm); (case k4_q => k_asm); (case k5_q => k_asm); (case k6_q => first | exact rfl | assumption); (case q1_q => k_memK); (case q2_q => k_memK); (case k7_q => ktr_room); (case k8_q => ktr_units)); intro h9_w tk9_w F9_w N9_w t9_w)); (try revert t9_w); (try revert N9_w); (try revert F9_w); (try revert tk9_w); (try revert h9_w); intros)
  k_with "call ref" => (((k_here; k_dflt (refine' Does.useT (greatest_does _ _ _ _ _ _ _ _ _ _ _ ?q1_q ?q2_q ?q3_q ?q4_q) ?k1_q ?k2_q ?k3_q ?k4_q ?k5_q ?k6_q ?k7_q ?k8_q ?_; (case k1_q => k_asm); (case k2_q => k_asm); (case k3_q => k_asm); (case k4_q => k_asm); (case k5_q => k_asm); (case k6_q => first | exact rfl | assumption); (case q1_q => assumption); (case q2_q => assumption); (case q3_q => k_memK); (case q4_q => k_memK); (case k7_q => ktr_room); (case k8_q => ktr_units)); intro h9_w tk9_w F9_w N9_w t9_w)); (try revert t9_w); (try revert N9_w); (try revert F9_w); (try revert tk9_w); (try revert h9_w); intros)
  k_with "call ref" => (((k_here; k_dflt (refine' Does.useE (has_does _ _ _ _ _ _ ?q1_q) ?k1_q ?k2_q ?k3_q ?k4_q ?k5_q ?k6_q ?k7_q ?k8_q ?_; (case k1_q => k_asm); (case k2_q => k_asm); (case k3_q => k_asm); (case k4_q => k_asm); (case k5_q => k_asm); (case k6_q => first | exact rfl | assumption); (case q1_q => ktr_rel); (case k7_q => ktr_room); (case k8_q => ktr_units)); intro h9_w tk9_w F9_w N9_w)); (try revert N9_w); (try revert F9_w); (try revert tk9_w); (try revert h9_w); intros)
  trivial
section
def loOf (d : List (Int × Int)) : Int := (d.headD (0, 0)).1
def hiOf (d : List (Int × Int)) : Int := (d.getLastD (0, 0)).2
theorem low_does (w : World) (rest : List (Addr × Obj)) (st : Addr) (doms fs : List Value) (x : Int) (t : Tok) (d : Addr) (ps : List (Int × Int)) (hs : StoreIn w.params rest st doms fs) (h0 : 0 ≤ x) (h1 : x < 1000) (hv : doms[x.toNat]? = some (.ref d)) (hd : DomIn rest d ps) (hne : ps ≠ []) :
    Does w 169 rest [.ref st, .int x t] 2 16 (fun r news' => news' = rest ∧ ∃ t, r = .int (loOf ps) t) := by
  obtain ⟨dx, t1, t2, t3, t4, t5, t6, t7, t8, D, Fi, Tr, Mk, Nw, sp, fl, cv, n, n1, n2, m1, m2, m3, m4⟩ := hs
  obtain ⟨vs, nn, hd, hp⟩ := hd
  match ps, vs, hp with
  | p :: r, v :: vr, ⟨⟨b, u1, u2, nb, e, hb⟩, _⟩ =>
    subst e
    k_extra "m_enter"
    k_steps
    k_extra "m_retS"
    exact ⟨_, rfl⟩
theorem PairsIn.last {news : List (Addr × Obj)} : ∀ {vs : List Value} {ps : List (Int × Int)}, PairsIn news vs ps → ps ≠ [] → Ex4 fun b t1 t2 n => vs[vs.length - 1]? = some (.ref b) ∧ (b, tupO [.int (ps.getLastD (0, 0)).1 t1, .int (ps.getLastD (0, 0)).2 t2] n) ∈ news
  | [], [], _, h => absurd rfl h
  | [], _ :: _, x, _ => x.elim
  | _ :: _, [], x, _ => x.elim
  | v :: [], p :: [], ⟨⟨b, t1, t2, n, e, hb⟩, _⟩, _ => ⟨b, t1, t2, n, by subst e; rfl, hb⟩
  | v :: [], p :: q :: r, ⟨_, x⟩, _ => x.elim
  | v :: u :: vs, p :: [], ⟨_, x⟩, _ => x.elim
  | v :: u :: vs, p :: q :: r, ⟨_, x⟩, _ => by
    obtain ⟨b, t1, t2, n, e, hb⟩ := PairsIn.last x (by simp)
    refine ⟨b, t1, t2, n, ?_, ?_⟩
    · simpa using e
    · simpa using hb
theorem high_does (w : World) (rest : List (Addr × Obj)) (st : Addr) (doms fs : List Value) (x : Int) (t : Tok) (d : Addr) (ps : List (Int × Int)) (hs : StoreIn w.params rest st doms fs) (h0 : 0 ≤ x) (h1 : x < 1000) (hv : doms[x.toNat]? = some (.ref d)) (hd : DomIn rest d ps) (hne : ps ≠ []) :
    Does w 176 rest [.ref st, .int x t] 2 16 (fun r news' => news' = rest ∧ ∃ t, r = .int (hiOf ps) t) := by
  obtain ⟨dx, t1, t2, t3, t4, t5, t6, t7, t8, D, Fi, Tr, Mk, Nw, sp, fl, cv, n, n1, n2, m1, m2, m3, m4⟩ := hs
  obtain ⟨vs, nn, hd, hp⟩ := hd
  have hl := hp.length
  have hpos : 0 < ps.length := List.length_pos_iff.mpr hne
  obtain ⟨b, u1, u2, nb, e, hb⟩ := hp.last hne
  have g1 : 0 ≤ (-1 : Int) + (vs.length : Nat) := by lia
  have g2 : vs[((-1 : Int) + (vs.length : Nat)).toNat]? = some (.ref b) := by rw [← e]; congr 1; lia
  k_extra "m_enter"
  k_steps
  k_extra "m_retS"
  exact ⟨_, rfl⟩
end
theorem words_W5_3 : True := by
  k_with "call ref" => (((k_here; k_dflt (refine' Does.useT (low_does _ _ _ _ _ _ _ _ _ ?q1_q ?q2_q ?q3_q ?q4_q ?q5_q ?q6_q) ?k1_q ?k2_q ?k3_q ?k4_q ?k5_q ?k6_q ?k7_q ?k8_q ?_; (case k1_q => k_asm); (case k2_q => k_asm); (case k3_q => k_asm); (case k4_q => k_asm); (case k5_q => k_asm); (case k6_q => first | exact rfl | assumption); (case q1_q => ktr_rel); (case q2_q => omega); (case q3_q => omega); (case q4_q => assumption); (case q5_q => ktr_rel); (case q6_q => assumption); (case k7_q => ktr_room); (case k8_q => ktr_units)); intro h9_w tk9_w F9_w N9_w t9_w)); (try revert t9_w); (try revert N9_w); (try revert F9_w); (try revert tk9_w); (try revert h9_w); intros)
  k_with "call ref" => (((k_here; k_dflt (refine' Does.useT (high_does _ _ _ _ _ _ _ _ _ ?q1_q ?q2_q ?q3_q ?q4_q ?q5_q ?q6_q) ?k1_q ?k2_q ?k3_q ?k4_q ?k5_q ?k6_q ?k7_q ?k8_q ?_; (case k1_q => k_asm); (case k2_q => k_asm); (case k3_q => k_asm); (case k4_q => k_asm); (case k5_q => k_asm); (case k6_q => first | exact rfl | assumption); (case q1_q => ktr_rel); (case q2_q => omega); (case q3_q => omega); (case q4_q => assumption); (case q5_q => ktr_rel); (case q6_q => assumption); (case k7_q => ktr_room); (case k8_q => ktr_units)); intro h9_w tk9_w F9_w N9_w t9_w)); (try revert t9_w); (try revert N9_w); (try revert F9_w); (try revert tk9_w); (try revert h9_w); intros)
  trivial
section
def lackLit (d0 d : List (Int × Int)) (v : Int) : Option (Sign × Int) :=
  if nextFrom d0 v = some v then (if v < loOf d then some (.ge, v + 1) else if hiOf d < v then some (.le, v - 1) else some (.ne, v)) else none
/-- a list of the ledger that holds one literal, or none -/
def LackIs (news : List (Addr × Obj)) (a : Addr) (x : Int) : Option (Sign × Int) → Prop
  | none => ∃ n, (a, listOf (List.toArray []) n) ∈ news
  | some q => ∃ b n, (a, listOf (List.toArray [.ref b]) n) ∈ news ∧ LitIn news b x q.1 q.2
theorem lacking_does (w : World) (rest : List (Addr × Obj)) (st : Addr) (doms fs : List Value) (x v : Int) (t tv : Tok) (d0 d : Addr) (ps0 ps : List (Int × Int)) (hs : StoreIn w.params rest st doms fs) (h0 : 0 ≤ x) (h1 : x < 1000) (hv0 : fs[x.toNat]? = some (.ref d0)) (hd0 : DomIn rest d0 ps0)
    (hv : doms[x.toNat]? = some (.ref d)) (hd : DomIn rest d ps) (hne : ps ≠ []) :
    Does w 115 rest [.ref st, .int x t, .int v tv] 4 32 (fun r news' => ∃ a tl, r = .ref a ∧ news' = tl ++ rest ∧ LackIs (tl ++ rest) a x (lackLit ps0 ps v)) := by
  obtain ⟨dx, t1, t2, t3, t4, t5, t6, t7, t8, D, Fi, Tr, Mk, Nw, sp, fl, cv, n, n1, n2, m1, m2, m3, m4⟩ := id hs
  k_extra "m_enter"
  k_steps
  · rename (nextFrom ps0 v = some v) => c1
    rename (v < loOf ps) => c2
    have e : lackLit ps0 ps v = some (.ge, v + 1) := by unfold lackLit; rw [if_pos c1, if_pos c2]
    rw [e] at hret
    exact hret _ _ _ _ ⟨_, [_, _], rfl, rfl, _, _, .head _, _, _, _, _, .tail _ (.head _)⟩ (by assumption) (by assumption)
  · rename (nextFrom ps0 v = some v) => c1
    rename (¬ v < loOf ps) => c2
    rename (hiOf ps < v) => c3
    have e : lackLit ps0 ps v = some (.le, v - 1) := by unfold lackLit; rw [if_pos c1, if_neg c2, if_pos c3]
    rw [e] at hret
    exact hret _ _ _ _ ⟨_, [_, _], rfl, rfl, _, _, .head _, _, _, _, _, .tail _ (.head _)⟩ (by assumption) (by assumption)
  · rename (nextFrom ps0 v = some v) => c1
    rename (¬ v < loOf ps) => c2
    rename (¬ hiOf ps < v) => c3
    have e : lackLit ps0 ps v = some (.ne, v) := by unfold lackLit; rw [if_pos c1, if_neg c2, if_neg c3]
    rw [e] at hret
    exact hret _ _ _ _ ⟨_, [_, _], rfl, rfl, _, _, .head _, _, _, _, _, .tail _ (.head _)⟩ (by assumption) (by assumption)
  · rename (¬ nextFrom ps0 v = some v) => c1
    have e : lackLit ps0 ps v = none := by unfold lackLit; rw [if_neg c1]
    rw [e] at hret
    exact hret _ _ _ _ ⟨_, [_], rfl, rfl, _, .head _⟩ (by assumption) (by assumption)
end
section
def bars (sg : Sign) (k v : Int) : Bool := match sg with
  | .le => decide (k < v)
  | .ge => decide (v < k)
  | .ne => v == k
  | .eq => v != k
theorem law_bars_does (w : World) (rest : List (Addr × Obj)) (l : Addr) (x k v : Int) (tv : Tok) (sg : Sign) (hl : LitIn rest l x sg k) : Does w 288 rest [.ref l, .int v tv] 1 8 (fun r news' => news' = rest ∧ r = .bool (bars sg k v)) := by
  obtain ⟨t1, t2, t3, n, hl⟩ := hl
  cases sg <;> dsimp only [Sign.txt] at hl
  all_goals
    k_extra "m_enter"
    k_steps
    k_extra "m_retS"
    rfl
end
theorem words_W6_1 : True := by
  k_with "call ref" => (((k_here; k_dflt (refine' Does.useE (law_bars_does _ _ _ _ _ _ _ _ ?q1_q) ?k1_q ?k2_q ?k3_q ?k4_q ?k5_q ?k6_q ?k7_q ?k8_q ?_; (case k1_q => k_asm); (case k2_q => k_asm); (case k3_q => k_asm); (case k4_q => k_asm); (case k5_q => k_asm); (case k6_q => first | exact rfl | assumption); (case q1_q => ktr_rel); (case k7_q => ktr_room); (case k8_q => ktr_units)); intro h9_w tk9_w F9_w N9_w)); (try revert N9_w); (try revert F9_w); (try revert tk9_w); (try revert h9_w); intros)
  trivial
section
/-- a list of ints of the ledger -/
def IntsIn (news : List (Addr × Obj)) (a : Addr) (ns : List Int) : Prop := ∃ vs n, (a, listOf vs.toArray n) ∈ news ∧ IntsAre vs ns
theorem IntsIn.mono {news news' : List (Addr × Obj)} {a : Addr} {ns : List Int} (h : IntsIn news a ns) (s : ∀ p ∈ news, p ∈ news') : IntsIn news' a ns := let ⟨vs, n, hm, hi⟩ := h; ⟨vs, n, s _ hm, hi⟩
def isFit (q : Option (Sign × Int)) (v : Int) (first here : List Int) : Bool := match q with
  | none => false
  | some q =>
    if bars q.1 q.2 v = false then false
    else if (first.filter (bars q.1 q.2)).filter (fun w => here.contains w) ≠ [] then false
    else if v < here.headD 0 then decide ((first.filter (bars q.1 q.2)).filter (fun w => decide (v < w)) = [])
    else if here.getLastD 0 < v then decide ((first.filter (bars q.1 q.2)).filter (fun w => decide (w < v)) = [])
    else decide (first.filter (bars q.1 q.2) = [v])
theorem is_fit_does (w : World) (rest : List (Addr × Obj)) (l f hr : Addr) (x v : Int) (t tv : Tok) (q : Option (Sign × Int)) (first here : List Int) (hl : LackIs rest l x q) (hf : IntsIn rest f first) (hh : IntsIn rest hr here) (hz : first.length ≤ 100) (hz2 : here.length ≤ 100) (hne : here ≠ []) :
    Does w 298 rest [.ref l, .int x t, .int v tv, .ref f, .ref hr] 2 200 (fun r news' => news' = rest ∧ r = .bool (isFit q v first here)) := by
  obtain ⟨fvs, fn, hf, hfi⟩ := hf
  obtain ⟨hvs, hn, hh, hhi⟩ := hh
  cases q with
  | none =>
    obtain ⟨nl, hl⟩ := hl
    k_extra "m_enterC"
    k_steps
    k_extra "m_retS"
    simp [isFit]
  | some q =>
    obtain ⟨b, nl, hl, hb⟩ := hl
    obtain ⟨u1, u2, u3, un, hb'⟩ := id hb
    obtain ⟨y1, i1⟩ := ints_head hhi hne
    obtain ⟨i2, y2, i3⟩ := ints_last hhi hne
    k_extra "m_enterC"
    rename_i oh ov ot dh dv dt
    replace dh : oh.data = Data.cell (some (Value.ref hr)) := dh
    replace dv : ov.data = Data.cell (some (Value.int v tv)) := dv
    replace dt : ot.data = Data.cell (some (Value.ref l)) := dt
    replace F1 : Fr g1 L1 h1 (fun y => if y = Str.ofString "first" then some (Value.ref f) else if y = Str.ofString "x" then some (Value.int x t) else none) := F1
    k_steps
    · k_extra "m_retS"
      simp_all
    · k_extra "m_retS"
      simp_all
    · refine CompGo.filt (by rfl) (by assumption) (by assumption) (k := fn) (vs := fvs) (ns := first) (by k_memK) hfi (by lia) (by rfl) (by rfl) (by decide) (bars q.1 q.2) ?_ ?_
      · intro I C D n tn ys oI oC m₂ h tk E' hn hIC hID hCD F2 N2 hC hx off
        k_steps
        all_goals assumption
      · intro D ys hys h tk F2 N2
        dsimp only
        have hy1 : (first.filter (bars q.1 q.2)).length ≤ 100 := Nat.le_trans (List.length_filter_le _ _) hz
        k_steps
        refine CompGo.filt (by rfl) (by assumption) (by assumption) (vs := ys) (ns := first.filter (bars q.1 q.2)) (.head _) hys (by lia) (by rfl) (by rfl) (by decide) (fun w => here.contains w) ?_ ?_
        · intro I C D2 n tn ys2 oI oC m₂ h tk E' hn hIC hID hCD F2 N2 hC hx off
          k_steps
          all_goals first | assumption | rfl
        · intro D2 ys2 hys2 h tk F2 N2
          k_steps
          · rename (decide (_ = _) = true) => c3
            rename (v < here.headD 0) => c4
            have c5 := of_decide_eq_true c3
            refine CompGo.filt (by rfl) (by assumption) (by assumption) (vs := ys) (ns := first.filter (bars q.1 q.2)) (by k_memK) hys (by lia) (by rfl) (by rfl) (by decide) (fun w => decide (v < w)) ?_ ?_
            · intro I C D3 n tn ys3 oI oC m₂ h tk E' hn hIC hID hCD F2 N2 hC hx off
              k_steps
              all_goals first | assumption | (simp_all; done)
            · intro D3 ys3 hys3 h tk F2 N2
              k_steps
              k_extra "m_retS"
              rename (bars q.1 q.2 v = true) => cb
              unfold isFit
              dsimp only
              rw [if_neg (by rw [cb]; decide), if_neg (fun h => h c5), if_pos c4]
          · rename (decide (_ = _) = true) => c3
            rename (here.getLastD 0 < v) => c4
            have c5 := of_decide_eq_true c3
            refine CompGo.filt (by rfl) (by assumption) (by assumption) (vs := ys) (ns := first.filter (bars q.1 q.2)) (by k_memK) hys (by lia) (by rfl) (by rfl) (by decide) (fun w => decide (w < v)) ?_ ?_
            · intro I C D3 n tn ys3 oI oC m₂ h tk E' hn hIC hID hCD F2 N2 hC hx off
              k_steps
              all_goals first | assumption | (simp_all; done)
            · intro D3 ys3 hys3 h tk F2 N2
              k_steps
              k_extra "m_retS"
              rename (bars q.1 q.2 v = true) => cb
              unfold isFit
              dsimp only
              rw [if_neg (by rw [cb]; decide), if_neg (fun h => h c5), if_neg (by lia), if_pos c4]
          · k_extra "m_retS"
            rename (decide (_ = _) = true) => c3
            have c5 := of_decide_eq_true c3
            rename (¬ v < _) => c4
            rename (¬ _ < v) => c6
            rename (bars q.1 q.2 v = true) => cb
            unfold isFit
            dsimp only
            rw [if_neg (by rw [cb]; decide), if_neg (fun h => h c5), if_neg c4, if_neg c6]
          · k_extra "m_retS"
            rename (decide (_ = _) = false) => c3
            have c5 := of_decide_eq_false c3
            rename (bars q.1 q.2 v = true) => cb
            unfold isFit
            dsimp only
            rw [if_neg (by rw [cb]; decide), if_pos c5]
    · k_extra "m_retS"
      simp_all [isFit]
end
section
/-- ints and texts as keys -/
def mixIs : Int ⊕ Str → Value → Bool
  | .inl n, v => Value.isInt n v
  | .inr x, v => Value.isStrOf x v
theorem mix_l {n : Int} {v : Value} (h : mixIs (.inl n) v = true) : ∃ t, v = .int n t := Value.isInt_shape h
theorem mix_r {x : Str} {v : Value} (h : mixIs (.inr x) v = true) : ∃ t, v = .str x t := Value.isStrOf_shape h
def mixKind (prog : Program) (w : World) : KeyKind prog w (Int ⊕ Str) where
  is := mixIs
  hash := fun k => match k with
    | .inl n => hashInt n
    | .inr x => hashStr w x
  inj := fun v a b ha hb => by
    match a, b, ha, hb with
    | .inl a, .inl b, ha, hb => exact congrArg Sum.inl (Value.isInt_inj v a b ha hb)
    | .inr a, .inr b, ha, hb => exact congrArg Sum.inr (Value.isStrOf_inj v a b ha hb)
    | .inl a, .inr b, ha, hb => obtain ⟨t, rfl⟩ := mix_l ha; obtain ⟨u, e⟩ := mix_r hb; exact nomatch e
    | .inr a, .inl b, ha, hb => obtain ⟨t, rfl⟩ := mix_r ha; obtain ⟨u, e⟩ := mix_l hb; exact nomatch e
  byValue := fun k v h => by
    match k, h with
    | .inl n, h => obtain ⟨t, rfl⟩ := mix_l h; rfl
    | .inr x, h => obtain ⟨t, rfl⟩ := mix_r h; rfl
  pyHash := fun {A E s k v Q} h hq => by
    match k, h, hq with
    | .inl n, h, hq => exact (intKind prog w).pyHash (k := n) h hq
    | .inr x, h, hq => exact (strKind prog w).pyHash (k := x) h hq
  eqBool := fun {A E s a b u v Q} ha hb hq => by
    match a, b, ha, hb, hq with
    | .inl a, .inl b, ha, hb, hq => exact (intKind prog w).eqBool (a := a) (b := b) ha hb (by simpa using hq)
    | .inr a, .inr b, ha, hb, hq => exact (strKind prog w).eqBool (a := a) (b := b) ha hb (by simpa using hq)
    | .inl a, .inr b, ha, hb, hq => obtain ⟨t, rfl⟩ := mix_l ha; obtain ⟨u, rfl⟩ := mix_r hb; exact SeqAt.EqAt.int_str a t b u prog w E Q (by simpa using hq)
    | .inr a, .inl b, ha, hb, hq => obtain ⟨t, rfl⟩ := mix_r ha; obtain ⟨u, rfl⟩ := mix_l hb; exact SeqAt.EqAt.str_int a t b u prog w E Q (by simpa using hq)
  «strs» := fun k x t v h => by
    match k, h with
    | .inl n, h => obtain ⟨u, e⟩ := mix_l h; exact nomatch e
    | .inr y, h => exact (strKind prog w).«strs» y x t v h
abbrev litKey (x : Int) (p : Sign × Int) : List (Int ⊕ Str) := [.inl x, .inr p.1.txt, .inl p.2]
theorem litIn_key {prog : Program} {w : World} {h₀ h : Heap} {L : Addr} {news : List (Addr × Obj)} {a : Addr} {x : Int} {p : Sign × Int} (N : News h₀ L h news) (hl : LitIn news a x p.1 p.2) : IsTupleKey (mixKind prog w) h (litKey x p) a := by
  obtain ⟨t1, t2, t3, n, hm⟩ := hl
  refine ⟨_, _, n, (N _ hm).1, rfl, rfl, ?_⟩
  exact .cons (by simp [mixKind, mixIs, Value.isInt]) (.cons (by simp [mixKind, mixIs, Value.isStrOf]) (.cons (by simp [mixKind, mixIs, Value.isInt]) .nil))
theorem txt_inj {a b : Sign} : a.txt = b.txt → a = b := by cases a <;> cases b <;> decide
theorem litKey_inj {x : Int} {p q : Sign × Int} (h : litKey x p = litKey x q) : p = q := by
  simp only [List.cons.injEq, Sum.inr.injEq, Sum.inl.injEq, and_true, true_and] at h
  exact Prod.ext (txt_inj h.1) h.2
end
section
namespace HT
open SetTable
def at0 (xs : Array Nat) (i : Nat) : Nat := xs.getD i 0
theorem at0_eq {xs : Array Nat} {i : Nat} (h : i < xs.size) : at0 xs i = xs[i] := by simp [at0, Array.getD, h]
theorem at0_lt {xs : Array Nat} (hs : xs.toList.Pairwise (· < ·)) {i k : Nat} (h : i < k) (hk : k < xs.size) : at0 xs i < at0 xs k := by
  rw [at0_eq (by lia), at0_eq hk]
  have := List.pairwise_iff_getElem.mp hs i k (by simpa using (by lia : i < xs.size)) (by simpa using hk) h
  simpa using this
theorem below_go {xs : Array Nat} {j : Nat} (hs : xs.toList.Pairwise (· < ·)) : ∀ (f lo hi : Nat), hi - lo ≤ f → lo ≤ hi → hi ≤ xs.size → (∀ i, i < lo → at0 xs i < j) → (∀ i, hi ≤ i → i < xs.size → j ≤ at0 xs i) →
    below.go xs j f lo hi ≤ xs.size ∧ (∀ i, i < below.go xs j f lo hi → at0 xs i < j) ∧ (∀ i, below.go xs j f lo hi ≤ i → i < xs.size → j ≤ at0 xs i)
  | 0, lo, hi, hf, hl, hh, h1, h2 => by
    have e : lo = hi := by lia
    subst e
    unfold below.go
    exact ⟨hh, h1, h2⟩
  | f + 1, lo, hi, hf, hl, hh, h1, h2 => by
    unfold below.go
    by_cases hlt : lo < hi
    · simp only [hlt, if_true]
      have hm : (lo + hi) / 2 < xs.size := by lia
      have hg : xs.getD ((lo + hi) / 2) j = at0 xs ((lo + hi) / 2) := by rw [at0_eq hm]; simp [Array.getD, hm]
      rw [hg]
      by_cases hc : at0 xs ((lo + hi) / 2) < j
      · simp only [hc, if_true]
        refine below_go hs f _ _ (by lia) (by lia) hh (fun i hi' => ?_) h2
        by_cases e : i = (lo + hi) / 2
        · rw [e]; exact hc
        · exact Nat.lt_trans (at0_lt hs (by lia) hm) hc
      · simp only [hc, if_false]
        refine below_go hs f _ _ (by lia) (by lia) (by lia) h1 (fun i hi' hsz => ?_)
        by_cases e : i = (lo + hi) / 2
        · rw [e]; lia
        · have := at0_lt hs (show (lo + hi) / 2 < i by lia) hsz
          lia
    · have e : lo = hi := by lia
      subst e
      simp only [Nat.lt_irrefl, if_false]
      exact ⟨hh, h1, h2⟩
theorem below_is {xs : Array Nat} (j : Nat) (hs : xs.toList.Pairwise (· < ·)) : below xs j ≤ xs.size ∧ (∀ i, i < below xs j → at0 xs i < j) ∧ (∀ i, below xs j ≤ i → i < xs.size → j ≤ at0 xs i) :=
  below_go hs xs.size 0 xs.size (by lia) (by lia) (by lia) (fun i h => absurd h (Nat.not_lt_zero i)) (fun i h h' => absurd h' (by lia))
theorem slot_live {t : SetTable} {i j : Nat} (hs : t.place.toList.Pairwise (· < ·)) (hi : t.place[i]? = some j) : t.slot j = .live i := by
  obtain ⟨b1, b2, b3⟩ := below_is j hs
  obtain ⟨hlt, he⟩ := Array.getElem?_eq_some_iff.mp hi
  have ha : at0 t.place i = j := by rw [at0_eq hlt]; exact he
  have e : below t.place j = i := by
    rcases Nat.lt_trichotomy (below t.place j) i with h | h | h
    · have := b3 _ (Nat.le_refl _) (by lia)
      have := at0_lt hs h hlt
      lia
    · exact h
    · have := b2 i h
      lia
  unfold slot
  rw [e]
  simp only [hi, beq_self_eq_true, if_true]
theorem slot_empty {t : SetTable} {j : Nat} (hd : t.dummies = #[]) (hn : j ∉ t.place.toList) : t.slot j = .empty := by
  unfold slot
  have h1 : ¬ (t.place[below t.place j]? == some j) = true := fun h => by
    have h' := eq_of_beq h
    obtain ⟨hlt, he⟩ := Array.getElem?_eq_some_iff.mp h'
    exact hn (by rw [← he]; simp)
  have h2 : has t.dummies j = false := by rw [hd]; unfold has; simp
  simp only [h1, h2]
  simp
theorem insertAt_list {α : Type} (xs : Array α) (p : Nat) (x : α) : (insertAt xs p x).toList = xs.toList.take p ++ x :: xs.toList.drop p := by
  unfold insertAt
  simp only [Array.toList_append, Array.toList_push, Array.toList_extract, List.extract_eq_take_drop, Nat.sub_zero, List.drop_zero, List.append_assoc, List.singleton_append]
  rw [List.take_of_length_le (l := xs.toList.drop p) (by simp)]
theorem sorted_insert {xs : Array Nat} {j : Nat} (hs : xs.toList.Pairwise (· < ·)) (hn : j ∉ xs.toList) : (xs.toList.take (below xs j) ++ j :: xs.toList.drop (below xs j)).Pairwise (· < ·) := by
  obtain ⟨b1, b2, b3⟩ := below_is j hs
  rw [List.pairwise_append]
  refine ⟨hs.sublist (List.take_sublist _ _), ?_, ?_⟩
  · rw [List.pairwise_cons]
    refine ⟨fun y hy => ?_, hs.sublist (List.drop_sublist _ _)⟩
    obtain ⟨i, hi, rfl⟩ := List.mem_iff_getElem.mp hy
    rw [List.length_drop] at hi
    have hsz : below xs j + i < xs.size := by have := Array.length_toList (xs := xs); lia
    have h3 := b3 (below xs j + i) (by lia) hsz
    rw [List.getElem_drop]
    rw [at0_eq hsz] at h3
    have hmem : xs[below xs j + i] ∈ xs.toList := by simp
    have hne : j ≠ xs[below xs j + i] := fun e => hn (e ▸ hmem)
    have : xs.toList[below xs j + i] = xs[below xs j + i] := by simp
    lia
  · intro a ha b hb
    obtain ⟨i, hi, rfl⟩ := List.mem_iff_getElem.mp ha
    rw [List.length_take] at hi
    have hsz : i < xs.size := by have := Array.length_toList (xs := xs); lia
    have h2 := b2 i (by lia)
    rw [at0_eq hsz] at h2
    have ea : (xs.toList.take (below xs j))[i] = xs[i] := by simp
    rw [ea]
    rcases List.mem_cons.mp hb with rfl | hb
    · exact h2
    · obtain ⟨k, hk, rfl⟩ := List.mem_iff_getElem.mp hb
      rw [List.length_drop] at hk
      have hsz' : below xs j + k < xs.size := by have := Array.length_toList (xs := xs); lia
      have h3 := b3 (below xs j + k) (by lia) hsz'
      rw [at0_eq hsz'] at h3
      rw [List.getElem_drop]
      have : xs.toList[below xs j + k] = xs[below xs j + k] := by simp
      lia
/-- the stands of a search -/
abbrev tab (mask : Nat) : SetTable := { mask := mask, place := #[], dummies := #[], finger := 0, led := true, moves := 0, plain := true }
def stp (mask : Nat) (p : Probe) : Nat → Probe
  | 0 => p
  | m + 1 => (tab mask).advance (stp mask p m)
theorem adv_eq (t : SetTable) (p : Probe) : t.advance p = (tab t.mask).advance p := rfl
theorem stp_shift (mask : Nat) (p : Probe) : ∀ m, stp mask ((tab mask).advance p) m = stp mask p (m + 1)
  | 0 => rfl
  | m + 1 => by
    show (tab mask).advance (stp mask ((tab mask).advance p) m) = (tab mask).advance (stp mask p (m + 1))
    rw [stp_shift mask p m]
theorem stp_add (mask : Nat) (p : Probe) (k : Nat) : ∀ m, stp mask (stp mask p k) m = stp mask p (k + m)
  | 0 => rfl
  | m + 1 => by
    show (tab mask).advance (stp mask (stp mask p k) m) = (tab mask).advance (stp mask p (k + m))
    rw [stp_add mask p k m]
theorem adv_dummy (mask : Nat) (p : Probe) : ((tab mask).advance p).dummy = p.dummy := by
  unfold advance
  split
  · rfl
  · rfl
theorem stp_dummy (mask : Nat) (p : Probe) : ∀ m, (stp mask p m).dummy = p.dummy
  | 0 => rfl
  | m + 1 => (adv_dummy mask _).trans (stp_dummy mask p m)
/-- slot j is met by a search from p behind live slots only -/
def Way (mask : Nat) (p : Probe) (L : Nat → Prop) (j : Nat) : Prop := ∃ m, m < 10 * turns mask ∧ (stp mask p m).j = j ∧ ∀ m', m' < m → L (stp mask p m').j
theorem Way.mono {mask : Nat} {p : Probe} {L L' : Nat → Prop} {j : Nat} (h : Way mask p L j) (hl : ∀ x, L x → L' x) : Way mask p L' j := let ⟨m, a, b, c⟩ := h; ⟨m, a, b, fun m' h' => hl _ (c m' h')⟩
/-- one run of the probe -/
theorem probe_go {t : SetTable} {hashAt : Nat → Int} {h : Int} {p : Probe} (hp : p.dummy = none) (hd : t.dummies = #[]) (hs : t.place.toList.Pairwise (· < ·)) {m₁ : Nat} (hend : (stp t.mask p m₁).j ∉ t.place.toList ∨ ∃ i, t.place[i]? = some (stp t.mask p m₁).j ∧ hashAt i = h) :
    ∀ (d f m : Nat), m + d = m₁ → d < f → (∀ m', m ≤ m' → m' < m₁ → (stp t.mask p m').j ∈ t.place.toList) →
      (∃ m' i, m ≤ m' ∧ m' ≤ m₁ ∧ t.place[i]? = some (stp t.mask p m').j ∧ hashAt i = h ∧ probe.go t hashAt h f (stp t.mask p m) = some (.candidate (stp t.mask p m').j i (stp t.mask p (m' + 1)))) ∨
      ((stp t.mask p m₁).j ∉ t.place.toList ∧ probe.go t hashAt h f (stp t.mask p m) = some (.empty (stp t.mask p m₁).j none))
  | d, 0, m, _, hf, _ => absurd hf (Nat.not_lt_zero _)
  | 0, f + 1, m, e, hf, hl => by
    obtain rfl : m = m₁ := by lia
    rcases hend with hn | ⟨i, hi, hh⟩
    · refine .inr ⟨hn, ?_⟩
      unfold probe.go
      rw [slot_empty hd hn]
      dsimp only
      rw [stp_dummy, hp]
    · refine .inl ⟨m, i, Nat.le_refl _, Nat.le_refl _, hi, hh, ?_⟩
      unfold probe.go
      rw [slot_live hs hi]
      dsimp only
      rw [if_pos (by rw [hh]; exact beq_self_eq_true _)]
      rfl
  | d + 1, f + 1, m, e, hf, hl => by
    have hm := hl m (Nat.le_refl _) (by lia)
    obtain ⟨i, hi, he⟩ := List.mem_iff_getElem.mp hm
    have hi' : t.place[i]? = some (stp t.mask p m).j := by rw [← he]; simp at hi; simp [hi]
    have go : probe.go t hashAt h (f + 1) (stp t.mask p m) = if (hashAt i == h) = true then some (.candidate (stp t.mask p m).j i (stp t.mask p (m + 1))) else probe.go t hashAt h f (stp t.mask p (m + 1)) := by
      conv => lhs; unfold probe.go
      rw [slot_live hs hi']
      rfl
    rw [go]
    by_cases hh : hashAt i = h
    · refine .inl ⟨m, i, Nat.le_refl _, by lia, hi', hh, ?_⟩
      rw [if_pos (by rw [hh]; exact beq_self_eq_true _)]
    · rw [if_neg (fun hb => hh (eq_of_beq hb))]
      obtain ⟨m', i', a, b, c⟩ | h' := probe_go hp hd hs hend d f (m + 1) (by lia) (by lia) (fun m' h1 h2 => hl m' (by lia) h2)
      · exact .inl ⟨m', i', by lia, b, c⟩
      · exact .inr h'
/-- pigeonhole: a list that holds all below n is at least that long -/
theorem len_ge {n : Nat} {ps : List Nat} (h : ∀ j, j < n → j ∈ ps) : n ≤ ps.length := by
  have h1 : List.Nodup (List.range n) := List.nodup_range
  have := List.Nodup.length_le_of_subset h1 (fun x hx => h x (List.mem_range.mp hx))
  simpa using this
/-- leaps with nothing left to perturb -/
def lp (mask : Nat) (i : Nat) : Nat → Nat
  | 0 => i
  | k + 1 => (lp mask i k * 5 + 1) % (mask + 1)
theorem all7 : ∀ i, i < 8 → ∀ r, r < 8 → ∃ k, k < 8 ∧ lp 7 i k = r := by decide +kernel
theorem all31 : ∀ i, i < 32 → ∀ r, r < 32 → ∃ k, k < 32 ∧ lp 31 i k = r := by decide +kernel
/-- the stands at the begin of a run -/
def beg (mask : Nat) (i pt : Nat) : Probe := { j := i, more := runEnd mask i - i, i := i, perturb := pt, dummy := none }
def lps (mask : Nat) (i pt : Nat) : Nat → Nat × Nat
  | 0 => (i, pt)
  | k + 1 => leap mask (lps mask i pt k).1 (lps mask i pt k).2
theorem lps_pt (mask i pt : Nat) : ∀ k, (lps mask i pt k).2 = pt / 32 ^ k
  | 0 => by simp [lps]
  | k + 1 => by
    show (lps mask i pt k).2 / 32 = _
    rw [lps_pt mask i pt k, Nat.div_div_eq_div_mul, Nat.pow_succ]
theorem lps_lt {mask i pt : Nat} (h : i < mask + 1) : ∀ k, (lps mask i pt k).1 < mask + 1
  | 0 => h
  | k + 1 => Nat.mod_lt _ (Nat.succ_pos _)
theorem lps_lp {mask i pt : Nat} (hpt : pt < 2 ^ 64) : ∀ k, (lps mask i pt (13 + k)).1 = lp mask (lps mask i pt 13).1 k
  | 0 => rfl
  | k + 1 => by
    show ((lps mask i pt (13 + k)).1 * 5 + 1 + (lps mask i pt (13 + k)).2 / 32) % (mask + 1) = (lp mask (lps mask i pt 13).1 k * 5 + 1) % (mask + 1)
    have hz : (lps mask i pt (13 + k)).2 / 32 = 0 := by
      rw [lps_pt, Nat.div_div_eq_div_mul, ← Nat.pow_succ]
      refine Nat.div_eq_of_lt (Nat.lt_of_lt_of_le hpt ?_)
      calc 2 ^ 64 ≤ 32 ^ 13 := by decide
        _ ≤ 32 ^ (13 + k).succ := Nat.pow_le_pow_right (by decide) (by lia)
    rw [hz, lps_lp hpt k]
theorem bits_lt (h : Int) : bits h < 2 ^ 64 := by
  unfold bits
  lia
/-- the leaps meet every slot -/
theorem meets {mask i pt : Nat} (hm : mask = 7 ∨ mask = 31) (hi : i < mask + 1) (hpt : pt < 2 ^ 64) {r : Nat} (hr : r < mask + 1) : ∃ k, k < turns mask ∧ (lps mask i pt k).1 = r := by
  rcases hm with rfl | rfl
  · obtain ⟨k, hk, e⟩ := all7 _ (lps_lt hi 13) r hr
    exact ⟨13 + k, by unfold turns; lia, by rw [lps_lp hpt]; exact e⟩
  · obtain ⟨k, hk, e⟩ := all31 _ (lps_lt hi 13) r hr
    exact ⟨13 + k, by unfold turns; lia, by rw [lps_lp hpt]; exact e⟩
theorem stp7 (i pt : Nat) (hi : i < 8) : ∀ m, stp 7 (beg 7 i pt) m = beg 7 (lps 7 i pt m).1 (lps 7 i pt m).2
  | 0 => rfl
  | m + 1 => by
    show (tab 7).advance (stp 7 (beg 7 i pt) m) = _
    rw [stp7 i pt hi m]
    have hr : runEnd 7 (lps 7 i pt m).1 = (lps 7 i pt m).1 := by
      unfold runEnd
      rw [if_neg (by lia)]
    unfold advance beg
    dsimp only
    rw [hr]
    simp only [Nat.sub_self, Nat.lt_irrefl, if_false]
    rfl
theorem start_beg (t : SetTable) (h : Int) : t.probeStart h = beg t.mask (bits h % (t.mask + 1)) (bits h) := rfl
theorem least {P : Nat → Prop} : ∀ n, P n → ∃ m, m ≤ n ∧ P m ∧ ∀ k, k < m → ¬ P k := by
  intro n
  induction n using Nat.strongRecOn with
  | ind n ih =>
    intro h
    by_cases hx : ∃ k, k < n ∧ P k
    · obtain ⟨k, hk, hp⟩ := hx
      obtain ⟨m, a, b, c⟩ := ih k hk hp
      exact ⟨m, by lia, b, c⟩
    · exact ⟨n, Nat.le_refl _, h, fun k hk hp => hx ⟨k, hk, hp⟩⟩
/-- in a table of eight with at most four live slots every search comes to an empty one -/
theorem finds7 {ps : List Nat} (hl : ps.length ≤ 4) (h : Int) : ∃ m, m < 22 ∧ (stp 7 (beg 7 (bits h % 8) (bits h)) m).j ∉ ps ∧ ∀ m', m' < m → (stp 7 (beg 7 (bits h % 8) (bits h)) m').j ∈ ps := by
  have hb : bits h % 8 < 8 := Nat.mod_lt _ (by decide)
  obtain ⟨r, hr, hn⟩ : ∃ r, r < 8 ∧ r ∉ ps := by
    refine Classical.byContradiction fun hc => ?_
    have := len_ge (n := 8) (ps := ps) fun j hj => Classical.byContradiction fun hn => hc ⟨j, hj, hn⟩
    lia
  obtain ⟨k, hk, e⟩ := meets (.inl rfl) hb (bits_lt h) hr
  have e' : (stp 7 (beg 7 (bits h % 8) (bits h)) k).j = r := by rw [stp7 _ _ hb]; exact e
  obtain ⟨m, a, b, c⟩ := least (P := fun m => (stp 7 (beg 7 (bits h % 8) (bits h)) m).j ∉ ps) k (by rw [e']; exact hn)
  have : turns 7 = 22 := rfl
  exact ⟨m, by lia, b, fun m' h' => Classical.byContradiction (c m' h')⟩
theorem slot_lt7 (h : Int) (m : Nat) : (stp 7 (beg 7 (bits h % 8) (bits h)) m).j < 8 := by
  have hb : bits h % 8 < 8 := Nat.mod_lt _ (by decide)
  rw [stp7 _ _ hb]
  exact lps_lt hb m
theorem runEnd_le (mask i : Nat) : i ≤ runEnd mask i ∧ runEnd mask i ≤ i + 9 := by
  unfold runEnd
  split <;> lia
theorem window (mask i pt : Nat) : ∀ k, k ≤ runEnd mask i - i → stp mask (beg mask i pt) k = { j := i + k, more := runEnd mask i - i - k, i := i, perturb := pt, dummy := none }
  | 0, _ => rfl
  | k + 1, h => by
    show (tab mask).advance (stp mask (beg mask i pt) k) = _
    rw [window mask i pt k (by lia)]
    unfold advance
    dsimp only
    rw [if_pos (by lia)]
    rfl
theorem window_end (mask i pt : Nat) : stp mask (beg mask i pt) (runEnd mask i - i + 1) = beg mask (leap mask i pt).1 (leap mask i pt).2 := by
  show (tab mask).advance (stp mask (beg mask i pt) (runEnd mask i - i)) = _
  rw [window mask i pt _ (Nat.le_refl _)]
  unfold advance
  dsimp only
  rw [if_neg (by lia)]
  rfl
def owns (owner : Array (Option Nat)) (j : Nat) : Prop := (owner.getD j (some 0)).isNone = false
theorem free_some {mask : Nat} {owner : Array (Option Nat)} : ∀ (f i pt j : Nat), layClean.free mask owner f i pt = some j → ¬ owns owner j ∧ ∃ m, m < 10 * f ∧ (stp mask (beg mask i pt) m).j = j ∧ ∀ m', m' < m → owns owner (stp mask (beg mask i pt) m').j
  | 0, i, pt, j, h => by unfold layClean.free at h; exact nomatch h
  | f + 1, i, pt, j, h => by
    unfold layClean.free at h
    have hr := runEnd_le mask i
    cases hf : (List.range (runEnd mask i + 1 - i)).find? fun k => (owner.getD (i + k) (some 0)).isNone with
    | some k =>
      rw [hf] at h
      dsimp only at h
      injection h with h
      subst h
      obtain ⟨h1, h2, h3⟩ := List.find?_range_eq_some.mp hf
      have hk : k ≤ runEnd mask i - i := by have := List.mem_range.mp h2; lia
      refine ⟨fun ho => (by unfold owns at ho; rw [h1] at ho; cases ho), k, by lia, by rw [window mask i pt k hk], fun m' hm' => ?_⟩
      rw [window mask i pt m' (by lia)]
      have := h3 m' hm'
      unfold owns
      simpa using this
    | none =>
      rw [hf] at h
      dsimp only at h
      have hall := List.find?_range_eq_none.mp hf
      obtain ⟨hn, m, hm, hj, hl⟩ := free_some f _ _ _ h
      refine ⟨hn, runEnd mask i - i + 1 + m, by lia, ?_, fun m' hm' => ?_⟩
      · rw [← stp_add, window_end]; exact hj
      · by_cases hw : m' ≤ runEnd mask i - i
        · rw [window mask i pt m' hw]
          have := hall m' (by lia)
          unfold owns
          simpa using this
        · obtain ⟨d, rfl⟩ : ∃ d, m' = runEnd mask i - i + 1 + d := ⟨m' - (runEnd mask i - i + 1), by lia⟩
          rw [← stp_add, window_end]
          exact hl d (by lia)
theorem free_none {mask : Nat} {owner : Array (Option Nat)} : ∀ (f i pt : Nat), layClean.free mask owner f i pt = none → ∀ k, k < f → owns owner (lps mask i pt k).1
  | 0, _, _, _, k, hk => absurd hk (Nat.not_lt_zero _)
  | f + 1, i, pt, h, k, hk => by
    unfold layClean.free at h
    have hr := runEnd_le mask i
    cases hf : (List.range (runEnd mask i + 1 - i)).find? fun k => (owner.getD (i + k) (some 0)).isNone with
    | some k => rw [hf] at h; exact nomatch h
    | none =>
      rw [hf] at h
      dsimp only at h
      have hall := List.find?_range_eq_none.mp hf
      match k with
      | 0 =>
        have := hall 0 (by lia)
        unfold owns lps
        simpa using this
      | k + 1 =>
        have := free_none f _ _ h k (by lia)
        have e : ∀ k, lps mask (leap mask i pt).1 (leap mask i pt).2 k = lps mask i pt (k + 1) := by
          intro k
          induction k with
          | zero => rfl
          | succ k ih => show leap mask _ _ = leap mask _ _; rw [ih]
        rw [← e]
        exact this
def liveOf (mask : Nat) (owner : Array (Option Nat)) : List (Nat × Nat) := (List.range (mask + 1)).filterMap fun j => (owner.getD j none).map (j, ·)
theorem fst_filter (g : Nat → Option Nat) : ∀ l : List Nat, (l.filterMap fun j => (g j).map (j, ·)).map (·.1) = l.filter fun j => (g j).isSome
  | [] => rfl
  | a :: l => by
    have ih := fst_filter g l
    cases h : g a with
    | none => simp [List.filterMap_cons, List.filter_cons, h, ih]
    | some b => simp [List.filterMap_cons, List.filter_cons, h, ih]
theorem live_sorted (mask : Nat) (owner : Array (Option Nat)) : ((liveOf mask owner).map (·.1)).Pairwise (· < ·) := by
  unfold liveOf
  rw [fst_filter]
  exact List.Pairwise.sublist (List.filter_sublist) List.pairwise_lt_range
theorem live_mem {mask : Nat} {owner : Array (Option Nat)} {j q : Nat} : (j, q) ∈ liveOf mask owner ↔ j < mask + 1 ∧ owner.getD j none = some q := by
  unfold liveOf
  rw [List.mem_filterMap]
  constructor
  · intro x1_i
    obtain ⟨a, ha, h⟩ := x1_i
    cases hg : owner.getD a none with
    | none => rw [hg] at h; exact nomatch h
    | some b =>
      rw [hg] at h
      simp only [Option.map_some, Option.some.injEq, Prod.mk.injEq] at h
      obtain ⟨rfl, rfl⟩ := h
      exact ⟨List.mem_range.mp ha, hg⟩
  · intro x1_i
    obtain ⟨h1, h2⟩ := x1_i
    exact ⟨j, List.mem_range.mpr h1, by rw [h2]; rfl⟩
theorem filterMap_cong {α β : Type} {f g : α → Option β} : ∀ {l : List α}, (∀ x, x ∈ l → f x = g x) → l.filterMap f = l.filterMap g
  | [], _ => rfl
  | a :: l, h => by
    rw [List.filterMap_cons, List.filterMap_cons, h a (.head _), filterMap_cong fun x hx => h x (.tail _ hx)]
theorem stp_lt {mask i pt : Nat} (h : i < mask + 1) : ∀ m, (stp mask (beg mask i pt) m).j + (stp mask (beg mask i pt) m).more ≤ mask
  | 0 => by
    have := runEnd_le mask i
    show i + (runEnd mask i - i) ≤ mask
    unfold runEnd
    split <;> lia
  | m + 1 => by
    have ih := stp_lt (pt := pt) h m
    show ((tab mask).advance (stp mask (beg mask i pt) m)).j + ((tab mask).advance (stp mask (beg mask i pt) m)).more ≤ mask
    unfold advance
    split
    · dsimp only
      lia
    · have hl : (leap mask (stp mask (beg mask i pt) m).i (stp mask (beg mask i pt) m).perturb).1 < mask + 1 := Nat.mod_lt _ (Nat.succ_pos _)
      dsimp only
      have := runEnd_le mask (leap mask (stp mask (beg mask i pt) m).i (stp mask (beg mask i pt) m).perturb).1
      unfold runEnd
      split <;> lia
theorem filterMap_put {β : Type} {f f' : Nat → Option β} {j : Nat} {c : β} : ∀ {l : List Nat}, l.Nodup → j ∈ l → f j = none → f' j = some c → (∀ x, x ≠ j → f' x = f x) → (l.filterMap f').Perm (c :: l.filterMap f)
  | [], _, h, _, _, _ => by simp at h
  | a :: l, hn, h, h0, h1, h2 => by
    rw [List.nodup_cons] at hn
    by_cases e : a = j
    · subst e
      have : l.filterMap f' = l.filterMap f := filterMap_cong fun x hx => h2 x fun e => hn.1 (e ▸ hx)
      rw [List.filterMap_cons, List.filterMap_cons, h0, h1, this]
    · have hm : j ∈ l := by
        rcases List.mem_cons.mp h with h | h
        · exact absurd h.symm e
        · exact h
      have ih := filterMap_put hn.2 hm h0 h1 h2
      rw [List.filterMap_cons, List.filterMap_cons, h2 a e]
      cases f a with
      | none => exact ih
      | some b => exact (List.Perm.cons b ih).trans (List.Perm.swap c b _)
structure FInv (mask : Nat) (hs : List Int) (owner : Array (Option Nat)) : Prop where
  size : owner.size = mask + 1
  perm : ((liveOf mask owner).map (·.2)).Perm (List.range hs.length)
  way : ∀ c, c ∈ liveOf mask owner → ∃ h, hs[c.2]? = some h ∧ Way mask (beg mask (bits h % (mask + 1)) (bits h)) (fun x => x ∈ (liveOf mask owner).map (·.1)) c.1
theorem owns_iff {mask : Nat} {owner : Array (Option Nat)} (hs : owner.size = mask + 1) {j : Nat} (hj : j < mask + 1) : owns owner j ↔ j ∈ (liveOf mask owner).map (·.1) := by
  have hb : j < owner.size := by lia
  unfold owns
  rw [List.mem_map]
  have e : owner.getD j (some 0) = owner.getD j none := by simp [Array.getD, hb]
  rw [e]
  constructor
  · intro h
    cases hg : owner.getD j none with
    | none => rw [hg] at h; exact nomatch h
    | some q => exact ⟨(j, q), live_mem.mpr ⟨hj, hg⟩, rfl⟩
  · intro x1_i
    obtain ⟨⟨j', q⟩, hm, rfl⟩ := x1_i
    rw [(live_mem.mp hm).2]
    rfl
theorem fstep {mask : Nat} (hm : mask = 7 ∨ mask = 31) {hs : List Int} {owner : Array (Option Nat)} (I : FInv mask hs owner) (hl : hs.length < mask + 1) (h : Int) :
    ∃ j, layClean.free mask owner (turns mask) (bits h % (mask + 1)) (bits h) = some j ∧ FInv mask (hs ++ [h]) (owner.setIfInBounds j (some hs.length)) := by
  have hb : bits h % (mask + 1) < mask + 1 := Nat.mod_lt _ (Nat.succ_pos _)
  have hlen : (liveOf mask owner).length = hs.length := by have := I.perm.length_eq; simpa using this
  cases hf : layClean.free mask owner (turns mask) (bits h % (mask + 1)) (bits h) with
  | none =>
    exfalso
    have hall := free_none _ _ _ hf
    have := len_ge (n := mask + 1) (ps := (liveOf mask owner).map (·.1)) fun r hr => by
      obtain ⟨k, hk, e⟩ := meets hm hb (bits_lt h) hr
      have := hall k hk
      rw [e] at this
      exact (owns_iff I.size hr).mp this
    rw [List.length_map, hlen] at this
    lia
  | some j =>
    obtain ⟨hn, m, hmb, hj, hway⟩ := free_some _ _ _ _ hf
    have hjb : j < owner.size := by
      refine Classical.byContradiction fun hc => hn ?_
      unfold owns
      simp [Array.getD, hc]
    have hjm : j < mask + 1 := by rw [← I.size]; exact hjb
    have hj0 : owner.getD j none = none := by
      cases hg : owner.getD j none with
      | none => rfl
      | some q =>
        exfalso
        refine hn ?_
        unfold owns
        have : owner.getD j (some 0) = owner.getD j none := by simp [Array.getD, hjb]
        rw [this, hg]
        rfl
    have hset : ∀ x, (owner.setIfInBounds j (some hs.length)).getD x none = if x = j then some hs.length else owner.getD x none := by
      intro x
      by_cases e : x = j
      · subst e
        simp [Array.getD, hjb]
      · by_cases hx : x < owner.size
        · simp [Array.getD, hx, e, Array.getElem_setIfInBounds, Ne.symm e]
        · simp [Array.getD, hx, e]
    have hp : (liveOf mask (owner.setIfInBounds j (some hs.length))).Perm ((j, hs.length) :: liveOf mask owner) := by
      unfold liveOf
      refine filterMap_put (j := j) List.nodup_range (List.mem_range.mpr hjm) (by rw [hj0]; rfl) (by rw [hset, if_pos rfl]; rfl) fun x hx => by rw [hset, if_neg hx]
    have hsub : ∀ x, x ∈ (liveOf mask owner).map (·.1) → x ∈ (liveOf mask (owner.setIfInBounds j (some hs.length))).map (·.1) := fun x hx => by
      have := (hp.map (·.1)).mem_iff (a := x)
      exact this.mpr (List.mem_cons_of_mem _ hx)
    refine ⟨j, rfl, ?_, ?_, ?_⟩
    · rw [Array.size_setIfInBounds]; exact I.size
    · refine (hp.map (·.2)).trans ?_
      rw [List.map_cons, List.length_append, List.length_singleton, List.range_succ]
      exact (List.Perm.cons _ I.perm).trans (List.perm_append_singleton _ _).symm
    · intro c hc
      rcases List.mem_cons.mp (hp.mem_iff.mp hc) with rfl | hc
      · refine ⟨h, by simp, m, hmb, hj, fun m' hm' => hsub _ ?_⟩
        have ho := hway m' hm'
        have hlt : (stp mask (beg mask (bits h % (mask + 1)) (bits h)) m').j < mask + 1 := by
          have := stp_lt (pt := bits h) hb m'
          lia
        exact (owns_iff I.size hlt).mp ho
      · obtain ⟨h', hh', hw⟩ := I.way c hc
        refine ⟨h', ?_, hw.mono hsub⟩
        have hlt : c.2 < hs.length := by
          obtain ⟨hx, _⟩ := List.getElem?_eq_some_iff.mp hh'
          exact hx
        rw [List.getElem?_append_left hlt]
        exact hh'
abbrev fbody (mask : Nat) (acc : Option (Array (Option Nat) × Nat)) (h : Int) : Option (Array (Option Nat) × Nat) := do
    let (owner, k) ← acc
    let j ← layClean.free mask owner (turns mask) (bits h % (mask + 1)) (bits h)
    pure (owner.setIfInBounds j (some k), k + 1)
theorem ffold {mask : Nat} (hm : mask = 7 ∨ mask = 31) : ∀ (l hs : List Int) (owner : Array (Option Nat)), FInv mask hs owner → hs.length + l.length < mask + 1 →
    ∃ owner', l.foldl (fbody mask) (some (owner, hs.length)) = some (owner', (hs ++ l).length) ∧ FInv mask (hs ++ l) owner'
  | [], hs, owner, I, _ => ⟨owner, by simp, by rw [List.append_nil]; exact I⟩
  | h :: l, hs, owner, I, hl => by
    rw [List.length_cons] at hl
    obtain ⟨j, hj, I'⟩ := fstep hm I (by lia) h
    obtain ⟨owner', h1, h2⟩ := ffold hm l (hs ++ [h]) _ I' (by rw [List.length_append, List.length_singleton]; lia)
    refine ⟨owner', ?_, by simpa using h2⟩
    rw [List.foldl_cons]
    have e : fbody mask (some (owner, hs.length)) h = some (owner.setIfInBounds j (some hs.length), (hs ++ [h]).length) := by
      show (layClean.free mask owner (turns mask) (bits h % (mask + 1)) (bits h)).bind _ = _
      rw [hj, List.length_append]
      rfl
    rw [e, h1]
    simp
theorem lay {mask : Nat} (hm : mask = 7 ∨ mask = 31) {hs : Array Int} (hl : hs.size < mask + 1) : ∃ owner, layClean mask hs = some owner ∧ FInv mask hs.toList owner := by
  have h0 : FInv mask [] (Array.replicate (mask + 1) none) := by
    have e : liveOf mask (Array.replicate (mask + 1) none) = [] := by
      unfold liveOf
      rw [List.filterMap_eq_nil_iff]
      intro j hj
      have hlt := List.mem_range.mp hj
      have : (Array.replicate (mask + 1) (none : Option Nat)).getD j none = none := by simp [Array.getD]
      rw [this]
      rfl
    refine ⟨Array.size_replicate, ?_, ?_⟩
    · rw [e]; exact List.Perm.refl _
    · rw [e]; intro c hc; simp at hc
  obtain ⟨owner, h1, h2⟩ := ffold hm hs.toList [] _ h0 (by simpa using hl)
  rw [List.nil_append] at h1 h2
  refine ⟨owner, ?_, h2⟩
  unfold layClean
  rw [← Array.foldl_toList]
  have e : hs.toList.foldl (fbody mask) (some (Array.replicate (mask + 1) none, 0)) = some (owner, hs.toList.length) := h1
  exact congrArg (Option.map (·.1)) e

variable {α : Type}
/-- a table that lays some items by their hashes -/
structure HTab (hash : α → Int) (t : SetTable) (items : List α) : Prop where
  sorted : t.place.toList.Pairwise (· < ·)
  size : t.place.size = items.length
  dum : t.dummies = #[]
  mask : t.mask = 7 ∧ items.length ≤ 4 ∨ t.mask = 31 ∧ items.length = 5
  way : ∀ c, c ∈ t.place.toList.zip items → Way t.mask (beg t.mask (bits (hash c.2) % (t.mask + 1)) (bits (hash c.2))) (fun x => x ∈ t.place.toList) c.1
variable {hash : α → Int} {t : SetTable} {items : List α}
theorem HTab.fits (I : HTab hash t items) : t.fits items.length = true := by
  have h1 := I.size
  have h2 := I.dum
  unfold SetTable.fits SetTable.fill
  rw [h2]
  rcases I.mask with ⟨h3, h4⟩ | ⟨h3, h4⟩ <;> simp [h1, h3] <;> lia
theorem HTab.gave (I : HTab hash t items) : t.gaveWay = false := by
  unfold SetTable.gaveWay
  rcases I.mask with ⟨h3, _⟩ | ⟨h3, _⟩ <;> rw [h3] <;> rfl
theorem HTab.fresh (hash : α → Int) (led : Bool) : HTab hash (SetTable.fresh 0 0 led) [] := ⟨List.Pairwise.nil, rfl, rfl, .inl ⟨rfl, Nat.zero_le _⟩, fun c hc => by simp at hc⟩
theorem HTab.relaid (hl : items.length = 5) (hashes : Array Int) (hh : hashes.toList = items.map hash) :
    ∃ t' order, t.relaid hashes (SetTable.grown 5) = some (t', order) ∧ t'.led = t.led ∧ t'.plain = t.plain ∧ order.toList.Perm (List.range 5) ∧
      ∀ items', items' = order.toList.filterMap (items[·]?) → HTab hash t' items' := by
  have hsz : hashes.size = 5 := by rw [← Array.length_toList, hh, List.length_map, hl]
  obtain ⟨owner, ho, I⟩ := lay (mask := 31) (.inr rfl) (hs := hashes) (by lia)
  have e : sizeAbove (SetTable.grown 5) - 1 = 31 := by decide
  refine ⟨{ mask := 31, place := ((liveOf 31 owner).map (·.1)).toArray, dummies := #[], finger := t.finger, led := t.led, moves := t.movedTo 31, plain := t.plain }, ((liveOf 31 owner).map (·.2)).toArray, ?_, ?_, ?_, ?_, ?_⟩
  · unfold SetTable.relaid laid
    rw [e, ho]
    rfl
  · rfl
  · rfl
  · have := I.perm
    rw [Array.length_toList, hsz] at this
    exact this
  · intro items' hi
    subst hi
    have hp : ((liveOf 31 owner).map (·.2)).Perm (List.range 5) := by
      have := I.perm
      rw [Array.length_toList, hsz] at this
      exact this
    have htot : ∀ (l : List (Nat × Nat)), (∀ c, c ∈ l → c.2 < items.length) → (l.map (·.1)).zip ((l.map (·.2)).filterMap (items[·]?)) = l.filterMap (fun c => (items[c.2]?).map (c.1, ·)) ∧ ((l.map (·.2)).filterMap (items[·]?)).length = l.length := by
      intro l
      induction l with
      | nil => intro _; exact ⟨rfl, rfl⟩
      | cons c l ih =>
        intro hc
        have hlt := hc c (.head _)
        obtain ⟨i1, i2⟩ := ih fun c hc' => hc c (.tail _ hc')
        simp only [List.map_cons, List.filterMap_cons, List.getElem?_eq_getElem hlt, Option.map_some, List.zip_cons_cons, List.length_cons]
        exact ⟨by rw [i1], by rw [i2]⟩
    have hlt : ∀ c, c ∈ liveOf 31 owner → c.2 < items.length := fun c hc => by
      have := hp.mem_iff.mp (List.mem_map.mpr ⟨c, hc, rfl⟩)
      rw [hl]
      exact List.mem_range.mp this
    obtain ⟨z1, z2⟩ := htot _ hlt
    have z3 : (liveOf 31 owner).length = 5 := by have := hp.length_eq; simpa using this
    refine ⟨live_sorted 31 owner, ?_, rfl, .inr ⟨rfl, ?_⟩, ?_⟩
    · show ((liveOf 31 owner).map (·.1)).toArray.size = (((liveOf 31 owner).map (·.2)).filterMap (items[·]?)).length
      rw [z2]
      simp
    · show (((liveOf 31 owner).map (·.2)).filterMap (items[·]?)).length = 5
      rw [z2, z3]
    · intro c hc
      have hc' : c ∈ ((liveOf 31 owner).map (·.1)).zip (((liveOf 31 owner).map (·.2)).filterMap (items[·]?)) := hc
      rw [z1] at hc'
      obtain ⟨d, hd, he⟩ := List.mem_filterMap.mp hc'
      obtain ⟨h, hh', hw⟩ := I.way d hd
      have hlt' := hlt d hd
      rw [List.getElem?_eq_getElem hlt'] at he
      simp only [Option.map_some, Option.some.injEq] at he
      subst he
      have : h = hash items[d.2] := by
        rw [hh, List.getElem?_map, List.getElem?_eq_getElem hlt'] at hh'
        simpa using hh'.symm
      subst this
      exact hw
theorem HTab.len7 (I : HTab hash t items) (h7 : t.mask = 7) : items.length ≤ 4 := by
  obtain ⟨_, h⟩ | ⟨h, _⟩ := I.mask
  · exact h
  · rw [h7] at h; exact absurd h (by decide)
theorem zip_insert {β : Type} {a : List Nat} {b : List β} (p : Nat) (x : Nat) (y : β) (hl : a.length = b.length) {c : Nat × β} (hc : c ∈ (a.take p ++ x :: a.drop p).zip (b.take p ++ y :: b.drop p)) : c = (x, y) ∨ c ∈ a.zip b := by
  rw [List.zip_append (by simp [hl]), List.zip_cons_cons, List.mem_append, List.mem_cons] at hc
  have e : (a.take p).zip (b.take p) ++ (a.drop p).zip (b.drop p) = a.zip b := by
    rw [← List.zip_append (by simp [hl]), List.take_append_drop, List.take_append_drop]
  rcases hc with hc | hc | hc
  · exact .inr (by rw [← e]; exact List.mem_append_left _ hc)
  · exact .inl hc
  · exact .inr (by rw [← e]; exact List.mem_append_right _ hc)
theorem HTab.put (I : HTab hash t items) (h7 : t.mask = 7) {x : α} {m : Nat} (hm : m < 22) (hn : (stp 7 (beg 7 (bits (hash x) % 8) (bits (hash x))) m).j ∉ t.place.toList)
    (hw : ∀ m', m' < m → (stp 7 (beg 7 (bits (hash x) % 8) (bits (hash x))) m').j ∈ t.place.toList) :
    ∃ t' p, t.put (stp 7 (beg 7 (bits (hash x) % 8) (bits (hash x))) m).j = (t', p) ∧ t'.led = t.led ∧ t'.plain = t.plain ∧ t'.mask = 7 ∧ t'.dummies = #[] ∧ t'.place.size = items.length + 1 ∧
      (items.length + 1 ≤ 4 → HTab hash t' (items.take p ++ x :: items.drop p)) := by
  have hd : (if has t.dummies (stp 7 (beg 7 (bits (hash x) % 8) (bits (hash x))) m).j then eraseAt t.dummies (below t.dummies (stp 7 (beg 7 (bits (hash x) % 8) (bits (hash x))) m).j) else t.dummies) = #[] := by
    rw [I.dum]
    have : has #[] (stp 7 (beg 7 (bits (hash x) % 8) (bits (hash x))) m).j = false := by unfold has; simp
    rw [this]
    rfl
  generalize hj : (stp 7 (beg 7 (bits (hash x) % 8) (bits (hash x))) m).j = j at *
  have hpl : t.place.toList.length = items.length := by rw [Array.length_toList]; exact I.size
  have hll : (insertAt t.place (below t.place j) j).toList = t.place.toList.take (below t.place j) ++ j :: t.place.toList.drop (below t.place j) := insertAt_list _ _ _
  have hsz : (insertAt t.place (below t.place j) j).size = items.length + 1 := by
    rw [← Array.length_toList, hll, List.length_append, List.length_cons, List.length_take, List.length_drop, hpl]
    lia
  refine ⟨_, _, rfl, rfl, rfl, h7, hd, hsz, fun hl => ⟨?_, ?_, hd, .inl ⟨h7, ?_⟩, ?_⟩⟩
  · show (insertAt t.place (below t.place j) j).toList.Pairwise (· < ·)
    rw [hll]
    exact sorted_insert I.sorted hn
  · show (insertAt t.place (below t.place j) j).size = _
    rw [hsz, List.length_append, List.length_cons, List.length_take, List.length_drop]
    lia
  · rw [List.length_append, List.length_cons, List.length_take, List.length_drop]
    lia
  · intro c hc
    have hc' : c ∈ (insertAt t.place (below t.place j) j).toList.zip (items.take (below t.place j) ++ x :: items.drop (below t.place j)) := hc
    rw [hll] at hc'
    have hsub : ∀ y, y ∈ t.place.toList → y ∈ (insertAt t.place (below t.place j) j).toList := fun y hy => by
      rw [hll]
      have : y ∈ t.place.toList.take (below t.place j) ++ t.place.toList.drop (below t.place j) := by rw [List.take_append_drop]; exact hy
      rcases List.mem_append.mp this with h | h
      · exact List.mem_append_left _ h
      · exact List.mem_append_right _ (List.mem_cons_of_mem _ h)
    show Way t.mask (beg t.mask (bits (hash c.2) % (t.mask + 1)) (bits (hash c.2))) (fun y => y ∈ (insertAt t.place (below t.place j) j).toList) c.1
    rcases zip_insert _ _ _ hpl hc' with rfl | hc
    · rw [h7]
      exact ⟨m, by unfold turns; lia, hj, fun m' hm' => hsub _ (hw m' hm')⟩
    · exact (I.way c hc).mono hsub
end HT
end
section
abbrev LKey := List (Int ⊕ Str)
section
variable {prog : Program} {w : World} {A : Around} {E : Value → Shared → Prop} {s : Shared}
abbrev kh (prog : Program) (w : World) (k : LKey) : Int := tupleKeyHash (mixKind prog w) k
abbrev ihash (prog : Program) (w : World) (i : LKey × Addr) : Int := kh prog w i.1
abbrev ent1 (prog : Program) (w : World) (i : LKey × Addr) : Int × Value := (kh prog w i.1, .ref i.2)
abbrev setObj (prog : Program) (w : World) (items : List (LKey × Addr)) (ep : Nat) (t : SetTable) : Obj := { cls := .type "set", dict := none, data := .set (items.map (ent1 prog w)).toArray ep t }
def KeysAt (prog : Program) (w : World) (h : Heap) (items : List (LKey × Addr)) : Prop := ∀ i, i ∈ items → IsTupleKey (mixKind prog w) h i.1 i.2
theorem probe_eq {t : SetTable} {hashAt g : Nat → Int} {h : Int} {p : SetTable.Probe} {r : Option SetTable.Met} (hA : hashAt = g) (hr : t.probe g h p = r) : t.probe hashAt h p = r := by subst hA; exact hr
theorem ofClass_tuple {k : LKey} {a : Addr} {Q : Bool → Shared → Prop} (hk : IsTupleKey (mixKind prog w) s.heap k a) (h : Q false s) : wpAny (model prog w) A (ofAClassStatement 8 (.ref a)) Q E s := by
  have hT := hk.typeIs
  obtain ⟨o, its, n, ho, hc, hd, hi⟩ := hk
  unfold ofAClassStatement
  refine wpAny_bind (wpAny_typeOf hT ?_)
  dsimp only
  refine wpAny_bind (wpAny_pure ?_)
  simp only [Bool.not_true, Bool.false_eq_true, if_false]
  refine wpAny_bind (wpAny_seqItems ho hd ?_)
  refine wpAny_bind ?_
  rw [← Array.forIn_toList]
  refine wpAny_forIn_list _ (fun rest r s' => r.1 = none ∧ s' = s ∧ ∀ v ∈ rest, carriedByValue v = true) _ ?_ ?_ _ _ ⟨rfl, rfl, hi.byValue⟩
  · intro v rest r s' x1_i
    obtain ⟨hr, rfl, hall⟩ := x1_i
    have hv := hall v List.mem_cons_self
    have e : ofAClassStatement 7 v = pure false := by
      cases v with
      | ref a => simp [carriedByValue] at hv
      | _ => rfl
    rw [e]
    refine wpAny_bind (wpAny_pure ?_)
    simp only [Bool.false_eq_true, if_false]
    exact wpAny_pure ⟨rfl, rfl, fun u hu' => hall u (List.mem_cons_of_mem _ hu')⟩
  · intro x1_i
    obtain ⟨r1, r2⟩ := x1_i
    intro s' x2_i
    obtain ⟨hr, rfl, _⟩ := x2_i
    simp only at hr
    subst hr
    exact wpAny_pure h
theorem searchSeen {k : LKey} {x : Addr} {stored : List Value} {Q : Bool → Shared → Prop} (hk : IsTupleKey (mixKind prog w) s.heap k x) (hs : ∀ v ∈ stored, ∃ k' y, v = .ref y ∧ IsTupleKey (mixKind prog w) s.heap k' y) (h : Q false s) :
    wpAny (model prog w) A (searchCouldBeSeen (.ref x) stored) Q E s := by
  unfold searchCouldBeSeen
  refine wpAny_bind ?_
  refine wpAny_forIn_list _ (fun rest r s' => r.1 = none ∧ s' = s ∧ ∀ v ∈ rest, ∃ k' y, v = .ref y ∧ IsTupleKey (mixKind prog w) s.heap k' y) _ ?_ ?_ _ _ ⟨rfl, rfl, hs⟩
  · intro v rest r s' x1_i
    obtain ⟨hr, rfl, hall⟩ := x1_i
    obtain ⟨k', y, rfl, hy⟩ := hall v List.mem_cons_self
    have fin : ∀ (s' : Shared), s' = s' → True := fun _ _ => trivial
    dsimp only
    refine wpAny_ite_split (fun _ => wpAny_pure ⟨rfl, rfl, fun u hu' => hall u (List.mem_cons_of_mem _ hu')⟩) (fun _ => ?_)
    refine wpAny_bind (wpAny_eqIsQuiet_tuple hk ?_)
    simp only [Bool.not_true, Bool.false_eq_true, if_false]
    refine wpAny_bind (wpAny_eqIsQuiet_tuple hy ?_)
    simp only [Bool.not_true, Bool.false_eq_true, if_false]
    refine wpAny_bind (ofClass_tuple hk ?_)
    simp only [Bool.not_true, Bool.false_eq_true, if_false]
    refine wpAny_bind (ofClass_tuple hy ?_)
    simp only [Bool.not_true, Bool.false_eq_true, if_false]
    exact wpAny_pure ⟨rfl, rfl, fun u hu' => hall u (List.mem_cons_of_mem _ hu')⟩
  · intro x1_i
    obtain ⟨r1, r2⟩ := x1_i
    intro s' x2_i
    obtain ⟨hr, rfl, _⟩ := x2_i
    simp only at hr
    subst hr
    exact wpAny_pure h
abbrev hAt (prog : Program) (w : World) (items : List (LKey × Addr)) (i : Nat) : Int := (((items.map (ent1 prog w)).toArray)[i]?.map fun (e : Int × Value) => e.1).getD 0
open HT in
theorem search_go {S x : Addr} {k : LKey} {items : List (LKey × Addr)} {ep : Nat} {t : SetTable} {Q : SetFound → Shared → Prop} (hu : A.units < cLine) (ho : s.heap.get? S = some (setObj prog w items ep t)) (I : HTab (ihash prog w) t items)
    (hk : IsTupleKey (mixKind prog w) s.heap k x) (ks : KeysAt prog w s.heap items) {m₁ : Nat} (hw : ∀ m', m' < m₁ → (stp t.mask (t.probeStart (kh prog w k)) m').j ∈ t.place.toList)
    (hend : ((stp t.mask (t.probeStart (kh prog w k)) m₁).j ∉ t.place.toList ∧ (∀ i ∈ items, i.1 ≠ k) ∧ Q (.free (stp t.mask (t.probeStart (kh prog w k)) m₁).j false) s) ∨
      ((∃ (i : Nat) (it : LKey × Addr), t.place[i]? = some (stp t.mask (t.probeStart (kh prog w k)) m₁).j ∧ items[i]? = some it ∧ it.1 = k) ∧ Q (.there none) s)) :
    ∀ (d : Nat), d < 10 * SetTable.turns t.mask → ∀ (F m : Nat) (stand : Option SetTable.Probe), m + d = m₁ → d < F → stand.getD (t.probeStart (kh prog w k)) = stp t.mask (t.probeStart (kh prog w k)) m →
      wpAny (model prog w) A (setSearchFrom S (.ref x) (kh prog w k) true F stand) Q E s := by
  intro d
  induction d using Nat.strongRecOn with
  | ind d ih =>
    intro hd10 F m stand hm hF hst
    match F, hF with
    | F + 1, hF =>
      unfold setSearchFrom
      have hsz : (items.map (ent1 prog w)).toArray.size = items.length := by simp
      refine wpAny_bind (wpAny_setState_of ho rfl (by rw [hsz]; exact I.fits) ?_)
      dsimp only
      rw [I.gave]
      simp only [Bool.false_eq_true, if_false]
      have hA : ∀ (i : Nat) (it : LKey × Addr), items[i]? = some it → hAt prog w items i = kh prog w it.1 := fun i it h => by simp [hAt, h]
      have pg := probe_go (t := t) (hashAt := hAt prog w items) (h := kh prog w k) (p := t.probeStart (kh prog w k)) rfl I.dum I.sorted (m₁ := m₁) (by
        obtain ⟨h1, _⟩ | ⟨⟨i, it, h1, h2, h3⟩, _⟩ := hend
        · exact .inl h1
        · exact .inr ⟨i, h1, by rw [hA i it h2, h3]⟩) d (10 * SetTable.turns t.mask) m hm hd10 (fun m' _ h => hw m' h)
      obtain ⟨m', i, h1, h2, h3, h4, h5⟩ | ⟨h1, h2⟩ := pg
      · have hp : t.probe (hAt prog w items) (kh prog w k) (stand.getD (t.probeStart (kh prog w k))) = some (.candidate (stp t.mask (t.probeStart (kh prog w k)) m').j i (stp t.mask (t.probeStart (kh prog w k)) (m' + 1))) := by
          rw [hst]; exact h5
        rw [probe_eq ?hX hp]
        case hX => rfl
        dsimp only
        have hlt : i < items.length := by
          obtain ⟨h, _⟩ := Array.getElem?_eq_some_iff.mp h3
          rw [← I.size]; exact h
        have hit : items[i]? = some items[i] := List.getElem?_eq_getElem hlt
        have hei : ((items.map (ent1 prog w)).toArray)[i]? = some (ent1 prog w items[i]) := by simp [hlt]
        have hy : IsTupleKey (mixKind prog w) s.heap items[i].1 items[i].2 := ks _ (List.getElem_mem hlt)
        have rest : wpAny (model prog w) A (do
            let some (_, y) := ((items.map (ent1 prog w)).toArray)[i]? | unsupported "internal:set-entry"
            let equal ← holding [y] (eqBool y (.ref x))
            let (es', _, t') ← setState S
            if true && equal then return .there none
            let some same := t'.sameMemory t.moves t.mask | unsupported "set.changed-during-lookup:is-the-new-block-at-the-old-address"
            let still ← match (if same then t'.slot (stp t.mask (t.probeStart (kh prog w k)) m').j else .empty) with
              | .live i' => match es'[i']? with
                | some (_, y') => do pure (if ← isSame y' y then some i' else none)
                | none => pure none
              | _ => pure none
            match still with
            | none => rule "set.search.anew"; setSearchFrom S (.ref x) (kh prog w k) true F none
            | some i' => if equal then return .there (some i') else setSearchFrom S (.ref x) (kh prog w k) true F (some (stp t.mask (t.probeStart (kh prog w k)) (m' + 1)))) Q E s := by
          rw [hei]
          dsimp only
          refine wpAny_bind (wpAny_holding (wpAny_eqBool_tuple hu hy hk ?_))
          refine wpAny_bind (wpAny_setState_of ho rfl (by rw [hsz]; exact I.fits) ?_)
          dsimp only
          by_cases e : items[i].1 = k
          · rw [decide_eq_true e]
            simp only [Bool.and_self, if_true]
            obtain ⟨_, h, _⟩ | ⟨_, h⟩ := hend
            · exact absurd e (h _ (List.getElem_mem hlt))
            · exact wpAny_pure h
          · rw [decide_eq_false e]
            simp only [Bool.and_false, Bool.false_eq_true, if_false]
            have hsm : t.sameMemory t.moves t.mask = some true := by unfold SetTable.sameMemory; simp
            rw [hsm]
            dsimp only
            simp only [if_true]
            rw [slot_live I.sorted h3]
            dsimp only
            rw [hei]
            dsimp only
            refine wpAny_bind (wpAny_isSame_ref_self ?_)
            simp only [if_true]
            refine wpAny_bind (wpAny_pure ?_)
            dsimp only
            have hne : m' ≠ m₁ := by
              rintro rfl
              obtain ⟨h, _⟩ | ⟨⟨i', it, a, b, c⟩, _⟩ := hend
              · obtain ⟨hh, he⟩ := Array.getElem?_eq_some_iff.mp h3
                exact h (by rw [← he]; simp)
              · have e1 := slot_live I.sorted h3
                have e2 := slot_live I.sorted a
                rw [e1] at e2
                injection e2 with e2
                subst e2
                rw [hit] at b
                exact e (by rw [Option.some.inj b]; exact c)
            exact ih (m₁ - (m' + 1)) (by lia) (by lia) F (m' + 1) _ (by lia) (by lia) rfl
        refine wpAny_ite_split (fun _ => ?_) (fun _ => rest)
        refine wpAny_bind (searchSeen hk (fun v hv => ?_) ?_)
        · obtain ⟨e, he, rfl⟩ := List.mem_map.mp hv
          have hm := Array.mem_filter.mp (Array.mem_toList_iff.mp he)
          have hm2 : e ∈ items.map (ent1 prog w) := by simpa using hm.1
          obtain ⟨it, hi, rfl⟩ := List.mem_map.mp hm2
          exact ⟨it.1, it.2, rfl, ks it hi⟩
        · simp only [Bool.false_eq_true, if_false]
          exact rest
      · have hp : t.probe (hAt prog w items) (kh prog w k) (stand.getD (t.probeStart (kh prog w k))) = some (.empty (stp t.mask (t.probeStart (kh prog w k)) m₁).j none) := by
          rw [hst]; exact h2
        rw [probe_eq ?hY hp]
        case hY => rfl
        dsimp only
        obtain ⟨_, _, h⟩ | ⟨⟨i, it, a, b, c⟩, _⟩ := hend
        · exact wpAny_pure h
        · obtain ⟨hh, he⟩ := Array.getElem?_eq_some_iff.mp a
          exact absurd (by rw [← he]; simp) h1
theorem hashByValue_lit {k : LKey} {a : Addr} {Q : Bool → Shared → Prop} (hk : IsTupleKey (mixKind prog w) s.heap k a) (h : ∀ b, Q b s) : wpAny (model prog w) A (hashByValue 8 (.ref a)) Q E s := by
  have hT := hk.typeIs
  obtain ⟨o, its, n, ho, hc, hd, hi⟩ := hk
  unfold hashByValue
  refine wpAny_bind (wpAny_specialOf hT F.slot_tuple_hash.lookup ?_)
  dsimp only
  refine wpAny_bind (wpAny_seqItems ho hd ?_)
  refine wpAny_bind ?_
  show wpAny _ _ (forIn its _ _) _ _ s
  rw [← Array.forIn_toList]
  refine wpAny_forIn_list _ (fun rest r s' => r.1 = none ∧ s' = s ∧ ∀ v ∈ rest, ∃ b, hashByValue 7 v = pure b) _ ?_ ?_ _ _ ⟨rfl, rfl, ?_⟩
  · intro v rest r s' x1_i
    obtain ⟨hr, rfl, hall⟩ := x1_i
    obtain ⟨b, hb⟩ := hall v List.mem_cons_self
    rw [hb]
    refine wpAny_bind (wpAny_pure ?_)
    cases b with
    | true =>
      simp only [Bool.not_true, Bool.false_eq_true, if_false]
      exact wpAny_pure ⟨rfl, rfl, fun u hu' => hall u (List.mem_cons_of_mem _ hu')⟩
    | false =>
      simp only [Bool.not_false, if_true]
      exact wpAny_pure (wpAny_pure (h _))
  · intro x1_i
    obtain ⟨r1, r2⟩ := x1_i
    intro s' x2_i
    obtain ⟨hr, rfl, _⟩ := x2_i
    simp only at hr
    subst hr
    exact wpAny_pure (h _)
  · intro v hv
    have key : ∀ {ks : LKey} {vs : List Value}, ItemsAre (mixKind prog w) ks vs → ∀ v ∈ vs, ∃ b, hashByValue 7 v = pure b := by
      intro ks vs h
      induction h with
      | nil => intro v hv; simp at hv
      | @cons k v' ks vs h1 _ ih =>
        intro v hv
        rcases List.mem_cons.mp hv with rfl | hv
        · cases k with
          | inl n => obtain ⟨t, rfl⟩ := mix_l h1; exact ⟨_, rfl⟩
          | inr x => obtain ⟨t, rfl⟩ := mix_r h1; exact ⟨_, rfl⟩
        · exact ih v hv
    exact key hi v hv
theorem lit_keeps {h h' : Heap} {S a : Addr} {k : LKey} {items : List (LKey × Addr)} {ep : Nat} {t : SetTable} (ho : h.get? S = some (setObj prog w items ep t)) (hs : Heap.SameBut S h h') (hk : IsTupleKey (mixKind prog w) h k a) : IsTupleKey (mixKind prog w) h' k a := by
  obtain ⟨o, its, n, h1, h2, h3, h4⟩ := hk
  have hne : a ≠ S := by
    rintro rfl
    rw [ho] at h1
    injection h1 with h1
    rw [← h1] at h2
    exact absurd (Value.type.inj h2) (by decide)
  exact ⟨o, its, n, (hs.2 a hne).trans h1, h2, h3, h4⟩
theorem setObj_store {h : Heap} {S : Addr} {items items' : List (LKey × Addr)} {ep : Nat} {t t' : SetTable} (ho : h.get? S = some (setObj prog w items ep t)) :
    (h.update S (Obj.putSet (items'.map (ent1 prog w)).toArray t')).get? S = some (setObj prog w items' (ep + 1) t') := by
  have := Heap.get?_update_self (Obj.putSet (items'.map (ent1 prog w)).toArray t') ho (by rw [putSet_of _ _ rfl]; rfl)
  rw [putSet_of _ _ rfl] at this
  exact this
theorem small_fits {n : Nat} (h : n ≤ 5) : n ≤ sizeLine := by rw [sizeLine_eq]; lia
open HT in
theorem setAdd_lit {S x : Addr} {k : LKey} {items : List (LKey × Addr)} {ep : Nat} {t : SetTable} {Q : Bool → Shared → Prop} (hu : A.units < cLine) (ho : s.heap.get? S = some (setObj prog w items ep t)) (I : HTab (ihash prog w) t items)
    (hk : IsTupleKey (mixKind prog w) s.heap k x) (ks : KeysAt prog w s.heap items)
    (old : (∃ i ∈ items, i.1 = k) → ∀ tk, Q false { s with toks := tk })
    (new : (∀ i ∈ items, i.1 ≠ k) → items.length + 1 ≤ 5 ∧ ∀ h' tk items' ep' t', Heap.SameBut S s.heap h' → h'.get? S = some (setObj prog w items' ep' t') → HTab (ihash prog w) t' items' → t'.led = t.led → items'.Perm ((k, x) :: items) → Q true { s with heap := h', toks := tk }) :
    wpAny (model prog w) A (setAdd S (.ref x)) Q E s := by
  unfold setAdd
  refine wpAny_holding (wpAny_bind (wpAny_pyHash_tuple hu hk ?_))
  obtain ⟨tk₀, htk⟩ : ∃ tk₀, tk₀ = s.toks + (k.length + 1) := ⟨_, rfl⟩
  rw [← htk]
  have ho₁ : ({ s with toks := tk₀ } : Shared).heap.get? S = some (setObj prog w items ep t) := ho
  have hk₁ : IsTupleKey (mixKind prog w) ({ s with toks := tk₀ } : Shared).heap k x := hk
  have ks₁ : KeysAt prog w ({ s with toks := tk₀ } : Shared).heap items := ks
  have hsz : (items.map (ent1 prog w)).toArray.size = items.length := by simp
  have hst : (items.map (ent1 prog w)).toArray.size = items.length → t.fits (items.map (ent1 prog w)).toArray.size = true := fun e => by rw [e]; exact I.fits
  unfold setAddHashed setAddHashedIn
  refine wpAny_holding (wpAny_bind (wpAny_setState_of ho₁ rfl (hst hsz) ?_))
  dsimp only
  have hns : byScan (.ref x) (items.map (ent1 prog w)).toArray = false := rfl
  rw [hns]
  simp only [Bool.false_eq_true, if_false]
  refine wpAny_bind ?_
  show wpAny _ _ (setSearchFrom S (.ref x) (kh prog w k) true 100000 none) _ E _
  by_cases hc : ∃ i ∈ items, i.1 = k
  · obtain ⟨it, hi, hik⟩ := hc
    obtain ⟨n, hn, he⟩ := List.mem_iff_getElem.mp hi
    have hp : n < t.place.toList.length := by rw [Array.length_toList, I.size]; exact hn
    have hz : (t.place.toList[n], items[n]) ∈ t.place.toList.zip items := by
      have hzl : n < (t.place.toList.zip items).length := by rw [List.length_zip]; lia
      have : (t.place.toList.zip items)[n] = (t.place.toList[n], items[n]) := List.getElem_zip ..
      rw [← this]
      exact List.getElem_mem hzl
    obtain ⟨m₁, hm, hj, hw⟩ := I.way _ hz
    have hkey : kh prog w k = ihash prog w items[n] := by show kh prog w k = kh prog w items[n].1; rw [he, hik]
    have hj' : (stp t.mask (t.probeStart (kh prog w k)) m₁).j = t.place.toList[n] := by rw [hkey]; exact hj
    have hw' : ∀ m', m' < m₁ → (stp t.mask (t.probeStart (kh prog w k)) m').j ∈ t.place.toList := by rw [hkey]; exact hw
    have hmb : 10 * SetTable.turns t.mask ≤ 100000 := by
      rcases I.mask with ⟨e, _⟩ | ⟨e, _⟩ <;> rw [e] <;> decide
    refine search_go hu ho₁ I hk₁ ks₁ (m₁ := m₁) hw' (.inr ⟨⟨n, items[n], ?_, List.getElem?_eq_getElem hn, ?_⟩, ?_⟩) m₁ hm 100000 0 none (Nat.zero_add _) (by lia) rfl
    · rw [hj']
      simp at hp
      simp [hp]
    · rw [he]; exact hik
    · dsimp only
      exact wpAny_pure (old ⟨it, hi, hik⟩ _)
  · have hno : ∀ i ∈ items, i.1 ≠ k := fun i hi e => hc ⟨i, hi, e⟩
    obtain ⟨hlen, new⟩ := new hno
    have h7 : t.mask = 7 := by
      obtain ⟨e, _⟩ | ⟨e, h5⟩ := I.mask
      · exact e
      · lia
    have hpl : t.place.toList.length ≤ 4 := by rw [Array.length_toList, I.size]; exact I.len7 h7
    obtain ⟨m, hm, hn, hw⟩ := finds7 hpl (kh prog w k)
    have hps : t.probeStart (kh prog w k) = beg 7 (SetTable.bits (kh prog w k) % 8) (SetTable.bits (kh prog w k)) := by rw [start_beg, h7]
    have hw' : ∀ m', m' < m → (stp t.mask (t.probeStart (kh prog w k)) m').j ∈ t.place.toList := by rw [hps, h7]; exact hw
    refine search_go hu ho₁ I hk₁ ks₁ (m₁ := m) hw' (.inl ⟨by rw [hps, h7]; exact hn, hno, ?_⟩) m (by rw [h7]; have : SetTable.turns 7 = 22 := rfl; lia) 100000 0 none (Nat.zero_add _) (by lia) rfl
    rw [hps, h7]
    dsimp only
    refine wpAny_bind (wpAny_setState_of ho₁ rfl (hst hsz) ?_)
    dsimp only
    obtain ⟨t', p, hput, hled, hpla, hmask, hdum, hps', htab⟩ := I.put (x := (k, x)) h7 hm hn hw
    rw [hput]
    dsimp only
    suffices rest : ∀ b : Bool, wpAny (model prog w) A (do
        storeSet S (SetTable.insertAt (items.map (ent1 prog w)).toArray p (kh prog w k, Value.ref x)) (if b = true then t' else { t' with plain := false })
        if (!false && (if b = true then t' else { t' with plain := false }).tooFull) = true then do
          setRelay S (SetTable.grown ((items.map (ent1 prog w)).toArray.size + 1))
          pure true
        else pure true) Q E { s with toks := tk₀ } by
      exact wpAny_ite_split (fun _ => wpAny_bind (hashByValue_lit hk₁ fun b => rest b)) (fun _ => wpAny_bind (wpAny_pure (rest true)))
    intro b
    generalize htt : (if b = true then t' else { t' with plain := false }) = t2
    have f1 : t2.led = t.led ∧ t2.mask = 7 ∧ t2.dummies = #[] ∧ t2.place = t'.place := by
      cases b
      · subst htt; exact ⟨hled, hmask, hdum, rfl⟩
      · subst htt; exact ⟨hled, hmask, hdum, rfl⟩
    have f2 : items.length + 1 ≤ 4 → HTab (ihash prog w) t2 (items.take p ++ (k, x) :: items.drop p) := fun h4 => by
      have H := htab h4
      cases b
      · subst htt; exact ⟨H.sorted, H.size, H.dum, H.mask, H.way⟩
      · subst htt; exact H
    have hes : SetTable.insertAt (items.map (ent1 prog w)).toArray p (kh prog w k, Value.ref x) = ((items.take p ++ (k, x) :: items.drop p).map (ent1 prog w)).toArray := by
      apply Array.toList_inj.mp
      rw [insertAt_list]
      simp [List.map_take, List.map_drop]
    have hperm : (items.take p ++ (k, x) :: items.drop p).Perm ((k, x) :: items) := by
      refine List.perm_middle.trans ?_
      rw [List.take_append_drop]
    have hlen' : (items.take p ++ (k, x) :: items.drop p).length = items.length + 1 := by have := hperm.length_eq; simpa using this
    rw [hes]
    generalize hit : items.take p ++ (k, x) :: items.drop p = items1 at *
    have hsz1 : (items1.map (ent1 prog w)).toArray.size = items.length + 1 := by simp [hlen']
    refine wpAny_bind (wpAny_storeSet_of ho₁ rfl ?_ (by rw [hsz1]; exact small_fits hlen))
    have ho2 := setObj_store (items' := items1) (t' := t2) ho₁
    have sb2 := Heap.SameBut.update s.heap S (Obj.putSet (items1.map (ent1 prog w)).toArray t2)
    by_cases h5 : items.length + 1 ≤ 4
    · have hnf : t2.tooFull = false := by
        unfold SetTable.tooFull SetTable.fill
        rw [f1.2.1, f1.2.2.1, f1.2.2.2, hps']
        simp
        lia
      rw [hnf]
      simp only [Bool.and_false, Bool.false_eq_true, if_false]
      exact wpAny_pure (new _ tk₀ _ _ _ sb2 ho2 (f2 h5) f1.1 hperm)
    · have h6 : items.length + 1 = 5 := by lia
      have hf : t2.tooFull = true := by
        unfold SetTable.tooFull SetTable.fill
        rw [f1.2.1, f1.2.2.1, f1.2.2.2, hps', h6]
        decide
      rw [hf]
      simp only [Bool.not_false, Bool.and_self, if_true]
      refine wpAny_bind ?_
      have hl5 : items1.length = 5 := by rw [hlen', h6]
      have hgr : SetTable.grown ((items.map (ent1 prog w)).toArray.size + 1) = SetTable.grown 5 := by rw [hsz, h6]
      rw [hgr]
      unfold setRelay
      refine wpAny_bind (wpAny_setState_of ho2 rfl ?_ ?_)
      · rw [hsz1]
        unfold SetTable.fits SetTable.fill
        rw [f1.2.1, f1.2.2.1, f1.2.2.2, hps', h6]
        rfl
      · dsimp only
        have hsa : ¬ SetTable.sizeAbove (SetTable.grown 5) > sizeLine := by rw [sizeLine_eq]; decide
        rw [if_neg hsa]
        obtain ⟨t3, order, hrel, hled3, hpla3, hord, htab3⟩ := HTab.relaid (t := t2) (hash := ihash prog w) hl5 ((items1.map (ent1 prog w)).toArray.map (·.1)) (by simp)
        rw [hrel]
        have hfm : order.filterMap (((items1.map (ent1 prog w)).toArray)[·]?) = ((order.toList.filterMap (items1[·]?)).map (ent1 prog w)).toArray := by
          apply Array.toList_inj.mp
          simp [List.map_filterMap]
        have hp3 : (order.toList.filterMap (items1[·]?)).Perm items1 := by
          have h := hord.filterMap (items1[·]?)
          have e : (List.range 5).filterMap (items1[·]?) = items1 := by
            match items1, hl5 with
            | [a, b, c, d, e], _ => rfl
          rw [e] at h
          exact h
        have hsz3 : (order.filterMap (((items1.map (ent1 prog w)).toArray)[·]?)).size = 5 := by
          rw [hfm]
          have := hp3.length_eq
          simp [this, hl5]
        show wpAny (model prog w) A ((do
          if (order.filterMap (((items1.map (ent1 prog w)).toArray)[·]?)).size != ((items1.map (ent1 prog w)).toArray).size then unsupported "internal:set-table-lost-an-element"
          pure (order.filterMap (((items1.map (ent1 prog w)).toArray)[·]?), t3)) >>= fun r => storeSet S r.1 r.2) _ E _
        have hnb : ((order.filterMap (((items1.map (ent1 prog w)).toArray)[·]?)).size != ((items1.map (ent1 prog w)).toArray).size) = false := by
          rw [hsz3, hsz1, h6]; rfl
        rw [hnb]
        simp only [Bool.false_eq_true, if_false]
        refine wpAny_bind (wpAny_pure ?_)
        dsimp only
        rw [hfm]
        have hsz4 : ((order.toList.filterMap (items1[·]?)).map (ent1 prog w)).toArray.size = 5 := by rw [← hfm]; exact hsz3
        refine wpAny_storeSet_of ho2 rfl ?_ (by rw [hsz4]; exact small_fits (Nat.le_refl _))
        have ho3 := setObj_store (items' := order.toList.filterMap (items1[·]?)) (t' := t3) ho2
        exact wpAny_pure (new _ tk₀ _ _ _ (sb2.trans (Heap.SameBut.update _ S _)) ho3 (htab3 _ rfl) (hled3.trans f1.1) (hp3.trans hperm))
end
end
section
/-- a set of the heap that holds the keys of some literals -/
def SetAt (prog : Program) (w : World) (h : Heap) (S : Addr) (src : List (LKey × Addr)) (led : Bool) : Prop :=
  Ex3 fun items ep t => h.get? S = some (setObj prog w items ep t) ∧ HT.HTab (ihash prog w) t items ∧ t.led = led ∧ (items.map (·.1)).Nodup ∧ (∀ i ∈ items, i ∈ src) ∧ (∀ i ∈ src, ∃ j ∈ items, j.1 = i.1)
section
variable {prog : Program} {w : World} {A : Around} {E : Value → Shared → Prop} {R : Result → Shared → Prop}
theorem SetAt.keep {h h' : Heap} {S : Addr} {src : List (LKey × Addr)} {led : Bool} (x : SetAt prog w h S src led) (hk : ∀ o, h.get? S = some o → h'.get? S = some o) : SetAt prog w h' S src led :=
  let ⟨items, ep, t, ho, r⟩ := x; ⟨items, ep, t, hk _ ho, r⟩
theorem KeysAt.keep {h h' : Heap} {items : List (LKey × Addr)} (x : KeysAt prog w h items) (hk : ∀ i ∈ items, ∀ o, h.get? i.2 = some o → h'.get? i.2 = some o) : KeysAt prog w h' items := fun i hi =>
  let ⟨o, its, n, h1, r⟩ := x i hi; ⟨o, its, n, hk i hi o h1, r⟩
theorem set_loop {I S : Addr} {fp wr : List Addr} {n : Nat} {P : Nat → Value → Prop} {St : Nat → Heap → Prop} (W : Walks prog w A.in1 I fp wr n P St) (hSf : S ∉ fp) {src : List (LKey × Addr)} (hn : src.length = n)
    (hP : ∀ i v, P i v → ∃ it, src[i]? = some it ∧ v = .ref it.2) {U : List LKey} (hU : U.length ≤ 5) (hsub : ∀ i ∈ src, i.1 ∈ U) (hoff : ∀ i ∈ src, i.2 ≠ S ∧ i.2 ∉ wr) (hu : A.units + 64 < cLine) {led : Bool} :
    ∀ (k i : Nat) (s : Shared), n - i = k → i ≤ n → St i s.heap → KeysAt prog w s.heap src → SetAt prog w s.heap S (src.take i) led →
      (∀ h' tk, (∀ b o, b ≠ S → b ∉ wr → s.heap.get? b = some o → h'.get? b = some o) → SetAt prog w h' S src led → R (.ok (.ret .none)) { s with heap := h', toks := tk }) →
      codeAny (model prog w) A (.builtin "set.update.loop" ⟨[.ref S, .ref I], []⟩) R s := by
  have hSw : S ∉ wr := fun h => hSf (W.sub _ h)
  intro k
  induction k with
  | zero =>
    intro i s hk hi hst hK hS hR
    have hin : i = n := by lia
    subst hin
    refine codeAny_builtin PyProof.Rows.F.entry_set_update_loop ?_
    rw [Around.under_plainId PyProof.Rows.F.plain_set_update_loop _]
    show wpAny _ A.in1 (pyNext (.ref I) >>= _) _ _ s
    refine wpAny_bind (W.done s _ _ hst fun h' tk hm => ?_)
    show wpAny _ A.in1 (ret Value.none) _ _ _
    rw [← hn, List.take_length] at hS
    exact wpAny_pure (hR h' tk (fun b o hb hw e => hm b o hw e) (hS.keep fun o e => hm S o hSw e))
  | succ k ih =>
    intro i s hk hi hst hK hS hR
    have hlt : i < n := by lia
    refine codeAny_builtin PyProof.Rows.F.entry_set_update_loop ?_
    rw [Around.under_plainId PyProof.Rows.F.plain_set_update_loop _]
    show wpAny _ A.in1 (pyNext (.ref I) >>= _) _ _ s
    refine wpAny_bind (W.item i s _ _ hlt hst fun v h' tk hPv hst' hm => ?_)
    obtain ⟨it, hit, rfl⟩ := hP i v hPv
    have hmem : it ∈ src := List.mem_of_getElem? hit
    have hK' : KeysAt prog w h' src := hK.keep fun j hj o e => hm j.2 o (hoff j hj).2 e
    have hS' : SetAt prog w h' S (src.take i) led := hS.keep fun o e => hm S o hSw e
    obtain ⟨items, ep, t, ho, I', hled, hnd, hin, hall⟩ := hS'
    have htake : src.take (i + 1) = src.take i ++ [it] := take_snoc hit
    have hKi : KeysAt prog w h' items := fun j hj => hK' j (List.mem_of_mem_take (hin j hj))
    show wpAny _ A.in1 (holding [Value.ref it.2] (setAdd S (.ref it.2)) >>= _) _ _ _
    refine wpAny_bind (wpAny_holding (setAdd_lit (s := { s with heap := h', toks := tk }) (by rw [units_in1]; lia) ho I' (hK' it hmem) hKi (fun hex tk' => ?_) fun hno => ⟨?_, fun h2 tk' items' ep' t' hsb ho' I2 hled' hperm => ?_⟩))
    · refine wpAny_pure ⟨plainId_quiet PyProof.Rows.F.plain_set_update_loop _, ih (i + 1) _ (by lia) hlt hst' hK' ⟨items, ep, t, ho, I', hled, hnd, fun j hj => ?_, fun j hj => ?_⟩ fun h3 tk3 hk3 hS3 => ?_⟩
      · rw [htake]; exact List.mem_append_left _ (hin j hj)
      · rw [htake] at hj
        rcases List.mem_append.mp hj with hj | hj
        · exact hall j hj
        · rw [List.mem_singleton.mp hj]; exact hex
      · exact hR h3 tk3 (fun b o hb hw e => hk3 b o hb hw (hm b o hw e)) hS3
    · have hnd' : (it.1 :: items.map (·.1)).Nodup := List.nodup_cons.mpr ⟨fun hc => by
        obtain ⟨j, hj, e⟩ := List.mem_map.mp hc
        exact hno j hj e, hnd⟩
      have := List.Nodup.length_le_of_subset (l₂ := U) hnd' (fun x hx => by
        rcases List.mem_cons.mp hx with rfl | hx
        · exact hsub it hmem
        · obtain ⟨j, hj, rfl⟩ := List.mem_map.mp hx
          exact hsub j (List.mem_of_mem_take (hin j hj)))
      simp at this
      lia
    · refine wpAny_pure ⟨plainId_quiet PyProof.Rows.F.plain_set_update_loop _, ih (i + 1) _ (by lia) hlt (W.frame _ _ _ hst' fun b hb o e => ?_) (hK'.keep fun j hj o e => ?_) ⟨items', ep', t', ho', I2, hled'.trans hled, ?_, fun j hj => ?_, fun j hj => ?_⟩ fun h3 tk3 hk3 hS3 => ?_⟩
      · rw [hsb.2 b (fun h : b = S => hSf (by rw [← h]; exact hb))]; exact e
      · exact (hsb.2 j.2 (hoff j hj).1).trans e
      · have hp := hperm.map (·.1)
        rw [List.map_cons] at hp
        refine hp.nodup_iff.mpr (List.nodup_cons.mpr ⟨fun hc => ?_, hnd⟩)
        obtain ⟨j, hj, e⟩ := List.mem_map.mp hc
        exact hno j hj e
      · rw [htake]
        rcases List.mem_cons.mp (hperm.mem_iff.mp hj) with rfl | hj
        · exact List.mem_append_right _ (.head _)
        · exact List.mem_append_left _ (hin j hj)
      · rw [htake] at hj
        rcases List.mem_append.mp hj with hj | hj
        · obtain ⟨q, hq, e⟩ := hall j hj
          exact ⟨q, hperm.mem_iff.mpr (.tail _ hq), e⟩
        · rw [List.mem_singleton.mp hj]
          exact ⟨_, hperm.mem_iff.mpr (.head _), rfl⟩
      · exact hR h3 tk3 (fun b o hb hw e => hk3 b o hb hw ((hsb.2 b hb).trans (hm b o hw e))) hS3
theorem code_set_new_led {s : Shared} (a : Value) {Q₁ : Value → Shared → Prop}
    (h : Q₁ (.ref s.heap.objs.size) { s with heap := s.heap.push { cls := .type "set", dict := none, data := .set #[] 0 (.fresh 0 0 (!w.params.followText "set-order")) } }) :
    codeAny (model prog w) A (.call (.builtin "set.__new__") ⟨[.type "set", a], []⟩) (wants Q₁ E) s := by
  refine codeAny_of_tree ?_
  show wpAny _ A.in1 (do checkBuiltinCall "set.__new__" ⟨[.type "set", a], []⟩; again (.builtin "set.__new__" ⟨[.type "set", a], []⟩)) _ _ s
  refine wpAny_bind (wpAny_of_eq (PySem.F.newCall_set_1 a) (wpAny_pure ⟨plainId_quiet PySem.F.plain_set_new _, codeAny_builtin PySem.F.entry_set_new ?_⟩))
  rw [Around.under_plainId PySem.F.plain_set_new _]
  unfold Builtin.«set.__new__» Builtin.Frozenset.newClass
  have hsub := sub_set_self
  obtain ⟨hp, g, d, tk, os⟩ := s
  dsimp only
  wp_walk
  refine wpAny_askSetting (wpAny_pure ?_)
  dsimp only
  simp only [newObj]
  refine wpAny_bind (wpAny_alloc (wpAny_pure ?_))
  exact wpAny_pure h
theorem call_set_lit {s : Shared} {l : Addr} {items : Array Value} {Q : Value → Shared → Prop} {src : List (LKey × Addr)} {U : List LKey}
    (hh : A.handled = none) (hl : s.heap.IsList l items) (hi : items.toList = src.map fun i => .ref i.2) (hK : KeysAt prog w s.heap src) (hU : U.length ≤ 5) (hsub : ∀ i ∈ src, i.1 ∈ U) (hu : A.units + 80 < cLine)
    (h : ∀ (h' : Heap) (tk : Nat), SetAt prog w h' s.heap.objs.size src (!w.params.followText "set-order") →
      (∀ b o, s.heap.get? b = some o → h'.get? b = some o) → Q (.ref s.heap.objs.size) { s with heap := h', toks := tk }) :
    wpAny (model prog w) A (call (.type "set") [.ref l]) Q E s := by
  obtain ⟨c, tl, hmro⟩ := PySem.F.called_set.mro
  have hmade := PySem.F.called_set.made
  have hsub' := PySem.F.called_set.sub
  refine wpAny_call (codeAny_of_tree ?_)
  show wpAny _ _ (callAny (.type "set") _) _ _ _
  refine wpAny_pure ⟨Code.quiet_builtin _ (by decide +kernel), codeAny_builtin PySem.F.entry_type_call ?_⟩
  rw [Around.under_plain (weight_type_call_type "set" [.ref l] []) rfl]
  have h1 := PySem.F.called_set.notType
  have h2 := PySem.F.called_set.canCreate
  have hct := PySem.F.typeCall_set_1 (.ref l)
  repeat (any_goals (first | assumption | wp_step))
  refine codeAny_mono (code_set_new_led (.ref l) (E := E) (Q₁ := fun obj s₁ => obj = .ref s.heap.objs.size ∧ s₁ = { s with heap := s.heap.push { cls := .type "set", dict := none, data := .set #[] 0 (.fresh 0 0 (!w.params.followText "set-order")) } }) ⟨rfl, rfl⟩) fun r s₁ hr => ?_
  generalize (!w.params.followText "set-order") = led at *
  cases r with
  | error e => exact hr
  | ok fl =>
    cases fl with
    | ret obj =>
      obtain ⟨rfl, rfl⟩ := hr
      have hS : (s.heap.push { cls := .type "set", dict := none, data := .set #[] 0 (.fresh 0 0 led) }).get? s.heap.objs.size = some { cls := .type "set", dict := none, data := .set #[] 0 (.fresh 0 0 led) } := Heap.get?_push_size _ rfl
      have hT : Shared.TypeIs { s with heap := s.heap.push { cls := .type "set", dict := none, data := .set #[] 0 (.fresh 0 0 led) } } (.ref s.heap.objs.size) "set" := ⟨_, hS, rfl⟩
      have hli := PySem.F.called_set.init.lookup
      have hbi := PySem.F.called_set.init.bind (.ref s.heap.objs.size)
      repeat (any_goals (first | assumption | wp_step))
      refine codeAny_mono (codeAny_call_builtin (R := wants (fun r s₂ => r = .none ∧ ∃ h' tk, s₂ = { s with heap := h', toks := tk } ∧
          SetAt prog w h' s.heap.objs.size src led ∧ (∀ b o, s.heap.get? b = some o → h'.get? b = some o)) E) PySem.F.called_set.init.plain PySem.F.entry_set_init (PySem.check_set_init_1 hT ?_)) fun r₂ s₂ hr₂ => ?_
      · obtain ⟨ol, hol, hcl, nl, hdl⟩ := hl
        obtain ⟨ocls, odict, odata, oslots⟩ := ol
        simp only at hcl hdl
        subst hcl; subst hdl
        have hol' : (s.heap.push { cls := .type "set", dict := none, data := .set #[] 0 (.fresh 0 0 led) }).get? l = some { cls := .type "list", dict := odict, data := .seq items nl, slots := oslots } := Heap.get?_push_of_some _ hol
        have hsls := PySem.F.sub_list_set
        have hslf := PySem.F.sub_list_frozenset
        have hne : (Value.type "list" == Value.type "dict") = false := by decide
        have hl1 : (s.heap.push { cls := .type "set", dict := none, data := .set #[] 0 (.fresh 0 0 led) }).IsList l items := ⟨_, hol', rfl, nl, rfl⟩
        unfold Builtin.«set.__init__» noKeywords Builtin.Frozenset.updateFrom
        generalize hPI : pyIter = PI
        wp_walk
        subst hPI
        refine wpAny_pyIter_list hl1 ?_
        refine wpAny_bind (wpAny_runValue ?_)
        have hlS : l < s.heap.objs.size := Heap.lt_size hol
        have hh3 : A.in1.in1.in1.handled = none := by simp [hh]
        have hneI : l ≠ (s.heap.push { cls := .type "set", dict := none, data := .set #[] 0 (.fresh 0 0 led) }).objs.size := by
          rw [Heap.size_push]; exact Nat.ne_of_lt (Nat.lt_succ_of_lt hlS)
        have hSf : s.heap.objs.size ∉ [(s.heap.push { cls := .type "set", dict := none, data := .set #[] 0 (.fresh 0 0 led) }).objs.size, l] := by
          rw [Heap.size_push]; simp only [List.mem_cons, List.mem_singleton, List.not_mem_nil, or_false, not_or]
          exact ⟨Nat.ne_of_lt (Nat.lt_succ_self _), Nat.ne_of_gt hlS⟩
        have hlit : ∀ i ∈ src, i.2 < s.heap.objs.size := fun i hi => let ⟨o, _, _, ho, _⟩ := hK i hi; Heap.lt_size ho
        have hlen : src.length = items.size := by rw [← Array.length_toList, hi, List.length_map]
        refine set_loop (led := led) (Walks.list hh3 _ l hneI items) hSf hlen (fun i v hv => ?_) hU hsub (fun i hi => ⟨Nat.ne_of_lt (hlit i hi), ?_⟩) (by simp only [units_in1]; lia) (items.size - 0) 0 _ (by lia) (Nat.zero_le _)
          ⟨⟨_, Heap.get?_push_size _ rfl, rfl, rfl⟩, (hl1.push _)⟩ (hK.keep fun i _ o e => Heap.get?_push_of_some _ (Heap.get?_push_of_some _ e)) ?hS0 ?hR
        · have hv' : (src.map fun i => Value.ref i.2)[i]? = some v := by rw [← hi, Array.getElem?_toList]; exact hv
          rw [List.getElem?_map] at hv'
          cases hx : src[i]? with
          | none => rw [hx] at hv'; exact nomatch hv'
          | some it => rw [hx] at hv'; exact ⟨it, rfl, (Option.some.inj hv').symm⟩
        · rw [Heap.size_push]
          simp only [List.mem_singleton]
          exact Nat.ne_of_lt (Nat.lt_succ_of_lt (hlit i hi))
        case hS0 =>
          have hget : ((s.heap.push { cls := .type "set", dict := none, data := .set #[] 0 (.fresh 0 0 led) }).push { cls := .type "list_iterator", data := .fields #[.ref l, .int 0 0] }).get? s.heap.objs.size
              = some { cls := .type "set", dict := none, data := .set #[] 0 (.fresh 0 0 led) } := Heap.get?_push_of_some _ hS
          exact ⟨[], 0, _, hget, HT.HTab.fresh _ led, rfl, List.nodup_nil, fun i hi => by simp at hi, fun i hi => by simp at hi⟩
        case hR =>
          intro h' tk' hm hS'
          refine wpAny_pure ?_
          show wpAny _ _ (ret Value.none) _ _ _
          refine wpAny_pure ⟨rfl, h', tk', rfl, hS', fun b o e => ?_⟩
          have hb := Heap.lt_size e
          exact hm b o (Nat.ne_of_lt hb) (by rw [Heap.size_push]; simp only [List.mem_singleton]; exact Nat.ne_of_lt (Nat.lt_succ_of_lt hb)) (Heap.get?_push_of_some _ (Heap.get?_push_of_some _ e))
      · cases r₂ with
        | error e => exact hr₂
        | ok fl₂ =>
          cases fl₂ with
          | ret r =>
            obtain ⟨rfl, h', tk, rfl, hS', hk'⟩ := hr₂
            repeat (any_goals (first | assumption | wp_step))
            exact h _ _ hS' hk'
          | _ => exact hr₂.elim
    | _ => exact hr.elim
end
end
section
/-- the answer of a tree of questions -/
def treeAns (f : Nat → Nat → Bool) {α : Type} : KasT α → α
  | .ret a => a
  | .ask i j k => treeAns f (k (f i j))
def rankLt (r : List Nat) (i j : Nat) : Bool := decide (r.getD i 0 < r.getD j 0)
def perms : Nat → List (List Nat)
  | 0 => [[]]
  | n + 1 => (perms n).flatMap fun p => (List.range (n + 1)).map fun i => p.take i ++ n :: p.drop i
def sortsWell (n : Nat) : Bool := (perms n).all fun r => (treeAns (rankLt r) (kas_sort n)).toList.map (fun i => r.getD i 0) == List.range n && (treeAns (rankLt r) (kas_sort n)).toList.isPerm (List.range n)
def asksOk (n : Nat) {α : Type} : KasT α → Bool
  | .ret _ => true
  | .ask i j k => decide (i < n) && decide (j < n) && asksOk n (k true) && asksOk n (k false)
theorem asks2 : asksOk 2 (kas_sort 2) = true := by decide +kernel
theorem asks3 : asksOk 3 (kas_sort 3) = true := by decide +kernel
theorem asks4 : asksOk 4 (kas_sort 4) = true := by decide +kernel
theorem asks5 : asksOk 5 (kas_sort 5) = true := by decide +kernel
theorem kas_run {n : Nat} {f : Nat → Nat → Bool} {cmp : Nat → Nat → (Bool → Shared → Prop) → Shared → Prop} {s : Shared} (hc : ∀ i j C, i < n → j < n → C (f i j) s → cmp i j C s) {α : Type} {Q : α → Shared → Prop} :
    ∀ (t : KasT α), asksOk n t = true → Q (treeAns f t) s → t.kasWp cmp Q s
  | .ret a, _, h => h
  | .ask i j k, ha, h => by
    unfold asksOk at ha
    simp only [Bool.and_eq_true, decide_eq_true_eq] at ha
    refine hc i j _ ha.1.1.1 ha.1.1.2 ?_
    have h' : Q (treeAns f (k (f i j))) s := h
    cases hf : f i j with
    | true => rw [hf] at h'; exact kas_run hc (k true) ha.1.2 h'
    | false => rw [hf] at h'; exact kas_run hc (k false) ha.2 h'
theorem sorts2 : sortsWell 2 = true := by decide +kernel
theorem sorts3 : sortsWell 3 = true := by decide +kernel
theorem sorts4 : sortsWell 4 = true := by decide +kernel
theorem sorts5 : sortsWell 5 = true := by decide +kernel
/-- literals of one variable, in the order of tuples -/
def sgRank : Sign → Int
  | .ne => 0
  | .le => 1
  | .eq => 2
  | .ge => 3
def litLt (p q : Sign × Int) : Bool := decide (sgRank p.1 < sgRank q.1) || (decide (p.1 = q.1) && decide (p.2 < q.2))
theorem sgRank_inj {a b : Sign} (h : sgRank a = sgRank b) : a = b := by cases a <;> cases b <;> first | rfl | (exact absurd h (by decide))
theorem litLt_trans {a b c : Sign × Int} (h1 : litLt a b = true) (h2 : litLt b c = true) : litLt a c = true := by
  unfold litLt at *
  simp only [Bool.or_eq_true, Bool.and_eq_true, decide_eq_true_eq] at *
  rcases h1 with h1 | ⟨e1, h1⟩ <;> rcases h2 with h2 | ⟨e2, h2⟩
  · exact .inl (Int.lt_trans h1 h2)
  · exact .inl (by rw [← e2]; exact h1)
  · exact .inl (by rw [e1]; exact h2)
  · exact .inr ⟨e1.trans e2, Int.lt_trans h1 h2⟩
theorem litLt_irrefl (a : Sign × Int) : litLt a a = false := by unfold litLt; simp
theorem litLt_total {a b : Sign × Int} (h : a ≠ b) : litLt a b = true ∨ litLt b a = true := by
  unfold litLt
  simp only [Bool.or_eq_true, Bool.and_eq_true, decide_eq_true_eq]
  rcases Int.lt_trichotomy (sgRank a.1) (sgRank b.1) with h1 | h1 | h1
  · exact .inl (.inl h1)
  · have e := sgRank_inj h1
    rcases Int.lt_trichotomy a.2 b.2 with h2 | h2 | h2
    · exact .inl (.inr ⟨e, h2⟩)
    · exact absurd (Prod.ext e h2) h
    · exact .inr (.inr ⟨e.symm, h2⟩)
  · exact .inr (.inl h1)
theorem litLt_asymm {a b : Sign × Int} (h : litLt a b = true) : litLt b a = false := by
  cases h2 : litLt b a with
  | false => rfl
  | true => have := litLt_trans h h2; rw [litLt_irrefl] at this; exact nomatch this
abbrev LItem := (Sign × Int) × Addr
def rankOf (its : List LItem) (p : Sign × Int) : Nat := its.countP fun q => litLt q.1 p
theorem rank_lt {its : List LItem} {p q : Sign × Int} (hp : ∃ a, (p, a) ∈ its) (h : litLt p q = true) : rankOf its p < rankOf its q := by
  obtain ⟨a, ha⟩ := hp
  unfold rankOf
  have h1 : its.countP (fun x => litLt x.1 p) ≤ its.countP (fun x => litLt x.1 q) := List.countP_mono_left fun x _ hx => litLt_trans hx h
  have h2 : ∀ l : List LItem, (p, a) ∈ l → l.countP (fun x => litLt x.1 p) < l.countP (fun x => litLt x.1 q) := by
    intro l
    induction l with
    | nil => intro h; simp at h
    | cons x l ih =>
      intro hm
      rcases List.mem_cons.mp hm with e | hm
      · subst e
        rw [List.countP_cons, List.countP_cons]
        simp only [litLt_irrefl, h]
        have : l.countP (fun x => litLt x.1 p) ≤ l.countP (fun x => litLt x.1 q) := List.countP_mono_left fun x _ hx => litLt_trans hx h
        simp
        lia
      · have := ih hm
        rw [List.countP_cons, List.countP_cons]
        by_cases hx : litLt x.1 p = true
        · rw [if_pos hx, if_pos (litLt_trans hx h)]; lia
        · rw [if_neg hx]; split <;> lia
  exact h2 its ha
theorem rank_iff {its : List LItem} {p q : Sign × Int} (hp : ∃ a, (p, a) ∈ its) (hq : ∃ a, (q, a) ∈ its) : litLt p q = decide (rankOf its p < rankOf its q) := by
  by_cases e : p = q
  · subst e; rw [litLt_irrefl]; simp
  · rcases litLt_total e with h | h
    · rw [h, decide_eq_true (rank_lt hp h)]
    · rw [litLt_asymm h, decide_eq_false (by have := rank_lt hq h; lia)]
theorem rank_bound {its : List LItem} {p : Sign × Int} (hp : ∃ a, (p, a) ∈ its) : rankOf its p < its.length := by
  obtain ⟨a, ha⟩ := hp
  unfold rankOf
  have h : ∀ l : List LItem, (p, a) ∈ l → l.countP (fun x => litLt x.1 p) < l.length := by
    intro l
    induction l with
    | nil => intro h; simp at h
    | cons x l ih =>
      intro hm
      rw [List.countP_cons, List.length_cons]
      rcases List.mem_cons.mp hm with e | hm
      · subst e
        simp only [litLt_irrefl]
        have := List.countP_le_length (p := fun x : LItem => litLt x.1 p) (l := l)
        simp
        lia
      · have := ih hm
        split <;> lia
  exact h its ha
/-- all lists of distinct numbers below n -/
theorem mem_perms : ∀ (n : Nat) (r : List Nat), r.Nodup → r.length = n → (∀ x ∈ r, x < n) → r ∈ perms n
  | 0, r, _, hl, _ => by
    have : r = [] := List.length_eq_zero_iff.mp hl
    subst this
    simp [perms]
  | n + 1, r, hn, hl, hb => by
    have hm : n ∈ r := by
      refine Classical.byContradiction fun hc => ?_
      have := List.Nodup.length_le_of_subset (l₂ := List.range n) hn (fun x hx => by
        have := hb x hx
        have hne : x ≠ n := fun e => hc (e ▸ hx)
        exact List.mem_range.mpr (by lia))
      simp at this
      lia
    obtain ⟨a, b, rfl⟩ := List.append_of_mem hm
    have hn' : (a ++ b).Nodup ∧ n ∉ a ++ b := by
      have := (List.perm_middle (a := n) (l₁ := a) (l₂ := b)).nodup_iff.mp hn
      rw [List.nodup_cons] at this
      exact ⟨this.2, this.1⟩
    have hl' : (a ++ b).length = n := by simp at hl ⊢; lia
    have ih := mem_perms n (a ++ b) hn'.1 hl' (fun x hx => by
      have h1 : x ∈ a ++ n :: b := by
        rcases List.mem_append.mp hx with h | h
        · exact List.mem_append_left _ h
        · exact List.mem_append_right _ (.tail _ h)
      have := hb x h1
      have hne : x ≠ n := fun e => hn'.2 (e ▸ hx)
      lia)
    unfold perms
    rw [List.mem_flatMap]
    refine ⟨a ++ b, ih, List.mem_map.mpr ⟨a.length, List.mem_range.mpr ?_, ?_⟩⟩
    · rw [List.length_append] at hl'; lia
    · simp
/-- two rising lists of the same literals are the same -/
theorem rising_unique : ∀ {l1 l2 : List LItem}, l1.Perm l2 → l1.Pairwise (fun a b => litLt a.1 b.1 = true) → l2.Pairwise (fun a b => litLt a.1 b.1 = true) → l1 = l2
  | [], l2, h, _, _ => (List.Perm.nil_eq h)
  | a :: l1, [], h, _, _ => absurd h.length_eq (by simp)
  | a :: l1, b :: l2, h, h1, h2 => by
    rw [List.pairwise_cons] at h1 h2
    have e : a = b := by
      have ha : a ∈ b :: l2 := h.mem_iff.mp (.head _)
      have hb : b ∈ a :: l1 := h.mem_iff.mpr (.head _)
      rcases List.mem_cons.mp ha with e | ha
      · exact e
      · rcases List.mem_cons.mp hb with e | hb
        · exact e.symm
        · have x1 := h1.1 b hb
          have x2 := h2.1 a ha
          rw [litLt_asymm x1] at x2
          exact nomatch x2
    subst e
    rw [rising_unique (List.Perm.cons_inv h) h1.2 h2.2]
theorem asksAll {n : Nat} (h2 : 2 ≤ n) (h5 : n ≤ 5) : asksOk n (kas_sort n) = true ∧ sortsWell n = true := by
  have : n = 2 ∨ n = 3 ∨ n = 4 ∨ n = 5 := by lia
  rcases this with rfl | rfl | rfl | rfl
  · exact ⟨asks2, sorts2⟩
  · exact ⟨asks3, sorts3⟩
  · exact ⟨asks4, sorts4⟩
  · exact ⟨asks5, sorts5⟩
def ranks (its : List LItem) : List Nat := its.map fun i => rankOf its i.1
theorem ranks_nodup {its : List LItem} (hn : (its.map (·.1)).Nodup) : (ranks its).Nodup := by
  unfold ranks
  have h : ∀ l : List LItem, (∀ x ∈ l, x ∈ its) → (l.map (·.1)).Nodup → (l.map fun i => rankOf its i.1).Nodup := by
    intro l
    induction l with
    | nil => intro _ _; exact List.nodup_nil
    | cons a l ih =>
      intro hs hn
      rw [List.map_cons, List.nodup_cons] at hn ⊢
      refine ⟨fun hc => ?_, ih (fun x hx => hs x (.tail _ hx)) hn.2⟩
      obtain ⟨b, hb, e⟩ := List.mem_map.mp hc
      have hne : a.1 ≠ b.1 := fun e => hn.1 (by rw [e]; exact List.mem_map.mpr ⟨b, hb, rfl⟩)
      have ha : ∃ x, (a.1, x) ∈ its := ⟨a.2, hs a (.head _)⟩
      have hb' : ∃ x, (b.1, x) ∈ its := ⟨b.2, hs b (.tail _ hb)⟩
      rcases litLt_total hne with h | h
      · have := rank_lt ha h; lia
      · have := rank_lt hb' h; lia
  exact h its (fun _ h => h) hn
/-- what the tree of questions gives -/
theorem tree_sorts {its : List LItem} (hn : (its.map (·.1)).Nodup) (h2 : 2 ≤ its.length) (h5 : its.length ≤ 5) (d : LItem) :
    ((treeAns (rankLt (ranks its)) (kas_sort its.length)).toList.map fun i => its.getD i d).Perm its ∧ ((treeAns (rankLt (ranks its)) (kas_sort its.length)).toList.map fun i => its.getD i d).Pairwise (fun a b => litLt a.1 b.1 = true) ∧
      (∀ i ∈ (treeAns (rankLt (ranks its)) (kas_sort its.length)).toList, i < its.length) := by
  have hl : (ranks its).length = its.length := by unfold ranks; simp
  have hr : ranks its ∈ perms its.length := mem_perms _ _ (ranks_nodup hn) hl (fun x hx => by
    unfold ranks at hx
    obtain ⟨a, ha, rfl⟩ := List.mem_map.mp hx
    exact rank_bound ⟨a.2, ha⟩)
  have hs := (asksAll h2 h5).2
  unfold sortsWell at hs
  rw [List.all_eq_true] at hs
  have h := hs _ hr
  rw [Bool.and_eq_true] at h
  have hm := eq_of_beq h.1
  have hp := List.isPerm_iff.mp h.2
  generalize (treeAns (rankLt (ranks its)) (kas_sort its.length)).toList = p at *
  have hlt : ∀ i ∈ p, i < its.length := fun i hi => List.mem_range.mp (hp.mem_iff.mp hi)
  have hrange : (List.range its.length).map (fun i => its.getD i d) = its := by
    apply List.ext_getElem
    · simp
    · intro i h1 h2
      simp [h2]
  refine ⟨by have := hp.map (fun i => its.getD i d); rw [hrange] at this; exact this, ?_, hlt⟩
  have hpw : (p.map fun i => (ranks its).getD i 0).Pairwise (· < ·) := by rw [hm]; exact List.pairwise_lt_range
  rw [List.pairwise_map] at hpw ⊢
  refine hpw.imp_of_mem fun {i j} hi hj hlt' => ?_
  have hi' := hlt i hi
  have hj' := hlt j hj
  have ei : its.getD i d = its[i] := by simp [hi']
  have ej : its.getD j d = its[j] := by simp [hj']
  have ri : (ranks its).getD i 0 = rankOf its its[i].1 := by simp [ranks, hi']
  have rj : (ranks its).getD j 0 = rankOf its its[j].1 := by simp [ranks, hj']
  have hri := rank_iff (its := its) (p := its[i].1) (q := its[j].1) ⟨its[i].2, List.getElem_mem hi'⟩ ⟨its[j].2, List.getElem_mem hj'⟩
  rw [ei, ej, hri]
  rw [ri, rj] at hlt'
  exact decide_eq_true hlt'
end
section
section
variable {prog : Program} {w : World} {A : Around} {E : Value → Shared → Prop} {s : Shared} {h₀ : Heap} {L : Addr} {m : Str → Option Value} {news : List (Addr × Obj)}
theorem txt_eq (a b : Sign) : decide (a.txt = b.txt) = decide (a = b) := by cases a <;> cases b <;> decide
theorem txt_lt (a b : Sign) : decide (a.txt.cps.toList < b.txt.cps.toList) = decide (sgRank a < sgRank b) := by cases a <;> cases b <;> decide +kernel
/-- `<` of two literals of one variable, as a sort asks it -/
theorem lit_lt {a b : Addr} {x : Int} {p q : Sign × Int} {C : Bool → Shared → Prop} (N : News h₀ L s.heap news) (ha : LitIn news a x p.1 p.2) (hb : LitIn news b x q.1 q.2) (h : C (litLt p q) s) :
    wpAny (model prog w) A (keyLt' (tuples' true) (.ref a) (.ref b)) C E s := by
  obtain ⟨t1, t2, t3, n, hm⟩ := ha
  obtain ⟨u1, u2, u3, k, hq⟩ := hb
  refine wpAny_mono (kat_lt (Q := C) (N _ hm).1 rfl (N _ hq).1 rfl ?_) (fun _ _ h => h) fun _ _ h => h
  refine kat_cons (wpAny_eqBool_int ?_)
  rw [beq_self_eq_true]
  refine kat_yes (kat_cons (wpAny_eqBool_str ?_))
  rw [txt_eq]
  refine kat_go (fun e => kat_yes (kat_cons (wpAny_eqBool_int ?_))) (fun e => kat_no ?_)
  · have e1 : p.1 = q.1 := of_decide_eq_true e
    refine kat_go (fun e => kat_yes (kat_nil ?_)) (fun e => kat_no ?_)
    · have e2 : p.2 = q.2 := eq_of_beq e
      have : p = q := Prod.ext e1 e2
      rw [this, litLt_irrefl] at h
      exact h
    · have hf : (true && (0 + 1 + 1 == 0)) = false := rfl
      rw [hf]
      refine kat_one _ _ (PyProof.Rows.lt_int ?_)
      have : litLt p q = decide (p.2 < q.2) := by unfold litLt; rw [e1]; simp
      rw [this] at h
      exact h
  · have e1 : ¬ p.1 = q.1 := of_decide_eq_false e
    have hf : (true && (0 + 1 == 0)) = false := rfl
    rw [hf]
    refine kat_one _ _ (PyProof.Rows.lt_str ?_)
    show C (decide (p.1.txt.cps.toList < q.1.txt.cps.toList)) s
    rw [txt_lt]
    have : litLt p q = decide (sgRank p.1 < sgRank q.1) := by unfold litLt; simp [e1]
    rw [this] at h
    exact h
def LitsIn (news : List (Addr × Obj)) (x : Int) (its : List LItem) : Prop := ∀ i ∈ its, LitIn news i.2 x i.1.1 i.1.2
abbrev refsOf (its : List LItem) : List Value := its.map fun i => .ref i.2
theorem lit_tups {x : Int} (N : News h₀ L s.heap news) : ∀ {its : List LItem}, LitsIn news x its → ∃ fs, KatTups s.heap (refsOf its) fs ∧ fs.length = its.length ∧ ∀ v ∈ fs, ∃ t, v = .int x t
  | [], _ => ⟨[], .nil, rfl, fun v hv => by simp at hv⟩
  | i :: its, h => by
    obtain ⟨fs, h1, h2, h3⟩ := lit_tups N fun j hj => h j (.tail _ hj)
    obtain ⟨t1, t2, t3, n, hm⟩ := h i (.head _)
    refine ⟨.int x t1 :: fs, .cons (N _ hm).1 rfl rfl rfl h1, by simp [h2], fun v hv => ?_⟩
    rcases List.mem_cons.mp hv with rfl | hv
    · exact ⟨t1, rfl⟩
    · exact h3 v hv
/-- list.sort of literals -/
theorem sort_lits {a : Addr} {x : Int} {its : List LItem} {n : Nat} {P : PySem.Fin → Shared → Prop} (F : Fr h₀ L s.heap m) (N : News h₀ L s.heap news) (ho : s.heap.get? a = some (seqObj "list" (refsOf its).toArray n)) (haL : a ≠ L) (ha0 : h₀.get? a = none) (hna : ∀ p ∈ news, p.1 ≠ a)
    (hl : LitsIn news x its) (hn : (its.map (·.1)).Nodup) (h5 : its.length ≤ 5)
    (h : ∀ out c h', out.Perm its → out.Pairwise (fun a b => litLt a.1 b.1 = true) → Fr h₀ L h' m → News h₀ L h' ((a, listOf (refsOf out).toArray c) :: news) → P (.done (.ret .none)) { s with heap := h' }) :
    wpAny (model prog w) A (Builtin.«list.sort» ⟨[.ref a], []⟩) P E s := by
  by_cases h2 : 2 ≤ its.length
  · have hlen : (refsOf its).length = its.length := by simp
    refine kat_list_sort F N ho haL ha0 hna (by lia) (by lia) fun e1 h' F' N' => ?_
    have N'' : News h₀ L h' news := fun p hp => N' p (.tail _ hp)
    obtain ⟨fs, k1, k2, k3⟩ := lit_tups (s := { s with heap := h' }) N'' hl
    refine kat_kind (T := .type "int") k1 (by lia) (fun v hv => by obtain ⟨t, rfl⟩ := k3 v hv; exact Looks.now) (by decide) ?_
    have ht : (Value.type "int" != Value.type "tuple") = true := by decide
    rw [ht, hlen]
    obtain ⟨s1, s2, s3⟩ := tree_sorts hn h2 h5 ((Sign.le, 0), 0)
    refine kas_run (f := rankLt (ranks its)) (n := its.length) (fun i j C hi hj hC => ?_) _ (asksAll h2 h5).1 ?_
    · have ei : (refsOf its).getD i .none = .ref its[i].2 := by simp [hi]
      have ej : (refsOf its).getD j .none = .ref its[j].2 := by simp [hj]
      unfold kas_ask
      rw [ei, ej]
      refine lit_lt (s := { s with heap := h' }) N'' (hl _ (List.getElem_mem hi)) (hl _ (List.getElem_mem hj)) ?_
      have ri : (ranks its).getD i 0 = rankOf its its[i].1 := by simp [ranks, hi]
      have rj : (ranks its).getD j 0 = rankOf its its[j].1 := by simp [ranks, hj]
      have hri := rank_iff (its := its) (p := its[i].1) (q := its[j].1) ⟨its[i].2, List.getElem_mem hi⟩ ⟨its[j].2, List.getElem_mem hj⟩
      rw [hri, ← ri, ← rj]
      exact hC
    · refine KasFin.intro (news := (a, seqObj "list" #[] e1) :: news) (g := fun o => (a, o) :: news) F' N' ?_ fun h3 c F3 N3 => ?_
      · exact .head fun p hp => hna p hp
      · have e : (treeAns (rankLt (ranks its)) (kas_sort its.length)).toList.map (fun i => (refsOf its).getD i Value.none) = refsOf ((treeAns (rankLt (ranks its)) (kas_sort its.length)).toList.map fun i => its.getD i ((Sign.le, 0), 0)) := by
          unfold refsOf
          rw [List.map_map]
          refine List.map_congr_left fun i hi => ?_
          have := s3 i hi
          simp [this]
        rw [e] at N3
        exact h _ c h3 s1 s2 F3 N3
  · have ha : a < s.heap.objs.size := Heap.lt_size ho
    have hlen : (refsOf its).length = its.length := by simp
    rw [list_sort_plain]
    refine wpAny_bind (listItems_at ho rfl ?_)
    refine wpAny_bind (listUpdate_at ho rfl ?_ (by rw [List.size_toArray, sizeLine_eq]; lia) (Nat.zero_le _))
    obtain ⟨e1, ho1⟩ : ∃ e1, (s.heap.update a (Obj.mapSeq fun _ => #[])).get? a = some (seqObj "list" #[] e1) := ⟨_, get?_update_seq ho (fun _ => #[])⟩
    refine wpAny_bind (seqEpoch_at ho1 rfl ?_)
    refine wpAny_bind (wpAny_newTuple ?_ (by show (refsOf its).length ≤ _; rw [sizeLine_eq]; lia))
    refine wpAny_bind (wpAny_newList ?_ (Nat.zero_le _))
    refine wpAny_holding ?_
    have ho6 : (((s.heap.update a (Obj.mapSeq fun _ => #[])).push (seqObj "tuple" (refsOf its).toArray 0)).push (seqObj "list" #[] 0)).get? a = some (seqObj "list" #[] e1) :=
      Heap.get?_push_of_some _ (Heap.get?_push_of_some _ ho1)
    have s1 := Heap.SameBut.update s.heap a (Obj.mapSeq fun _ => (#[] : Array Value))
    have F3 : Fr h₀ L (((s.heap.update a (Obj.mapSeq fun _ => (#[] : Array Value))).push (seqObj "tuple" (refsOf its).toArray 0)).push (seqObj "list" #[] 0)) m := ((kas_fr F s1 haL ha0).push _).push _
    have N2 : News h₀ L (((s.heap.update a (Obj.mapSeq fun _ => (#[] : Array Value))).push (seqObj "tuple" (refsOf its).toArray 0)).push (seqObj "list" #[] 0)) news :=
      (kas_news N s1 hna).grown fun b x e => Heap.get?_push_of_some _ (Heap.get?_push_of_some _ e)
    show wpAny (model prog w) A _ P E { s with heap := ((s.heap.update a (Obj.mapSeq fun _ => #[])).push (seqObj "tuple" (refsOf its).toArray 0)).push (seqObj "list" #[] 0) }
    dsimp only
    have hlt : (refsOf its).toArray.size < 2 := by rw [List.size_toArray]; lia
    rw [if_pos hlt, if_pos hlt]
    refine wpAny_bind (wpAny_pure ?_)
    rw [StateT.run_pure]
    refine wpAny_bind (wpAny_pure ?_)
    dsimp only
    refine wpAny_bind (seqEpoch_at ho6 rfl ?_)
    have hout : (arrOf (SortSt.mk' general' ((refsOf its).toArray.zip (refsOf its).toArray) #[] 7 none)).map (·.2) = (refsOf its).toArray := by
      show ((refsOf its).toArray.zip (refsOf its).toArray).map (·.2) = _
      apply Array.toList_inj.mp
      simp [List.map_snd_zip]
    rw [hout]
    have s2 := Heap.SameBut.update (((s.heap.update a (Obj.mapSeq fun _ => #[])).push (seqObj "tuple" (refsOf its).toArray 0)).push (seqObj "list" #[] 0)) a (Obj.mapSeq fun _ => (refsOf its).toArray)
    obtain ⟨c2, hc2⟩ : ∃ c2, ((((s.heap.update a (Obj.mapSeq fun _ => #[])).push (seqObj "tuple" (refsOf its).toArray 0)).push (seqObj "list" #[] 0)).update a (Obj.mapSeq fun _ => (refsOf its).toArray)).get? a = some (seqObj "list" (refsOf its).toArray c2) := ⟨_, get?_update_seq ho6 fun _ => (refsOf its).toArray⟩
    refine wpAny_bind (listUpdate_at ho6 rfl ?_ (Nat.zero_le _) (by rw [List.size_toArray, sizeLine_eq]; lia))
    simp only [bne_self_eq_false, Bool.false_eq_true, if_false]
    refine wpAny_pure (h its c2 _ (List.Perm.refl _) ?_ (kas_fr F3 s2 haL ha0) fun p hp => ?_)
    · match its, h2 with
      | [], _ => exact List.Pairwise.nil
      | [_], _ => exact List.pairwise_singleton _ _
      | _ :: _ :: _, h2 => exact absurd (by simp) h2
    · rcases List.mem_cons.mp hp with rfl | hp
      · exact ⟨hc2, haL, ha0⟩
      · exact kas_news N2 s2 hna p hp
/-- an iterable that collect turns into a list -/
def Coll (prog : Program) (w : World) (A : Around) (r : Addr) (s : Shared) (Dr : Drawn → Prop) (Vs : List Value → Prop) : Prop :=
  ∀ (E : Value → Shared → Prop) (Q : List Value → Shared → Prop), (∀ h' tk d vs, (∀ b o, s.heap.get? b = some o → h'.get? b = some o) → Dr d → Vs vs → Q vs { s with heap := h', toks := tk, drawn := d }) → wpAny (model prog w) A (collect (.ref r)) Q E s
theorem sorted_lits {r : Addr} {Dr : Drawn → Prop} {x : Int} {its : List LItem} {Q : Value → Shared → Prop} (F : Fr h₀ L s.heap m) (N : News h₀ L s.heap news) (hl : LitsIn news x its) (hn : (its.map (·.1)).Nodup) (h5 : its.length ≤ 5)
    (col : Coll prog w A.in1 r s Dr fun vs => ∃ ls : List LItem, vs = refsOf ls ∧ ls.Perm its)
    (h : ∀ D out c h' tk d, Dr d → out.Perm its → out.Pairwise (fun a b => litLt a.1 b.1 = true) → Fr h₀ L h' m → News h₀ L h' ((D, listOf (refsOf out).toArray c) :: news) → (∀ q ∈ news, q.1 < D) → Q (.ref D) { s with heap := h', toks := tk, drawn := d }) :
    wpAny (model prog w) A (call (.builtin "sorted") [.ref r]) Q E s := by
  refine Calls.call_function_entry kind_sorted plain_sorted entry_sorted (args_sorted1 _) ?_
  unfold Builtin.«sorted»
  refine wpAny_bind (m := checkCount "sorted" 1 1 _) (wpAny_pure ?_)
  refine wpAny_bind (col _ _ fun h1 tk d vs hk hd ⟨ls, hvs, hp⟩ => ?_)
  subst hvs
  have F1 : Fr h₀ L h1 m := F.kept hk
  have N1 : News h₀ L h1 news := N.grown hk
  have hz : (refsOf ls).length ≤ sizeLine := by have := hp.length_eq; rw [sizeLine_eq]; simp; lia
  refine wpAny_bind (wpAny_newList ?_ hz)
  have hL : L < h1.objs.size := F1.ns.lt
  show wpAny _ _ _ _ _ { s with heap := h1.push (seqObj "list" (refsOf ls).toArray 0), toks := tk, drawn := d }
  have hoL : (h1.push (seqObj "list" (refsOf ls).toArray 0)).get? h1.objs.size = some (seqObj "list" (refsOf ls).toArray 0) := Heap.get?_push_size _ rfl
  refine wpAny_bind (wpAny_holding (wpAny_call_entry slot_list_sort ⟨_, hoL, rfl⟩ entry_list_sort ?body (args_list_sort _)))
  case body =>
    have hn' : (ls.map (·.1)).Nodup := (hp.map (·.1)).nodup_iff.mpr hn
    refine sort_lits (news := news) (x := x) (F1.push _) (N1.grown fun b o e => Heap.get?_push_of_some _ e) hoL (Nat.ne_of_gt hL) (Heap.get?_none_of_le (Nat.le_trans F1.above (Nat.le_of_lt hL)))
      (fun p hp => Nat.ne_of_lt (Heap.lt_size (N1 p hp).1)) (fun i hi => hl i (hp.mem_iff.mp hi)) hn' (by rw [hp.length_eq]; exact h5) fun out c h' o1 o2 F' N' => ?_
    exact ⟨_, rfl, wpAny_pure ⟨_, rfl, h _ out c h' tk d hd (o1.trans hp) o2 F' N' (fun q hq => Heap.lt_size (N1 q hq).1)⟩⟩
end
end
section
section
variable {prog : Program} {w : World} {A : Around} {E : Value → Shared → Prop} {s : Shared}
theorem coll_code {R : Result → Shared → Prop} {T : String} {r d : Addr} {n : Nat} {P : Nat → Value → Prop} {OK : Heap → Prop} (K : KdlSrc prog w T r d n P OK) (hh : A.handled = none) (hok : OK s.heap) (hn : n ≤ sizeLine)
    (hR : ∀ h' tk acc' c', (∀ b o, s.heap.get? b = some o → h'.get? b = some o) → h'.get? s.heap.objs.size = some { cls := .type "list", dict := none, data := .seq acc' c', slots := #[] } → ItemsOf P acc' n → R (.ok (.ret (.ref s.heap.objs.size))) { s with heap := h', toks := tk }) :
    codeAny (model prog w) A (.builtin "proto.collect" ⟨[.ref r], []⟩) R s := by
  refine codeAny_builtin PySem.F.entry_proto_collect ?_
  rw [Around.under_plainId PySem.F.plain_proto_collect _]
  show wpAny _ A.in1 (newList [] >>= fun l => again (.builtin "list.__iadd__" ⟨[l, .ref r], []⟩)) _ _ s
  refine wpAny_bind (wpAny_newObj_type ?_)
  refine wpAny_pure ⟨plainId_quiet PySem.F.plain_list_iadd _, codeAny_builtin PySem.F.entry_list_iadd ?_⟩
  rw [Around.under_plainId PySem.F.plain_list_iadd _]
  have hS : (s.heap.push { cls := .type "list", data := .seq ([] : List Value).toArray }).get? s.heap.objs.size = some { cls := .type "list", data := .seq ([] : List Value).toArray } := Heap.get?_push_size _ rfl
  have hlt := K.there _ hok
  have hok1 : OK (s.heap.push { cls := .type "list", data := .seq ([] : List Value).toArray }) := K.keep _ _ hok fun b _ o e => Heap.get?_push_of_some _ e
  exact kdl_extend (R := R) (s := { s with heap := s.heap.push { cls := .type "list", data := .seq ([] : List Value).toArray } }) K hh hok1 s.heap.objs.size (Nat.ne_of_gt hlt.1) (Nat.ne_of_gt hlt.2) _ 0 hS
    (fun h' tk acc' c' hk hS' hacc => hR h' tk acc' c' (fun b o e => hk b o (Nat.ne_of_lt (Heap.lt_size e)) (Heap.get?_push_of_some _ e)) hS' hacc) hn
theorem coll_src {T : String} {r d : Addr} {n : Nat} {P : Nat → Value → Prop} {OK : Heap → Prop} (K : KdlSrc prog w T r d n P OK) (hh : A.handled = none) (hok : OK s.heap) (hn : n ≤ sizeLine) :
    Coll prog w A r s (· = s.drawn) fun vs => vs.length = n ∧ ∀ j v, vs[j]? = some v → P j v := fun E Q h => by
  unfold collect
  refine wpAny_bind (wpAny_runValue (coll_code K hh hok hn fun h' tk acc' c' hk hS' hacc => ?_))
  show wpAny _ A (load s.heap.objs.size >>= _) _ _ _
  refine wpAny_bind (wpAny_load hS' ?_)
  exact wpAny_pure (h h' tk s.drawn acc'.toList hk rfl ⟨by rw [Array.length_toList]; exact hacc.1, fun j v e => hacc.2 j v (by rw [← Array.getElem?_toList]; exact e)⟩)
/-- a dict by its entries -/
def RawDict (h : Heap) (d : Addr) (es : Array DictEntry) (ep : Nat) : Prop := ∃ o, h.get? d = some o ∧ o.ExactDict ∧ o.data = .dict es ep
theorem RawDict.at' {h h' : Heap} {d : Addr} {es : Array DictEntry} {ep : Nat} (x : RawDict h d es ep) (e : ∀ o, h.get? d = some o → h'.get? d = some o) : RawDict h' d es ep := let ⟨o, ho, r⟩ := x; ⟨o, e _ ho, r⟩
theorem RawDict.typeIs {d : Addr} {es : Array DictEntry} {ep : Nat} (x : RawDict s.heap d es ep) : s.TypeIs (.ref d) "dict" := let ⟨o, ho, hc, _⟩ := x; ⟨o, ho, hc.1⟩
theorem raw_pyIter {d : Addr} {es : Array DictEntry} {ep : Nat} {Q : Value → Shared → Prop} (hd : (d == sysModules) = false) (hm : RawDict s.heap d es ep)
    (hQ : Q (.ref s.heap.objs.size) { s with heap := s.heap.push { cls := .type "dict_keyiterator", data := .fields #[.ref d, .int 0 0, .int es.size 0, .int ep 0] } }) :
    wpAny (model prog w) A (pyIter (.ref d)) Q E s := by
  have hT := hm.typeIs
  obtain ⟨o, ho, hc, hdat⟩ := id hm
  refine wpAny_pyIter_slot hT PySem.F.slot_dict_iter (wpAny_call_entry PySem.F.slot_dict_iter hT PySem.F.entry_dict_iter ?_ (PySem.F.args_dict_iter_1 _))
  unfold Builtin.«dict.__iter__»
  refine wpAny_bind ?_
  unfold Builtin.Dict.dictSlotNone
  refine wpAny_bind (wpAny_notOrdered_dict hT ?_)
  show wpAny _ _ (pure (Value.ref d)) _ _ s
  refine wpAny_pure ?_
  show wpAny _ _ (Builtin.Dict.showsAll d >>= _) _ _ s
  unfold Builtin.Dict.showsAll
  rw [if_neg (by rw [hd]; exact Bool.false_ne_true)]
  refine wpAny_bind (wpAny_pure ?_)
  refine wpAny_bind (wpAny_dictEntries ho hdat ?_)
  refine wpAny_bind (wpAny_dictEpoch ho hdat ?_)
  refine wpAny_bind (wpAny_newObj_type (wpAny_pure ⟨_, rfl, "dict_keyiterator", _, ⟨_, Heap.get?_push_size _ rfl, rfl⟩, PySem.F.slot_dict_keyiterator_next.lookup, ?_⟩))
  simpa [rawInt] using hQ
theorem raw_item {it d : Addr} {i ep : Nat} {es : Array DictEntry} {Q : Option Value → Shared → Prop} (hit : s.heap.IsKeyIter it d i es.size ep) (hm : RawDict s.heap d es ep) (hlt' : i < es.size)
    (hQ : ∀ h', h'.IsKeyIter it d (i + 1) es.size ep → Heap.SameBut it s.heap h' → Q (some es[i].key) { s with heap := h' }) :
    wpAny (model prog w) A (pyNext (.ref it)) Q E s := by
  obtain ⟨o, ho, hc, hd⟩ := id hit
  obtain ⟨od, hod, hcd, hdd⟩ := id hm
  unfold pyNext
  refine wpAny_bind (wpAny_attempt (wpAny_callSpecial?_slot (name := Str.ofString "__next__") hit.typeIs PySem.F.slot_dict_keyiterator_next
    (wpAny_call_entry PySem.F.slot_dict_keyiterator_next hit.typeIs PySem.F.entry_dict_keyiterator_next ?_ (PySem.F.args_dict_keyiterator_next_1 _))))
  refine wpAny_bind (wpAny_pure ?_)
  refine wpAny_bind ?_
  refine wpAny_bind ?_
  first | refine wpAny_bind (wpAny_typeNameOfWhole_keyiter hit.typeIs (wpAny_pure ?_)) | refine wpAny_bind (wpAny_typeNameOf_keyiter hit.typeIs (wpAny_pure ?_))
  refine wpAny_bind (wpAny_fieldsOf ho hd ?_)
  have hown : Builtin.Dict_items.ownsTuple "dict_keyiterator" = false := by decide
  simp only [hown, Bool.false_eq_true, if_false]
  show wpAny _ _ (if (Value.ref d == Value.none) = true then _ else _) _ _ s
  rw [if_neg (show ¬ ((Value.ref d == Value.none) = true) from Bool.false_ne_true)]
  refine wpAny_bind (wpAny_pure ?_)
  refine wpAny_bind (wpAny_dictEntries hod hdd ?_)
  rw [if_neg (by simp)]
  refine wpAny_bind (wpAny_pure ?_)
  refine wpAny_bind (wpAny_dictEpoch hod hdd ?_)
  rw [if_neg (by simp)]
  refine wpAny_pure ?_
  simp only [show ¬ ((i : Int) < 0) from by lia, if_false, Int.toNat_natCast, Array.getElem?_eq_getElem hlt']
  refine wpAny_bind ?_
  first | refine wpAny_bind (wpAny_typeNameOfWhole_keyiter hit.typeIs (wpAny_pure ?_)) | refine wpAny_bind (wpAny_typeNameOf_keyiter hit.typeIs (wpAny_pure ?_))
  refine wpAny_bind (wpAny_isOneOf_keyiter hit.typeIs ?_)
  show wpAny _ _ (setField (.ref it) 1 (rawInt ((i : Int) + 1)) >>= _) _ _ s
  refine wpAny_bind (wpAny_setField ho hd (by simp) ?_)
  have hit' : (s.heap.update it (Obj.mapFields (·.setIfInBounds 1 (rawInt ((i : Int) + 1))))).IsKeyIter it d (i + 1) es.size ep :=
    ⟨_, Heap.get?_update_self _ ho (Obj.isFreed_of_fields (Obj.data_mapFields hd _)), (Obj.cls_mapFields ..).trans hc, by rw [Obj.data_mapFields hd]; simp [rawInt]⟩
  refine wpAny_bind (wpAny_holding ?_)
  refine wpAny_bind (wpAny_isOneOf_keyiter (s := { s with heap := s.heap.update it (Obj.mapFields (·.setIfInBounds 1 (rawInt ((i : Int) + 1)))) }) hit'.typeIs ?_)
  show wpAny _ _ (pure es[i].key) _ _ _
  exact wpAny_pure (wpAny_pure ⟨_, rfl, wpAny_pure (hQ _ hit' (Heap.SameBut.update ..))⟩)
theorem raw_end {it d : Addr} {ep : Nat} {es : Array DictEntry} {Q : Option Value → Shared → Prop} (hh : A.handled = none) (hit : s.heap.IsKeyIter it d es.size es.size ep) (hm : RawDict s.heap d es ep)
    (hQ : ∀ h', Heap.ExtBut it s.heap h' → Q none { s with heap := h' }) : wpAny (model prog w) A (pyNext (.ref it)) Q E s := by
  obtain ⟨o, ho, hc, hd⟩ := id hit
  obtain ⟨od, hod, hcd, hdd⟩ := id hm
  unfold pyNext
  refine wpAny_bind (wpAny_attempt (wpAny_callSpecial?_slot (name := Str.ofString "__next__") hit.typeIs PySem.F.slot_dict_keyiterator_next
    (wpAny_call_entry PySem.F.slot_dict_keyiterator_next hit.typeIs PySem.F.entry_dict_keyiterator_next ?_ (PySem.F.args_dict_keyiterator_next_1 _))))
  refine wpAny_bind (wpAny_pure ?_)
  refine wpAny_bind ?_
  refine wpAny_bind ?_
  first | refine wpAny_bind (wpAny_typeNameOfWhole_keyiter hit.typeIs (wpAny_pure ?_)) | refine wpAny_bind (wpAny_typeNameOf_keyiter hit.typeIs (wpAny_pure ?_))
  refine wpAny_bind (wpAny_fieldsOf ho hd ?_)
  have hown : Builtin.Dict_items.ownsTuple "dict_keyiterator" = false := by decide
  simp only [hown, Bool.false_eq_true, if_false]
  show wpAny _ _ (if (Value.ref d == Value.none) = true then _ else _) _ _ s
  rw [if_neg (show ¬ ((Value.ref d == Value.none) = true) from Bool.false_ne_true)]
  refine wpAny_bind (wpAny_pure ?_)
  refine wpAny_bind (wpAny_dictEntries hod hdd ?_)
  rw [if_neg (by simp)]
  refine wpAny_bind (wpAny_pure ?_)
  refine wpAny_bind (wpAny_dictEpoch hod hdd ?_)
  rw [if_neg (by simp)]
  refine wpAny_pure ?_
  simp only [show ¬ ((es.size : Int) < 0) from by lia, if_false, Int.toNat_natCast, Array.getElem?_eq_none (Nat.le_refl es.size)]
  refine wpAny_bind ?_
  first | refine wpAny_bind (wpAny_typeNameOfWhole_keyiter hit.typeIs (wpAny_pure ?_)) | refine wpAny_bind (wpAny_typeNameOf_keyiter hit.typeIs (wpAny_pure ?_))
  show wpAny _ _ (setField (.ref it) 0 .none >>= _) _ _ s
  refine wpAny_bind (wpAny_setField ho hd (by simp) ?_)
  show wpAny _ _ (newExc (.type "StopIteration") [] >>= _) _ _ _
  refine wpAny_bind ?_
  simp only [newExc, newTuple]
  refine wpAny_bind (wpAny_newObj_type ?_ (by size_fits))
  refine wpAny_bind (m := firstArgMember _ _) (wpAny_of_eq (a := Value.none) (by first | rfl | (simp only [firstArgMember]; rfl)) ?_)
  refine wpAny_newObj_type ?_ (by size_fits)
  simp only [raiseNew]
  refine wpAny_bind (wpAny_handled ?_)
  rw [show A.in1.handled = none from hh]
  refine wpAny_bind (wpAny_pure (wpAny_throw ?_))
  refine wpAny_bind (wpAny_isInstance (T := "StopIteration") (b := true) ⟨_, Heap.get?_push_size _ rfl, rfl⟩ isSubtype_stop ?_)
  exact wpAny_pure (hQ _ (((Heap.SameBut.update ..).extBut.push _).push _))
theorem Walks.rawKeys (hh : A.handled = none) (I d : Addr) (hne : d ≠ I) (es : Array DictEntry) (ep : Nat) :
    Walks prog w A I [I, d] [I] es.size (fun i v => ∃ e, es[i]? = some e ∧ v = e.key) (fun i h => h.IsKeyIter I d i es.size ep ∧ RawDict h d es ep) where
  sub := fun b hb => by simp at hb; simp [hb]
  frame := fun _ _ _ st hk => ⟨st.1.at fun o e => hk I (by simp) o e, st.2.at' fun o e => hk d (by simp) o e⟩
  item := fun i s Q E hi st hQ => raw_item st.1 st.2 hi fun h' hit' hs' => hQ _ h' s.toks ⟨es[i], by simp [hi], rfl⟩ ⟨hit', st.2.at' fun o e => (hs'.2 d hne).trans e⟩ fun b o hb e => hs'.extBut b o (fun h => hb (by simp [h])) e
  done := fun s Q E st hQ => raw_end hh st.1 st.2 fun h' he' => hQ h' s.toks fun b o hb e => he' b o (fun h => hb (by simp [h])) e
  self := fun _ _ _ _ st hQ => wpAny_pyIter_keyiter st.1 hQ
theorem raw_src {d : Addr} {es : Array DictEntry} {ep : Nat} (lo : (d == sysModules) = false) : KdlSrc prog w "dict" d d es.size (fun i v => ∃ e, es[i]? = some e ∧ v = e.key) (fun h => RawDict h d es ep) where
  type := fun _ hm => hm.typeIs
  there := fun _ hm => let ⟨_, ho, _⟩ := hm; ⟨Heap.lt_size ho, Heap.lt_size ho⟩
  keep := fun _ _ hm hk => hm.at' fun o e => hk d (.inl rfl) o e
  notList := by decide
  notTuple := by decide
  hint := fun _ _ _ _ hm hq => kdl_hint_dict hm.typeIs hq
  iter := fun _ _ hh hm => ⟨_, _, (fun _ _ hq => raw_pyIter lo hm hq), Walks.rawKeys hh _ d (let ⟨_, ho, _⟩ := hm; Nat.ne_of_lt (Heap.lt_size ho)) es ep, ⟨⟨_, Heap.get?_push_size _ rfl, rfl, rfl⟩, hm.at' fun o e => Heap.get?_push_of_some _ e⟩⟩
/-- a dict whose keys are literals -/
theorem coll_dict {d : Addr} {xs : List (LKey × Addr × Value)} (lo : (d == sysModules) = false) (hh : A.handled = none) (hd : s.heap.DictOfH (tupleKind (mixKind prog w)) d xs) (hl : xs.length ≤ 1000) :
    Coll prog w A d s (· = s.drawn) fun vs => vs = xs.map fun x => .ref x.2.1 := by
  obtain ⟨o, es, ep, ho, hc, hdat, hes, _⟩ := hd
  have hsz : es.size = xs.length := by rw [← Array.length_toList, hes, List.length_map]
  have c := coll_src (A := A) (s := s) (raw_src (prog := prog) (w := w) (d := d) (es := es) (ep := ep) lo) hh ⟨o, ho, hc, hdat⟩ (by rw [sizeLine_eq]; lia)
  intro E Q h
  refine c E Q fun h' tk dr vs hk hdr hv => h h' tk dr vs hk hdr ?_
  obtain ⟨h1, h2⟩ := hv
  apply List.ext_getElem?
  intro j
  by_cases hj : j < vs.length
  · obtain ⟨e, he, hv⟩ := h2 j vs[j] (List.getElem?_eq_getElem hj)
    rw [← Array.getElem?_toList, hes, List.getElem?_map] at he
    rw [List.getElem?_map, List.getElem?_eq_getElem hj]
    cases hx : xs[j]? with
    | none => rw [hx] at he; exact nomatch he
    | some x =>
      rw [hx] at he
      have := (Option.some.inj he).symm
      subst this
      rw [hv]
      rfl
  · rw [List.getElem?_eq_none (by lia), List.getElem?_eq_none (by rw [List.length_map]; lia)]
/-- a dict of the ledger whose keys are literals -/
def LitDict (prog : Program) (w : World) (od : Obj) (xs : List (LKey × Addr × Value)) : Prop := ∃ es ep, od.ExactDict ∧ od.data = .dict es ep ∧ es.toList = xs.map (entryOfKey (tupleKind (mixKind prog w))) ∧ (xs.map (·.1)).Nodup
theorem LitDict.ofH {h : Heap} {D : Addr} {xs : List (LKey × Addr × Value)} (x : h.DictOfH (tupleKind (mixKind prog w)) D xs) : ∃ od, h.get? D = some od ∧ LitDict prog w od xs := by
  obtain ⟨o, es, ep, ho, hc, hd, he, _, hn⟩ := x
  exact ⟨o, ho, es, ep, hc, hd, he, hn⟩
theorem LitDict.toH {h : Heap} {D : Addr} {od : Obj} {xs : List (LKey × Addr × Value)} {src : List (LKey × Addr)} (x : LitDict prog w od xs) (ho : h.get? D = some od) (hK : KeysAt prog w h src) (hs : ∀ y ∈ xs, (y.1, y.2.1) ∈ src) : h.DictOfH (tupleKind (mixKind prog w)) D xs := by
  obtain ⟨es, ep, hc, hd, he, hn⟩ := x
  exact ⟨od, es, ep, ho, hc, hd, he, fun y hy => hK _ (hs y hy), hn⟩
theorem storedH_mem {xs : List (LKey × Addr × Value)} {k : LKey} {a : Addr} {v : Value} {src : List (LKey × Addr)} (h1 : ∀ y ∈ xs, (y.1, y.2.1) ∈ src) (h2 : (k, a) ∈ src) : ∀ y ∈ storedH xs k a v, (y.1, y.2.1) ∈ src := by
  intro y hy
  cases he : atKey xs k with
  | none =>
    rw [storedH_new he] at hy
    rcases List.mem_append.mp hy with hy | hy
    · exact h1 y hy
    · rw [List.mem_singleton.mp hy]; exact h2
  | some p =>
    rw [storedH_old he] at hy
    obtain ⟨z, hz, rfl⟩ := List.mem_map.mp hy
    unfold putAt
    split
    · exact h1 z hz
    · exact h1 z hz
theorem storedH_has {xs : List (LKey × Addr × Value)} {k : LKey} {a : Addr} {v : Value} : (∀ k', (∃ y ∈ xs, y.1 = k') → ∃ y ∈ storedH xs k a v, y.1 = k') ∧ ∃ y ∈ storedH xs k a v, y.1 = k := by
  cases he : atKey xs k with
  | none =>
    rw [storedH_new he]
    refine ⟨fun k' ⟨y, hy, e⟩ => ⟨y, List.mem_append_left _ hy, e⟩, ⟨_, List.mem_append_right _ (.head _), rfl⟩⟩
  | some p =>
    rw [storedH_old he]
    refine ⟨fun k' ⟨y, hy, e⟩ => ⟨putAt k v y, List.mem_map.mpr ⟨y, hy, rfl⟩, ?_⟩, ?_⟩
    · unfold putAt; split
      · exact e
      · exact e
    · unfold atKey at he
      cases hf : xs.find? fun x => decide (x.1 = k) with
      | none => rw [hf] at he; exact nomatch he
      | some y =>
        have h1 := List.find?_some hf
        have h2 := List.mem_of_find?_eq_some hf
        refine ⟨putAt k v y, List.mem_map.mpr ⟨y, h2, rfl⟩, ?_⟩
        unfold putAt; split
        · exact of_decide_eq_true h1
        · exact of_decide_eq_true h1
theorem storedH_len {xs : List (LKey × Addr × Value)} {k : LKey} {a : Addr} {v : Value} : (storedH xs k a v).length ≤ xs.length + 1 := by
  cases he : atKey xs k with
  | none => rw [storedH_new he]; simp
  | some p => rw [storedH_old he]; simp
/-- all that is to be shown once the list of a dict comprehension is there -/
def LitGo (prog : Program) (w : World) (h₀ : Heap) (L : Addr) (m : Str → Option Value) (Q : Value → Shared → Prop) (xv : Value) (s₁ : Shared) : Prop :=
  Ex5 fun l vs n news src => xv = .ref l ∧ Fr h₀ L s₁.heap m ∧ News h₀ L s₁.heap news ∧ (l, listOf vs.toArray n) ∈ news ∧ vs = src.map (fun i : LKey × Addr => .ref i.2) ∧ src.length ≤ 1000 ∧ KeysAt prog w s₁.heap src ∧
      (∀ D od xs h' tk, Fr h₀ L h' m → News h₀ L h' ((D, od) :: news) → (∀ q ∈ news, q.1 < D) → (D == sysModules) = false → LitDict prog w od xs → (∀ y ∈ xs, (y.1, y.2.1) ∈ src) → (∀ i ∈ src, ∃ y ∈ xs, y.1 = i.1) → (∀ b o, s₁.heap.get? b = some o → h'.get? b = some o) → xs.length ≤ 1000 → Q (.ref D) { s₁ with heap := h', toks := tk })
/-- {x: True for x in l} over a list of literals -/
theorem dict_comp_lits {h₀ : Heap} {L : Addr} {m : Str → Option Value} {x : Str} {kp px cp : Pos} {u : Nat} {iter : PySem.Expr} {scope : Scope} {cl : List (Str × Addr)} {pos : Pos} {env : Env} {Q : Value → Shared → Prop}
    (hh : A.handled = none) (hu : A.units < cLine) (hclos : closureFor scope env = pure cl) (hcell : ∀ y ∈ scope.names, y.2 ≠ .cell) (hkind : scope.kind = .function) (hnames : ∀ y ∈ scope.names, y.2 = .local → scope.names.lookup y.1 = some .local) (hx : scope.names.lookup x = some .local) (hdb : (x == ("__debug__" : Str)) = false)
    (_F₀ : Fr h₀ L s.heap m) (h : wpAny (model prog w) A (eval iter env) (LitGo prog w h₀ L m Q) E s)
    (hs : ∀ x, foldedSetIterable iter env x = pure x := by intro _; rfl) :
    wpAny (model prog w) A (eval (.DictComp (.Name x kp) (.Constant (.bool true) u cp) [⟨.Name x px, iter, [], 0⟩] scope pos) env) Q E s := by
  rw [arm_eval_DictComp]
  refine wpAny_comprehension_free (use := none) rfl hs hclos hkind hnames (wpAny_mono h (fun xv s₁ h₁ => ?_) fun _ _ e => e)
  obtain ⟨l, vs, n, news, src, rfl, F, N, hm, hvs, hsrc, hK, hQ⟩ := h₁
  have hl := isList_of N hm
  have hlt : l < s₁.heap.objs.size := Heap.lt_size (N _ hm).1
  refine wpAny_pyIter_list hl ?_
  have W := Walks.list (prog := prog) (w := w) hh s₁.heap.objs.size l (Nat.ne_of_lt hlt) vs.toArray
  generalize hI : s₁.heap.objs.size = I at W hlt ⊢
  refine wpAny_newObj_type (wpAny_newFunctionEnv hcell (by intro y hy; simp at hy) (fun h₁ hns₁ hsb₁ => ?_) hkind)
  dsimp only at hns₁ hsb₁ ⊢
  generalize hH1 : s₁.heap.push { cls := .type "list_iterator", data := .fields #[.ref l, .int 0 0] } = H1 at hns₁ hsb₁ ⊢
  have hD : H1.objs.size = I + 1 := by rw [← hH1, Heap.size_push, hI]
  generalize hH2 : H1.push { cls := .type "dict", dict := none, data := .dict #[] } = H2 at hns₁ hsb₁ ⊢
  have hC : H2.objs.size = I + 2 := by rw [← hH2, Heap.size_push, hD]
  rw [hC] at hns₁ hsb₁ ⊢
  rw [hD]
  have o2 : ∀ b o, s₁.heap.get? b = some o → H2.get? b = some o := by
    intro b o e
    rw [← hH2, ← hH1]
    exact Heap.get?_push_of_some _ (Heap.get?_push_of_some _ e)
  have itH : H2.get? I = some { cls := .type "list_iterator", data := .fields #[.ref l, .int 0 0] } := by
    rw [← hH2, ← hH1, ← hI]
    exact Heap.get?_push_of_some _ (Heap.get?_push_size _ rfl)
  have old : ∀ b o, s₁.heap.get? b = some o → h₁.get? b = some o := fun b o e => hsb₁.extBut b o (by have := Heap.lt_size e; rw [hI] at this; exact Nat.ne_of_lt (Nat.lt_succ_of_lt (Nat.lt_succ_of_lt this))) (Heap.get?_push_of_some _ (o2 b o e))
  have hIt : h₁.get? I = some { cls := .type "list_iterator", data := .fields #[.ref l, .int 0 0] } := hsb₁.extBut _ _ (Nat.ne_of_lt (Nat.lt_succ_of_lt (Nat.lt_succ_self _))) (Heap.get?_push_of_some _ itH)
  have hDn : h₁.get? (I + 1) = some { cls := .type "dict", dict := none, data := .dict #[] } := hsb₁.extBut _ _ (Nat.ne_of_lt (Nat.lt_succ_self _)) (Heap.get?_push_of_some _ (by rw [← hH2, ← hD]; exact Heap.get?_push_size _ rfl))
  have hlits : ∀ i ∈ src, i.2 < I := fun i hi => by
    obtain ⟨o, _, _, ho, _⟩ := hK i hi
    rw [← hI]; exact Heap.lt_size ho
  have hszv : vs.toArray.size = src.length := by rw [List.size_toArray, hvs, List.length_map]
  have fresh₀ : ∀ a, I ≤ a → h₀.get? a = none := fun a ha => by
    cases e : h₀.get? a with
    | none => rfl
    | some o' =>
      have := Heap.lt_size (F.keep a o' e)
      rw [hI] at this
      exact absurd this (Nat.not_lt.mpr ha)
  have hLI : L < I := by have := F.ns.lt; rw [hI] at this; exact this
  have loop : ∀ s₃ : Shared, (∃ tk, s₃ = { s₁ with heap := h₁, toks := tk }) → codeAny (model prog w) A (.compLoop (.DictComp (.Name x kp) (.Constant (.bool true) u cp) [⟨.Name x px, iter, [], 0⟩] scope pos) 0 (.ref I) (.ref (I + 1)) (compEnvC scope cl (I + 2) env))
      (compPost (model prog w) A E none Q (.ref (I + 1)) (I + 2)) s₃ := by
    intro s₃ x1_i
    obtain ⟨tk₁, rfl⟩ := x1_i
    refine codeAny_compLoop_testsD (fun k s' => Ex6 fun h' tk m' i od xs => s' = { s₁ with heap := h', toks := tk } ∧ i ≤ src.length ∧ k = src.length + 1 - i ∧ (h'.IsListIter I l i ∧ h'.IsList l vs.toArray) ∧ h'.Ns (I + 2) m' ∧ h'.get? (I + 1) = some od ∧ LitDict prog w od xs ∧ xs.length ≤ i ∧
      (∀ y ∈ xs, (y.1, y.2.1) ∈ src) ∧ (∀ j ∈ src.take i, ∃ y ∈ xs, y.1 = j.1) ∧ (∀ b o, s₁.heap.get? b = some o → h'.get? b = some o)) ?_ (src.length + 1) ⟨h₁, tk₁, _, 0, _, [], rfl, Nat.zero_le _, rfl, ?_, hns₁, hDn, ?_, Nat.le_refl _, fun y hy => by simp at hy, fun j hj => by simp at hj, old⟩
    · intro k s' x1_i
      obtain ⟨h', tk, m', i, od, xs, rfl, hi, rfl, hst, hn, hod, hlit, hxl, hsub, hcov, hkeep⟩ := x1_i
      have hWk : ∀ (h'' : Heap), (∀ b o, b ∉ [I] → h'.get? b = some o → h''.get? b = some o) → ∀ b o, s₁.heap.get? b = some o → h''.get? b = some o := fun h'' hk b o e => hk b o (by simp only [List.mem_singleton]; have := Heap.lt_size e; rw [hI] at this; exact Nat.ne_of_lt this) (hkeep b o e)
      by_cases hlt' : i < src.length
      · refine W.item i _ _ _ (by rw [hszv]; exact hlt') hst fun v h2 tk2 hP hst2 hk2 => ?_
        have hget : src[i]? = some src[i] := List.getElem?_eq_getElem hlt'
        have hv : v = .ref src[i].2 := by
          have hP' : vs.toArray[i]? = some v := hP
          have : vs[i]? = some v := by simpa using hP'
          rw [hvs, List.getElem?_map, hget] at this
          exact (Option.some.inj this).symm
        subst hv
        have hn2 : h2.Ns (I + 2) m' := hn.at' fun o e => hk2 _ o (by simp only [List.mem_singleton]; exact Nat.ne_of_gt (Nat.lt_succ_of_lt (Nat.lt_succ_self _))) e
        have hod2 : h2.get? (I + 1) = some od := hk2 _ _ (by simp only [List.mem_singleton]; exact Nat.ne_of_gt (Nat.lt_succ_self _)) hod
        refine wpAny_assign_Name (wpAny_storeName_local (lookup_relabel_local hx) hn2 (fun h3 hn3 hs3 => ?_) (by simp [compEnvC, relabel, hkind]))
        have hk3 : ∀ b o, b ≠ I + 2 → h2.get? b = some o → h3.get? b = some o := fun b o hb e => hs3.extBut b o hb e
        rw [List.forIn_nil]
        refine wpAny_pure ?_
        simp only [if_true]
        refine ldVarK (scope := scope) (cl := cl) hn3 (v := .ref src[i].2) (by simp) ?_ hkind (lookup_relabel_local hx) hdb
        refine wpAny_Constant_bool ?_
        have keep3 : ∀ b o, s₁.heap.get? b = some o → h3.get? b = some o := fun b o e => hk3 b o (by have := Heap.lt_size e; rw [hI] at this; exact Nat.ne_of_lt (Nat.lt_succ_of_lt (Nat.lt_succ_of_lt this))) (hWk h2 hk2 b o e)
        have hK3 : KeysAt prog w h3 src := hK.keep fun j _ o e => keep3 _ o e
        have hod3 : h3.get? (I + 1) = some od := hk3 _ _ (Nat.ne_of_lt (Nat.lt_succ_self _)) hod2
        have hdH := hlit.toH hod3 hK3 hsub
        refine wpAny_dictSet_heap (knd := tupleKind (mixKind prog w)) hu (hK3 _ (List.getElem_mem hlt')) hdH (fun h4 hd4 hs4 => ?_) (by rw [sizeLine_eq]; lia)
        obtain ⟨od4, ho4, hl4⟩ := LitDict.ofH hd4
        have hk4 : ∀ b o, b ≠ I + 1 → h3.get? b = some o → h4.get? b = some o := fun b o hb e => hs4.extBut b o hb e
        have hst3 := W.frame (i + 1) h2 h4 hst2 fun b hb o e => by
          have hb' : b = I ∨ b = l := by simpa using hb
          have hb1 : b ≠ I + 1 ∧ b ≠ I + 2 := by
            rcases hb' with rfl | rfl
            · exact ⟨Nat.ne_of_lt (Nat.lt_succ_self _), Nat.ne_of_lt (Nat.lt_succ_of_lt (Nat.lt_succ_self _))⟩
            · exact ⟨Nat.ne_of_lt (Nat.lt_succ_of_lt hlt), Nat.ne_of_lt (Nat.lt_succ_of_lt (Nat.lt_succ_of_lt hlt))⟩
          exact hk4 b o hb1.1 (hk3 b o hb1.2 e)
        refine ⟨src.length + 1 - (i + 1), by lia, h4, _, _, i + 1, od4, storedH xs src[i].1 src[i].2 (.bool true), rfl, hlt', rfl, hst3, hn3.sameBut hs4 (Nat.ne_of_gt (Nat.lt_succ_self _)), ho4, hl4, ?_, ?_, ?_, ?_⟩
        · have := storedH_len (xs := xs) (k := src[i].1) (a := src[i].2) (v := .bool true)
          lia
        · exact storedH_mem hsub (List.getElem_mem hlt')
        · intro j hj
          rw [take_snoc hget] at hj
          rcases List.mem_append.mp hj with hj | hj
          · exact storedH_has.1 _ (hcov j hj)
          · rw [List.mem_singleton.mp hj]; exact storedH_has.2
        · intro b o e
          exact hk4 b o (by have := Heap.lt_size e; rw [hI] at this; exact Nat.ne_of_lt (Nat.lt_succ_of_lt this)) (keep3 b o e)
      · obtain rfl : i = src.length := Nat.le_antisymm hi (Nat.not_lt.mp hlt')
        rw [hszv] at W
        refine W.done _ _ _ hst fun h2 tk2 hk2 => ?_
        have hn2 : h2.Ns (I + 2) m' := hn.at' fun o e => hk2 _ o (by simp only [List.mem_singleton]; exact Nat.ne_of_gt (Nat.lt_succ_of_lt (Nat.lt_succ_self _))) e
        refine ⟨m', hn2, fun h'' hs'' => ?_⟩
        have keep2 : ∀ b o, s₁.heap.get? b = some o → h''.get? b = some o := fun b o e => hs''.extBut b o (by have := Heap.lt_size e; rw [hI] at this; exact Nat.ne_of_lt (Nat.lt_succ_of_lt (Nat.lt_succ_of_lt this))) (hWk h2 hk2 b o e)
        have hod2 : h''.get? (I + 1) = some od := hs''.extBut _ _ (Nat.ne_of_lt (Nat.lt_succ_self _)) (hk2 _ _ (by simp only [List.mem_singleton]; exact Nat.ne_of_gt (Nat.lt_succ_self _)) hod)
        refine hQ (I + 1) od xs h'' tk2 (F.keeps keep2) (fun p hp => ?_) (fun q hq => ?_) ?_ hlit hsub ?_ keep2 (by lia)
        · rcases List.mem_cons.mp hp with rfl | hp
          · exact ⟨hod2, Nat.ne_of_gt (Nat.lt_succ_of_lt hLI), fresh₀ _ (Nat.le_succ _)⟩
          · exact ⟨keep2 _ _ (N p hp).1, (N p hp).2⟩
        · have := Heap.lt_size (N q hq).1
          rw [hI] at this
          exact Nat.lt_succ_of_lt this
        · have : I + 1 ≠ sysModules := by
            have h0 : 0 < I := Nat.lt_of_le_of_lt (Nat.zero_le _) hLI
            exact Nat.ne_of_gt (Nat.succ_lt_succ h0)
          exact beq_eq_false_iff_ne.mpr this
        · rw [List.take_length] at hcov
          exact hcov
    · exact ⟨⟨_, hIt, rfl, rfl⟩, hl.at fun o e => old _ o e⟩
    · exact ⟨#[], 0, ⟨rfl, rfl, rfl⟩, rfl, rfl, List.nodup_nil⟩
  exact codeAny_compStart_dict (loop _ ⟨_, rfl⟩) (W.self 0 _ _ _ ⟨⟨_, hIt, rfl, rfl⟩, hl.at fun o e => old _ o e⟩ (loop _ ⟨_, rfl⟩))
end
end
section
theorem slot_setit_next : Slot "set_iterator" "__next__" "set_iterator.__next__" :=
  .of (owner := "set_iterator") (n := "__next__") (by rw [typeLookup_type, builtinLookup_eq_fast]; kernel_rfl) (by decide +kernel) (by decide +kernel) (by decide +kernel)
    (by first | exact .inl (by decide +kernel) | exact .inr (by decide +kernel)) (by rw [isSubtype_type]; kernel_rfl)
theorem entry_setit_next : entryFor table "set_iterator.__next__" = some Builtin.«set_iterator.__next__» := entryFor_of_tree (by kernel_rfl)
theorem owner_setit : Manifest.owners.lookup (String.ofList ['r', 'o', 't', 'a', 'r', 'e', 't', 'i', '_', 't', 'e', 's'].reverse) = some Manifest.sig_set_iterator := by kernel_rfl
theorem args_setit_next (a : Value) : argsOk "set_iterator.__next__" ⟨[a], []⟩ := by
  unfold argsOk; rw [signature?_of (id := "set_iterator.__next__") (n := ['_', '_', 't', 'x', 'e', 'n', '_', '_']) (o := ['r', 'o', 't', 'a', 'r', 'e', 't', 'i', '_', 't', 'e', 's']) (by kernel_rfl) owner_setit]; kernel_rfl
theorem slot_setit_iter : Slot "set_iterator" "__iter__" "set_iterator.__iter__" :=
  .of (owner := "set_iterator") (n := "__iter__") (by rw [typeLookup_type, builtinLookup_eq_fast]; kernel_rfl) (by decide +kernel) (by decide +kernel) (by decide +kernel)
    (by first | exact .inl (by decide +kernel) | exact .inr (by decide +kernel)) (by rw [isSubtype_type]; kernel_rfl)
theorem entry_setit_iter : entryFor table "set_iterator.__iter__" = some Builtin.«dict_keyiterator.__iter__» :=
  entryFor_alias (id' := "dict_keyiterator.__iter__") (by kernel_rfl) rfl (by decide +kernel) (by kernel_rfl)
theorem args_setit_iter (a : Value) : argsOk "set_iterator.__iter__" ⟨[a], []⟩ := by
  unfold argsOk; rw [signature?_of (id := "set_iterator.__iter__") (n := ['_', '_', 'r', 'e', 't', 'i', '_', '_']) (o := ['r', 'o', 't', 'a', 'r', 'e', 't', 'i', '_', 't', 'e', 's']) (by kernel_rfl) owner_setit]; kernel_rfl
theorem entry_set_iter : entryFor table "set.__iter__" = some Builtin.«frozenset.__iter__» :=
  entryFor_alias (id' := "frozenset.__iter__") (by kernel_rfl) rfl (by decide +kernel) (by kernel_rfl)
theorem erase_perm {α : Type} : ∀ {l : List α} {i : Nat} (h : i < l.length), (l[i] :: l.eraseIdx i).Perm l
  | x :: l, 0, _ => List.Perm.refl _
  | x :: l, i + 1, h => (List.Perm.swap x _ _).trans (List.Perm.cons x (erase_perm (l := l) (i := i) (Nat.lt_of_succ_lt_succ h)))
section
variable {prog : Program} {w : World} {A : Around} {E : Value → Shared → Prop} {s : Shared}
theorem hint_set {r : Addr} {Q : Bool → Shared → Prop} (hT : s.TypeIs (.ref r) "set") (h : Q false s) : wpAny (model prog w) A (Builtin.List.listLengthHint (.ref r)) Q E s := by
  unfold Builtin.List.listLengthHint
  refine wpAny_bind (wpAny_specialOf hT PySem.F.slot_set_len.lookup ?_)
  generalize hid : ("set.__len__" : String) = id0
  wp_delta
  rw [show splitId id0 = some ("set", "__len__") from by subst hid; decide +kernel]
  subst hid
  refine wpAny_bind (wpAny_isInstance (T := "set") (b := true) hT (by rw [isSubtype_type]; kernel_rfl) ?_)
  refine wpAny_ite_split (fun hab => absurd hab (by decide)) (fun _ => ?_)
  refine wpAny_ite_split (fun _ => ?_) (fun hab => absurd (by decide +kernel) hab)
  refine wpAny_bind (wpAny_typeOf hT ?_)
  exact wpAny_pure h
theorem any_choose {src : Source} {n : Nat} {Q : Nat → Shared → Prop} (hn : n ≠ 0) (h : ∀ i d, i < n → Q i { s with drawn := d }) : wpAny (model prog w) A (choose src n) Q E s := fun _ _ _ => by
  show Sem.wp _ _ (.choose src n .pure) _ _ _ _
  rw [Sem.wp_choose]
  exact ⟨hn, h _ _ (Nat.mod_lt _ (Nat.pos_of_ne_zero hn))⟩
theorem drawOrder_any {α : Type} : ∀ (n : Nat) (l : List α) (s : Shared) {Q : List α → Shared → Prop}, n = l.length → (∀ r d, r.Perm l → Q r { s with drawn := d }) → wpAny (model prog w) A (drawOrder n l) Q E s
  | 0, l, s, Q, e, h => by
    have : l = [] := List.length_eq_zero_iff.mp e.symm
    subst this
    unfold drawOrder
    exact wpAny_pure (h [] s.drawn (List.Perm.refl _))
  | n + 1, [], s, Q, e, h => by simp at e
  | n + 1, x :: l, s, Q, e, h => by
    unfold drawOrder
    refine wpAny_bind (any_choose (by simp) fun i d hi => ?_)
    rw [List.getElem?_eq_getElem hi]
    dsimp only
    refine wpAny_bind (drawOrder_any n _ _ (by rw [List.length_eraseIdx, if_pos hi]; lia) fun r d' hp => ?_)
    refine wpAny_pure (h _ d' ?_)
    exact (List.Perm.cons _ hp).trans (erase_perm hi)
theorem pick_go {α : Type} (next : Nat → Nat) : ∀ (f k : Nat) (l : List α) (out : Array α), f = l.length → (pickOrder.go next f k l out).toList.Perm (out.toList ++ l)
  | 0, k, l, out, e => by
    have : l = [] := List.length_eq_zero_iff.mp e.symm
    subst this
    unfold pickOrder.go
    simp
  | f + 1, k, l, out, e => by
    have hi : next k % l.length < l.length := Nat.mod_lt _ (by lia)
    unfold pickOrder.go
    rw [List.getElem?_eq_getElem hi]
    dsimp only
    refine (pick_go next f (k + 1) _ _ (by rw [List.length_eraseIdx, if_pos hi]; lia)).trans ?_
    rw [Array.toList_push, List.append_assoc, List.singleton_append]
    exact List.Perm.append_left _ (erase_perm hi)
theorem pickOrder_perm {α : Type} (next : Nat → Nat) (xs : Array α) : (pickOrder next xs).toList.Perm xs.toList := by
  have := pick_go next xs.size 0 xs.toList #[] (Array.length_toList ..).symm
  exact this
abbrev itObj (f : Value) (i : Nat) (S : Value) (n ep : Nat) : Obj := { cls := .type "set_iterator", data := .fields #[f, .int i 0, S, .int n 0, .int ep 0] }
theorem it_front {I S : Addr} {f : Value} {i n ep : Nat} {items : List (LKey × Addr)} {t : SetTable} {P : PySem.Fin → Shared → Prop} (hI : s.heap.get? I = some (itObj f i (.ref S) n ep)) (ho : s.heap.get? S = some (setObj prog w items ep t)) (hn : n = items.length) (hT : HT.HTab (ihash prog w) t items)
    (h : wpAny (model prog w) A (do
      if let .int slot _ := f then
        match ← setNext S slot.toNat i ep with
        | some (x, next) =>
          setField (.ref I) 0 (rawInt next)
          setField (.ref I) 1 (rawInt ((i : Int) + 1))
          ret x
        | none => setField (.ref I) 2 .none; raiseNew (← newExc (.type "StopIteration") [])
      else
        let some places ← seqItems? f | unsupported "internal:set_iterator"
        match places[i]? with
        | some (.int place _) =>
          let x ← setNextDrawn S place.toNat ep
          setField (.ref I) 1 (rawInt ((i : Int) + 1))
          ret x
        | some _ => unsupported "internal:set_iterator"
        | none => setField (.ref I) 0 (rawInt 0); setField (.ref I) 2 .none; raiseNew (← newExc (.type "StopIteration") [])) P E s) :
    wpAny (model prog w) A (Builtin.«set_iterator.__next__» ⟨[.ref I], []⟩) P E s := by
  have hsz : (items.map (ent1 prog w)).toArray.size = items.length := by simp
  unfold Builtin.«set_iterator.__next__» slotArgs
  simp only [List.isEmpty_nil, Bool.not_true, Bool.false_eq_true, ↓reduceIte, bind_assoc, List.length_nil, bne_self_eq_false]
  refine wpAny_bind (wpAny_pure ?_)
  try dsimp only
  refine wpAny_bind (wpAny_fieldsOf hI rfl ?_)
  try dsimp only
  refine wpAny_bind (wpAny_setEntries_of ho rfl (by rw [hsz]; exact hT.fits) ?_)
  rw [hsz, hn]
  simp only [bne_self_eq_false, Bool.false_eq_true, if_false, Int.toNat_natCast]
  exact h
theorem raise_stop {α : Type} {P : α → Shared → Prop} (hh : A.handled = none) (h : ∀ h' e, (∀ b o, s.heap.get? b = some o → h'.get? b = some o) → (∃ o, h'.get? e = some o ∧ o.cls = .type "StopIteration") → E (.ref e) { s with heap := h' }) :
    wpAny (model prog w) A (newExc (.type "StopIteration") [] >>= fun e => (raiseNew e : Sem α)) P E s := by
  refine wpAny_bind ?_
  simp only [newExc, newTuple]
  refine wpAny_bind (wpAny_newObj_type ?_ (by size_fits))
  refine wpAny_bind (m := firstArgMember _ _) (wpAny_of_eq (a := Value.none) (by first | rfl | (simp only [firstArgMember]; rfl)) ?_)
  refine wpAny_newObj_type ?_ (by size_fits)
  simp only [raiseNew]
  refine wpAny_bind (wpAny_handled ?_)
  rw [hh]
  refine wpAny_bind (wpAny_pure (wpAny_throw ?_))
  exact h _ _ (fun b o e => Heap.get?_push_of_some _ (Heap.get?_push_of_some _ e)) ⟨_, Heap.get?_push_size _ rfl, rfl⟩
theorem it_next {I : Addr} {o : Obj} {Q : Option Value → Shared → Prop} {v : Option Value} (hI : s.heap.get? I = some o) (hc : o.cls = .type "set_iterator")
    (body : ∀ (P : PySem.Fin → Shared → Prop) (E' : Value → Shared → Prop), (∀ h', Q v { s with heap := h' } → v.isSome = true → ∀ x, v = some x → P (.done (.ret x)) { s with heap := h' }) →
      (∀ h' e, v = none → Q none { s with heap := h' } → (∃ o, h'.get? e = some o ∧ o.cls = .type "StopIteration") → E' (.ref e) { s with heap := h' }) →
      wpAny (model prog w) A.in1 (Builtin.«set_iterator.__next__» ⟨[.ref I], []⟩) P E' s) :
    wpAny (model prog w) A (pyNext (.ref I)) Q E s := by
  have hT : s.TypeIs (.ref I) "set_iterator" := ⟨o, hI, hc⟩
  unfold pyNext
  refine wpAny_bind (wpAny_attempt (wpAny_callSpecial?_slot (name := Str.ofString "__next__") hT slot_setit_next
    (wpAny_call_entry slot_setit_next hT entry_setit_next ?_ (args_setit_next _))))
  refine body _ _ (fun h' hQ _ x hx => ?_) (fun h' e hv hQ he => ?_)
  · subst hx
    exact ⟨_, rfl, wpAny_pure hQ⟩
  · refine wpAny_bind (wpAny_isInstance (T := "StopIteration") (b := true) he isSubtype_stop ?_)
    exact wpAny_pure hQ
theorem byText_any {Q : Bool → Shared → Prop} (h : Q (w.params.followText "set-order") s) : wpAny (model prog w) A setsByText Q E s := by
  unfold setsByText
  exact wpAny_bind (wpAny_askSetting (wpAny_pure h))
theorem next_text {S : Addr} {items : List (LKey × Addr)} {ep slot given : Nat} {t : SetTable} {Q : Option (Value × Nat) → Shared → Prop} (hb : w.params.followText "set-order" = true) (ho : s.heap.get? S = some (setObj prog w items ep t)) (hT : HT.HTab (ihash prog w) t items)
    (h : Q (((pickOrder (w.params.setOrder S ep) (items.map (ent1 prog w)).toArray)[given]?).map fun e => (e.2, slot)) s) : wpAny (model prog w) A (setNext S slot given ep) Q E s := by
  have hsz : (items.map (ent1 prog w)).toArray.size = items.length := by simp
  unfold setNext
  refine wpAny_bind (wpAny_setState_of ho rfl (by rw [hsz]; exact hT.fits) ?_)
  dsimp only
  refine wpAny_bind (byText_any ?_)
  rw [hb]
  simp only [if_true, bne_self_eq_false, Bool.false_eq_true, if_false]
  refine wpAny_bind ?_
  unfold setWalk
  refine wpAny_bind (wpAny_setState_of ho rfl (by rw [hsz]; exact hT.fits) ?_)
  dsimp only
  refine wpAny_bind (byText_any ?_)
  rw [hb]
  simp only [if_true]
  exact wpAny_bind (wpAny_askSetting (wpAny_pure (wpAny_pure h)))
theorem next_plain {S : Addr} {items : List (LKey × Addr)} {ep slot given : Nat} {t : SetTable} {Q : Option (Value × Nat) → Shared → Prop} (hb : w.params.followText "set-order" = false) (hled : t.led = true) (hp : (!t.plain && decide (items.length > 1)) = false) (ho : s.heap.get? S = some (setObj prog w items ep t)) (hT : HT.HTab (ihash prog w) t items)
    (h : Q (match (items.map (ent1 prog w)).toArray[SetTable.below t.place slot]?, t.place[SetTable.below t.place slot]? with
      | some (_, x), some j => some (x, j + 1)
      | _, _ => none) s) : wpAny (model prog w) A (setNext S slot given ep) Q E s := by
  have hsz : (items.map (ent1 prog w)).toArray.size = items.length := by simp
  unfold setNext
  refine wpAny_bind (wpAny_setState_of ho rfl (by rw [hsz]; exact hT.fits) ?_)
  dsimp only
  refine wpAny_bind (byText_any ?_)
  rw [hb]
  simp only [Bool.false_eq_true, if_false]
  refine wpAny_ite_split (fun hab => ?_) (fun _ => ?_)
  · have h2 : (!t.plain && decide ((items.map (ent1 prog w)).toArray.size > 1)) = true := hab
    rw [hsz, hp] at h2
    exact nomatch h2
  · refine wpAny_bind ?_
    show wpAny (model prog w) A (if (!t.led && !((items.map (ent1 prog w)).toArray).isEmpty) = true then unsupported "set:maker-not-led" else pure ()) _ _ s
    rw [hled]
    simp only [Bool.not_true, Bool.false_and, Bool.false_eq_true, if_false]
    exact wpAny_pure (wpAny_pure h)
theorem next_drawn {S : Addr} {items : List (LKey × Addr)} {ep place : Nat} {t : SetTable} {Q : Value → Shared → Prop} (ho : s.heap.get? S = some (setObj prog w items ep t)) (hT : HT.HTab (ihash prog w) t items) (hlt : place < items.length)
    (h : Q (.ref items[place].2) s) : wpAny (model prog w) A (setNextDrawn S place ep) Q E s := by
  have hsz : (items.map (ent1 prog w)).toArray.size = items.length := by simp
  unfold setNextDrawn
  refine wpAny_bind (wpAny_setState_of ho rfl (by rw [hsz]; exact hT.fits) ?_)
  dsimp only
  simp only [bne_self_eq_false, Bool.false_eq_true, if_false]
  have he : (items.map (ent1 prog w)).toArray[place]? = some (ent1 prog w items[place]) := by simp [hlt]
  rw [he]
  exact wpAny_pure h
theorem itObj_set {h : Heap} {I : Addr} {f S : Value} {i n ep k : Nat} {x : Value} (hI : h.get? I = some (itObj f i S n ep)) :
    (h.update I (Obj.mapFields (·.setIfInBounds k x))).get? I = some { cls := .type "set_iterator", data := .fields ((#[f, .int i 0, S, .int n 0, .int ep 0] : Array Value).setIfInBounds k x) } := by
  have := Heap.get?_update_self (Obj.mapFields (·.setIfInBounds k x)) hI (Obj.isFreed_of_fields (Obj.data_mapFields rfl _))
  rw [this]
  rfl
/-- the walk over a set in the order of the text, or of its table -/
theorem walk_int {S I : Addr} {items : List (LKey × Addr)} {ep : Nat} {t : SetTable} (hT : HT.HTab (ihash prog w) t items) (hh : A.handled = none) (hne : S ≠ I) (order : List (Int × Value)) (hlen : order.length = items.length) (fs : Nat → Nat)
    (nx : ∀ (A : Around) (E : Value → Shared → Prop) (s : Shared) (Q : Option (Value × Nat) → Shared → Prop) (i : Nat), i ≤ order.length → s.heap.get? S = some (setObj prog w items ep t) → Q ((order[i]?).map fun e => (e.2, fs (i + 1))) s → wpAny (model prog w) A (setNext S (fs i) i ep) Q E s) :
    Walks prog w A I [I, S] [I] order.length (fun i v => ∃ e, order[i]? = some e ∧ v = e.2) (fun i h => h.get? I = some (itObj (.int (fs i) 0) i (.ref S) items.length ep) ∧ h.get? S = some (setObj prog w items ep t)) where
  sub := fun b hb => by simp at hb; simp [hb]
  frame := fun _ _ _ st hk => ⟨hk I (by simp) _ st.1, hk S (by simp) _ st.2⟩
  item := fun i s Q E hi st hQ => by
    refine it_next (v := some order[i].2) st.1 rfl fun P E' hP _ => ?_
    refine it_front st.1 st.2 rfl hT ?_
    dsimp only
    simp only [Int.toNat_natCast]
    refine wpAny_bind (nx _ _ _ _ i (Nat.le_of_lt hi) st.2 ?_)
    rw [List.getElem?_eq_getElem hi]
    dsimp only [Option.map_some]
    refine wpAny_bind (wpAny_setField st.1 rfl (by simp) ?_)
    have h1 := itObj_set (k := 0) (x := rawInt (fs (i + 1))) st.1
    refine wpAny_bind (wpAny_setField h1 rfl (by simp) ?_)
    have h2 := Heap.get?_update_self (Obj.mapFields (·.setIfInBounds 1 (rawInt ((i : Int) + 1)))) h1 (Obj.isFreed_of_fields (Obj.data_mapFields rfl _))
    have sb := (Heap.SameBut.update s.heap I (Obj.mapFields (·.setIfInBounds 0 (rawInt (fs (i + 1)))))).trans (Heap.SameBut.update _ I (Obj.mapFields (·.setIfInBounds 1 (rawInt ((i : Int) + 1)))))
    refine wpAny_pure (hP _ ?_ rfl _ rfl)
    refine hQ _ _ s.toks ⟨order[i], by simp [hi], rfl⟩ ⟨?_, (sb.2 S hne).trans st.2⟩ fun b o hb e => (sb.2 b (fun h => hb (by simp [h]))).trans e
    rw [h2]
    simp [rawInt, Obj.mapFields]
  done := fun s Q E st hQ => by
    refine it_next (v := none) st.1 rfl fun P E' _ hE => ?_
    refine it_front st.1 st.2 rfl hT ?_
    dsimp only
    simp only [Int.toNat_natCast]
    refine wpAny_bind (nx _ _ _ _ order.length (Nat.le_refl _) st.2 ?_)
    rw [List.getElem?_eq_none (Nat.le_refl _)]
    dsimp only [Option.map_none]
    refine wpAny_bind (wpAny_setField st.1 rfl (by simp) ?_)
    have sb := Heap.SameBut.update s.heap I (Obj.mapFields (·.setIfInBounds 2 Value.none))
    refine raise_stop hh fun h' e hk he => ?_
    exact hE h' e rfl (hQ h' s.toks fun b o hb e => hk b o ((sb.2 b (fun h => hb (by simp [h]))).trans e)) he
  self := fun _ s Q E st hQ => by
    have hT : s.TypeIs (.ref I) "set_iterator" := ⟨_, st.1, rfl⟩
    refine wpAny_pyIter_slot hT slot_setit_iter (wpAny_call_entry slot_setit_iter hT entry_setit_iter ?_ (args_setit_iter _))
    show wpAny _ _ (ret (.ref I)) _ _ s
    exact wpAny_pure ⟨_, rfl, "set_iterator", _, hT, slot_setit_next.lookup, hQ⟩
abbrev nth (items : List (LKey × Addr)) (p : Nat) : LKey × Addr := items.getD p ([], 0)
theorem walk_drawn {S I T : Addr} {items : List (LKey × Addr)} {ep : Nat} {t : SetTable} (hT : HT.HTab (ihash prog w) t items) (hh : A.handled = none) (hne : S ≠ I) (hnT : T ≠ I) (ps : List Nat) (hp : ps.Perm (List.range items.length)) (k : Nat) :
    Walks prog w A I [I, S, T] [I] (ps.map (nth items)).length (fun i v => ∃ e, (ps.map (nth items))[i]? = some e ∧ v = .ref e.2) (fun i h => h.get? I = some (itObj (.ref T) i (.ref S) items.length ep) ∧ h.get? S = some (setObj prog w items ep t) ∧ h.get? T = some (tupO (ps.map fun (p : Nat) => rawInt (p : Int)) k)) where
  sub := fun b hb => by simp at hb; simp [hb]
  frame := fun _ _ _ st hk => ⟨hk I (by simp) _ st.1, hk S (by simp) _ st.2.1, hk T (by simp) _ st.2.2⟩
  item := fun i s Q E hi' st hQ => by
    have hi : i < ps.length := by rw [List.length_map] at hi'; exact hi'
    have hlt : ps[i] < items.length := List.mem_range.mp (hp.mem_iff.mp (List.getElem_mem hi))
    refine it_next (v := some (.ref (nth items ps[i]).2)) st.1 rfl fun P E' hP _ => ?_
    refine it_front st.1 st.2.1 rfl hT ?_
    dsimp only
    refine wpAny_bind (wpAny_seqItems st.2.2 rfl ?_)
    dsimp only
    have he : (ps.map fun (p : Nat) => rawInt (p : Int)).toArray[i]? = some (rawInt (ps[i] : Int)) := by simp [hi]
    rw [he]
    dsimp only [rawInt]
    simp only [Int.toNat_natCast]
    refine wpAny_bind (next_drawn st.2.1 hT hlt ?_)
    refine wpAny_bind (wpAny_setField st.1 rfl (by simp) ?_)
    have h1 := itObj_set (k := 1) (x := rawInt ((i : Int) + 1)) st.1
    have sb := Heap.SameBut.update s.heap I (Obj.mapFields (·.setIfInBounds 1 (rawInt ((i : Int) + 1))))
    have hn : nth items ps[i] = items[ps[i]] := by simp [nth, hlt]
    rw [hn] at hP
    refine wpAny_pure (hP _ ?_ rfl _ rfl)
    rw [← hn]
    refine hQ _ _ s.toks ⟨nth items ps[i], by rw [List.getElem?_map, List.getElem?_eq_getElem hi]; rfl, rfl⟩ ⟨?_, (sb.2 S hne).trans st.2.1, (sb.2 T hnT).trans st.2.2⟩ fun b o hb e => (sb.2 b (fun h => hb (by simp [h]))).trans e
    show (s.heap.update I (Obj.mapFields (·.setIfInBounds 1 (rawInt ((i : Int) + 1))))).get? I = _
    rw [h1]
    simp [rawInt]
  done := fun s Q E st hQ => by
    rw [List.length_map] at st
    refine it_next (v := none) st.1 rfl fun P E' _ hE => ?_
    refine it_front st.1 st.2.1 rfl hT ?_
    dsimp only
    refine wpAny_bind (wpAny_seqItems st.2.2 rfl ?_)
    dsimp only
    have he : (ps.map fun (p : Nat) => rawInt (p : Int)).toArray[ps.length]? = none := by simp
    rw [he]
    dsimp only
    refine wpAny_bind (wpAny_setField st.1 rfl (by simp) ?_)
    have h1 := itObj_set (k := 0) (x := rawInt 0) st.1
    refine wpAny_bind (wpAny_setField h1 rfl (by simp) ?_)
    have sb := (Heap.SameBut.update s.heap I (Obj.mapFields (·.setIfInBounds 0 (rawInt 0)))).trans (Heap.SameBut.update _ I (Obj.mapFields (·.setIfInBounds 2 Value.none)))
    refine raise_stop hh fun h' e hk he => ?_
    exact hE h' e rfl (hQ h' s.toks fun b o hb e => hk b o ((sb.2 b (fun h => hb (by simp [h]))).trans e)) he
  self := fun _ s Q E st hQ => by
    have hT : s.TypeIs (.ref I) "set_iterator" := ⟨_, st.1, rfl⟩
    refine wpAny_pyIter_slot hT slot_setit_iter (wpAny_call_entry slot_setit_iter hT entry_setit_iter ?_ (args_setit_iter _))
    show wpAny _ _ (ret (.ref I)) _ _ s
    exact wpAny_pure ⟨_, rfl, "set_iterator", _, hT, slot_setit_next.lookup, hQ⟩
theorem walks_weaken {I : Addr} {fp wr : List Addr} {n : Nat} {P P' : Nat → Value → Prop} {St : Nat → Heap → Prop} (W : Walks prog w A I fp wr n P St) (hP : ∀ i v, P i v → P' i v) : Walks prog w A I fp wr n P' St where
  sub := W.sub
  frame := W.frame
  item := fun i s Q E hi st hQ => W.item i s Q E hi st fun v h' tk hp hs hk => hQ v h' tk (hP i v hp) hs hk
  done := W.done
  self := W.self
theorem perm_map_inv {α β : Type} {f : α → β} : ∀ {l' m : List β}, l'.Perm m → ∀ l, m = l.map f → ∃ l₂ : List α, l₂.Perm l ∧ l' = l₂.map f := by
  intro l' m h
  induction h with
  | nil => intro l e; exact ⟨l, List.Perm.refl _, e⟩
  | cons x _ ih =>
    intro l e
    match l, e with
    | a :: l, e =>
      rw [List.map_cons] at e
      injection e with e1 e2
      obtain ⟨l₂, h1, h2⟩ := ih l e2
      exact ⟨a :: l₂, List.Perm.cons a h1, by rw [h2, e1, List.map_cons]⟩
  | swap x y r =>
    intro l e
    match l, e with
    | a :: b :: l, e =>
      rw [List.map_cons, List.map_cons] at e
      injection e with e1 e2
      injection e2 with e2 e3
      exact ⟨b :: a :: l, List.Perm.swap a b l, by rw [List.map_cons, List.map_cons, e1, e2, e3]⟩
  | trans _ _ ih1 ih2 =>
    intro l e
    obtain ⟨l₂, h1, h2⟩ := ih2 l e
    obtain ⟨l₃, h3, h4⟩ := ih1 l₂ h2
    exact ⟨l₃, h3.trans h1, h4⟩
theorem below_zero {xs : Array Nat} (hs : xs.toList.Pairwise (· < ·)) : SetTable.below xs 0 = 0 := by
  obtain ⟨b1, b2, b3⟩ := HT.below_is 0 hs
  rcases Nat.eq_zero_or_pos (SetTable.below xs 0) with h | h
  · exact h
  · have := b2 0 h; lia
theorem below_next {xs : Array Nat} (hs : xs.toList.Pairwise (· < ·)) {i : Nat} (hi : i < xs.size) : SetTable.below xs (HT.at0 xs i + 1) = i + 1 := by
  obtain ⟨b1, b2, b3⟩ := HT.below_is (HT.at0 xs i + 1) hs
  rcases Nat.lt_trichotomy (SetTable.below xs (HT.at0 xs i + 1)) (i + 1) with h | h | h
  · have h1 := b3 _ (Nat.le_refl _) (by lia)
    rcases Nat.lt_or_ge (SetTable.below xs (HT.at0 xs i + 1)) i with h2 | h2
    · have := HT.at0_lt hs h2 hi; lia
    · have e : SetTable.below xs (HT.at0 xs i + 1) = i := by lia
      rw [e] at h1; lia
  · exact h
  · have h1 := b2 (i + 1) h
    have := HT.at0_lt hs (show i < i + 1 by lia) (show i + 1 < xs.size by lia)
    lia
/-- iterators of a set: each walks over its elements in some order -/
theorem iter_set {S : Addr} {items : List (LKey × Addr)} {ep : Nat} {t : SetTable} {Q : Value → Shared → Prop} (hT : HT.HTab (ihash prog w) t items) (hh : A.handled = none) (ho : s.heap.get? S = some (setObj prog w items ep t)) (hled : t.led = !w.params.followText "set-order")
    (hQ : ∀ I h2 d fp St (l : List (LKey × Addr)), l.Perm items → Walks prog w A I fp [I] l.length (fun i v => ∃ e, l[i]? = some e ∧ v = .ref e.2) St → St 0 h2 → (∀ b o, s.heap.get? b = some o → h2.get? b = some o) → s.heap.objs.size ≤ I → (∀ b ∈ fp, b = S ∨ s.heap.objs.size ≤ b) → Q (.ref I) { s with heap := h2, drawn := d }) :
    wpAny (model prog w) A (pyIter (.ref S)) Q E s := by
  have hTS : s.TypeIs (.ref S) "set" := ⟨_, ho, rfl⟩
  have hsz : (items.map (ent1 prog w)).toArray.size = items.length := by simp
  have hS : S < s.heap.objs.size := Heap.lt_size ho
  have hfits : t.fits (items.map (ent1 prog w)).toArray.size = true := by rw [hsz]; exact hT.fits
  refine wpAny_pyIter_slot hTS PySem.F.slot_set_iter (wpAny_call_entry PySem.F.slot_set_iter hTS entry_set_iter ?_ (PySem.F.args_set_iter_1 _))
  unfold Builtin.«frozenset.__iter__» Builtin.Frozenset.slot0 slotArgs
  simp only [List.isEmpty_nil, Bool.not_true, Bool.false_eq_true, ↓reduceIte, bind_assoc, List.length_nil, bne_self_eq_false]
  refine wpAny_bind (wpAny_pure ?_)
  try dsimp only
  unfold Builtin.Frozenset.addrOf
  refine wpAny_bind (wpAny_pure ?_)
  unfold Builtin.Frozenset.sizeOf
  refine wpAny_bind (wpAny_bind (wpAny_setEntries_of ho rfl hfits (wpAny_pure ?_)))
  unfold setDrawn
  refine wpAny_bind (wpAny_bind (wpAny_setState_of ho rfl hfits ?_))
  dsimp only
  refine wpAny_bind (byText_any (wpAny_pure ?_))
  refine wpAny_ite_split (fun hdr => ?_) (fun hdr => ?_)
  · have h2 : (!(w.params.followText "set-order") && (!t.plain && decide ((items.map (ent1 prog w)).toArray.size > 1))) = true := hdr
    rw [hsz]
    refine wpAny_bind (drawOrder_any items.length _ s (by simp) fun ps d hp => ?_)
    have hpl : ps.length = items.length := by have := hp.length_eq; simpa using this
    have hsmall : items.length ≤ 5 := by rcases hT.mask with ⟨_, h⟩ | ⟨_, h⟩ <;> lia
    refine wpAny_bind (wpAny_newTuple ?_ (by rw [List.length_map, hpl, sizeLine_eq]; lia))
    have hoT : (s.heap.push (tupO (ps.map fun (p : Nat) => rawInt (p : Int)) 0)).get? S = some (setObj prog w items ep t) := Heap.get?_push_of_some _ ho
    refine wpAny_bind ?_
    unfold setEpoch
    refine wpAny_bind (wpAny_setState_of (s := { s with heap := s.heap.push (tupO (ps.map fun (p : Nat) => rawInt (p : Int)) 0), drawn := d }) hoT rfl hfits (wpAny_pure ?_))
    refine wpAny_bind (wpAny_newObj_type (wpAny_pure ⟨_, rfl, "set_iterator", _, ⟨_, Heap.get?_push_size _ rfl, rfl⟩, slot_setit_next.lookup, ?_⟩))
    have hl : (ps.map (nth items)).Perm items := by
      have h := hp.map (nth items)
      have e : (List.range items.length).map (nth items) = items := by
        apply List.ext_getElem
        · simp
        · intro i h1 h2
          simp [nth, h2]
      rw [e] at h
      exact h
    have hIT : s.heap.objs.size ≠ (s.heap.push (tupO (ps.map fun (p : Nat) => rawInt (p : Int)) 0)).objs.size := by rw [Heap.size_push]; exact Nat.ne_of_lt (Nat.lt_succ_self _)
    have hIS : S ≠ (s.heap.push (tupO (ps.map fun (p : Nat) => rawInt (p : Int)) 0)).objs.size := by rw [Heap.size_push]; exact Nat.ne_of_lt (Nat.lt_succ_of_lt hS)
    have W := walk_drawn (A := A) (ep := ep) hT hh hIS hIT ps hp 0
    refine hQ _ _ d _ _ _ hl W ⟨?_, ?_, ?_⟩ (fun b o e => Heap.get?_push_of_some _ (Heap.get?_push_of_some _ e)) (by rw [Heap.size_push]; exact Nat.le_succ _) (fun b hb => ?_)
    · exact Heap.get?_push_size _ rfl
    · exact Heap.get?_push_of_some _ hoT
    · exact Heap.get?_push_of_some _ (Heap.get?_push_size _ rfl)
    · simp only [List.mem_cons, List.not_mem_nil, or_false] at hb
      rcases hb with rfl | rfl | rfl
      · exact .inr (by rw [Heap.size_push]; exact Nat.le_succ _)
      · exact .inl rfl
      · exact .inr (Nat.le_refl _)
  · have hdr' : (!(w.params.followText "set-order") && (!t.plain && decide (items.length > 1))) = false := by
      have : ¬ (!(w.params.followText "set-order") && (!t.plain && decide ((items.map (ent1 prog w)).toArray.size > 1))) = true := hdr
      rw [hsz] at this
      simpa using this
    refine wpAny_bind (wpAny_pure ?_)
    refine wpAny_bind ?_
    unfold setEpoch
    refine wpAny_bind (wpAny_setState_of ho rfl hfits (wpAny_pure ?_))
    refine wpAny_bind (wpAny_newObj_type (wpAny_pure ⟨_, rfl, "set_iterator", _, ⟨_, Heap.get?_push_size _ rfl, rfl⟩, slot_setit_next.lookup, ?_⟩))
    have hIS : S ≠ s.heap.objs.size := Nat.ne_of_lt hS
    cases hb : w.params.followText "set-order" with
    | true =>
      have hp := pickOrder_perm (w.params.setOrder S ep) (items.map (ent1 prog w)).toArray
      obtain ⟨l, hl, hle⟩ := perm_map_inv (f := ent1 prog w) hp items rfl
      have W := walk_int (prog := prog) (w := w) (A := A) (ep := ep) hT hh hIS (pickOrder (w.params.setOrder S ep) (items.map (ent1 prog w)).toArray).toList (by rw [hle, List.length_map, hl.length_eq]) (fun _ => 0)
        (fun A E s Q i _ ho hq => next_text hb ho hT (by rw [Array.getElem?_toList] at hq; exact hq))
      have hlen : (pickOrder (w.params.setOrder S ep) (items.map (ent1 prog w)).toArray).toList.length = l.length := by rw [hle, List.length_map]
      rw [hlen] at W
      refine hQ _ _ s.drawn _ _ l hl (walks_weaken W fun i v hv => ?_) ⟨?_, Heap.get?_push_of_some _ ho⟩ (fun b o e => Heap.get?_push_of_some _ e) (Nat.le_refl _) (fun b hb => ?_)
      · obtain ⟨e, he, rfl⟩ := hv
        rw [hle, List.getElem?_map] at he
        cases hx : l[i]? with
        | none => rw [hx] at he; exact nomatch he
        | some x => rw [hx] at he; exact ⟨x, rfl, by rw [← Option.some.inj he]⟩
      · rw [hsz]; exact Heap.get?_push_size _ rfl
      · simp only [List.mem_cons, List.not_mem_nil, or_false] at hb
        rcases hb with rfl | rfl
        · exact .inr (Nat.le_refl _)
        · exact .inl rfl
    | false =>
      rw [hb] at hled hdr'
      have hpl : t.place.size = items.length := hT.size
      have W := walk_int (prog := prog) (w := w) (A := A) (ep := ep) hT hh hIS (items.map (ent1 prog w)) (by rw [List.length_map]) (fun i => if i = 0 then 0 else HT.at0 t.place (i - 1) + 1)
        (fun A E s Q i hi ho hq => next_plain hb hled (by simpa using hdr') ho hT (by
          rw [List.length_map] at hi
          have hbel : SetTable.below t.place (if i = 0 then 0 else HT.at0 t.place (i - 1) + 1) = i := by
            cases i with
            | zero => rw [if_pos rfl]; exact below_zero hT.sorted
            | succ i => rw [if_neg (by lia)]; exact below_next hT.sorted (by lia)
          rw [hbel]
          rw [List.getElem?_map] at hq
          by_cases hlt : i < items.length
          · rw [List.getElem?_eq_getElem hlt] at hq
            have e1 : (items.map (ent1 prog w)).toArray[i]? = some (ent1 prog w items[i]) := by simp [hlt]
            have hltp : i < t.place.size := by lia
            have e2 : t.place[i]? = some (HT.at0 t.place i) := by rw [HT.at0_eq hltp]; simp [hltp]
            rw [e1, e2]
            dsimp only
            rw [if_neg (by lia), Nat.add_sub_cancel] at hq
            exact hq
          · rw [List.getElem?_eq_none (by lia)] at hq
            have e1 : (items.map (ent1 prog w)).toArray[i]? = none := by simp; lia
            rw [e1]
            exact hq))
      rw [List.length_map] at W
      refine hQ _ _ s.drawn _ _ items (List.Perm.refl _) (walks_weaken W fun i v hv => ?_) ⟨?_, Heap.get?_push_of_some _ ho⟩ (fun b o e => Heap.get?_push_of_some _ e) (Nat.le_refl _) (fun b hb => ?_)
      · obtain ⟨e, he, rfl⟩ := hv
        rw [List.getElem?_map] at he
        cases hx : items[i]? with
        | none => rw [hx] at he; exact nomatch he
        | some x => rw [hx] at he; exact ⟨x, rfl, by rw [← Option.some.inj he]⟩
      · rw [hsz]; exact Heap.get?_push_size _ rfl
      · simp only [List.mem_cons, List.not_mem_nil, or_false] at hb
        rcases hb with rfl | rfl
        · exact .inr (Nat.le_refl _)
        · exact .inl rfl
theorem set_extend {R : Result → Shared → Prop} {S D : Addr} {items : List (LKey × Addr)} {ep : Nat} {t : SetTable} (hT : HT.HTab (ihash prog w) t items) (hh : A.handled = none) (ho : s.heap.get? S = some (setObj prog w items ep t)) (hled : t.led = !w.params.followText "set-order")
    (hDS : D ≠ S) (res : Value) (hD : s.heap.get? D = some { cls := .type "list", data := .seq #[] })
    (hR : ∀ h' tk d acc' c' (l : List (LKey × Addr)), l.Perm items → (∀ b o, b ≠ D → s.heap.get? b = some o → h'.get? b = some o) → h'.get? D = some { cls := .type "list", dict := none, data := .seq acc' c', slots := #[] } →
      ItemsOf (fun i v => ∃ e, l[i]? = some e ∧ v = .ref e.2) acc' l.length → R (.ok (.ret res)) { s with heap := h', toks := tk, drawn := d }) :
    wpAny (model prog w) A.in1 (Builtin.List.listExtendWith (.ref D) (.ref S) res)
      (fun fin s' => match fin with | .done f => R (.ok f) s' | .again c' => c'.quiet = true ∧ codeAny (model prog w) A c' R s') (fun e s' => R (.error e) s') s := by
  have hTS : s.TypeIs (.ref S) "set" := ⟨_, ho, rfl⟩
  have hDlt : D < s.heap.objs.size := Heap.lt_size hD
  unfold Builtin.List.listExtendWith
  refine wpAny_bind (wpAny_typeOf (T := "set") hTS ?_)
  have h1 : Builtin.List.listSameRef (.ref D) (.ref S) = false := by simp [Builtin.List.listSameRef, hDS]
  have n1 : (Value.type "set" == Value.type "list") = false := by decide
  have n2 : (Value.type "set" == Value.type "tuple") = false := by decide
  simp only [h1, n1, n2, Bool.or_false, Bool.false_eq_true, if_false]
  refine wpAny_bind (iter_set hT (A := A.in1) hh ho hled fun I h2 d fp St l hl W hst hk hI hfp => ?_)
  have hln : l.length ≤ sizeLine := by
    have := hl.length_eq
    have h5 : items.length ≤ 5 := by rcases hT.mask with ⟨_, h⟩ | ⟨_, h⟩ <;> lia
    rw [sizeLine_eq]; lia
  have hDf : D ∉ fp := fun hm => by
    rcases hfp D hm with h | h
    · exact hDS h
    · exact absurd hDlt (Nat.not_lt.mpr h)
  have key : ∀ (h : Heap) (c₁ tk : Nat), St 0 h → (∀ b o, b ≠ D → s.heap.get? b = some o → h.get? b = some o) →
      h.get? D = some { cls := .type "list", data := .seq #[] c₁ } → codeAny (model prog w) A (.builtin "list.extend.loop" ⟨[.ref D, .ref I, res], []⟩) R { s with heap := h, toks := tk, drawn := d } := by
    intro h c₁ tk hst hk hS₁
    refine codeAny_extend_loopS W.toS hln D hDf res l.length 0 _ #[] c₁ rfl (Nat.zero_le _) hst hS₁ (ItemsOf.nil _) fun s' acc' c' hm hS' hacc => ?_
    rw [Moved.eq_with hm]
    refine hR s'.heap s'.toks d acc' c' l hl (fun b o hb e => hm.heap b o (fun hmem => ?_) (hk b o hb e)) hS' hacc
    rcases List.mem_cons.mp hmem with e' | hmem
    · exact hb e'
    · have := Heap.lt_size e
      rw [List.mem_singleton.mp hmem] at this
      exact absurd this (Nat.not_lt.mpr hI)
  refine wpAny_bind (wpAny_holding (hint_set ⟨_, hk S _ ho, rfl⟩ ?_))
  have hS₁ := hk D _ hD
  refine wpAny_ite_split (fun _ => ?_) (fun _ => wpAny_pure ⟨plainId_quiet PySem.F.plain_extend_loop _, key _ 0 _ hst (fun b o _ e => hk b o e) hS₁⟩)
  refine wpAny_bind (wpAny_rule ?_)
  refine wpAny_bind ?_
  show wpAny _ _ (updateSeq D (·.push .none) >>= fun _ => updateSeq D (·.pop)) _ _ _
  refine wpAny_bind (wpAny_updateSeq hS₁ rfl ?_)
  have hS₂ := Heap.get?_update_self (Obj.mapSeq (·.push Value.none)) hS₁ rfl
  refine wpAny_updateSeq (hz := by seq_fits) hS₂ rfl ?_
  have hS₃ := Heap.get?_update_self (Obj.mapSeq (·.pop)) hS₂ rfl
  refine wpAny_pure ⟨plainId_quiet PySem.F.plain_extend_loop _, key _ _ _ ?_ (fun b o hb e => ?_) hS₃⟩
  · refine W.frame 0 _ _ hst fun b hb o e => ?_
    have hbS : b ≠ D := fun h => hDf (h ▸ hb)
    exact (Heap.get?_update_other _ _ (Ne.symm hbS)).trans ((Heap.get?_update_other _ _ (Ne.symm hbS)).trans e)
  · exact (Heap.get?_update_other _ _ (Ne.symm hb)).trans ((Heap.get?_update_other _ _ (Ne.symm hb)).trans (hk b o e))
theorem set_code {R : Result → Shared → Prop} {S : Addr} {items : List (LKey × Addr)} {ep : Nat} {t : SetTable} (hT : HT.HTab (ihash prog w) t items) (hh : A.handled = none) (ho : s.heap.get? S = some (setObj prog w items ep t)) (hled : t.led = !w.params.followText "set-order")
    (hR : ∀ h' tk d acc' c' (l : List (LKey × Addr)), l.Perm items → (∀ b o, s.heap.get? b = some o → h'.get? b = some o) → h'.get? s.heap.objs.size = some { cls := .type "list", dict := none, data := .seq acc' c', slots := #[] } →
      ItemsOf (fun i v => ∃ e, l[i]? = some e ∧ v = .ref e.2) acc' l.length → R (.ok (.ret (.ref s.heap.objs.size))) { s with heap := h', toks := tk, drawn := d }) :
    codeAny (model prog w) A (.builtin "proto.collect" ⟨[.ref S], []⟩) R s := by
  refine codeAny_builtin PySem.F.entry_proto_collect ?_
  rw [Around.under_plainId PySem.F.plain_proto_collect _]
  show wpAny _ A.in1 (newList [] >>= fun l => again (.builtin "list.__iadd__" ⟨[l, .ref S], []⟩)) _ _ s
  refine wpAny_bind (wpAny_newObj_type ?_)
  refine wpAny_pure ⟨plainId_quiet PySem.F.plain_list_iadd _, codeAny_builtin PySem.F.entry_list_iadd ?_⟩
  rw [Around.under_plainId PySem.F.plain_list_iadd _]
  have hlt := Heap.lt_size ho
  exact set_extend (R := R) (s := { s with heap := s.heap.push { cls := .type "list", data := .seq ([] : List Value).toArray } }) hT hh (Heap.get?_push_of_some _ ho) hled (Nat.ne_of_gt hlt) _ (Heap.get?_push_size _ rfl)
    (fun h' tk d acc' c' l hl hk hS' hacc => hR h' tk d acc' c' l hl (fun b o e => hk b o (Nat.ne_of_lt (Heap.lt_size e)) (Heap.get?_push_of_some _ e)) hS' hacc)
theorem coll_set {S : Addr} {src : List (LKey × Addr)} (hh : A.handled = none) (hS : SetAt prog w s.heap S src (!w.params.followText "set-order")) :
    Coll prog w A S s (fun _ => True) fun vs => ∃ l : List (LKey × Addr), vs = l.map (fun i => .ref i.2) ∧ (l.map (·.1)).Nodup ∧ (∀ i ∈ l, i ∈ src) ∧ (∀ i ∈ src, ∃ j ∈ l, j.1 = i.1) := by
  obtain ⟨items, ep, t, ho, hT, hled, hnd, hin, hall⟩ := hS
  intro E Q h
  unfold collect
  refine wpAny_bind (wpAny_runValue (set_code hT hh ho hled fun h' tk d acc' c' l hl hk hS' hacc => ?_))
  show wpAny _ A (load s.heap.objs.size >>= _) _ _ _
  refine wpAny_bind (wpAny_load hS' ?_)
  refine wpAny_pure (h h' tk d acc'.toList hk trivial ⟨l, ?_, (hl.map (·.1)).nodup_iff.mpr hnd, fun i hi => hin i (hl.mem_iff.mp hi), fun i hi => ?_⟩)
  · apply List.ext_getElem?
    intro j
    rw [Array.getElem?_toList, List.getElem?_map]
    by_cases hj : j < acc'.size
    · obtain ⟨e, he, hv⟩ := hacc.2 j acc'[j] (by simp [hj])
      rw [he, Array.getElem?_eq_getElem hj, hv]
      rfl
    · have := hacc.1
      rw [Array.getElem?_eq_none (by lia), List.getElem?_eq_none (by lia)]
      rfl
  · obtain ⟨j, hj, e⟩ := hall i hi
    exact ⟨j, hl.mem_iff.mpr hj, e⟩
end
end
section
def srcOf (x : Int) (hs : List LItem) : List (LKey × Addr) := hs.map fun i => (litKey x i.1, i.2)
theorem perm_same {α : Type} : ∀ {l1 l2 : List α}, l1.Nodup → l2.Nodup → (∀ a, a ∈ l1 ↔ a ∈ l2) → l1.Perm l2
  | [], [], _, _, _ => List.Perm.refl _
  | [], b :: l2, _, _, h => absurd ((h b).mpr (.head _)) (by simp)
  | a :: l1, l2, h1, h2, h => by
    rw [List.nodup_cons] at h1
    obtain ⟨p, q, rfl⟩ := List.append_of_mem ((h a).mp (.head _))
    have hp := List.perm_middle (a := a) (l₁ := p) (l₂ := q)
    have h2' := hp.nodup_iff.mp h2
    rw [List.nodup_cons] at h2'
    refine (List.Perm.cons a (perm_same h1.2 h2'.2 fun b => ?_)).trans hp.symm
    constructor
    · intro hb
      have := hp.mem_iff.mp ((h b).mp (.tail _ hb))
      rcases List.mem_cons.mp this with rfl | h'
      · exact absurd hb h1.1
      · exact h'
    · intro hb
      have := (h b).mpr (hp.mem_iff.mpr (.tail _ hb))
      rcases List.mem_cons.mp this with rfl | h'
      · exact absurd hb h2'.1
      · exact h'
theorem nodup_of_map {α β : Type} {f : α → β} : ∀ {l : List α}, (l.map f).Nodup → l.Nodup
  | [], _ => List.nodup_nil
  | a :: l, h => by
    rw [List.map_cons, List.nodup_cons] at h
    exact List.nodup_cons.mpr ⟨fun hm => h.1 (List.mem_map.mpr ⟨a, hm, rfl⟩), nodup_of_map h.2⟩
theorem nodup_map_inj {α β γ : Type} {f : α → β} {g : β → γ} : ∀ {l : List α}, (l.map fun a => g (f a)).Nodup → (l.map f).Nodup
  | [], _ => List.nodup_nil
  | a :: l, h => by
    rw [List.map_cons, List.nodup_cons] at h ⊢
    refine ⟨fun hm => ?_, nodup_map_inj h.2⟩
    obtain ⟨b, hb, e⟩ := List.mem_map.mp hm
    exact h.1 (List.mem_map.mpr ⟨b, hb, by rw [e]⟩)
theorem same_of_key {its : List LItem} (hn : (its.map (·.1)).Nodup) {i j : LItem} (hi : i ∈ its) (hj : j ∈ its) (e : i.1 = j.1) : i = j := by
  induction its with
  | nil => simp at hi
  | cons a its ih =>
    rw [List.map_cons, List.nodup_cons] at hn
    rcases List.mem_cons.mp hi with e1 | hi'
    · rcases List.mem_cons.mp hj with e2 | hj'
      · rw [e1, e2]
      · exact absurd (show a.1 ∈ its.map (·.1) from List.mem_map.mpr ⟨j, hj', by rw [← e, e1]⟩) hn.1
    · rcases List.mem_cons.mp hj with e2 | hj'
      · exact absurd (show a.1 ∈ its.map (·.1) from List.mem_map.mpr ⟨i, hi', by rw [e, e2]⟩) hn.1
      · exact ih hn.2 hi' hj'
theorem decode {x : Int} {hs its : List LItem} (h1 : ∀ i ∈ hs, i ∈ its) (h2 : ∀ i ∈ its, i ∈ hs) (hn : (its.map (·.1)).Nodup) {l : List (LKey × Addr)} (hl : (l.map (·.1)).Nodup) (hs1 : ∀ i ∈ l, i ∈ srcOf x hs) (hs2 : ∀ i ∈ srcOf x hs, ∃ j ∈ l, j.1 = i.1) :
    ∃ ls : List LItem, (l.map fun i => Value.ref i.2) = refsOf ls ∧ ls.Perm its := by
  obtain ⟨ls, e, hm⟩ : ∃ ls : List LItem, l = srcOf x ls ∧ ∀ i ∈ ls, i ∈ hs := by
    clear hl hs2
    induction l with
    | nil => exact ⟨[], rfl, fun i hi => by simp at hi⟩
    | cons a l ih =>
      obtain ⟨ls, e, hm⟩ := ih fun i hi => hs1 i (.tail _ hi)
      obtain ⟨i, hi, rfl⟩ := List.mem_map.mp (hs1 a (.head _))
      exact ⟨i :: ls, by rw [e]; rfl, fun j hj => by
        rcases List.mem_cons.mp hj with rfl | hj
        · exact hi
        · exact hm j hj⟩
  subst e
  have hk : (ls.map (·.1)).Nodup := by
    unfold srcOf at hl
    rw [List.map_map] at hl
    exact nodup_map_inj (g := litKey x) hl
  refine ⟨ls, by unfold srcOf; rw [List.map_map]; rfl, perm_same (nodup_of_map hk) (nodup_of_map hn) fun i => ⟨fun hi => h1 i (hm i hi), fun hi => ?_⟩⟩
  obtain ⟨j, hj, e⟩ := hs2 (litKey x i.1, i.2) (List.mem_map.mpr ⟨i, h2 i hi, rfl⟩)
  obtain ⟨q, hq, rfl⟩ := List.mem_map.mp hj
  have : q.1 = i.1 := litKey_inj e
  rw [← same_of_key hn (h1 q (hm q hq)) hi this]
  exact hq
theorem keys_src {prog : Program} {w : World} {h₀ h : Heap} {L : Addr} {news : List (Addr × Obj)} {x : Int} {hs : List LItem} (N : News h₀ L h news) (hl : LitsIn news x hs) : KeysAt prog w h (srcOf x hs) := fun i hi => by
  obtain ⟨j, hj, rfl⟩ := List.mem_map.mp hi
  exact litIn_key N (hl j hj)
end
theorem words_W7_1 : True := by
  k_with "eval DictComp" => (((k_here; k_dflt (refine' dict_comp_lits (by rfl) ?c2_q ?c3_q ?c4_q ?c5_q ?c6_q ?c7_q ?c8_q ?c1_q ?_ ?c9_q; (case c1_q => k_asm); (case c2_q => first | ktr_units | (simp only [ktrTop, Around.in1]; omega)); (case c3_q => with_unfolding_all rfl); (case c4_q => decide); (case c5_q => rfl); (case c6_q => decide); (case c7_q => rfl); (case c8_q => decide); (case c9_q => (intro _; with_unfolding_all rfl))))))
  trivial
section
theorem LitsIn.mono {news news' : List (Addr × Obj)} {x : Int} {its : List LItem} (h : LitsIn news x its) (s : ∀ p ∈ news, p ∈ news') : LitsIn news' x its := fun i hi => (h i hi).mono s
theorem once_each_does (w : World) (rest : List (Addr × Obj)) (l : Addr) (n : Nat) (x : Int) (hs its : List LItem) (hl : (l, listOf (refsOf hs).toArray n) ∈ rest) (hz : hs.length ≤ 1000) (hi : LitsIn rest x its) (hA : ∀ i ∈ hs, i ∈ its) (hB : ∀ i ∈ its, i ∈ hs) (hn : (its.map (·.1)).Nodup) (h5 : its.length ≤ 5) :
    Does w 120 rest [.ref l] 2 200 (fun r news' => Ex4 fun a tl out k => r = .ref a ∧ news' = tl ++ rest ∧ (a, tupO (refsOf out) k) ∈ tl ++ rest ∧ out.Perm its ∧ out.Pairwise (fun a b => litLt a.1 b.1 = true)) := by
  k_extra "m_enter"
  k_steps
  refine ⟨l, _, n, _, srcOf x hs, rfl, by assumption, by assumption, hl, ?_, ?_, ?_, ?_⟩
  · unfold srcOf; rw [List.map_map]; rfl
  · unfold srcOf; rw [List.length_map]; exact hz
  · exact keys_src (by assumption) fun i hi' => hi i (hA i hi')
  · intro D od xs h' tk' F' N' lt' hlo hlit hsub hcov hk hxl
    k_steps
    have hD := hlit.toH (N' _ (.head _)).1 (keys_src (drop_h N') (fun i hi' => hi i (hA i hi'))) hsub
    refine sorted_lits (Dr := (· = s.drawn)) (x := x) (its := its) F' N' (hi.mono fun p hp => .tail _ hp) hn h5 (fun E Q hq => coll_dict hlo rfl hD hxl E Q fun h2 tk2 d vs hk2 hd hv => hq h2 tk2 d vs hk2 hd ?_) ?_
    · have hnd : (xs.map (·.1)).Nodup := by obtain ⟨_, _, _, _, _, h⟩ := hlit; exact h
      obtain ⟨ls, e, hp⟩ := decode (x := x) hA hB hn (l := xs.map fun y => (y.1, y.2.1)) (by rw [List.map_map]; exact hnd) (fun i hi' => by obtain ⟨y, hy, rfl⟩ := List.mem_map.mp hi'; exact hsub y hy)
        (fun i hi' => by obtain ⟨y, hy, e⟩ := hcov i hi'; exact ⟨_, List.mem_map.mpr ⟨y, hy, rfl⟩, e⟩)
      exact ⟨ls, by rw [hv, ← e, List.map_map]; rfl, hp⟩
    · intro D2 out c h2 tk2 d hd o1 o2 F2 N2 lt2
      subst hd
      have hol : (refsOf out).length ≤ 5 := by have := o1.length_eq; simp; lia
      k_steps
      refine hret _ ((_, tupO (refsOf out) 0) :: rest) _ _ ⟨_, [_], out, 0, rfl, rfl, .head _, o1, o2⟩ (by assumption) (fun p hp => ?_)
      rename News h₀ _ _ _ => kN
      rcases List.mem_cons.mp hp with rfl | hp
      · exact kN _ (.head _)
      · exact kN _ (.tail _ (.tail _ (.tail _ hp)))
end
section
theorem setL_some {v : Value} : ∀ {l : List Value} {k : Nat}, k < l.length → ki_setL l k v = some (l.set k v)
  | a :: l, 0, _ => rfl
  | a :: l, k + 1, h => by
    have := setL_some (v := v) (l := l) (k := k) (Nat.lt_of_succ_lt_succ h)
    simp [ki_setL, this]
theorem pairs_setLast {news : List (Addr × Obj)} {p : Int × Int} {b : Addr} {t1 t2 : Tok} {n : Nat} (hb : (b, tupO [.int p.1 t1, .int p.2 t2] n) ∈ news) : ∀ {vs : List Value} {ps : List (Int × Int)}, PairsIn news vs ps → ps ≠ [] → PairsIn news (vs.set (vs.length - 1) (.ref b)) (ps.dropLast ++ [p])
  | [], [], _, h => absurd rfl h
  | [], _ :: _, x, _ => x.elim
  | _ :: _, [], x, _ => x.elim
  | v :: [], q :: [], _, _ => ⟨⟨b, t1, t2, n, rfl, hb⟩, trivial⟩
  | v :: [], q :: r :: _, ⟨_, x⟩, _ => x.elim
  | v :: u :: vs, q :: [], ⟨_, x⟩, _ => x.elim
  | v :: u :: vs, q :: r :: ps, ⟨h, x⟩, _ => by
    have := pairs_setLast hb x (by simp)
    exact ⟨h, by simpa using this⟩
theorem set_last {prog : Program} {w : World} {A : Around} {E : Value → Shared → Prop} {s : Shared} {h₀ : Heap} {L f : Addr} {m : Str → Option Value} {p : Addr × Obj} {rest : List (Addr × Obj)} {vs : List Value} {n : Nat} {t : Tok} {v : Value} {Q : Unit → Shared → Prop}
    (F : Fr h₀ L s.heap m) (N : News h₀ L s.heap (p :: (f, listOf vs.toArray n) :: rest)) (h1 : p.1 ≠ f) (h2 : ∀ q ∈ rest, q.1 ≠ f) (h0 : 0 < vs.length)
    (h : ∀ h', Fr h₀ L h' m → News h₀ L h' (p :: (f, listOf (vs.set (vs.length - 1) v).toArray n) :: rest) → Q () { s with heap := h' }) : wpAny (model prog w) A (setItem (.ref f) (.int (-1) t) v) Q E s := by
  have U : Upd f (listOf vs.toArray n) (listOf (vs.set (vs.length - 1) v).toArray n) (p :: (f, listOf vs.toArray n) :: rest) (p :: (f, listOf (vs.set (vs.length - 1) v).toArray n) :: rest) := Upd.tail h1 (Upd.head h2)
  refine ki_setNeg (j := vs.length - 1) F N (by decide) (by decide) ?_ (setL_some (by simp; lia)) U h
  have := seqIdx_neg (k := -1) (l := vs.length) (by decide) (by lia)
  rw [List.size_toArray, this]
  congr 1; lia
def putBehind (ps : List (Int × Int)) (lo hi : Int) : List (Int × Int) :=
  if ps = [] then [(lo, hi)]
  else if lo ≤ (ps.getLastD (0, 0)).2 + 1 then (if hi > (ps.getLastD (0, 0)).2 then ps.dropLast ++ [((ps.getLastD (0, 0)).1, hi)] else ps)
  else ps ++ [(lo, hi)]
theorem put_behind_does (w : World) (rest bs : List (Addr × Obj)) (f : Addr) (vs : List Value) (ps : List (Int × Int)) (n : Nat) (lo hi : Int) (t1 t2 : Tok) (hp : PairsIn bs vs ps) (hbs : ∀ p ∈ bs, p ∈ rest) (hz : ps.length ≤ 100) (hf : ∀ p ∈ rest, p.1 ≠ f) :
    Does w 28 ((f, listOf vs.toArray n) :: rest) [.ref f, .int lo t1, .int hi t2] 1 16 (fun r news' => r = .none ∧ Ex3 fun tl vs' n' => news' = tl ++ (f, listOf vs'.toArray n') :: rest ∧ PairsIn (tl ++ bs) vs' (putBehind ps lo hi) ∧ (∀ p ∈ tl, f < p.1 ∧ ∀ q ∈ rest, q.1 < p.1)) := by
  have hlen := hp.length
  by_cases he : ps = []
  · subst he
    have hv : vs = [] := List.length_eq_zero_iff.mp hlen
    subst hv
    k_extra "m_enter"
    k_steps
    rename News h₀ _ _ _ => kN
    refine hret _ _ _ _ ⟨rfl, [_], [_], n + 1, rfl, ?_, ?_⟩ (by assumption) kN
    · exact ⟨⟨_, t1, t2, 0, rfl, .head _⟩, trivial⟩
    · intro p hp
      rw [List.mem_singleton.mp hp]
      rename (f < _ ∧ _) => l1
      exact ⟨l1.1, fun q hq => ktn_ltOf l1.2 q hq⟩
  · have g1 : 0 < ps.length := List.length_pos_iff.mpr he
    obtain ⟨b, u1, u2, nb, e1, hb⟩ := hp.last he
    replace hb := hbs _ hb
    have g2 : 0 ≤ (-1 : Int) + (vs.length : Nat) := by lia
    have g3 : vs[((-1 : Int) + (vs.length : Nat)).toNat]? = some (.ref b) := by rw [← e1]; congr 1; lia
    k_extra "m_enter"
    k_steps
    · rename News g1 L1 _ (_ :: _ :: rest) => N9
      refine set_last (by assumption) N9 ?_ hf (by lia) ?_
      · rename (f < _ ∧ _) => l1
        exact Ne.symm (Nat.ne_of_lt l1.1)
      · intro h3 F3 N3
        k_steps
        rename News h₀ _ _ _ => kN
        refine hret _ _ _ _ ⟨rfl, [_], _, n, rfl, ?_, ?_⟩ (by assumption) kN
        · unfold putBehind
          rename (lo ≤ _) => c1
          rename (_ < hi) => c2
          rw [if_neg he, if_pos c1, if_pos c2]
          exact pairs_setLast (t1 := u1) (t2 := t2) (n := 0) (p := ((ps.getLastD (0, 0)).1, hi)) (.head _) (hp.mono fun p hp => .tail _ hp) he
        · intro p hp
          rw [List.mem_singleton.mp hp]
          rename (f < _ ∧ _) => l1
          exact ⟨l1.1, fun q hq => ktn_ltOf l1.2 q hq⟩
    · rename News h₀ _ _ _ => kN
      refine hret _ _ _ _ ⟨rfl, [], _, n, rfl, ?_, ?_⟩ (by assumption) kN
      · unfold putBehind
        rename (lo ≤ _) => c1
        rename (¬ _ < hi) => c2
        rw [if_neg he, if_pos c1, if_neg c2]
        exact hp
      · intro p hp; simp at hp
    · rename News h₀ _ _ _ => kN
      simp only [List.push_toArray] at kN
      refine hret _ _ _ _ ⟨rfl, [_], _, n + 1, rfl, ?_, ?_⟩ (by assumption) kN
      · unfold putBehind
        rename (¬ lo ≤ _) => c1
        rw [if_neg he, if_neg c1]
        exact (hp.mono fun p hp => .tail _ hp).snoc (p := (lo, hi)) (t1 := t1) (t2 := t2) (n := 0) (.head _)
      · intro p hp
        rw [List.mem_singleton.mp hp]
        rename (f < _ ∧ _) => l1
        exact ⟨l1.1, fun q hq => ktn_ltOf l1.2 q hq⟩
end
theorem words_W9_1 : True := by
  k_with "exec For Name cons nil" => (((k_here; (rename Fr _ _ _ _ => lF'_w); (with_unfolding_all refine' For_turns lF'_w ?_; k_whole))); (try revert lF'_w); intros)
  k_with "exec For Name Call cons nil" => (((k_here; (rename Fr _ _ _ _ => lF'_w); (with_unfolding_all refine' For_turns lF'_w ?_; k_whole))); (try revert lF'_w); intros)
  k_with "call ref" => (((k_here; k_dflt (refine' Does.useP (put_behind_does _ _ _ _ _ _ _ _ _ _ _ ?q1_q ?q2_q ?q3_q ?q4_q) ?k1_q ?k2_q ?k3_q ?k4_q ?k5_q ?k6_q ?k7_q ?k8_q ?_; (case k1_q => k_asm); (case k2_q => k_asm); (case k3_q => k_asm); (case k4_q => k_asm); (case k5_q => k_asm); (case k6_q => first | exact rfl | assumption); (case q1_q => assumption); (case q2_q => assumption); (case q3_q => omega); (case q4_q => assumption); (case k7_q => ktr_room); (case k8_q => ktr_units)); intro h9_w tk9_w F9_w tl9_w vs9_w n9_w p9_w N9_w; (obtain ⟨p9_w, q9_w⟩ := p9_w))); (try revert q9_w); (try revert N9_w); (try revert p9_w); (try revert n9_w); (try revert vs9_w); (try revert tl9_w); (try revert F9_w); (try revert tk9_w); (try revert h9_w); intros)
  trivial
section
theorem sorted_unique : ∀ {l1 l2 : List Int}, l1.Perm l2 → l1.Pairwise (· ≤ ·) → l2.Pairwise (· ≤ ·) → l1 = l2
  | [], l2, h, _, _ => (List.Perm.nil_eq h)
  | a :: l1, [], h, _, _ => absurd h.length_eq (by simp)
  | a :: l1, b :: l2, h, h1, h2 => by
    rw [List.pairwise_cons] at h1 h2
    have e : a = b := by
      have ha : a ∈ b :: l2 := h.mem_iff.mp (.head _)
      have hb : b ∈ a :: l1 := h.mem_iff.mpr (.head _)
      rcases List.mem_cons.mp ha with e | ha
      · exact e
      · rcases List.mem_cons.mp hb with e | hb
        · exact e.symm
        · exact Int.le_antisymm (h1.1 b hb) (h2.1 a ha)
    subst e
    rw [sorted_unique (List.Perm.cons_inv h) h1.2 h2.2]
def ofVals (ns : List Int) : List (Int × Int) := ns.foldl (fun ps v => putBehind ps v v) []
theorem putBehind_len (ps : List (Int × Int)) (lo hi : Int) : (putBehind ps lo hi).length ≤ ps.length + 1 := by
  unfold putBehind
  split
  · simp
  · split
    · split
      · rw [List.length_append, List.length_dropLast, List.length_singleton]; lia
      · lia
    · simp
theorem ofVals_snoc (ns : List Int) (v : Int) : ofVals (ns ++ [v]) = putBehind (ofVals ns) v v := by unfold ofVals; rw [List.foldl_append]; rfl
theorem ofVals_len : ∀ (k : Nat) (ns : List Int), ns.length = k → (ofVals ns).length ≤ k
  | 0, ns, h => by
    have : ns = [] := List.length_eq_zero_iff.mp h
    subst this
    exact Nat.le_refl _
  | k + 1, ns, h => by
    have hne : ns ≠ [] := by rintro rfl; simp at h
    have e : ns.dropLast ++ [ns.getLast hne] = ns := List.dropLast_concat_getLast hne
    rw [← e, ofVals_snoc]
    have := ofVals_len k ns.dropLast (by rw [List.length_dropLast]; lia)
    have := putBehind_len (ofVals ns.dropLast) (ns.getLast hne) (ns.getLast hne)
    lia
theorem from_values_does (w : World) (rest : List (Addr × Obj)) (l : Addr) (n : Nat) (vs : List Value) (ns : List Int) (hl : (l, listOf vs.toArray n) ∈ rest) (hi : IntsAre vs ns) (hz : ns.length ≤ 20) (hs : ns.Pairwise (· ≤ ·)) :
    Does w 35 rest [.ref l] 2 40 (fun r news' => ∃ a tl, r = .ref a ∧ news' = tl ++ rest ∧ DomIn (tl ++ rest) a (ofVals ns)) := by
  k_extra "m_enter"
  replace F1 : Fr g1 L1 h1 (fun y => List.lookup y [(Str.ofString "numbers", Value.ref l)]) := F1
  k_steps
  refine kso_sorted (by assumption) (by assumption) (isList_of (by assumption) (.tail _ hl)) hi (by lia) fun D vs2 ns2 c h2 F2 N2 lt2 hi2 hl2 hp2 hs2 _ => ?_
  have e2 : ns2 = ns := sorted_unique hp2 hs2 hs
  subst e2
  rename News g1 _ h2 _ => N3
  rename ∀ (p : Addr × Obj), p ∈ rest → p.1 < _ => lt1
  k_steps
  rename_i f ha hb Fa Na xa
  have N4 : News g1 L1 h2 ((f, listOf (List.toArray []) 0) :: (D, listOf vs2.toArray c) :: rest) := fun p hp => N3 p (by
    simp only [List.mem_cons] at hp ⊢
    rcases hp with h | h | h <;> simp [h])
  have hDf : D ≠ f := Ne.symm (Nat.ne_of_lt (lt2 _ (.head _)))
  have hrf : ∀ p ∈ rest, p.1 ≠ f := fun p hp => Nat.ne_of_lt (lt1 p hp)
  refine iter_listTurns (by rfl) (by assumption) N4 (.tail _ (.head _)) rfl rfl (fun I hI => ?_)
  refine items_ind (fun rem m news => (∀ z, ([Str.ofString "v"] : List Str).contains z = false → m z = (fun y => if y = Str.ofString "found" then some (Value.ref f) else List.lookup y [(Str.ofString "numbers", Value.ref l)]) z) ∧
    Ex5 fun tl vs' n' dn lf => news = tl ++ (f, listOf vs'.toArray n') :: (D, listOf vs2.toArray c) :: rest ∧ PairsIn (tl ++ (D, listOf vs2.toArray c) :: rest) vs' (ofVals dn) ∧ IntsAre rem lf ∧ dn ++ lf = ns2 ∧ (∀ p ∈ tl, p.1 ≠ f) ∧ (∀ p ∈ tl, p.1 ≠ I)) ?_ ?_ _ _ _ ?_
  · intro m news x1_i
    obtain ⟨hm, tl, vs', n', dn, lf, rfl, hp', hlf, hdn, hf', hI'⟩ := x1_i
    refine ItemsRest.zero (fun h tk F N => ?_)
    have F5 := forget _ F hm
    clear F
    dsimp only
    have hlv := hp'.length
    have hlo := ofVals_len dn.length dn rfl
    have hld : dn.length ≤ 20 := by have := congrArg List.length hdn; rw [List.length_append] at this; lia
    k_steps
    rename News h₀ _ _ _ => kN
    have hdl : dn = ns2 := by
      cases hlf
      rw [List.append_nil] at hdn
      exact hdn
    subst hdl
    refine hret _ _ _ _ ⟨_, (_, tupO vs' 0) :: (tl ++ [(f, listOf vs'.toArray n'), (D, listOf vs2.toArray c)]), rfl, rfl, vs', 0, .head _, hp'.mono fun p hp => ?_⟩ (by assumption) (fun p hp => kN p ?_)
    · simp only [List.mem_append, List.mem_cons, List.cons_append, List.append_assoc, List.nil_append] at hp ⊢
      rcases hp with h | h | h <;> simp [h]
    · simp only [List.mem_append, List.mem_cons, List.cons_append, List.append_assoc, List.nil_append] at hp ⊢
      exact hp
  · intro v rem m news x1_i
    obtain ⟨hm, tl, vs', n', dn, lf, rfl, hp', hlf, hdn, hf', hI'⟩ := x1_i
    intro IH
    refine ItemsRest.val (fun h tk F => ?_)
    refine AllObj.cons (fun o' hc' => ?_)
    refine AllObj.nil (fun N' => ?_)
    have F5 := forget _ F hm
    clear F
    simp only [List.cons_append, List.nil_append] at N'
    cases hlf with
    | cons v0 tv hlf' =>
      have N6 : News _ _ _ ((f, listOf vs'.toArray n') :: (I, o') :: (tl ++ (D, listOf vs2.toArray c) :: rest)) := fun p hp => N' p (by
        simp only [List.mem_append, List.mem_cons] at hp ⊢
        rcases hp with h | h | h | h | h <;> simp [h])
      clear N'
      have hbs6 : ∀ p ∈ tl ++ (D, listOf vs2.toArray c) :: rest, p ∈ (I, o') :: (tl ++ (D, listOf vs2.toArray c) :: rest) := fun p hp => .tail _ hp
      have hlo := ofVals_len dn.length dn rfl
      have hld : dn.length ≤ 20 := by have := congrArg List.length hdn; rw [List.length_append] at this; lia
      have hf6 : ∀ p ∈ (I, o') :: (tl ++ (D, listOf vs2.toArray c) :: rest), p.1 ≠ f := fun p hp => by
        rcases List.mem_cons.mp hp with rfl | hp
        · exact Ne.symm (Nat.ne_of_lt (hI _ (.head _)))
        · rcases List.mem_append.mp hp with hp | hp
          · exact hf' p hp
          · rcases List.mem_cons.mp hp with rfl | hp
            · exact hDf
            · exact hrf p hp
      k_steps
      rename News g1 _ _ _ => N9
      rename PairsIn _ _ (putBehind _ _ _) => p9
      rename ∀ (p : Addr × Obj), p ∈ _ → f < p.1 ∧ _ => q9
      rename List (Addr × Obj) => tl9
      rename List Value => vs9
      rename Nat => n9
      have hIn : ∀ p ∈ tl9, p.1 ≠ I := fun p hp => Ne.symm (Nat.ne_of_lt ((q9 p hp).2 (I, o') (.head _)))
      refine turn_end (news' := (tl9 ++ tl) ++ (f, listOf vs9.toArray n9) :: (D, listOf vs2.toArray c) :: rest) (by assumption) N9 (List.mem_append_right _ (.tail _ (.head _))) (fun p hp => ?_) (fun p hp => ?_) ⟨⟨List.mem_append_right _ (.tail _ (.head _)), trivial⟩, IH _ _ ⟨?_, tl9 ++ tl, vs9, n9, dn ++ [v0], _, rfl, ?_, hlf', ?_, fun p hp => ?_, fun p hp => ?_⟩⟩
      · simp only [List.mem_append, List.mem_cons] at hp ⊢
        rcases hp with (h | h) | h | h | h <;> simp [h]
      · rcases List.mem_append.mp hp with hp | hp
        · rcases List.mem_append.mp hp with hp | hp
          · exact hIn p hp
          · exact hI' p hp
        · rcases List.mem_cons.mp hp with rfl | hp
          · exact Nat.ne_of_lt (show f < I from hI (f, listOf (List.toArray []) 0) (.head _))
          · exact Nat.ne_of_lt (hI _ (.tail _ hp))
      · k_extra "m_agree"
      · rw [ofVals_snoc]
        rw [List.append_assoc]
        exact p9
      · rw [← hdn]; simp
      · rcases List.mem_append.mp hp with hp | hp
        · exact Ne.symm (Nat.ne_of_lt (q9 p hp).1)
        · exact hf' p hp
      · rcases List.mem_append.mp hp with hp | hp
        · exact hIn p hp
        · exact hI' p hp
  · exact ⟨fun _ _ => rfl, [], [], 0, [], ns2, rfl, trivial, hi2, rfl, fun p hp => by simp at hp, fun p hp => by simp at hp⟩
end
theorem words_W10_1 : True := by
  k_with "subscriptTail" => (((k_here; (with_reducible show wpAny _ _ (subscriptTail _ _ (Value.ref _) (Value.str _ _)) _ _ _); k_dflt (refine' kda_item (knd := PySem.strKind _ _) ?k1_q ?k2_q ?k3_q (strKind_is _ _ _ _) (by rfl) ?_; (case k1_q => k_asm); (case k2_q => k_memK); (case k3_q => assumption)))))
  k_with "setItem ref str" => (((k_here; k_dflt (refine' kda_set (knd := PySem.strKind _ _) ?F_q ?N_q ?U_q ?d_q (strKind_is _ _ _ _) ?z_q ?_; (case F_q => k_asm); (case N_q => k_asm); (case U_q => first | k_updF | exact UpdF.head (by assumption)); (case d_q => assumption); (case z_q => rw [sizeLine_eq]; exact Nat.le_of_ble_eq_true (by with_unfolding_all rfl))); intro h'_w o'_w F'_w N'_w hd'_w; (try dsimp only at N'_w))); (try revert hd'_w); (try revert N'_w); (try revert F'_w); (try revert o'_w); (try revert h'_w); intros)
  trivial
section
theorem draw_does (w : World) (rest : List (Addr × Obj)) (fd cs : Addr) (o : Obj) (tk : Tok) (k : Int) (nc : Nat) (cvs : List Value) (cells : List Int) (many : Int) (tm : Tok) (ho : o.IsDictOf (PySem.strKind PySem.Challenge.rw_nz0015_01.row.prog w) [(Str.ofString "cells", .ref cs), (Str.ofString "at", .int k tk)])
    (hc : (cs, listOf cvs.toArray nc) ∈ rest) (hci : IntsAre cvs cells) (hcl : cells.length ≤ 1000) (hk0 : 0 ≤ k) (hk1 : k < 100000) (hm : 0 < many) (hm1 : many < 100) (hf : ∀ p ∈ rest, p.1 ≠ fd) :
    Does w 281 ((fd, o) :: rest) [.ref fd, .int many tm] 1 16 (fun r news' => Ex4 fun v t tk' o' => r = .int v t ∧ 0 ≤ v ∧ v < many ∧ news' = (fd, o') :: rest ∧ o'.IsDictOf (PySem.strKind PySem.Challenge.rw_nz0015_01.row.prog w) [(Str.ofString "cells", .ref cs), (Str.ofString "at", .int (k + 1) tk')]) := by
  have hcv := hci.length
  by_cases hlt : k < (cells.length : Int)
  · obtain ⟨c, hcg⟩ : ∃ c, cells[k.toNat]? = some c := ⟨_, List.getElem?_eq_getElem (by lia)⟩
    obtain ⟨tc, hcg2⟩ := hci.get k.toNat c hcg
    k_extra "m_enter"
    k_steps
    rename News h₀ _ _ _ => kN
    rename Obj.IsDictOf _ _ (stored _ _ _) => hd9
    refine hret _ ((fd, _) :: rest) _ _ ⟨_, _, _, _, rfl, Int.fmod_nonneg_of_pos _ hm, Int.fmod_lt_of_pos _ hm, rfl, hd9⟩ (by assumption) (drop_h kN)
  · k_extra "m_enter"
    k_steps
    rename News h₀ _ _ _ => kN
    rename Obj.IsDictOf _ _ (stored _ _ _) => hd9
    refine hret _ ((fd, _) :: rest) _ _ ⟨_, _, _, _, rfl, Int.fmod_nonneg_of_pos _ hm, Int.fmod_lt_of_pos _ hm, rfl, hd9⟩ (by assumption) (drop_h kN)
end
theorem words_W11_1 : True := by
  k_with "call ref" => (((k_here; k_dflt (refine' Does.useD (draw_does _ _ _ _ _ _ _ _ _ _ _ _ ?q1_q ?q2_q ?q3_q ?q4_q ?q5_q ?q6_q ?q7_q ?q8_q ?q9_q) ?k1_q ?k2_q ?k3_q ?k4_q ?k5_q ?k6_q ?k7_q ?k8_q ?_; (case k1_q => k_asm); (case k2_q => k_asm); (case k3_q => k_asm); (case k4_q => k_asm); (case k5_q => k_asm); (case k6_q => first | exact rfl | assumption); (case q1_q => assumption); (case q2_q => k_memK); (case q3_q => assumption); (case q4_q => omega); (case q5_q => omega); (case q6_q => omega); (case q7_q => omega); (case q8_q => omega); (case q9_q => assumption); (case k7_q => ktr_room); (case k8_q => ktr_units)); intro h9_w tk9_w F9_w v9_w t9_w tk10_w o9_w p9_w N9_w w9_w x9_w)); (try revert x9_w); (try revert w9_w); (try revert N9_w); (try revert p9_w); (try revert o9_w); (try revert tk10_w); (try revert t9_w); (try revert v9_w); (try revert F9_w); (try revert tk9_w); (try revert h9_w); intros)
  trivial
section
theorem off1_ne {D : Addr} : ∀ {l : List (Addr × Obj)}, LCg.Off1 D l → ∀ p ∈ l, p.1 ≠ D
  | [], _, p, hp => by simp at hp
  | q :: l, h, p, hp => by
    rcases List.mem_cons.mp hp with rfl | hp
    · exact h.1
    · exact off1_ne h.2 p hp
theorem six_at : ∀ i : Nat, i < 6 → ([0, 1, 2, 3, 4, 5] : List Int)[i]? = some (0 + (i : Int)) := by decide
theorem drawn_does (w : World) (rest : List (Addr × Obj)) (fd ca : Addr) (o : Obj) (tk : Tok) (k : Int) (nc : Nat) (cvs : List Value) (cells : List Int) (ho : o.IsDictOf (PySem.strKind PySem.Challenge.rw_nz0015_01.row.prog w) [(Str.ofString "cells", .ref ca), (Str.ofString "at", .int k tk)])
    (hc : (ca, listOf cvs.toArray nc) ∈ rest) (hci : IntsAre cvs cells) (hcl : cells.length ≤ 1000) (hk0 : 0 ≤ k) (hk1 : k < 90000) (hf : ∀ p ∈ rest, p.1 ≠ fd) :
    Does w 293 ((fd, o) :: rest) [.ref fd] 3 200 (fun r news' => Ex7 fun a vs c ns tk' k' o' => r = .ref a ∧ news' = (a, listOf vs.toArray c) :: (fd, o') :: rest ∧ IntsAre vs ns ∧ ns ≠ [] ∧ ns.Sublist [0, 1, 2, 3, 4, 5] ∧ k ≤ k' ∧ k' ≤ k + 6 ∧ o'.IsDictOf (PySem.strKind PySem.Challenge.rw_nz0015_01.row.prog w) [(Str.ofString "cells", .ref ca), (Str.ofString "at", .int k' tk')] ∧ (∀ p ∈ (fd, o') :: rest, p.1 ≠ a)) := by
  k_extra "m_enterC"
  rename ∀ (p : Addr × Obj), p ∈ (fd, o) :: rest → p.1 < L1 => lt0
  rename_i oc dc
  replace dc : oc.data = Data.cell (some (Value.ref fd)) := dc
  replace F1 : Fr g1 L1 h1 (fun y => none) := F1
  k_steps
  rename IsRange _ _ _ _ _ _ _ _ => hr
  refine CompGo.range (n := 6) (by rfl) (by assumption) (by assumption) hr (by rfl) (by rfl) (by rw [sizeLine_eq]; decide)
    (fun i ys nw => Ex4 fun o' k' tk' ns => nw = (L1 + 1, oc) :: (fd, o') :: rest ∧ IntsAre ys ns ∧ ns.Sublist (([0, 1, 2, 3, 4, 5] : List Int).take i) ∧ k ≤ k' ∧ k' ≤ k + i ∧ o'.IsDictOf (PySem.strKind PySem.Challenge.rw_nz0015_01.row.prog w) [(Str.ofString "cells", .ref ca), (Str.ofString "at", .int k' tk')])
    ⟨o, k, tk, [], rfl, .nil, List.Sublist.refl _, Int.le_refl _, by lia, ho⟩ ?_ ?_
  · intro I C D i ys nw t oI oC m₂ h tk2 E' hIC hID hCD hi6 x1_i
    obtain ⟨o', k', tk', ns, rfl, hys, hsub, hk2, hk3, ho'⟩ := x1_i
    intro F2 N2 hC off
    refine comp_name F2 N2 hC hIC (off_C off hCD) (by rfl) (by rfl) (fun h2 tk3 oC2 F3 N3 hC2 => ?_)
    refine wpAny_tests_one ?_
    have N6 : News g1 L1 h2 ((fd, o') :: (I, oI) :: (C, oC2) :: (D, LCg.lst ys) :: (L1 + 1, oc) :: rest) := fun p hp => N3 p (by
      simp only [List.mem_cons] at hp ⊢
      rcases hp with h | h | h | h | h | h <;> simp [h])
    clear N3
    have hf6 : ∀ p ∈ (I, oI) :: (C, oC2) :: (D, LCg.lst ys) :: (L1 + 1, oc) :: rest, p.1 ≠ fd := fun p hp => by
      have q := (off3_ne off) (fd, o') (.tail _ (.head _))
      have q2 := lt0 _ (.head _)
      simp only [List.mem_cons] at hp
      rcases hp with rfl | rfl | rfl | rfl | hp
      · exact Ne.symm q.1
      · exact Ne.symm q.2.1
      · exact Ne.symm q.2.2
      · exact Ne.symm (Nat.ne_of_lt (Nat.lt_succ_of_lt q2))
      · exact hf p hp
    k_steps
    · rename News g1 _ _ ((fd, _) :: _) => N9
      rename Obj.IsDictOf _ _ _ => p9
      rename Obj => o9
      have off9 : LCg.Off3 I C D ((L1 + 1, oc) :: (fd, o9) :: rest) := off
      refine TurnOk.mk0 (by assumption) (fun p hp => N9 p (by
        simp only [List.mem_cons] at hp ⊢
        rcases hp with h | h | h | h | h | h <;> simp [h])) hC2 off9 ⟨o9, k' + 1, _, ns ++ [0 + (i : Int)], rfl, intsAre_snoc hys, ?_, by lia, by lia, p9⟩
      rw [take_snoc (six_at i hi6)]
      exact hsub.append (List.Sublist.refl _)
    · rename News g1 _ _ ((fd, _) :: _) => N9
      rename Obj.IsDictOf _ _ _ => p9
      rename Obj => o9
      have off9 : LCg.Off3 I C D ((L1 + 1, oc) :: (fd, o9) :: rest) := off
      refine TurnOk.mk0 (by assumption) (fun p hp => N9 p (by
        simp only [List.mem_cons] at hp ⊢
        rcases hp with h | h | h | h | h | h <;> simp [h])) hC2 off9 ⟨o9, k' + 1, _, ns, rfl, hys, ?_, by lia, by lia, p9⟩
      rw [take_snoc (six_at i hi6)]
      exact hsub.trans (List.sublist_append_left _ _)
  · intro D ys nw off x1_i
    obtain ⟨o', k', tk', ns, rfl, hys, hsub, hk2, hk3, ho'⟩ := x1_i
    intro h2 tk2 F2 N2
    k_steps
    · rename News h₀ _ _ _ => kN
      refine hret _ _ _ _ ⟨_, [.int 3 tk2], 0, [3], tk', k', o', rfl, rfl, .cons _ _ .nil, by simp, by decide, hk2, by lia, ho', fun p hp => ?_⟩ (by assumption) (fun p hp => kN p ?_)
      · rename (_ < _ ∧ D < _ ∧ _) => l9
        rcases List.mem_cons.mp hp with rfl | hp
        · exact Nat.ne_of_lt l9.2.2.2.1
        · exact Nat.ne_of_lt (ktn_ltOf l9.2.2.2.2 p hp)
      · simp only [List.mem_cons] at hp ⊢
        rcases hp with h | h | h <;> simp [h]
    · rename News h₀ _ _ _ => kN
      rename (decide (ns = []) = false) => c1
      refine hret _ _ _ _ ⟨_, ys, ys.length, ns, tk', k', o', rfl, rfl, hys, of_decide_eq_false c1, hsub, hk2, by lia, ho', fun p hp => ?_⟩ (by assumption) (fun p hp => kN p ?_)
      · exact off1_ne off p (.tail _ hp)
      · simp only [List.mem_cons] at hp ⊢
        rcases hp with h | h | h <;> simp [h]
end
section
open PyProof.Rows.LCg
section
variable {prog : Program} {w : World} {A : Around} {E : Value → Shared → Prop} {R : Result → Shared → Prop} {s : Shared}
variable {h₀ : Heap} {L : Addr} {m : Str → Option Value}
abbrev cellO : Obj := { cls := .type "cell", data := .cell none }
theorem newEnv_cell {scope : Scope} {cl : List (Str × Addr)} {env : Env} {x y z : Str} {k1 k3 : NameKind} (hn : scope.names = [(y, k1), (x, .cell), (z, k3)]) (h1 : (k1 == .cell) = false) (h3 : (k3 == .cell) = false) : NewEnvIs prog w A scope cl env (fun C => (x, C + 1) :: cl) (fun C => [(C + 1, cellO)]) := by
  intro s E Q h
  unfold newFunctionEnv
  rw [hn]
  simp only [Option.isSome_some, if_true]
  refine wpAny_bind (wpAny_alloc ?_)
  refine wpAny_bind (wpAny_layCells _ (fun name kind cells => by cases hkc : kind == NameKind.cell <;> simp [hkc]) _ _ _ _ ?_)
  have e1 : cellsFrom (s.heap.objs.size + 1) [(y, k1), (x, NameKind.cell), (z, k3)] cl = (x, s.heap.objs.size + 1) :: cl := by simp [cellsFrom, h1, h3]
  have e2 : ∀ h, pushCells h [(y, k1), (x, NameKind.cell), (z, k3)] = h.push cellO := fun h => by simp [pushCells, h1, h3]
  have e3 : ({ s with heap := s.heap.push { cls := .type "dict", data := .dict #[] } } : Shared).heap.objs.size = s.heap.objs.size + 1 := Heap.size_push ..
  rw [e3, e1, e2]
  rw [List.forIn_nil]
  refine wpAny_bind (wpAny_pure (wpAny_pure ?_))
  refine h _ ((Heap.Ns.new s.heap (.type "dict")).keeps fun b o e => Heap.get?_push_of_some _ e) (fun b o e => Heap.get?_push_of_some _ (Heap.get?_push_of_some _ e)) (fun p hp => ?_)
  rw [List.mem_singleton.mp hp]
  exact ⟨by rw [← e3]; exact Heap.get?_push_size _ rfl, Nat.lt_succ_self _⟩
theorem CompGoX.range {elt target : PySem.Expr} {ifs : List PySem.Expr} {scope : Scope} {cl2 : Addr → List (Str × Addr)} {extra : Addr → List (Addr × Obj)} {env : Env} {Fin : Shared → Addr → List Value → List (Addr × Obj) → Prop} {a : Addr} {n : Nat} {lo hi : Int} {t u t' : Tok} {news : List (Addr × Obj)} {s₁ : Shared}
    (hh : A.handled = none) (F : Fr h₀ L s₁.heap m) (N : News h₀ L s₁.heap news) (hr : IsRange s₁.heap a lo hi 1 t u t') (hsm : Builtin.Range.small lo hi 1 = true) (hn : Builtin.Range.rangeSize lo hi 1 = ((n : Nat) : Int)) (hsz : n ≤ sizeLine) (J : Addr → Nat → List Value → List (Addr × Obj) → Prop) (h0 : ∀ C, J C 0 [] (extra C ++ news))
    (turn : ∀ I C D i ys news t oI oC m₂ h tk d (E' : Value → Shared → Prop), I ≠ C → I ≠ D → C ≠ D → i < n → J C i ys news → Fr h₀ L h m → News h₀ L h ((I, oI) :: (C, oC) :: (D, lst ys) :: news) → NsObj oC m₂ → Off3 I C D news →
        wpAny (model prog w) A (assign target (compEnvC scope (cl2 C) C env) (.int (lo + (i : Int)) t)) (fun _ s₂ => wpAny (model prog w) A (tests ifs (compEnvC scope (cl2 C) C env)) (fun ok s₃ =>
          if ok = true then wpAny (model prog w) A (eval elt (compEnvC scope (cl2 C) C env)) (fun y => TurnOkX h₀ L m s₁ I oI C D (lst ys) (J C (i + 1) (ys ++ [y]))) E' s₃
          else TurnOkX h₀ L m s₁ I oI C D (lst ys) (J C (i + 1) ys) s₃) E' s₂) E' { s₁ with heap := h, toks := tk, drawn := d })
    (fin : ∀ C D ys news', Off1 D news' → J C n ys news' → Fin s₁ D ys news') : CompGoX prog w A h₀ L m env elt target ifs scope cl2 extra Fin (.ref a) s₁ :=
  CompGoD.mk a news n _ _ hh F N (.rng lo hi t u t' n hr hsm hn) trivial hsz fun I C D _ h1 h2 h3 _ _ => .mk (J C) (h0 C) (fun _ _ _ _ => trivial) (fun i ys news v oI oC m₂ h tk d E' hi hP hJ _ => by obtain ⟨t, rfl⟩ := hP; exact turn I C D i ys news t oI oC m₂ h tk d E' h1 h2 h3 hi hJ) (fin C D)
theorem TurnOkX.mk0 {s₁ : Shared} {I C D : Addr} {oI oC' oD : Obj} {rest : List (Addr × Obj) → Prop} {h' : Heap} {tk : Nat} {d : Drawn} {m' : Str → Option Value} {news : List (Addr × Obj)} (F : Fr h₀ L h' m) (N : News h₀ L h' ((I, oI) :: (C, oC') :: (D, oD) :: news)) (hC : NsObj oC' m')
    (off : Off3 I C D news) (r : rest news) : TurnOkX h₀ L m s₁ I oI C D oD rest { s₁ with heap := h', toks := tk, drawn := d } := TurnOkD.mk h' tk d news oC' m' trivial F N hC off r
end
end
section
theorem ne_of_cls {h₀ h : Heap} {L : Addr} {news : List (Addr × Obj)} (N : News h₀ L h news) {p q : Addr × Obj} (hp : p ∈ news) (hq : q ∈ news) (hc : p.2.cls ≠ q.2.cls) : p.1 ≠ q.1 := fun e => by
  have a := (N p hp).1
  have b := (N q hq).1
  rw [e, b] at a
  exact hc (by rw [Option.some.inj a])
theorem PairsIn.sel {news news' : List (Addr × Obj)} (h : ∀ p ∈ news, p.2.cls = .type "tuple" → p ∈ news') : ∀ {vs : List Value} {ps : List (Int × Int)}, PairsIn news vs ps → PairsIn news' vs ps
  | [], [], _ => trivial
  | [], _ :: _, x => x.elim
  | _ :: _, [], x => x.elim
  | _ :: _, _ :: _, ⟨⟨b, t1, t2, n, e, hm⟩, r⟩ => ⟨⟨b, t1, t2, n, e, h _ hm rfl⟩, r.sel h⟩
theorem DomIn.sel {news news' : List (Addr × Obj)} {a : Addr} {ps : List (Int × Int)} (x : DomIn news a ps) (h : ∀ p ∈ news, p.2.cls = .type "tuple" → p ∈ news') : DomIn news' a ps :=
  let ⟨vs, n, hm, hp⟩ := x; ⟨vs, n, h _ hm rfl, hp.sel h⟩
theorem LitIn.sel {news news' : List (Addr × Obj)} {a : Addr} {x k : Int} {sg : Sign} (y : LitIn news a x sg k) (h : ∀ p ∈ news, p.2.cls = .type "tuple" → p ∈ news') : LitIn news' a x sg k :=
  let ⟨t1, t2, t3, n, hm⟩ := y; ⟨t1, t2, t3, n, h _ hm rfl⟩
/-- of a list of objects those that are tuples -/
noncomputable def tups (l : List (Addr × Obj)) : List (Addr × Obj) := by
  classical exact l.filter fun p => decide (p.2.cls = .type "tuple")
theorem mem_tups {l : List (Addr × Obj)} {p : Addr × Obj} : p ∈ tups l ↔ p ∈ l ∧ p.2.cls = .type "tuple" := by
  classical
  unfold tups
  simp [List.mem_filter]
theorem dom_tups {tl rest : List (Addr × Obj)} {a : Addr} {ps : List (Int × Int)} (x : DomIn (tl ++ rest) a ps) : DomIn (tups tl ++ rest) a ps := x.sel fun p hp hc => by
  rcases List.mem_append.mp hp with hp | hp
  · exact List.mem_append_left _ (mem_tups.mpr ⟨hp, hc⟩)
  · exact List.mem_append_right _ hp
theorem perm4 {h₀ h : Heap} {L : Addr} {tl rest : List (Addr × Obj)} {a b c d : Addr × Obj} (N : News h₀ L h (tl ++ a :: b :: c :: d :: rest)) : News h₀ L h (a :: b :: c :: d :: (tups tl ++ rest)) := fun p hp => N p (by
  simp only [List.mem_cons, List.mem_append] at hp ⊢
  rcases hp with h | h | h | h | h | h
  · simp [h]
  · simp [h]
  · simp [h]
  · simp [h]
  · simp [(mem_tups.mp h).1]
  · simp [h])
theorem dom4 {tl rest : List (Addr × Obj)} {a b c d : Addr × Obj} {f : Addr} {ps : List (Int × Int)} (x : DomIn (tl ++ a :: b :: c :: d :: rest) f ps) (ha : a.2.cls ≠ .type "tuple") (hb : b.2.cls ≠ .type "tuple") (hc : c.2.cls ≠ .type "tuple") (hd : d.2.cls ≠ .type "tuple") : DomIn (tups tl ++ rest) f ps := x.sel fun p hp hq => by
  simp only [List.mem_cons, List.mem_append] at hp ⊢
  rcases hp with h | rfl | rfl | rfl | rfl | h
  · exact .inl (mem_tups.mpr ⟨h, hq⟩)
  · exact absurd hq ha
  · exact absurd hq hb
  · exact absurd hq hc
  · exact absurd hq hd
  · exact .inr h
theorem ne_tups {h₀ h : Heap} {L : Addr} {news tl rest : List (Addr × Obj)} {a : Addr} {o : Obj} (N : News h₀ L h news) (hs : ∀ p ∈ tl, p ∈ news) (ha : (a, o) ∈ news) (ho : o.cls ≠ .type "tuple") (hr : ∀ p ∈ rest, p.1 ≠ a) : ∀ p ∈ tups tl ++ rest, p.1 ≠ a := fun p hp => by
  rcases List.mem_append.mp hp with hp | hp
  · obtain ⟨h1, h2⟩ := mem_tups.mp hp
    exact ne_of_cls N (hs p h1) ha (by rw [h2]; exact Ne.symm ho)
  · exact hr p hp
/-- a goal at which the walk stands still -/
def Halt (P : Prop) : Prop := P
theorem Halt.mk {P : Prop} (h : Halt P) : P := h
theorem Halt.go {P : Prop} (h : P) : Halt P := h
theorem setL_some' {v : Value} : ∀ {l : List Value} {k : Nat}, k < l.length → ki_setL l k v = some (l.set k v)
  | a :: l, 0, _ => rfl
  | a :: l, k + 1, h => by
    have := setL_some' (v := v) (l := l) (k := k) (Nat.lt_of_succ_lt_succ h)
    simp [ki_setL, this]
theorem set_list {prog : Program} {w : World} {A : Around} {E : Value → Shared → Prop} {s : Shared} {h₀ : Heap} {L f : Addr} {m : Str → Option Value} {news news' : List (Addr × Obj)} {vs : List Value} {n : Nat} {k : Int} {t : Tok} {v : Value} {Q : Unit → Shared → Prop}
    (F : Fr h₀ L s.heap m) (N : News h₀ L s.heap news) (h0 : 0 ≤ k) (hk : k.toNat < vs.length) (hfit : k < 2 ^ 63) (U : Upd f (listOf vs.toArray n) (listOf (vs.set k.toNat v).toArray n) news news')
    (h : ∀ h', Fr h₀ L h' m → News h₀ L h' news' → Q () { s with heap := h' }) : wpAny (model prog w) A (setItem (.ref f) (.int k t) v) Q E s :=
  ki_set F N h0 hfit (by simpa using setL_some' hk) U h
theorem enter_end {h₀ h : Heap} {L : Addr} {x q a b c d : Addr × Obj} {tl rest : List (Addr × Obj)} (N : News h₀ L h (x :: q :: a :: b :: c :: d :: (tl ++ rest))) : News h₀ L h (a :: b :: c :: d :: ((x :: tl) ++ rest)) := fun p hp => N p (by
  simp only [List.cons_append, List.mem_cons] at hp ⊢
  rcases hp with h | h | h | h | h | h <;> simp [h])
theorem kl_last_snoc {y : Value} : ∀ {p : List Value}, kl_last (p ++ [y]) = some (p, y)
  | [] => rfl
  | x :: p => by
    show (match kl_last (p ++ [y]) with | some (p, y) => some (x :: p, y) | none => some ([], x)) = _
    rw [kl_last_snoc]
theorem pop_snoc {prog : Program} {w : World} {A : Around} {E : Value → Shared → Prop} {s : Shared} {h₀ : Heap} {L D : Addr} {m : Str → Option Value} {news news' : List (Addr × Obj)} {p : List Value} {y : Value} {n : Nat} {Q : Value → Shared → Prop}
    (F : Fr h₀ L s.heap m) (N : News h₀ L s.heap news) (U : Upd D (listOf (p ++ [y]).toArray n) (listOf p.toArray (n + 1)) news news') (hz : p.length ≤ 1000)
    (h : ∀ h', Fr h₀ L h' m → News h₀ L h' news' → Q y { s with heap := h' }) : wpAny (model prog w) A (call (.builtin "list.pop") [.ref D]) Q E s :=
  kl_pop F N (by rw [show (p ++ [y]).toArray.toList = p ++ [y] from by simp]; exact kl_last_snoc) U (by rw [sizeLine_eq]; simp; lia) h
theorem pick_upto (vs : List Value) {y : Int} (h : 0 ≤ y) : (slicePick vs.toArray none (some y) none).toList = vs.take y.toNat := by
  have e : sliceBounds none (some y) none vs.toArray.size = (((0 : Nat) : Int), ((min y.toNat vs.toArray.size : Nat) : Int), 1) := by
    simp only [sliceBounds, Option.getD_none, show (1 : Int) > 0 by decide, if_true, if_neg (show ¬ (y < 0) by lia)]
    congr 1
    congr 1
    lia
  rw [kmk_pick_nat _ e]
  show ((vs.drop 0).take (min y.toNat vs.toArray.size - 0)) = _
  rw [List.drop_zero, Nat.sub_zero, List.size_toArray, kmk_take_min]
/-- a list of domains -/
def DomsIn (news : List (Addr × Obj)) : List Value → List (List (Int × Int)) → Prop
  | [], [] => True
  | v :: vs, p :: ps => (∃ a, v = .ref a ∧ DomIn news a p) ∧ DomsIn news vs ps
  | _, _ => False
theorem DomsIn.sel {news news' : List (Addr × Obj)} (h : ∀ p ∈ news, p.2.cls = .type "tuple" → p ∈ news') : ∀ {vs : List Value} {ps : List (List (Int × Int))}, DomsIn news vs ps → DomsIn news' vs ps
  | [], [], _ => trivial
  | [], _ :: _, x => x.elim
  | _ :: _, [], x => x.elim
  | _ :: _, _ :: _, ⟨⟨a, e, hd⟩, r⟩ => ⟨⟨a, e, hd.sel h⟩, r.sel h⟩
theorem DomsIn.mono {news news' : List (Addr × Obj)} {vs : List Value} {ps : List (List (Int × Int))} (x : DomsIn news vs ps) (h : ∀ p ∈ news, p ∈ news') : DomsIn news' vs ps := x.sel fun p hp _ => h p hp
theorem DomsIn.length {news : List (Addr × Obj)} : ∀ {vs : List Value} {ps : List (List (Int × Int))}, DomsIn news vs ps → vs.length = ps.length
  | [], [], _ => rfl
  | [], _ :: _, x => x.elim
  | _ :: _, [], x => x.elim
  | _ :: _, _ :: _, ⟨_, r⟩ => by simp [r.length]
theorem DomsIn.get {news : List (Addr × Obj)} : ∀ {vs : List Value} {ps : List (List (Int × Int))} {i : Nat} {p : List (Int × Int)}, DomsIn news vs ps → ps[i]? = some p → ∃ a, vs[i]? = some (.ref a) ∧ DomIn news a p
  | [], [], _, _, _, h => by simp at h
  | [], _ :: _, _, _, x, _ => x.elim
  | _ :: _, [], _, _, x, _ => x.elim
  | _ :: _, p :: _, 0, _, ⟨⟨a, e, hd⟩, _⟩, h => by
    simp at h; subst h; exact ⟨a, by simp [e], hd⟩
  | _ :: _, _ :: _, i + 1, _, ⟨_, r⟩, h => by
    simp at h; obtain ⟨a, e, hd⟩ := r.get h; exact ⟨a, by simpa using e, hd⟩
theorem DomsIn.set {news : List (Addr × Obj)} {a : Addr} {p : List (Int × Int)} (hd : DomIn news a p) : ∀ {vs : List Value} {ps : List (List (Int × Int))} {i : Nat}, DomsIn news vs ps → DomsIn news (vs.set i (.ref a)) (ps.set i p)
  | [], [], _, _ => trivial
  | [], _ :: _, _, x => x.elim
  | _ :: _, [], _, x => x.elim
  | _ :: _, _ :: _, 0, ⟨_, r⟩ => ⟨⟨a, rfl, hd⟩, r⟩
  | _ :: _, _ :: _, i + 1, ⟨h, r⟩ => ⟨h, r.set hd⟩
theorem DomsIn.snoc {news : List (Addr × Obj)} {a : Addr} {p : List (Int × Int)} (hd : DomIn news a p) : ∀ {vs : List Value} {ps : List (List (Int × Int))}, DomsIn news vs ps → DomsIn news (vs ++ [.ref a]) (ps ++ [p])
  | [], [], _ => ⟨⟨a, rfl, hd⟩, trivial⟩
  | [], _ :: _, x => x.elim
  | _ :: _, [], x => x.elim
  | _ :: _, _ :: _, ⟨h, r⟩ => ⟨h, r.snoc hd⟩
theorem perm7 {h₀ h : Heap} {L : Addr} {x y e d a b c : Addr × Obj} {rest : List (Addr × Obj)} (N : News h₀ L h (x :: y :: e :: d :: a :: b :: c :: rest)) : News h₀ L h (a :: b :: c :: d :: e :: rest) :=
  let P : Addr × Obj → Prop := fun p => p ∈ x :: y :: e :: d :: a :: b :: c :: rest
  fun p hp => N p ((all_cons (P := P) (.tail _ (.tail _ (.tail _ (.tail _ (.head _))))) (all_cons (P := P) (.tail _ (.tail _ (.tail _ (.tail _ (.tail _ (.head _)))))) (all_cons (P := P) (.tail _ (.tail _ (.tail _ (.tail _ (.tail _ (.tail _ (.head _))))))) (all_cons (P := P) (.tail _ (.tail _ (.tail _ (.head _)))) (all_cons (P := P) (.tail _ (.tail _ (.head _))) (fun p h => .tail _ (.tail _ (.tail _ (.tail _ (.tail _ (.tail _ (.tail _ (h)))))))))))) : ∀ p ∈ a :: b :: c :: d :: e :: rest, P p) p hp)
theorem perm8 {h₀ h : Heap} {L : Addr} {t a b c d e f g : Addr × Obj} {rest : List (Addr × Obj)} (N : News h₀ L h (t :: g :: f :: e :: d :: c :: a :: b :: rest)) : News h₀ L h (a :: b :: c :: d :: e :: f :: g :: rest) :=
  let P : Addr × Obj → Prop := fun p => p ∈ t :: g :: f :: e :: d :: c :: a :: b :: rest
  fun p hp => N p ((all_cons (P := P) (.tail _ (.tail _ (.tail _ (.tail _ (.tail _ (.tail _ (.head _))))))) (all_cons (P := P) (.tail _ (.tail _ (.tail _ (.tail _ (.tail _ (.tail _ (.tail _ (.head _)))))))) (all_cons (P := P) (.tail _ (.tail _ (.tail _ (.tail _ (.tail _ (.head _)))))) (all_cons (P := P) (.tail _ (.tail _ (.tail _ (.tail _ (.head _))))) (all_cons (P := P) (.tail _ (.tail _ (.tail _ (.head _)))) (all_cons (P := P) (.tail _ (.tail _ (.head _))) (all_cons (P := P) (.tail _ (.head _)) (fun p h => .tail _ (.tail _ (.tail _ (.tail _ (.tail _ (.tail _ (.tail _ (.tail _ (h))))))))))))))) : ∀ p ∈ a :: b :: c :: d :: e :: f :: g :: rest, P p) p hp)
theorem ne_of_data {h₀ h : Heap} {L : Addr} {news : List (Addr × Obj)} (N : News h₀ L h news) {p q : Addr × Obj} (hp : p ∈ news) (hq : q ∈ news) (hc : p.2.data ≠ q.2.data) : p.1 ≠ q.1 := fun e => by
  have a := (N p hp).1
  have b := (N q hq).1
  rw [e, b] at a
  exact hc (by rw [Option.some.inj a])
theorem add_listsN {prog : Program} {w : World} {A : Around} {E : Value → Shared → Prop} {s : Shared} {h₀ : Heap} {L l b : Addr} {m : Str → Option Value} {news : List (Addr × Obj)} {vs us : List Value} {n k : Nat} {Q : Value → Shared → Prop}
    (F : Fr h₀ L s.heap m) (N : News h₀ L s.heap news) (hl : (l, listOf vs.toArray n) ∈ news) (hb : (b, listOf us.toArray k) ∈ news) (hz : vs.length + us.length ≤ 1000)
    (h : ∀ D h', Fr h₀ L h' m → News h₀ L h' ((D, listOf (vs ++ us).toArray 0) :: news) → (∀ p ∈ news, p.1 < D) → Q (.ref D) { s with heap := h' }) : wpAny (model prog w) A (binaryOp .Add (.ref l) (.ref b)) Q E s :=
  add_lists F N (isList_of N hl) (isList_of N hb) (fun h' F' N' => h _ h' F' N' fun p hp => Heap.lt_size (N p hp).1) (by rw [sizeLine_eq]; lia)
end
section
section
variable {prog : Program} {w : World} {A : Around} {E : Value → Shared → Prop} {s : Shared} {h₀ : Heap} {L : Addr} {news : List (Addr × Obj)} {Q : Value → Shared → Prop}
def domD (ps : List (Int × Int)) : PyData := .tuple (ps.map pairD)
theorem reads_doms {h : Heap} (N : News h₀ L h news) : ∀ {vs : List Value} {ps : List (List (Int × Int))}, DomsIn news vs ps → ∃ as, ReadsAll h vs (ps.map domD) as
  | [], [], _ => ⟨[], .nil⟩
  | [], _ :: _, x => x.elim
  | _ :: _, [], x => x.elim
  | _ :: _, p :: _, ⟨⟨a, e, hd⟩, r⟩ => by
    obtain ⟨as, hr⟩ := reads_doms N r
    obtain ⟨bs, hb⟩ := reads_dom N hd
    subst e
    exact ⟨_, .cons hb hr⟩
theorem depthAll_doms : ∀ ps : List (List (Int × Int)), PyData.depthAll (ps.map domD) ≤ 5
  | [] => by simp [PyData.depthAll]
  | p :: r => by
    have := depthAll_doms r
    have e : PyData.depth (domD p) ≤ 5 := by have := depthAll_pairs p; simp only [domD, PyData.depth]; lia
    simp only [List.map_cons, PyData.depthAll]
    lia
theorem canLayAll_doms : ∀ ps : List (List (Int × Int)), PyData.canLayAll0 (ps.map domD) = true
  | [] => by simp [PyData.canLayAll0]
  | p :: r => by
    have := canLayAll_doms r
    have e := canLayAll_pairs p
    simp [PyData.canLayAll0, domD, PyData.canLay0, this, e]
theorem shaped_doms (ps : List (List (Int × Int))) : SeqAt.shaped (.list (ps.map domD)) = true := by
  have h1 := depthAll_doms ps
  have h2 : PyData.depth (.list (ps.map domD)) ≤ 64 := by simp only [PyData.depth]; lia
  show (PyData.canLay0 (.list (ps.map domD)) && decide (PyData.depth (.list (ps.map domD)) ≤ 64)) = true
  rw [Bool.and_eq_true]
  exact ⟨by simp only [PyData.canLay0]; exact canLayAll_doms ps, decide_eq_true h2⟩
theorem in_doms {l a : Addr} {fs : List Value} {pss : List (List (Int × Int))} {n k : Nat} (N : News h₀ L s.heap news) (hl : (l, listOf fs.toArray n) ∈ news) (hf : DomsIn news fs pss) (ha : (a, tupO [] k) ∈ news) (hu : A.units + 65 < cLine) (h : ∀ b, Q (.bool b) s) :
    wpAny (model prog w) A (compareOp .In (.ref a) (.ref l)) Q E s := by
  obtain ⟨as, hr⟩ := reads_doms N hf
  obtain ⟨o, ho, hc, c, hd⟩ := isList_of N hl
  refine in_list_dataH (xs := pss.map domD) (d := .tuple []) (.list ho hc hd hr) (.tuple (N _ ha).1 rfl rfl .nil) (shaped_doms pss) (by decide) hu (fun y hy => ?_) (h _)
  obtain ⟨p, _, rfl⟩ := List.mem_map.mp hy
  cases p <;> rfl
end
end
theorem words_W12_1 : True := by
  k_with "k_upd" => ((refine' Upd.head ?a_q; (case a_q => with_reducible assumption)))
  k_with "call type:tuple" => (((k_here; (with_reducible show wpAny _ _ (call (Value.type _) [Value.ref _]) _ _ _); k_dflt (refine' call_tuple_tup (isTup_of ?k1_q ?k2_q) ?_; (case k1_q => k_asm); (case k2_q => k_memK); k_whole))))
  trivial
local macro_rules | `(tactic| k_upd) => `(tactic| k_extra "k_upd")
section
theorem push_does (w : World) (rest : List (Addr × Obj)) (st dx Mk Tr : Addr) (od : Obj) (mks trs : List Value) (n n' : Nat) (t1 t2 t3 t4 t5 t6 t7 t8 : Tok) (D Fi Nw : Addr) (sp : Tok) (fl : Bool) (cv : Value) (nn : Nat)
    (h1 : (st, instObj 270 dx) ∈ rest) (h2 : (dx, stD w.params t1 t2 t3 t4 t5 t6 t7 t8 D Fi Tr Mk Nw sp fl cv nn) ∈ rest) (h3 : (Tr, listOf trs.toArray n') ∈ rest) (hz : trs.length ≤ 1000) (hz2 : mks.length ≤ 1000) (hf : ∀ p ∈ rest, p.1 ≠ Mk) :
    Does w 246 ((Mk, listOf mks.toArray n) :: rest) [.ref st] 1 16 (fun r news' => r = .none ∧ ∃ t n', news' = (Mk, listOf (mks ++ [Value.int (trs.length : Nat) t]).toArray n') :: rest) := by
  k_extra "m_enter"
  k_steps
  rename News h₀ _ _ _ => kN
  simp only [List.push_toArray] at kN
  exact hret _ _ _ _ ⟨rfl, _, _, rfl⟩ (by assumption) kN
theorem fail_does (w : World) (rest : List (Addr × Obj)) (st dx r : Addr) (rs : List Value) (nr : Nat) (t1 t2 t3 t4 t5 t6 t7 t8 : Tok) (D Fi Tr Mk Nw : Addr) (sp : Tok) (fl : Bool) (cv : Value)
    (h1 : (st, instObj 270 dx) ∈ rest) (h2 : (r, tupO rs nr) ∈ rest) (hf : ∀ p ∈ rest, p.1 ≠ dx) :
    Does w 239 ((dx, stD w.params t1 t2 t3 t4 t5 t6 t7 t8 D Fi Tr Mk Nw sp fl cv 8) :: rest) [.ref st, .ref r] 1 16 (fun r' news' => r' = .bool false ∧ ∃ cv', news' = (dx, stD w.params t1 t2 t3 t4 t5 t6 t7 t8 D Fi Tr Mk Nw sp true cv' 8) :: rest) := by
  k_extra "m_enter"
  replace F1 : Fr g1 L1 h1 (fun y => List.lookup y [(Str.ofString "reasons", Value.ref r), (Str.ofString "self", Value.ref st)]) := F1
  k_steps
  rename News h₀ _ _ _ => kN
  exact hret _ _ _ _ ⟨rfl, _, rfl⟩ (by assumption) kN
end
theorem words_W13_1 : True := by
  k_with "call ref" => (((k_here; (with_reducible show wpAny _ _ (call (Value.ref 101) _) _ _ _); refine Halt.mk ?_)))
  k_with "setItem ref int" => (((k_here; k_dflt (refine' kda_set (knd := PySem.intKind _ _) ?F_q ?N_q ?U_q ?d_q (intKind_is _ _ _ _) ?z_q ?_; (case F_q => k_asm); (case N_q => k_asm); (case U_q => k_updF); (case d_q => with_reducible assumption); (case z_q => (rw [sizeLine_eq]; omega))); intro h'_w o'_w F'_w N'_w hd'_w; (try dsimp only at N'_w))); (try revert hd'_w); (try revert N'_w); (try revert F'_w); (try revert o'_w); (try revert h'_w); intros)
  k_with "setItem ref int" => (((k_here; k_dflt (refine' set_list ?F_q ?N_q ?h0_q ?hk_q ?hf_q ?U_q ?_; (case F_q => k_asm); (case N_q => k_asm); (case U_q => k_upd); (case h0_q => omega); (case hk_q => first | assumption | omega); (case hf_q => omega)); intro h'_w F'_w N'_w; (try dsimp only at N'_w))); (try revert N'_w); (try revert F'_w); (try revert h'_w); intros)
  k_with "call ref" => (((k_here; (with_reducible show wpAny _ _ (call (Value.ref 218) _) _ _ _); refine Halt.mk ?_)))
  trivial
section
abbrev EnterPost (w : World) (rest : List (Addr × Obj)) (dx D Fi Tr Mk Nw l d : Addr) (doms trs : List Value) (nD nT : Nat) (on : Obj) (kvs : List (Int × Value)) (t1 t2 t3 t4 t5 t6 t7 t8 sp : Tok) (fl : Bool) (cv : Value) (x k : Int) (sg : Sign) (ps : List (Int × Int)) : Value → List (Addr × Obj) → Prop :=
  fun r news' => ∃ tl, (∀ p ∈ tl, p.2.cls = .type "tuple") ∧
      ((struckD sg k ps = [] ∧ r = .bool false ∧ ∃ cv', news' = (dx, stD w.params t1 t2 t3 t4 t5 t6 t7 t8 D Fi Tr Mk Nw sp true cv' 8) :: (D, listOf doms.toArray nD) :: (Tr, listOf trs.toArray nT) :: (Nw, on) :: (tl ++ rest)) ∨
       (struckD sg k ps ≠ [] ∧ struckD sg k ps = ps ∧ r = .bool true ∧ news' = (dx, stD w.params t1 t2 t3 t4 t5 t6 t7 t8 D Fi Tr Mk Nw sp fl cv 8) :: (D, listOf doms.toArray nD) :: (Tr, listOf trs.toArray nT) :: (Nw, on) :: (tl ++ rest)) ∨
       (struckD sg k ps ≠ [] ∧ struckD sg k ps ≠ ps ∧ r = .bool true ∧ Ex9 fun on' f e nD' nT' t' rv' spk' ts' => on'.IsDictOf (PySem.intKind PySem.Challenge.rw_nz0015_01.row.prog w) (stored kvs x (.bool true)) ∧
         news' = (dx, stD w.params t1 t2 t3 t4 t5 t6 t7 t8 D Fi Tr Mk Nw sp fl cv 8) :: (D, listOf (doms.set x.toNat (Value.ref f)).toArray nD') :: (Tr, listOf (trs ++ [Value.ref e]).toArray nT') :: (Nw, on') :: (tl ++ rest) ∧ DomIn (tl ++ rest) f (struckD sg k ps) ∧ (e, tupO [.int x t', .ref d, .ref l, rv', .int spk' ts'] 0) ∈ tl ++ rest))
theorem enter_does (w : World) (rest : List (Addr × Obj)) (st dx D Fi Tr Mk Nw l d : Addr) (doms trs : List Value) (nD nT : Nat) (on : Obj) (kvs : List (Int × Value)) (t1 t2 t3 t4 t5 t6 t7 t8 sp : Tok) (fl : Bool) (cv : Value) (x k : Int) (sg : Sign) (ps : List (Int × Int)) (rv : Value) (spk : Int) (ts : Tok)
    (ms : (st, instObj 270 dx) ∈ rest) (hl : LitIn rest l x sg k) (h0 : 0 ≤ x) (hx0 : x < 1000) (hd : doms[x.toNat]? = some (.ref d)) (hz : doms.length ≤ 100) (hzt : trs.length ≤ 1000) (hdom : DomIn rest d ps) (hzp : ps.length ≤ 100)
    (hon : on.IsDictOf (PySem.intKind PySem.Challenge.rw_nz0015_01.row.prog w) kvs) (hkv : kvs.length ≤ 1000) (hrv : rv = .none ∨ ∃ r n, rv = .ref r ∧ (r, tupO [] n) ∈ rest)
    (e1 : @Ne Nat dx D) (e2 : @Ne Nat dx Tr) (e3 : @Ne Nat dx Nw) (e4 : @Ne Nat D Tr) (e5 : @Ne Nat D Nw) (e6 : @Ne Nat Tr Nw)
    (r1 : ∀ p ∈ rest, p.1 ≠ dx) (r2 : ∀ p ∈ rest, p.1 ≠ D) (r3 : ∀ p ∈ rest, p.1 ≠ Tr) (r4 : ∀ p ∈ rest, p.1 ≠ Nw) :
    Does w 218 ((dx, stD w.params t1 t2 t3 t4 t5 t6 t7 t8 D Fi Tr Mk Nw sp fl cv 8) :: (D, listOf doms.toArray nD) :: (Tr, listOf trs.toArray nT) :: (Nw, on) :: rest) [.ref st, .ref l, rv, .int spk ts] 5 200 (EnterPost w rest dx D Fi Tr Mk Nw l d doms trs nD nT on kvs t1 t2 t3 t4 t5 t6 t7 t8 sp fl cv x k sg ps) := by
  obtain ⟨u1, u2, u3, un, hl'⟩ := id hl
  k_extra "m_enter"
  replace F1 : Fr g1 L1 h1 (fun y => List.lookup y [(Str.ofString "speaker", Value.int spk ts), (Str.ofString "reasons", rv), (Str.ofString "literal", Value.ref l), (Str.ofString "self", Value.ref st)]) := F1
  have hxl : x.toNat < doms.length := by obtain ⟨h, _⟩ := List.getElem?_eq_some_iff.mp hd; exact h
  have hoc : on.cls ≠ .type "tuple" := by obtain ⟨_, _, hx, _⟩ := hon; rw [hx.1]; decide
  k_steps
  refine Halt.go ?_
  k_dflt (refine' Does.useA (struck_does _ _ _ _ _ _ _ _ ?q1 ?q2 ?q3) ?k1 ?k2 ?k3 ?k4 ?k5 ?k6 ?k7 ?k8 ?_)
  case k1 => k_asm
  case k2 => k_asm
  case k3 => k_asm
  case k4 => k_asm
  case k5 => k_asm
  case k6 => first | exact rfl | assumption
  case q1 => ktr_rel
  case q2 => ktr_rel
  case q3 => assumption
  case k7 => ktr_room
  case k8 => ktr_units
  intro h9 tk9 F9 a9 tl9 p9 N9
  have z1 := ne_tups N9 (fun p hp => List.mem_append_left _ hp) (List.mem_append_right _ (.head _)) (by simp) r1
  have z2 := ne_tups N9 (fun p hp => List.mem_append_left _ hp) (List.mem_append_right _ (.tail _ (.head _))) (by simp) r2
  have z3 := ne_tups N9 (fun p hp => List.mem_append_left _ hp) (List.mem_append_right _ (.tail _ (.tail _ (.head _)))) (by simp) r3
  have z4 := ne_tups N9 (fun p hp => List.mem_append_left _ hp) (List.mem_append_right _ (.tail _ (.tail _ (.tail _ (.head _))))) hoc r4
  replace p9 := dom4 p9 (by simp) (by simp) (by simp) hoc
  replace N9 := perm4 N9
  have y9 : ∀ p ∈ tups tl9, p.2.cls = .type "tuple" := fun p hp => (mem_tups.mp hp).2
  generalize tups tl9 = tl8 at *
  have hs8 : ∀ p ∈ rest, p ∈ tl8 ++ rest := fun p hp => List.mem_append_right _ hp
  have h18 := hs8 _ ms
  have hl8 := hl.mono hs8
  have hl9 := hs8 _ hl'
  have hd8 := hdom.mono hs8
  generalize hR : tl8 ++ rest = R at *
  k_steps
  · rcases hrv with rfl | ⟨r, n, rfl, hr⟩
    · k_steps
      rename News h₀ _ _ _ => kN
      rename (decide _ = true) => c1
      exact hret _ _ _ _ ⟨tl8, y9, .inl ⟨of_decide_eq_true c1, rfl, _, by rw [hR]⟩⟩ (by assumption) (drop_h (drop_h (drop_h kN)))
    · have hr8 : (r, tupO [] n) ∈ R := hs8 _ hr
      k_steps
      rename News g1 _ _ _ => N7
      refine add_tuples (by assumption) N7 (isTup_of N7 (vs := []) (.tail _ (.tail _ (.tail _ (.tail _ (.tail _ (.tail _ hr8))))))) (isTup_of N7 (vs := [_]) (.head _)) (fun _ => ?_) (fun h => absurd rfl h) (fun h => absurd rfl h)
      k_steps
      rename News h₀ _ _ _ => kN
      rename (decide _ = true) => c1
      exact hret _ _ _ _ ⟨tl8, y9, .inl ⟨of_decide_eq_true c1, rfl, _, by rw [hR]⟩⟩ (by assumption) (drop_h (drop_h kN))
  · rename News h₀ _ _ _ => kN
    refine hret _ _ _ _ ⟨tl8 ++ [], ?_, ?_⟩ (by assumption) (drop_h kN)
    · rw [List.append_nil]; exact y9
    · rename (decide _ = false) => c1
      rename (struckD sg k ps = ps) => c2
      exact .inr (.inl ⟨of_decide_eq_false c1, c2, rfl, by rw [List.append_nil, hR]⟩)
  · rename News h₀ _ _ _ => kN
    rename (decide _ = false) => c1
    rename (¬ struckD sg k ps = ps) => c2
    rename Obj.IsDictOf _ _ (stored _ _ _) => hd9
    subst hR
    simp only [List.push_toArray] at kN
    refine hret _ _ _ _ ?_ (by assumption) (enter_end kN)
    refine ⟨_ :: tl8, ?_, .inr (.inr ⟨of_decide_eq_false c1, c2, rfl, _, a9, _, _, _, _, _, _, _, hd9, rfl, p9.mono fun p hp => .tail _ hp, .head _⟩)⟩
    intro p hp
    rcases List.mem_cons.mp hp with rfl | hp
    · rfl
    · exact y9 p hp
theorem decide_does (w : World) (rest : List (Addr × Obj)) (st dx D Fi Tr Mk Nw l d : Addr) (doms trs : List Value) (nD nT : Nat) (on : Obj) (kvs : List (Int × Value)) (t1 t2 t3 t4 t5 t6 t7 t8 sp : Tok) (fl : Bool) (cv : Value) (x k : Int) (sg : Sign) (ps : List (Int × Int))
    (ms : (st, instObj 270 dx) ∈ rest) (hl : LitIn rest l x sg k) (h0 : 0 ≤ x) (hx0 : x < 1000) (hd : doms[x.toNat]? = some (.ref d)) (hz : doms.length ≤ 100) (hzt : trs.length ≤ 1000) (hdom : DomIn rest d ps) (hzp : ps.length ≤ 100)
    (hon : on.IsDictOf (PySem.intKind PySem.Challenge.rw_nz0015_01.row.prog w) kvs) (hkv : kvs.length ≤ 1000)
    (e1 : @Ne Nat dx D) (e2 : @Ne Nat dx Tr) (e3 : @Ne Nat dx Nw) (e4 : @Ne Nat D Tr) (e5 : @Ne Nat D Nw) (e6 : @Ne Nat Tr Nw)
    (r1 : ∀ p ∈ rest, p.1 ≠ dx) (r2 : ∀ p ∈ rest, p.1 ≠ D) (r3 : ∀ p ∈ rest, p.1 ≠ Tr) (r4 : ∀ p ∈ rest, p.1 ≠ Nw) :
    Does w 232 ((dx, stD w.params t1 t2 t3 t4 t5 t6 t7 t8 D Fi Tr Mk Nw sp fl cv 8) :: (D, listOf doms.toArray nD) :: (Tr, listOf trs.toArray nT) :: (Nw, on) :: rest) [.ref st, .ref l] 6 220 (EnterPost w rest dx D Fi Tr Mk Nw l d doms trs nD nT on kvs t1 t2 t3 t4 t5 t6 t7 t8 sp fl cv x k sg ps) := by
  k_extra "m_enter"
  replace F1 : Fr g1 L1 h1 (fun y => List.lookup y [(Str.ofString "literal", Value.ref l), (Str.ofString "self", Value.ref st)]) := F1
  k_steps
  refine Halt.go ?_
  k_dflt (refine' Does.use (enter_does w rest st dx D Fi Tr Mk Nw l d doms trs nD nT on kvs t1 t2 t3 t4 t5 t6 t7 t8 sp fl cv x k sg ps _ _ _ ms hl h0 hx0 hd hz hzt hdom hzp hon hkv (.inl rfl) e1 e2 e3 e4 e5 e6 r1 r2 r3 r4) ?k1 ?k2 ?k3 ?k4 ?k5 ?k6 ?k7 ?k8 ?_)
  case k1 => k_asm
  case k2 => k_asm
  case k3 => k_asm
  case k4 => k_asm
  case k5 => k_asm
  case k6 => first | exact rfl | assumption
  case k7 => ktr_room
  case k8 => ktr_units
  intro r9 news9 h9 tk9 p9 F9 N9
  k_steps
  rename News h₀ _ _ _ => kN
  exact hret _ _ _ _ p9 (by assumption) kN
theorem strike_does (w : World) (rest : List (Addr × Obj)) (st dx D Fi Tr Mk Nw l d : Addr) (doms trs : List Value) (nD nT : Nat) (on : Obj) (kvs : List (Int × Value)) (t1 t2 t3 t4 t5 t6 t7 t8 sp : Tok) (fl : Bool) (cv : Value) (x k : Int) (sg : Sign) (ps : List (Int × Int)) (rv : Addr) (nr : Nat) (hr : (rv, tupO [] nr) ∈ rest)
    (ms : (st, instObj 270 dx) ∈ rest) (hl : LitIn rest l x sg k) (h0 : 0 ≤ x) (hx0 : x < 1000) (hd : doms[x.toNat]? = some (.ref d)) (hz : doms.length ≤ 100) (hzt : trs.length ≤ 1000) (hdom : DomIn rest d ps) (hzp : ps.length ≤ 100)
    (hon : on.IsDictOf (PySem.intKind PySem.Challenge.rw_nz0015_01.row.prog w) kvs) (hkv : kvs.length ≤ 1000)
    (e1 : @Ne Nat dx D) (e2 : @Ne Nat dx Tr) (e3 : @Ne Nat dx Nw) (e4 : @Ne Nat D Tr) (e5 : @Ne Nat D Nw) (e6 : @Ne Nat Tr Nw)
    (r1 : ∀ p ∈ rest, p.1 ≠ dx) (r2 : ∀ p ∈ rest, p.1 ≠ D) (r3 : ∀ p ∈ rest, p.1 ≠ Tr) (r4 : ∀ p ∈ rest, p.1 ≠ Nw) :
    Does w 225 ((dx, stD w.params t1 t2 t3 t4 t5 t6 t7 t8 D Fi Tr Mk Nw sp fl cv 8) :: (D, listOf doms.toArray nD) :: (Tr, listOf trs.toArray nT) :: (Nw, on) :: rest) [.ref st, .ref l, .ref rv] 6 220 (EnterPost w rest dx D Fi Tr Mk Nw l d doms trs nD nT on kvs t1 t2 t3 t4 t5 t6 t7 t8 sp fl cv x k sg ps) := by
  k_extra "m_enter"
  replace F1 : Fr g1 L1 h1 (fun y => List.lookup y [(Str.ofString "reasons", Value.ref rv), (Str.ofString "literal", Value.ref l), (Str.ofString "self", Value.ref st)]) := F1
  k_steps
  refine Halt.go ?_
  k_dflt (refine' Does.use (enter_does w rest st dx D Fi Tr Mk Nw l d doms trs nD nT on kvs t1 t2 t3 t4 t5 t6 t7 t8 sp fl cv x k sg ps _ _ _ ms hl h0 hx0 hd hz hzt hdom hzp hon hkv (.inr ⟨_, _, rfl, hr⟩) e1 e2 e3 e4 e5 e6 r1 r2 r3 r4) ?k1 ?k2 ?k3 ?k4 ?k5 ?k6 ?k7 ?k8 ?_)
  case k1 => k_asm
  case k2 => k_asm
  case k3 => k_asm
  case k4 => k_asm
  case k5 => k_asm
  case k6 => first | exact rfl | assumption
  case k7 => ktr_room
  case k8 => ktr_units
  intro r9 news9 h9 tk9 p9 F9 N9
  k_steps
  rename News h₀ _ _ _ => kN
  exact hret _ _ _ _ p9 (by assumption) kN
end
theorem words_W14_1 : True := by
  k_with "call builtin:list.pop" => (((k_here; k_dflt (refine' pop_snoc ?F_q ?N_q ?U_q ?z_q ?_; (case F_q => k_asm); (case N_q => k_asm); (case U_q => k_upd); (case z_q => omega)); intro h'_w F'_w N'_w; (try dsimp only [List.nil_append, List.cons_append] at N'_w))); (try revert N'_w); (try revert F'_w); (try revert h'_w); intros)
  k_with "subscriptTail Name Slice ref ref" => (((k_here; (with_reducible show wpAny _ _ (subscriptTail _ (PySem.Expr.Slice _ _ none _) (Value.ref _) (Value.ref _)) _ _ _); k_dflt (refine' kmk_slice_lit ?F_q ?N_q ?l_q ?p_q ?q_q ?e_q ?_ ?s_q ?t_q ?z_q; (case F_q => k_asm); (case N_q => k_asm); (case l_q => refine' isList_of ?a_q ?b_q; (case a_q => k_asm); (case b_q => k_memK)); (case p_q => first | exact IsPart.none | exact IsPart.int _ _); (case q_q => first | exact IsPart.none | exact IsPart.int _ _); (case e_q => exact pick_upto _ (by omega)); (case s_q => with_unfolding_all rfl); (case t_q => (intro _; with_unfolding_all rfl)); (case z_q => (rw [List.size_toArray, sizeLine_eq]; omega))); intro D'_w h'_w F'_w N'_w l1_w; (try k_lt l1_w); (try k_sweep))); (try revert l1_w); (try revert N'_w); (try revert F'_w); (try revert h'_w); (try revert D'_w); intros)
  k_with "compareOp In ref ref" => (((k_here; k_dflt (refine' in_doms ?k1_q ?k2_q ?k3_q ?k4_q ?k5_q ?_; (case k1_q => k_asm); (case k2_q => k_memK); (case k3_q => first | ktr_rel | exact DomsIn.mono (by assumption) (by intro p hp; k_memK)); (case k4_q => k_memK); (case k5_q => first | ktr_units | (simp only [ktrTop, Around.in1]; omega))); intro bb'_w)); (try revert bb'_w); intros)
  trivial
section
def PopRel (rest : List (Addr × Obj)) (m : Int) (doms trs doms' trs' : List Value) : Prop :=
  (m = trs.length ∧ doms' = doms ∧ trs' = trs) ∨
  (Ex9 fun e x t d l rv spk ts n => trs = trs' ++ [Value.ref e] ∧ m = trs'.length ∧ (e, tupO [.int x t, .ref d, .ref l, rv, .int spk ts] n) ∈ rest ∧ 0 ≤ x ∧ x.toNat < doms.length ∧ doms' = doms.set x.toNat (.ref d))
theorem pop_does (w : World) (rest : List (Addr × Obj)) (st dx D Fi Tr Mk Nw : Addr) (doms fs trs mks doms' trs' : List Value) (nD nF nT nM : Nat) (t1 t2 t3 t4 t5 t6 t7 t8 sp tn tm : Tok) (fl : Bool) (cv : Value) (mk : Int) (pss : List (List (Int × Int)))
    (ms : (st, instObj 270 dx) ∈ rest) (mf : (Fi, listOf fs.toArray nF) ∈ rest) (mfd : DomsIn rest fs pss) (mm : (Mk, listOf mks.toArray nM) ∈ rest) (hz : doms.length ≤ 100) (hzt : trs.length ≤ 1000) (hzm : mks.length ≤ 1000) (hm0 : 0 < mks.length) (hm1 : mks[((mks.length : Nat) - 1 : Int).toNat]? = some (.int mk tm))
    (hP : PopRel rest mk doms trs doms' trs')
    (e1 : @Ne Nat dx D) (e2 : @Ne Nat dx Tr) (e4 : @Ne Nat D Tr)
    (r1 : ∀ p ∈ rest, p.1 ≠ dx) (r2 : ∀ p ∈ rest, p.1 ≠ D) (r3 : ∀ p ∈ rest, p.1 ≠ Tr) :
    Does w 253 ((dx, stD w.params t1 t2 t3 t4 t5 t6 t7 t8 D Fi Tr Mk Nw sp fl cv 8) :: (D, listOf doms.toArray nD) :: (Tr, listOf trs.toArray nT) :: rest) [.ref st, .int 1 tn] 3 120 (fun r news' => r = .none ∧ Ex8 fun Mk' Nw' on' fl' cv' nD' nT' nM' => on'.IsDictOf (PySem.intKind PySem.Challenge.rw_nz0015_01.row.prog w) ([] : List (Int × Value)) ∧
      news' = (dx, stD w.params t1 t2 t3 t4 t5 t6 t7 t8 D Fi Tr Mk' Nw' sp fl' cv' 8) :: (D, listOf doms'.toArray nD') :: (Tr, listOf trs'.toArray nT') :: (Mk', listOf (mks.take ((mks.length : Nat) - 1 : Int).toNat).toArray nM') :: (Nw', on') :: rest ∧
      (∀ p ∈ (dx, emptyDict) :: (D, emptyDict) :: (Tr, emptyDict) :: rest, p.1 < Mk' ∧ p.1 < Nw') ∧ @Ne Nat Mk' Nw') := by
  k_extra "m_enter"
  replace F1 : Fr g1 L1 h1 (fun y => List.lookup y [(Str.ofString "n", Value.int 1 tn), (Str.ofString "self", Value.ref st)]) := F1
  k_steps
  rename_i Mk' h4 l5 h5 F5 N5
  have l6 := l5
  have r4 : ∀ p ∈ rest, p.1 ≠ Mk' := fun p hp => Nat.ne_of_lt (ktn_ltOf l5.2.2.2 p hp)
  have hmk : mk = trs'.length := by
    obtain ⟨h1, h2, h3⟩ | ⟨e, x, t, d, l, rv, spk, ts, n, h1, h2, h3⟩ := hP
    · rw [h3]; exact h1
    · exact h2
  have htl : trs'.length ≤ 1000 := by
    obtain ⟨h1, h2, h3⟩ | ⟨e, x, t, d, l, rv, spk, ts, n, h1, h2, h3⟩ := hP
    · rw [h3]; exact hzt
    · rw [h1, List.length_append] at hzt; lia
  have hdl : doms'.length ≤ 100 := by
    obtain ⟨h1, h2, h3⟩ | ⟨e, x, t, d, l, rv, spk, ts, n, h1, h2, h3, h4, h5, h6⟩ := hP
    · rw [h2]; exact hz
    · rw [h6, List.length_set]; exact hz
  refine Loop.ind (by first | passes_own | with_unfolding_all passes_own)
    (fun c s' => Ex7 fun h tk m' ds ts nD' nT' => s' = { s with heap := h, toks := tk } ∧ Fr g1 L1 h m' ∧ News g1 L1 h ((Mk', listOf (mks.take ((mks.length : Nat) - 1 : Int).toNat).toArray 0) :: (dx, stD w.params t1 t2 t3 t4 t5 t6 t7 t8 D Fi Tr Mk' Nw sp fl cv 8) :: (D, listOf ds.toArray nD') :: (Tr, listOf ts.toArray nT') :: rest) ∧
      (∀ z, ([Str.ofString "entry"] : List Str).contains z = false → m' z = if z = Str.ofString "mark" then some (Value.int mk tm) else List.lookup z [(Str.ofString "n", Value.int 1 tn), (Str.ofString "self", Value.ref st)]) ∧
      ((ds = doms' ∧ ts = trs') ∨ (c = 1 ∧ ds = doms ∧ ts = trs ∧ Ex9 fun e x t d l rv spk tsk n => trs = trs' ++ [Value.ref e] ∧ (e, tupO [.int x t, .ref d, .ref l, rv, .int spk tsk] n) ∈ rest ∧ 0 ≤ x ∧ x.toNat < doms.length ∧ doms' = doms.set x.toNat (.ref d)))) ?_ 1 _ ?_
  · intro c s' x1_i
    obtain ⟨h, tk, m', ds, ts, nD', nT', rfl, F, N, ag, hI⟩ := x1_i
    have F9 := forget _ F ag
    clear F
    obtain ⟨rfl, rfl⟩ | ⟨rfl, rfl, rfl, e, x, t, d, l, rv, spk, tsk, n, rfl, he, hx0, hxl, rfl⟩ := hI
    · k_steps
      rename News h₀ _ _ _ => kN
      rename (Mk' < _ ∧ dx < _ ∧ D < _ ∧ Tr < _ ∧ AllLt _ rest) => l7
      refine hret _ _ _ _ ?_ (by assumption) (perm7 kN)
      refine ⟨rfl, _, _, _, _, _, _, _, _, by assumption, rfl, fun p hp => ?_, Nat.ne_of_lt l7.1⟩
      simp only [List.mem_cons] at hp
      rcases hp with rfl | rfl | rfl | hp
      · exact ⟨l6.1, l7.2.1⟩
      · exact ⟨l6.2.1, l7.2.2.1⟩
      · exact ⟨l6.2.2.1, l7.2.2.2.1⟩
      · exact ⟨ktn_ltOf l6.2.2.2 p hp, ktn_ltOf l7.2.2.2.2 p hp⟩
    · k_steps
      · rename News g1 _ _ _ => kN
        exact ⟨0, by decide, _, _, _, _, _, _, _, rfl, by assumption, kN, by k_extra "m_agree", .inl ⟨rfl, rfl⟩⟩
      · rename (¬ mk < _) => hc
        exfalso
        rw [List.length_append, List.length_singleton] at hc
        lia
  · refine ⟨_, _, _, doms, trs, nD, nT, rfl, F5, N5, fun z hz => rfl, ?_⟩
    obtain ⟨h1, h2, h3⟩ | ⟨e, x, t, d, l, rv, spk, ts, n, h1, h2, h3, h4, h5, h6⟩ := hP
    · exact .inl ⟨h2.symm, h3.symm⟩
    · exact .inr ⟨rfl, rfl, rfl, e, x, t, d, l, rv, spk, ts, n, h1, h3, h4, h5, h6⟩
end
section
theorem new_var_does (w : World) (rest : List (Addr × Obj)) (st dx D Fi Tr Mk Nw d : Addr) (doms fs : List Value) (nD nF : Nat) (t1 t2 t3 t4 t5 t6 t7 t8 sp : Tok) (fl : Bool) (cv : Value) (ps : List (Int × Int))
    (ms : (st, instObj 270 dx) ∈ rest) (mx : (dx, stD w.params t1 t2 t3 t4 t5 t6 t7 t8 D Fi Tr Mk Nw sp fl cv 8) ∈ rest) (hd : DomIn rest d ps) (hne : ps ≠ []) (hz : doms.length ≤ 100) (hzf : fs.length ≤ 100)
    (e1 : @Ne Nat D Fi) (r1 : ∀ p ∈ rest, p.1 ≠ D) (r2 : ∀ p ∈ rest, p.1 ≠ Fi) :
    Does w 141 ((D, listOf doms.toArray nD) :: (Fi, listOf fs.toArray nF) :: rest) [.ref st, .ref d] 3 120 (fun r news' => ∃ nD' nF', news' = (D, listOf (doms ++ [Value.ref d]).toArray nD') :: (Fi, listOf (fs ++ [Value.ref d]).toArray nF') :: rest) := by
  k_extra "m_enter"
  replace F1 : Fr g1 L1 h1 (fun y => List.lookup y [(Str.ofString "domain", Value.ref d), (Str.ofString "self", Value.ref st)]) := F1
  have hlen : (doms ++ [Value.ref d]).length = doms.length + 1 := by rw [List.length_append]; rfl
  k_steps
  rename News h₀ _ _ _ => kN
  exact hret _ _ _ _ ⟨_, _, rfl⟩ (by assumption) (drop_h kN)
theorem store_does (w : World) (rest : List (Addr × Obj)) : Does w 270 rest [] 3 120 (fun r news' => Ex18 fun st dx D Fi Tr Mk Nw on t1 t2 t3 t4 t5 t6 t7 t8 sp cv => r = .ref st ∧ on.IsDictOf (PySem.intKind PySem.Challenge.rw_nz0015_01.row.prog w) ([] : List (Int × Value)) ∧
      news' = (st, instObj 270 dx) :: (dx, stD w.params t1 t2 t3 t4 t5 t6 t7 t8 D Fi Tr Mk Nw sp false cv 8) :: (D, listOf (List.toArray []) 0) :: (Fi, listOf (List.toArray []) 0) :: (Tr, listOf (List.toArray []) 0) :: (Mk, listOf (List.toArray []) 0) :: (Nw, on) :: rest ∧ (∀ p ∈ rest, p.1 < dx) ∧ @LT.lt Nat _ dx st ∧ @LT.lt Nat _ st D ∧ @LT.lt Nat _ D Fi ∧ @LT.lt Nat _ Fi Tr ∧ @LT.lt Nat _ Tr Mk ∧ @LT.lt Nat _ Mk Nw) := by
  unfold Does
  k_fill
  intro mean mg mb dp un gd cn cs a ccd cl outer A₀ base h₀ L m s Q E B F X N T hk hdp hun hret
  k_dflt (refine' call_cls ?k1 ?k2 ?k3 ?k4 ?k5 ?k6 ?_; (case k1 => k_asm); (case k2 => k_asm); (case k3 => k_asm); (case k4 => k_is); (case k5 => k_is); (case k6 => k_is); k_whole; intro x' d' h' F' N' l1 l2; have l10 : ∀ p ∈ rest, p.1 < d' := l1; have l20 : @LT.lt Nat _ d' x' := l2; (try k_lt l1); (try k_lt2 l2); (try k_sweep))
  k_dflt (refine' code_def (by k_asm) (by k_asm) (by k_asm) (by k_asm) (by k_asm) (by exact rfl) (by exact rfl) (by assumption) (by k_is) (by k_is) (by ktr_room) (BindsTo.of_eq rfl) (locs (by exact rfl)) ?_ (by exact rfl) (by exact rfl) (by exact rfl) (by decide)); intro g1 L1 h1 FG1 F1 N1 B1 X1 T1; (try dsimp only); (try k_fold)
  replace F1 : Fr g1 L1 h1 (fun y => List.lookup y [(Str.ofString "self", Value.ref x')]) := F1
  k_steps
  rename News h₀ _ _ _ => kN
  refine hret _ _ _ _ ?_ (by assumption) (perm8 kN)
  refine ⟨_, _, _, _, _, _, _, _, _, _, _, _, _, _, _, _, _, _, rfl, ?_, rfl, l10, l20, ?_, ?_, ?_, ?_, ?_⟩
  all_goals first | assumption | lia
end
section
/-- the contract of a def that may draw an order -/
def DoesD (w : World) (f : Addr) (news : List (Addr × Obj)) (vs : List Value) (D U : Nat) (Post : Value → List (Addr × Obj) → Prop) : Prop :=
  ∀ (mean : ExcName → Option Value) (mg mb : Str → Option Value) (dp un : Nat) (gd : Option (List Code)) (cn : Str) (cs : Scope) (a : Addr) (ccd : Value) (cl : List (Str × Addr)) (outer : List Env) (A₀ : Around) (base h₀ : Heap) (L : Addr) (m : Str → Option Value) (s : Shared) (Q E : Value → Shared → Prop),
    Below A₀ base outer h₀ → Fr h₀ L s.heap m → (Mine.hd.heap_39 w.params).In h₀ → News h₀ L s.heap news → Top Mine.hd.view_39 (looseW Mine.hd.view_39 [Str.ofString "has_domains"]) mean mg mb h₀ → cs.kind = .function →
    dp + D < recursionLimit → un + U < cLine →
    (∀ r news' h' tk' d', Post r news' → Fr h₀ L h' m → News h₀ L h' news' → Q r { s with heap := h', toks := tk', drawn := d' }) →
      wpAny (model PySem.Challenge.rw_nz0015_01.row.prog w) (ktrTop dp un gd cn cs L a ccd cl outer) (call (.ref f) vs) Q E s
theorem DoesD.use {w : World} {f : Addr} {news : List (Addr × Obj)} {vs : List Value} {D U : Nat} {Post : Value → List (Addr × Obj) → Prop} (H : DoesD w f news vs D U Post)
    {mean : ExcName → Option Value} {mg mb : Str → Option Value} {dp un : Nat} {gd : Option (List Code)} {cn : Str} {cs : Scope} {a : Addr} {ccd : Value} {cl : List (Str × Addr)} {outer : List Env} {A₀ : Around} {base h₀ : Heap} {L : Addr} {m : Str → Option Value} {s : Shared} {Q E : Value → Shared → Prop}
    (B : Below A₀ base outer h₀) (F : Fr h₀ L s.heap m) (X : (Mine.hd.heap_39 w.params).In h₀) (N : News h₀ L s.heap news) (T : Top Mine.hd.view_39 (looseW Mine.hd.view_39 [Str.ofString "has_domains"]) mean mg mb h₀) (hk : cs.kind = .function)
    (hd : dp + D < recursionLimit) (hu : un + U < cLine)
    (ret : ∀ r news' h' tk' d', Post r news' → Fr h₀ L h' m → News h₀ L h' news' → Q r { s with heap := h', toks := tk', drawn := d' }) :
      wpAny (model PySem.Challenge.rw_nz0015_01.row.prog w) (ktrTop dp un gd cn cs L a ccd cl outer) (call (.ref f) vs) Q E s :=
  H mean mg mb dp un gd cn cs a ccd cl outer A₀ base h₀ L m s Q E B F X N T hk hd hu ret
theorem DoesD.useE {w : World} {f : Addr} {news : List (Addr × Obj)} {vs : List Value} {D U : Nat} {Y : List (Addr × Obj)} {v : Value} (H : DoesD w f news vs D U (fun r news' => r = v ∧ news' = Y))
    {mean : ExcName → Option Value} {mg mb : Str → Option Value} {dp un : Nat} {gd : Option (List Code)} {cn : Str} {cs : Scope} {a : Addr} {ccd : Value} {cl : List (Str × Addr)} {outer : List Env} {A₀ : Around} {base h₀ : Heap} {L : Addr} {m : Str → Option Value} {s : Shared} {Q E : Value → Shared → Prop}
    (B : Below A₀ base outer h₀) (F : Fr h₀ L s.heap m) (X : (Mine.hd.heap_39 w.params).In h₀) (N : News h₀ L s.heap news) (T : Top Mine.hd.view_39 (looseW Mine.hd.view_39 [Str.ofString "has_domains"]) mean mg mb h₀) (hk : cs.kind = .function)
    (hd : dp + D < recursionLimit) (hu : un + U < cLine)
    (ret : ∀ h' tk' d', Fr h₀ L h' m → News h₀ L h' Y → Q v { s with heap := h', toks := tk', drawn := d' }) :
      wpAny (model PySem.Challenge.rw_nz0015_01.row.prog w) (ktrTop dp un gd cn cs L a ccd cl outer) (call (.ref f) vs) Q E s :=
  H mean mg mb dp un gd cn cs a ccd cl outer A₀ base h₀ L m s Q E B F X N T hk hd hu fun _ _ h' tk' d' ⟨e1, e2⟩ F N => by subst e1 e2; exact ret h' tk' d' F N
section
variable {prog : Program} {w : World} {A : Around} {E : Value → Shared → Prop} {s : Shared} {env : Env} {h₀ : Heap} {body : List Stmt} {Q : Flow → Shared → Prop}
inductive TurnN (h₀ : Heap) (L : Addr) (gs : Array GenState) (os : OsState) (I : Addr) (it : Obj) (J : (Str → Option Value) → List (Addr × Obj) → Prop) : Shared → Prop
  | mk (h' : Heap) (tk : Nat) (d : Drawn) (m' : Str → Option Value) (news' : List (Addr × Obj)) (F : Fr h₀ L h' m') (N : News h₀ L h' ((I, it) :: news')) (off : ∀ p ∈ news', p.1 ≠ I) (hJ : J m' news') : TurnN h₀ L gs os I it J { heap := h', gens := gs, drawn := d, toks := tk, os := os }
def TurnX (h₀ : Heap) (L : Addr) (s₁ : Shared) (I : Addr) (it : Obj) (J : (Str → Option Value) → List (Addr × Obj) → Prop) (Q : Flow → Shared → Prop) (f : Flow) (s₂ : Shared) : Prop :=
  match f with
  | .ret v => Q (.ret v) s₂
  | .brk => Q .next s₂
  | _ => TurnN h₀ L s₁.gens s₁.os I it J s₂
inductive RangeTurns (prog : Program) (w : World) (A : Around) (h₀ : Heap) (env : Env) (x : Str) (body : List Stmt) (Q : Flow → Shared → Prop) (E : Value → Shared → Prop) (s₁ : Shared) (a₀ : Int) (n : Nat) (m : Str → Option Value) (news : List (Addr × Obj)) (I : Addr) : Prop
  | mk (J : Nat → (Str → Option Value) → List (Addr × Obj) → Prop) (h0 : J 0 m news)
      (turn : ∀ i m₁ news₁ t h tk d, i < n → J i m₁ news₁ → (∀ p ∈ news₁, p.1 ≠ I) → Fr h₀ env.locals h (fun y => if y = x then some (.int (a₀ + (i : Int)) t) else m₁ y) → News h₀ env.locals h ((I, itR (a₀ + ((i + 1 : Nat) : Int)) ((n : Int) - ((i + 1 : Nat) : Int))) :: news₁) →
        wpAny (model prog w) A (execs body env) (TurnX h₀ env.locals s₁ I (itR (a₀ + ((i + 1 : Nat) : Int)) ((n : Int) - ((i + 1 : Nat) : Int))) (J (i + 1)) Q) E { s₁ with heap := h, toks := tk, drawn := d })
      (fin : ∀ m' news' h tk d, J n m' news' → Fr h₀ env.locals h m' → News h₀ env.locals h news' → Q .next { s₁ with heap := h, toks := tk, drawn := d })
inductive RangeGoD (prog : Program) (w : World) (A : Around) (h₀ : Heap) (env : Env) (x : Str) (body : List Stmt) (Q : Flow → Shared → Prop) (E : Value → Shared → Prop) (s₁ : Shared) : Value → Prop
  | mk (r : Addr) (a₀ b₀ : Int) (t u v : Tok) (n : Nat) (m : Str → Option Value) (news : List (Addr × Obj)) (hh : A.handled = none) (hr : IsRange s₁.heap r a₀ b₀ 1 t u v) (hsm : Builtin.Range.small a₀ b₀ 1 = true) (hn : Builtin.Range.rangeSize a₀ b₀ 1 = ((n : Nat) : Int)) (F : Fr h₀ env.locals s₁.heap m) (N : News h₀ env.locals s₁.heap news)
      (G : ∀ I : Addr, (∀ p ∈ news, p.1 < I) → RangeTurns prog w A h₀ env x body Q E s₁ a₀ n m news I) : RangeGoD prog w A h₀ env x body Q E s₁ (.ref r)
def RangeGoX (prog : Program) (w : World) (A : Around) (h₀ : Heap) (env : Env) (x : Str) (body : List Stmt) (Q : Flow → Shared → Prop) (E : Value → Shared → Prop) (xv : Value) (s₁ : Shared) : Prop := RangeGoD prog w A h₀ env x body Q E s₁ xv
/-- what stands ahead of a turn -/
inductive RangeAt (h₀ : Heap) (L : Addr) (s₁ : Shared) (I : Addr) (a₀ : Int) (n : Nat) (J : Nat → (Str → Option Value) → List (Addr × Obj) → Prop) : Nat → Shared → Prop
  | mk (h' : Heap) (tk : Nat) (d : Drawn) (m' : Str → Option Value) (news' : List (Addr × Obj)) (i : Nat) (hst : IsRangeIter h' I (a₀ + (i : Nat) * 1) ((n : Int) - (i : Nat)) 1) (F : Fr h₀ L h' m') (N : News h₀ L h' news') (off : ∀ p ∈ news', p.1 ≠ I) (hJ : J i m' news') (hi : i ≤ n) : RangeAt h₀ L s₁ I a₀ n J (n + 1 - i) { s₁ with heap := h', toks := tk, drawn := d }
theorem For_rangeX {x : Str} {px pos : Pos} {iter : PySem.Expr} {m : Str → Option Value} (_F : Fr h₀ env.locals s.heap m) (hx : env.kindOf x = some .local) (hk : env.scope.kind = .function)
    (h : wpAny (model prog w) A (eval iter env) (RangeGoX prog w A h₀ env x body Q E) E s)
    (hs : ∀ x, foldedSetIterable iter env x = pure x := by intro _; rfl)
    (hE : PassesOwn (model prog w) A env E := by passes_own) :
    wpAny (model prog w) A (exec (.For (.Name x px) iter body [] pos) env) Q E s := by
  refine wpAny_For (wpAny_mono h (fun xv s₁ h₁ => ?_) fun _ _ e => e) hs
  cases h₁ with
  | mk r a₀ b₀ t u v n m₀ news hh hr hsm hn F N G =>
  refine wpAny_pyIter_range hr hsm ?_
  cases G s₁.heap.objs.size fun p hp => Heap.lt_size (N p hp).1 with
  | mk J h0 turn fin =>
  have W := Walks.range (prog := prog) (w := w) hh s₁.heap.objs.size a₀ 1 n
  have hLI : env.locals ≠ s₁.heap.objs.size := Nat.ne_of_lt F.ns.lt
  have hI₀ : h₀.get? s₁.heap.objs.size = none := next_is_new F
  have hp : (env.scope.kind == .class || (env.scope.kind == .module && env.locals != env.globals)) = false := by rw [hk]; rfl
  refine codeAny_forLoop_any (RangeAt h₀ env.locals s₁ s₁.heap.objs.size a₀ n J) ?_ (n + 1)
    (.mk _ s₁.toks s₁.drawn m₀ news 0 (by show IsRangeIter _ _ _ _ _; rw [hn]; simpa using Heap.get?_push_size _ rfl) (F.push _) (fun p hp => ⟨Heap.get?_push_of_some _ (N p hp).1, (N p hp).2⟩) (fun p hp => Nat.ne_of_lt (Heap.lt_size (N p hp).1)) h0 (Nat.zero_le _))
  clear hr hsm hn F N h0 G
  generalize s₁.heap.objs.size = I at *
  intro k s' hat
  cases hat with
  | mk h' tk d m' news' i hst' F' N' hnw' hJ hi =>
  have next : ∀ h₁ : Heap, (∀ b o, b ∉ [I] → h'.get? b = some o → h₁.get? b = some o) → Fr h₀ env.locals h₁ m' ∧ News h₀ env.locals h₁ news' := fun h₁ hk₁ =>
    ⟨LCg.fr_but F' hk₁ hLI hI₀, LCg.news_but N' hk₁ hnw'⟩
  by_cases hlt : i < n
  · refine W.item i _ _ _ hlt hst' fun v h₁ tk₁ hP hst₁ hk₁ => ?_
    obtain ⟨t, rfl⟩ := hP
    obtain ⟨F₁, N₁⟩ := next h₁ hk₁
    clear next hk₁
    have e1 : a₀ + ((i : Nat) : Int) * 1 = a₀ + (i : Int) := by rw [Int.mul_one]
    have e2 : a₀ + ((i + 1 : Nat) : Int) * 1 = a₀ + ((i + 1 : Nat) : Int) := by rw [Int.mul_one]
    have hgI : h₁.get? I = some (itR (a₀ + ((i + 1 : Nat) : Int)) ((n : Int) - ((i + 1 : Nat) : Int))) := by
      have q : IsRangeIter h₁ I (a₀ + ((i + 1 : Nat) : Int) * 1) ((n : Int) - ((i + 1 : Nat) : Int)) 1 := hst₁
      rw [e2] at q
      exact q
    refine go_plain _ _ _ _ _ ⟨_, hgI, .inr (.inr rfl)⟩ ?_
    refine wpAny_assign_Name (wpAny_storeName_local hx F₁.ns (fun h₂ hn₂ hs₂ => ?_) hp)
    have N₂ : News h₀ env.locals h₂ ((I, itR (a₀ + ((i + 1 : Nat) : Int)) ((n : Int) - ((i + 1 : Nat) : Int))) :: news') :=
      news_cons (hs₂.extBut _ _ (Ne.symm hLI) hgI) (Ne.symm hLI) hI₀ fun p hp => ⟨hs₂.extBut _ _ (N₁ p hp).2.1 (N₁ p hp).1, (N₁ p hp).2⟩
    rw [e1] at hn₂
    have F₂ := F₁.set hn₂ hs₂
    refine wpAny_mono (wpAny_passesOwn hE (turn i m' news' t h₂ _ d hlt hJ hnw' F₂ N₂)) (fun f s₃ h₃ => ?_) fun _ _ e => e
    have again : TurnN h₀ env.locals s₁.gens s₁.os I (itR (a₀ + ((i + 1 : Nat) : Int)) ((n : Int) - ((i + 1 : Nat) : Int))) (J (i + 1)) s₃ → ∃ m, m < n + 1 - i ∧ RangeAt h₀ env.locals s₁ I a₀ n J m s₃ := by
      intro h₃
      cases h₃ with
      | mk h₄ tk₄ d₄ m₄ news₄ F₄ N₄ off₄ hJ₄ =>
      refine ⟨n + 1 - (i + 1), Nat.sub_lt_sub_left (Nat.lt_succ_of_lt hlt) (Nat.lt_succ_self i), .mk h₄ tk₄ d₄ m₄ news₄ (i + 1) ?_ F₄ (fun p hp => N₄ p (.tail _ hp)) off₄ hJ₄ hlt⟩
      show h₄.get? _ = some _
      rw [e2]
      exact (N₄ _ (.head _)).1
    cases f with
    | ret v => exact h₃
    | brk => exact h₃
    | cont => exact again h₃
    | next => exact again h₃
  · obtain rfl : i = n := Nat.le_antisymm hi (Nat.not_lt.mp hlt)
    refine W.done _ _ _ hst' fun h₁ tk₁ hk₁ => wpAny_execs_nil ?_
    obtain ⟨F₁, N₁⟩ := next h₁ hk₁
    exact fin m' news' h₁ tk₁ d hJ F₁ N₁
end
end
section
def subs : List Int → List (List Int)
  | [] => [[]]
  | a :: l => (subs l).map (a :: ·) ++ subs l
theorem mem_subs : ∀ {l L : List Int}, l.Sublist L → l ∈ subs L
  | _, _, .slnil => .head _
  | _, _, .cons a h => List.mem_append_right _ (mem_subs h)
  | _, _, .cons₂ a h => List.mem_append_left _ (List.mem_map.mpr ⟨_, mem_subs h, rfl⟩)
def vals9 : List Int := [-1, 0, 1, 2, 3, 4, 5, 6, 7]
def litAt (first here : List Int) (v : Int) : Option (Sign × Int) := if here.contains v then none else lackLit (ofVals first) (ofVals here) v
def litsOf (first here : List Int) : List (Sign × Int) := vals9.filterMap (litAt first here)
def toldOk (first here : List Int) : Bool :=
  (vals9.all fun v => here.contains v || (if first.contains v then isFit (lackLit (ofVals first) (ofVals here) v) v first here else (lackLit (ofVals first) (ofVals here) v).isNone)) &&
  decide (litsOf first here).Nodup && decide ((litsOf first here).length ≤ 5) && decide (first.filter (fun v => (litsOf first here).all fun q => !bars q.1 q.2 v) = here)
theorem told_all : ((subs [0, 1, 2, 3, 4, 5]).all fun first => (subs first).all fun here => here.isEmpty || toldOk first here) = true := by decide +kernel
theorem told_ok {first here : List Int} (h1 : first.Sublist [0, 1, 2, 3, 4, 5]) (h2 : here.Sublist first) (h3 : here ≠ []) : toldOk first here = true := by
  have a := List.all_eq_true.mp told_all _ (mem_subs h1)
  have b := List.all_eq_true.mp a _ (mem_subs h2)
  rcases Bool.or_eq_true _ _ ▸ b with h | h
  · exact absurd (List.isEmpty_iff.mp h) h3
  · exact h
theorem told_fit {first here : List Int} (h1 : first.Sublist [0, 1, 2, 3, 4, 5]) (h2 : here.Sublist first) (h3 : here ≠ []) {v : Int} (hv : v ∈ vals9) (hh : here.contains v = false) :
    (first.contains v = true → isFit (lackLit (ofVals first) (ofVals here) v) v first here = true) ∧ (first.contains v = false → lackLit (ofVals first) (ofVals here) v = none) := by
  have a := told_ok h1 h2 h3
  unfold toldOk at a
  rw [Bool.and_eq_true, Bool.and_eq_true, Bool.and_eq_true] at a
  have b := List.all_eq_true.mp a.1.1.1 v hv
  rw [hh, Bool.false_or] at b
  constructor
  · intro h; rw [h] at b; simpa using b
  · intro h; rw [h] at b; simpa using b
theorem told_nodup {first here : List Int} (h1 : first.Sublist [0, 1, 2, 3, 4, 5]) (h2 : here.Sublist first) (h3 : here ≠ []) : (litsOf first here).Nodup ∧ (litsOf first here).length ≤ 5 ∧ first.filter (fun v => (litsOf first here).all fun q => !bars q.1 q.2 v) = here := by
  have a := told_ok h1 h2 h3
  unfold toldOk at a
  rw [Bool.and_eq_true, Bool.and_eq_true, Bool.and_eq_true] at a
  exact ⟨of_decide_eq_true a.1.1.2, of_decide_eq_true a.1.2, of_decide_eq_true a.2⟩
def expand (d : List (Int × Int)) : List Int := ([0, 1, 2, 3, 4, 5] : List Int).filter fun v => decide (nextFrom d v = some v)
def keptBy (sg : Sign) (k : Int) (s : List Int) : List Int := s.filter fun v => !bars sg k v
theorem expand_all : ((subs [0, 1, 2, 3, 4, 5]).all fun s => decide (expand (ofVals s) = s)) = true := by decide +kernel
theorem expand_of {s : List Int} (h : s.Sublist [0, 1, 2, 3, 4, 5]) : expand (ofVals s) = s := of_decide_eq_true (List.all_eq_true.mp expand_all _ (mem_subs h))
theorem ofVals_inj {s t : List Int} (h1 : s.Sublist [0, 1, 2, 3, 4, 5]) (h2 : t.Sublist [0, 1, 2, 3, 4, 5]) (e : ofVals s = ofVals t) : s = t := by rw [← expand_of h1, e, expand_of h2]
theorem ofVals_ne {s : List Int} (h1 : s.Sublist [0, 1, 2, 3, 4, 5]) (h : s ≠ []) : ofVals s ≠ [] := fun e => h (ofVals_inj h1 (List.nil_sublist _) e)
def signs4 : List Sign := [.le, .ge, .ne, .eq]
def ks8 : List Int := [-1, 0, 1, 2, 3, 4, 5, 6]
theorem struck_all : ((subs [0, 1, 2, 3, 4, 5]).all fun s => signs4.all fun sg => ks8.all fun k => decide (struckD sg k (ofVals s) = ofVals (keptBy sg k s))) = true := by decide +kernel
theorem struck_of {s : List Int} (h : s.Sublist [0, 1, 2, 3, 4, 5]) (sg : Sign) {k : Int} (h0 : -1 ≤ k) (h1 : k < 7) : struckD sg k (ofVals s) = ofVals (keptBy sg k s) := by
  have a := List.all_eq_true.mp struck_all _ (mem_subs h)
  have b := List.all_eq_true.mp a sg (by cases sg <;> decide)
  exact of_decide_eq_true (List.all_eq_true.mp b k (by
    have : k = -1 ∨ k = 0 ∨ k = 1 ∨ k = 2 ∨ k = 3 ∨ k = 4 ∨ k = 5 ∨ k = 6 := by lia
    rcases this with rfl | rfl | rfl | rfl | rfl | rfl | rfl | rfl <;> decide))
theorem kept_sub (sg : Sign) (k : Int) (s : List Int) : (keptBy sg k s).Sublist s := List.filter_sublist
end
section
section
variable {prog : Program} {w : World} {A : Around} {E : Value → Shared → Prop} {s : Shared} {h₀ : Heap} {L : Addr} {news : List (Addr × Obj)} {Q : Value → Shared → Prop}
/-- a list against the empty list -/
theorem ne_nilL {l b : Addr} {vs : List Value} {n k : Nat} (N : News h₀ L s.heap news) (hl : (l, listOf vs.toArray n) ∈ news) (hb : (b, listOf (List.toArray []) k) ∈ news) (hu : A.units + 64 < cLine) (h : Q (.bool (!decide (vs = []))) s) :
    wpAny (model prog w) A (compareOp .NotEq (.ref l) (.ref b)) Q E s := by
  by_cases hv : vs = []
  · subst hv
    refine PySem.W.cmp_ofNotEq (SeqAt.RcNeAt.lists (e := fun _ => true) (isList_of N hl) (isList_of N hb) rfl (by lia) (fun j h1 => absurd h1 (by simp)) prog w E Q ?_)
    simpa using h
  · refine PySem.W.cmp_ofNotEq (SeqAt.RcNeAt.lists_lengths (isList_of N hl) (isList_of N hb) ?_ (by lia) prog w E Q ?_)
    · have : 0 < vs.length := List.length_pos_iff.mpr hv
      simp only [List.size_toArray, List.length_nil, bne_iff_ne, ne_eq]
      lia
    · simpa [hv] using h
/-- two lists of the same -/
theorem ne_sameL {l b : Addr} {vs : List Value} {n k : Nat} (N : News h₀ L s.heap news) (hl : (l, listOf vs.toArray n) ∈ news) (hb : (b, listOf vs.toArray k) ∈ news) (hu : A.units + 64 < cLine) (h : Q (.bool false) s) :
    wpAny (model prog w) A (compareOp .NotEq (.ref l) (.ref b)) Q E s := by
  refine PySem.W.cmp_ofNotEq (SeqAt.RcNeAt.lists (e := fun _ => true) (isList_of N hl) (isList_of N hb) rfl (by lia) (fun j h1 h2 => SeqAt.EqAt.same _) prog w E Q ?_)
  have e : ((List.range vs.toArray.size).all fun _ => true) = true := List.all_eq_true.mpr fun _ _ => rfl
  rw [e]
  exact h
theorem list_ofT {b : Addr} {vs : List Value} {n : Nat} {m : Str → Option Value} (F : Fr h₀ L s.heap m) (N : News h₀ L s.heap news) (hb : (b, tupO vs n) ∈ news) (hz : vs.length ≤ 1000)
    (h : ∀ D c h', Fr h₀ L h' m → News h₀ L h' ((D, listOf vs.toArray c) :: news) → (∀ q ∈ news, q.1 < D) → Q (.ref D) { s with heap := h' }) : wpAny (model prog w) A (call (.type "list") [.ref b]) Q E s :=
  PySem.W.kup_listOfT F N hb (by simp) h (by rw [sizeLine_eq]; simp; lia)
theorem list_ofL {b : Addr} {vs : List Value} {n : Nat} {m : Str → Option Value} (F : Fr h₀ L s.heap m) (N : News h₀ L s.heap news) (hb : (b, listOf vs.toArray n) ∈ news) (hz : vs.length ≤ 1000)
    (h : ∀ D c h', Fr h₀ L h' m → News h₀ L h' ((D, listOf vs.toArray c) :: news) → (∀ q ∈ news, q.1 < D) → Q (.ref D) { s with heap := h' }) : wpAny (model prog w) A (call (.type "list") [.ref b]) Q E s :=
  PySem.W.kup_listOf F N hb (by simp) h (by rw [sizeLine_eq]; simp; lia)
end
section
variable {prog : Program} {w : World} {A : Around} {E : Value → Shared → Prop} {s : Shared} {h₀ : Heap} {L : Addr} {m : Str → Option Value}
theorem comp_setcell {x : Str} {px : Pos} {scope : Scope} {cl : List (Str × Addr)} {env : Env} {C c : Addr} {o : Obj} {v₀ : Option Value} {v : Value} {own rest : List (Addr × Obj)} {Q : Unit → Shared → Prop} (F : Fr h₀ L s.heap m) (N : News h₀ L s.heap (own ++ (c, o) :: rest))
    (hl : (compEnvC scope cl C env).kindOf x = some .cell) (hk : (compEnvC scope cl C env).scope.kind = .function) (hc : cl.lookup x = some c) (hd : o.data = .cell v₀) (h1 : ∀ p ∈ own, p.1 ≠ c) (h2 : ∀ p ∈ rest, p.1 ≠ c)
    (h : ∀ h' o', Fr h₀ L h' m → News h₀ L h' (own ++ (c, o') :: rest) → o'.data = .cell (some v) → Q () { s with heap := h' }) : wpAny (model prog w) A (assign (.Name x px) (compEnvC scope cl C env) v) Q E s := by
  have hmem := N (c, o) (List.mem_append_right _ (.head _))
  refine wpAny_assign_Name (wpAny_storeName_cell hk hl hc ⟨o, hmem.1, hd⟩ fun h' hv hs => ?_)
  obtain ⟨o', ho', hd'⟩ := hv
  refine h h' o' ⟨F.ns.sameBut hs (Ne.symm hmem.2.1), fun b ob e => (hs.2 b (fun q => ?_)).trans (F.keep b ob e), F.above⟩ (N.setAt h1 h2 hs ho') hd'
  rw [q, hmem.2.2] at e; cases e
open PyProof.Rows.LCg in
theorem CompGoX.listC {elt target : PySem.Expr} {ifs : List PySem.Expr} {scope : Scope} {cl2 : Addr → List (Str × Addr)} {extra : Addr → List (Addr × Obj)} {env : Env} {Fin : Shared → Addr → List Value → List (Addr × Obj) → Prop} {a : Addr} {vs : List Value} {k : Nat} {news : List (Addr × Obj)} {s₁ : Shared}
    (hh : A.handled = none) (F : Fr h₀ L s₁.heap m) (N : News h₀ L s₁.heap news) (hm : (a, listOf vs.toArray k) ∈ news) (hsz : vs.length ≤ sizeLine) (J : Addr → Nat → List Value → List (Addr × Obj) → Prop) (h0 : ∀ C, (∀ p ∈ news, p.1 < C) → J C 0 [] (extra C ++ news)) (hJS : ∀ C i ys nw, J C i ys nw → (a, listOf vs.toArray k) ∈ nw)
    (turn : ∀ I C D i ys news v oI oC m₂ h tk d (E' : Value → Shared → Prop), I ≠ C → I ≠ D → C ≠ D → vs[i]? = some v → J C i ys news → Fr h₀ L h m → News h₀ L h ((I, oI) :: (C, oC) :: (D, lst ys) :: news) → NsObj oC m₂ → Off3 I C D news →
        wpAny (model prog w) A (assign target (compEnvC scope (cl2 C) C env) v) (fun _ s₂ => wpAny (model prog w) A (tests ifs (compEnvC scope (cl2 C) C env)) (fun ok s₃ =>
          if ok = true then wpAny (model prog w) A (eval elt (compEnvC scope (cl2 C) C env)) (fun y => TurnOkX h₀ L m s₁ I oI C D (lst ys) (J C (i + 1) (ys ++ [y]))) E' s₃
          else TurnOkX h₀ L m s₁ I oI C D (lst ys) (J C (i + 1) ys) s₃) E' s₂) E' { s₁ with heap := h, toks := tk, drawn := d })
    (fin : ∀ C D ys news', Off1 D news' → J C vs.length ys news' → Fin s₁ D ys news') : CompGoX prog w A h₀ L m env elt target ifs scope cl2 extra Fin (.ref a) s₁ :=
  CompGoD.mk a news vs.length _ _ hh F N (.lst vs k) hm hsz fun I C D _ h1 h2 h3 hl _ => .mk (J C) (h0 C fun p hp => (hl p hp).2.1) (hJS C) (fun i ys news v oI oC m₂ h tk d E' _ hP hJ _ => turn I C D i ys news v oI oC m₂ h tk d E' h1 h2 h3 hP hJ) (fin C D)
end
end
section
/-- a tuple -/
def isT (p : Addr × Obj) : Prop := ∃ vs n, p.2 = tupO vs n
noncomputable def tupz (l : List (Addr × Obj)) : List (Addr × Obj) := by
  classical exact l.filter fun p => decide (isT p)
theorem mem_tupz {l : List (Addr × Obj)} {p : Addr × Obj} : p ∈ tupz l ↔ p ∈ l ∧ isT p := by
  classical
  unfold tupz
  simp [List.mem_filter]
theorem isT.ne_data {h₀ h : Heap} {L : Addr} {news : List (Addr × Obj)} {p q : Addr × Obj} (t : isT p) (N : News h₀ L h news) (hp : p ∈ news) (hq : q ∈ news) (hd : ∀ a n, q.2.data ≠ .seq a n) : p.1 ≠ q.1 :=
  ne_of_data N hp hq fun e => by obtain ⟨vs, n, e2⟩ := t; rw [e2] at e; exact hd _ _ e.symm
theorem isT.ne_cls {h₀ h : Heap} {L : Addr} {news : List (Addr × Obj)} {p q : Addr × Obj} (t : isT p) (N : News h₀ L h news) (hp : p ∈ news) (hq : q ∈ news) (hd : q.2.cls ≠ .type "tuple") : p.1 ≠ q.1 :=
  ne_of_cls N hp hq fun e => by obtain ⟨vs, n, e2⟩ := t; rw [e2] at e; exact hd e.symm
theorem LitIn.selT {news news' : List (Addr × Obj)} {a : Addr} {x k : Int} {sg : Sign} (y : LitIn news a x sg k) (h : ∀ p ∈ news, isT p → p ∈ news') : LitIn news' a x sg k :=
  let ⟨t1, t2, t3, n, hm⟩ := y; ⟨t1, t2, t3, n, h _ hm ⟨_, _, rfl⟩⟩
theorem PairsIn.selT {news news' : List (Addr × Obj)} (h : ∀ p ∈ news, isT p → p ∈ news') : ∀ {vs : List Value} {ps : List (Int × Int)}, PairsIn news vs ps → PairsIn news' vs ps
  | [], [], _ => trivial
  | [], _ :: _, x => x.elim
  | _ :: _, [], x => x.elim
  | _ :: _, _ :: _, ⟨⟨b, t1, t2, n, e, hm⟩, r⟩ => ⟨⟨b, t1, t2, n, e, h _ hm ⟨_, _, rfl⟩⟩, r.selT h⟩
theorem DomIn.selT {news news' : List (Addr × Obj)} {a : Addr} {ps : List (Int × Int)} (x : DomIn news a ps) (h : ∀ p ∈ news, isT p → p ∈ news') : DomIn news' a ps :=
  let ⟨vs, n, hm, hp⟩ := x; ⟨vs, n, h _ hm ⟨_, _, rfl⟩, hp.selT h⟩
theorem LitsIn.selT {news news' : List (Addr × Obj)} {x : Int} {its : List LItem} (l : LitsIn news x its) (h : ∀ p ∈ news, isT p → p ∈ news') : LitsIn news' x its := fun i hi => (l i hi).selT h
theorem LitsIn.app {news : List (Addr × Obj)} {x : Int} {a b : List LItem} (l : LitsIn news x a) (r : LitsIn news x b) : LitsIn news x (a ++ b) := fun i hi => by
  rcases List.mem_append.mp hi with h | h
  · exact l i h
  · exact r i h
theorem lack_split {news : List (Addr × Obj)} {a : Addr} {x : Int} {q : Option (Sign × Int)} (p : LackIs news a x q) : ∃ its n, (a, listOf (refsOf its).toArray n) ∈ news ∧ its.map (·.1) = q.toList ∧ LitsIn news x its := by
  cases q with
  | none => obtain ⟨n, hm⟩ := p; exact ⟨[], n, hm, rfl, fun i hi => by simp at hi⟩
  | some q => obtain ⟨b, n, hm, hl⟩ := p; exact ⟨[(q, b)], n, hm, rfl, fun i hi => by rw [List.mem_singleton.mp hi]; exact hl⟩
theorem LackIs.of {news : List (Addr × Obj)} {a : Addr} {x : Int} {q : Option (Sign × Int)} {its : List LItem} {n : Nat} (hm : (a, listOf (refsOf its).toArray n) ∈ news) (e : its.map (·.1) = q.toList) (hl : LitsIn news x its) : LackIs news a x q := by
  cases q with
  | none =>
    have : its = [] := by simpa using e
    subst this; exact ⟨n, hm⟩
  | some q =>
    match its, e with
    | [i], e =>
      have e' : i.1 = q := by simpa using e
      subst e'
      exact ⟨i.2, n, hm, hl i (.head _)⟩
end
theorem words_W16_1 : True := by
  k_with "exec For Name Call cons nil" => (((k_here; (rename Fr _ _ _ _ => lF'_w); (with_unfolding_all refine' For_rangeX lF'_w (by rfl) (by rfl) ?_; k_whole))); (try revert lF'_w); intros)
  k_with "binaryOp Add ref ref" => (((k_here; (with_reducible show wpAny _ _ (binaryOp _ (Value.ref _) (Value.ref _)) _ _ _); k_dflt (refine' add_listsN ?F_q ?N_q ?a_q ?b_q ?z_q ?_; (case F_q => k_asm); (case N_q => k_asm); (case a_q => k_memK); (case b_q => k_memK); (case z_q => first | assumption | (simp only [List.length_append, List.length_cons, List.length_nil, List.length_map]; omega))); intro D'_w h'_w F'_w N'_w l1_w; (try k_lt l1_w); (try k_sweep))); (try revert l1_w); (try revert N'_w); (try revert F'_w); (try revert h'_w); (try revert D'_w); intros)
  k_with "call ref" => (((k_here; (with_reducible show wpAny _ _ (call (Value.ref 115) _) _ _ _); refine Halt.mk ?_)))
  k_with "call ref" => (((k_here; (with_reducible show wpAny _ _ (call (Value.ref 120) _) _ _ _); refine Halt.mk ?_)))
  k_with "call ref" => (((k_here; (with_reducible show wpAny _ _ (call (Value.ref 298) _) _ _ _); refine Halt.mk ?_)))
  k_with "call type:set" => (((k_here; (with_reducible show wpAny _ _ (call (Value.type "set") _) _ _ _); refine Halt.mk ?_)))
  k_with "call builtin:sorted" => (((k_here; (with_reducible show wpAny _ _ (call (Value.builtin "sorted") _) _ _ _); refine Halt.mk ?_)))
  k_with "compareOp NotEq ref ref" => (((k_here; k_dflt (refine' ne_sameL ?k1_q ?k2_q ?k3_q ?k6_q ?_; (case k1_q => k_asm); (case k2_q => k_memK); (case k3_q => k_memK); (case k6_q => (first | ktr_units | (simp only [ktrTop, Around.in1]; omega))); k_whole))))
  k_with "call type:list" => (((k_here; (with_reducible show wpAny _ _ (call (Value.type "list") [Value.ref _]) _ _ _); k_dflt (first   | (refine' list_ofT ?F_q ?N_q ?b_q ?z_q ?_; (case F_q => k_asm); (case N_q => k_asm); (case b_q => k_memK); (case z_q => first | assumption | omega))   | (refine' list_ofL ?F_q ?N_q ?b_q ?z_q ?_; (case F_q => k_asm); (case N_q => k_asm); (case b_q => k_memK); (case z_q => first | assumption | omega))); intro D'_w c'_w h'_w F'_w N'_w l1_w; (try k_lt l1_w); (try k_sweep))); (try revert l1_w); (try revert N'_w); (try revert F'_w); (try revert h'_w); (try revert c'_w); (try revert D'_w); intros)
  trivial
section
theorem lits_snoc {first here : List Int} {i : Nat} {v : Int} (h : vals9[i]? = some v) : (vals9.take (i + 1)).filterMap (litAt first here) = (vals9.take i).filterMap (litAt first here) ++ (litAt first here v).toList := by
  rw [take_snoc h, List.filterMap_append]
  cases e : litAt first here v <;> simp [e]
theorem vals9_at : ∀ i : Nat, i < 9 → vals9[i]? = some (-1 + (i : Int)) := by decide
theorem IntsIn.mono' {news news' : List (Addr × Obj)} {a : Addr} {ns : List Int} (h : IntsIn news a ns) (s : ∀ p ∈ news, p ∈ news') : IntsIn news' a ns := h.mono s
theorem LackIs.cases {news : List (Addr × Obj)} {a : Addr} {x : Int} {q : Option (Sign × Int)} (h : LackIs news a x q) : ∃ vs n, (a, listOf vs.toArray n) ∈ news ∧ (q = none → vs = []) := by
  cases q with
  | none => obtain ⟨n, hm⟩ := h; exact ⟨[], n, hm, fun _ => rfl⟩
  | some q => obtain ⟨b, n, hm, _⟩ := h; exact ⟨[.ref b], n, hm, fun e => by cases e⟩
def M0 (st f hr : Addr) (x : Int) (t : Tok) : Str → Option Value := fun y => if y = Str.ofString "here" then some (Value.ref hr) else if y = Str.ofString "first" then some (Value.ref f) else if y = Str.ofString "x" then some (Value.int x t) else if y = Str.ofString "store" then some (Value.ref st) else none
/-- what holds at the head of a turn -/
inductive ToldInv (rest : List (Addr × Obj)) (st f hr I C : Addr) (x : Int) (t : Tok) (first here : List Int) (i : Nat) (m' : Str → Option Value) (nw : List (Addr × Obj)) : Prop
  | mk (hp : Addr) (tl : List (Addr × Obj)) (hs its : List LItem) (nn : Nat) (oc : Obj) (vc : Option Value) (h1 : m' (Str.ofString "heap") = some (.ref hp)) (h2 : ∀ z, ([Str.ofString "heap", Str.ofString "v"] : List Str).contains z = false → m' z = M0 st f hr x t z)
    (h3 : oc.data = Data.cell vc) (h4 : nw = (hp, listOf (refsOf hs).toArray nn) :: (C, oc) :: (tl ++ rest)) (h5 : ∀ p ∈ tl ++ rest, p.1 ≠ I ∧ p.1 ≠ C) (h6 : @Ne Nat hp I) (h7 : @Ne Nat hp C) (h8 : @Ne Nat C I) (h9 : LitsIn (tl ++ rest) x its) (ha : ∀ i ∈ hs, i ∈ its) (hb : ∀ i ∈ its, i ∈ hs) (hc : hs.length ≤ 2 * i)
    (hd : its.map (·.1) = (vals9.take i).filterMap (litAt first here)) : ToldInv rest st f hr I C x t first here i m' nw
theorem told_all_iff {out its : List LItem} {l : List (Sign × Int)} {n : Int} (ho : out.Perm its) (he : its.map (·.1) = l) : decide (List.map (fun _ => (1 : Int)) (List.filter (fun q => bars q.1.1 q.1.2 n) (List.take (refsOf out).length out)) = []) = l.all fun q => !bars q.1 q.2 n := by
  rw [List.length_map, List.take_length, Bool.eq_iff_iff, decide_eq_true_iff, List.map_eq_nil_iff, List.filter_eq_nil_iff, List.all_eq_true, ← he]
  constructor
  · intro h q hq
    obtain ⟨i, hi, rfl⟩ := List.mem_map.mp hq
    have := h i (ho.mem_iff.mpr hi)
    simpa using this
  · intro h i hi
    have := h i.1 (List.mem_map.mpr ⟨i, ho.mem_iff.mp hi, rfl⟩)
    simpa using this
theorem told_end {g1 h : Heap} {L1 I C D st f hr : Addr} {s₁ : Shared} {it oc : Obj} {all T rest : List (Addr × Obj)} {m' : Str → Option Value} {x v : Int} {t : Tok} {first here : List Int} {i tk : Nat} {d : Drawn} {hs its its0 : List LItem} {vc : Option Value} {Q : Flow → Shared → Prop}
    (F : Fr g1 L1 h m') (N : News g1 L1 h all) (hI : (I, it) ∈ all) (hD : (D, listOf (refsOf its0 ++ refsOf hs ++ refsOf its0).toArray 0) ∈ all) (hC : (C, oc) ∈ all) (hT : ∀ p ∈ T ++ rest, p ∈ all) (hoc : oc.data = .cell vc) (hDI : @Ne Nat D I) (hDC : @Ne Nat D C) (hCI : @Ne Nat C I)
    (hoff : ∀ p ∈ T ++ rest, p.1 ≠ I ∧ p.1 ≠ C) (hm : m' (Str.ofString "heap") = some (.ref D)) (hm2 : ∀ z, ([Str.ofString "heap", Str.ofString "v"] : List Str).contains z = false → m' z = M0 st f hr x t z) (hl0 : LitsIn (T ++ rest) x its0) (hl : LitsIn (T ++ rest) x its)
    (hA : ∀ i ∈ hs, i ∈ its) (hB : ∀ i ∈ its, i ∈ hs) (hlen : hs.length ≤ 2 * i) (hits : its.map (·.1) = (vals9.take i).filterMap (litAt first here)) (h1 : its0.length ≤ 1) (hit0 : its0.map (·.1) = (litAt first here v).toList)
    (hsn : (vals9.take (i + 1)).filterMap (litAt first here) = (vals9.take i).filterMap (litAt first here) ++ (litAt first here v).toList) :
    TurnX g1 L1 s₁ I it (ToldInv rest st f hr I C x t first here (i + 1)) Q .next { s₁ with heap := h, toks := tk, drawn := d } := by
  refine ⟨h, tk, d, m', (D, listOf (refsOf (its0 ++ hs ++ its0)).toArray 0) :: (C, oc) :: (T ++ rest), F, ?_, all_cons hDI (all_cons hCI fun p hp => (hoff p hp).1), D, T, its0 ++ hs ++ its0, its ++ its0, 0, oc, vc, hm, hm2, hoc, rfl, hoff, hDI, hDC, hCI, hl.app hl0, ?_, ?_, ?_, ?_⟩
  · rw [show refsOf (its0 ++ hs ++ its0) = refsOf its0 ++ refsOf hs ++ refsOf its0 from by simp [refsOf]]
    exact news_c (N _ hI) (news_c (N _ hD) (news_c (N _ hC) fun p hp => N _ (hT p hp)))
  · intro j hj
    simp only [List.mem_append] at hj ⊢
    rcases hj with (h | h) | h
    · exact .inr h
    · exact .inl (hA j h)
    · exact .inr h
  · intro j hj
    simp only [List.mem_append] at hj ⊢
    rcases hj with h | h
    · exact .inl (.inr (hB j h))
    · exact .inr h
  · simp only [List.length_append]; lia
  · rw [List.map_append, hits, hit0, hsn]
theorem is_told_does (w : World) (rest : List (Addr × Obj)) (st f hr : Addr) (doms fs : List Value) (x : Int) (t : Tok) (d0 d : Addr) (first here : List Int) (hs : StoreIn w.params rest st doms fs) (h0 : 0 ≤ x) (hx1 : x < 1000) (hv0 : fs[x.toNat]? = some (.ref d0)) (hd0 : DomIn rest d0 (ofVals first))
    (hv : doms[x.toNat]? = some (.ref d)) (hd : DomIn rest d (ofVals here)) (hf : IntsIn rest f first) (hh : IntsIn rest hr here) (hs1 : first.Sublist [0, 1, 2, 3, 4, 5]) (hs2 : here.Sublist first) (hne : here ≠ []) :
    DoesD w 303 rest [.ref st, .int x t, .ref f, .ref hr] 8 600 (fun r news' => r = .bool true ∧ news' = rest) := by
  unfold DoesD; k_fill
  intro mean mg mb dp un gd cn cs a ccd cl outer A₀ base h₀ L m s Q E B F X N T hk hdp hun hret
  refine wpAny_call ?_
  k_dflt (refine' code_defC (by k_asm) (by k_asm) (by k_asm) (by k_asm) (by k_asm) (by exact rfl) (by exact rfl) (by assumption) (by k_is) (by k_is) (by ktr_room) (BindsTo.of_eq rfl) (by exact rfl) (by decide +kernel) ?_ (by exact rfl) (by exact rfl) (by exact rfl))
  intro g1 L1 h1 tk1 cells1 FG1 F1 N1 Y1 B1 X1 T1 l1
  k_cells Y1
  (try simp only [List.cons_append, List.nil_append] at N1)
  (try dsimp only); (try k_fold)
  rename_i oc dc
  replace dc : oc.data = Data.cell none := dc
  replace F1 : Fr g1 L1 h1 (fun y => if y = Str.ofString "here" then some (Value.ref hr) else if y = Str.ofString "first" then some (Value.ref f) else if y = Str.ofString "x" then some (Value.int x t) else if y = Str.ofString "store" then some (Value.ref st) else none) := F1
  k_steps
  rename_i hp0 h4 F4 N4 a1 a2 a3 hrg F5 N5 a7
  have hLh : ∀ p ∈ rest, p.1 ≠ L1 + 1 := fun p hp => Nat.ne_of_lt (Nat.lt_succ_of_lt (l1 p hp))
  obtain ⟨fvs, fn, hfm, hfi⟩ := id hf
  obtain ⟨hvs, hn, hhm, hhi⟩ := id hh
  have hfl : first.length ≤ 100 := Nat.le_trans hs1.length_le (by decide)
  have hhl : here.length ≤ 100 := Nat.le_trans hs2.length_le hfl
  have hne2 : ofVals here ≠ [] := ofVals_ne (hs2.trans hs1) hne
  refine ⟨_, _, _, _, _, _, 9, _, _, by rfl, hrg, by rfl, by rfl, F5, N5, fun I hI => ?_⟩
  refine ⟨ToldInv rest st f hr I (L1 + 1) x t first here, ?_, ?_, ?_⟩
  · refine ⟨_, [], [], [], 0, oc, _, rfl, by unfold M0; k_extra "m_agree", dc, rfl, fun p hp => ⟨Nat.ne_of_lt (hI p (.tail _ (.tail _ hp))), hLh p hp⟩, Nat.ne_of_lt (hI _ (.head _)), ?_, Nat.ne_of_lt (hI _ (.tail _ (.head _))), fun i hi => by simp at hi, fun i hi => by simp at hi, fun i hi => by simp at hi, Nat.le_refl _, rfl⟩
    rename (L1 + 1 < _ ∧ AllLt _ rest) => l9
    exact Ne.symm (Nat.ne_of_lt l9.1)
  · intro i m' nw tv h tk d' hi x1_i
    obtain ⟨hp, tl, hs', its, nn, oc, vc, hm1, hm2, hoc, rfl, hoff, hpI, hpC, hCI, hli, hA, hB, hlen, hits⟩ := x1_i
    intro hnI F6 N6
    replace N6 : News g1 L1 h _ := N6
    replace F6 : Fr g1 L1 h _ := F6
    have hvi := vals9_at i hi
    have hvm := List.mem_of_getElem? hvi
    have hsn := lits_snoc (first := first) (here := here) hvi
    generalize hve : -1 + (i : Int) = v at *
    have F9 := overs F6 ([Str.ofString "heap", Str.ofString "v"]) (m₀ := M0 st f hr x t) (fun z hz => by
      refine Eq.trans (if_neg ?_) (hm2 z hz)
      rintro rfl
      exact absurd hz (by decide)) [(Str.ofString "v", Value.int v tv), (Str.ofString "heap", Value.ref hp)] ⟨rfl, hm1, trivial⟩
    dsimp only [over, M0] at F9
    clear F6
    have hsub : ∀ p ∈ rest, p ∈ (I, itR (-1 + ((i + 1 : Nat) : Int)) (((9 : Nat) : Int) - ((i + 1 : Nat) : Int))) :: (hp, listOf (refsOf hs').toArray nn) :: (L1 + 1, oc) :: (tl ++ rest) := fun p hp => .tail _ (.tail _ (.tail _ (List.mem_append_right _ hp)))
    by_cases hin : here.contains v = true
    · k_steps
      have hla : litAt first here v = none := by unfold litAt; rw [if_pos hin]
      refine ⟨_, _, _, _, _, F9, N6, hnI, hp, tl, hs', its, nn, oc, vc, by simp only [over, if_neg (show ¬ Str.ofString "heap" = Str.ofString "v" by decide), if_true], ?_, hoc, rfl, hoff, hpI, hpC, hCI, hli, hA, hB, by lia, by rw [hits, hsn, hla]; simp⟩
      intro z hz; have hz1 := hz; simp only [List.contains_cons, List.contains_nil, Bool.or_false, Bool.or_eq_false_iff, beq_eq_false_iff_ne, ne_eq] at hz1; simp [hz1, M0]
    · replace hin : here.contains v = false := by simpa using hin
      obtain ⟨hfit1, hfit2⟩ := told_fit hs1 hs2 hne hvm hin
      k_steps
      refine Halt.go ?_
      k_dflt (refine' Does.useA (lacking_does _ _ _ _ _ _ _ _ _ _ _ _ _ (hs.mono hsub) h0 hx1 hv0 (hd0.mono hsub) hv (hd.mono hsub) hne2) ?k1 ?k2 ?k3 ?k4 ?k5 ?k6 ?k7 ?k8 ?_)
      case k1 => k_asm
      case k2 => k_asm
      case k3 => k_asm
      case k4 => k_asm
      case k5 => k_asm
      case k6 => first | exact rfl | assumption
      case k7 => ktr_room
      case k8 => ktr_units
      intro h9 tk9 F10 a9 tl9 p9 N10
      obtain ⟨its0, ln, hlm, hit0, hli0⟩ := lack_split p9
      have c1 : @Ne Nat a9 (L1 + 1) := ne_of_data N10 hlm (List.mem_append_right _ (.tail _ (.tail _ (.head _)))) (by rw [hoc]; exact fun e => nomatch e)
      have hoff2 : ∀ p ∈ (tupz tl9 ++ tl) ++ rest, p.1 ≠ I ∧ p.1 ≠ L1 + 1 := fun p hp => by
        rw [List.append_assoc] at hp
        rcases List.mem_append.mp hp with hp | hp
        · obtain ⟨y1, y2⟩ := mem_tupz.mp hp
          exact ⟨y2.ne_cls N10 (List.mem_append_left _ y1) (q := (I, _)) (List.mem_append_right _ (.head _)) (show Value.type "range_iterator" ≠ Value.type "tuple" by decide), y2.ne_data N10 (List.mem_append_left _ y1) (q := (L1 + 1, oc)) (List.mem_append_right _ (.tail _ (.tail _ (.head _)))) (by intro a n e; rw [hoc] at e; cases e)⟩
        · exact hoff p hp
      have N11 : News g1 L1 h9 ((a9, listOf (refsOf its0).toArray ln) :: (I, itR (-1 + ((i + 1 : Nat) : Int)) (((9 : Nat) : Int) - ((i + 1 : Nat) : Int))) :: (hp, listOf (refsOf hs').toArray nn) :: (L1 + 1, oc) :: ((tupz tl9 ++ tl) ++ rest)) := fun p hp => by
        rcases List.mem_cons.mp hp with rfl | hp
        · exact N10 _ hlm
        · refine N10 p ?_
          simp only [List.mem_cons, List.mem_append] at hp ⊢
          rcases hp with h | h | h | (h | h) | h
          · simp [h]
          · simp [h]
          · simp [h]
          · simp [(mem_tupz.mp h).1]
          · simp [h]
          · simp [h]
      have hsel : ∀ p ∈ tl9 ++ (I, itR (-1 + ((i + 1 : Nat) : Int)) (((9 : Nat) : Int) - ((i + 1 : Nat) : Int))) :: (hp, listOf (refsOf hs').toArray nn) :: (L1 + 1, oc) :: (tl ++ rest), isT p → p ∈ (tupz tl9 ++ tl) ++ rest := fun p hp ht => by
        rw [List.append_assoc]
        rcases List.mem_append.mp hp with hp | hp
        · exact List.mem_append_left _ (mem_tupz.mpr ⟨hp, ht⟩)
        · refine List.mem_append_right _ ?_
          obtain ⟨vs, n, ht⟩ := ht
          rcases List.mem_cons.mp hp with rfl | hp
          · exact absurd (congrArg Obj.cls ht) (show Value.type "range_iterator" ≠ Value.type "tuple" by decide)
          · rcases List.mem_cons.mp hp with rfl | hp
            · exact absurd (congrArg Obj.cls ht) (show Value.type "list" ≠ Value.type "tuple" by decide)
            · rcases List.mem_cons.mp hp with rfl | hp
              · dsimp only at ht; rw [ht] at hoc; cases hoc
              · exact hp
      have hli1 := hli0.selT hsel
      have hli2 : LitsIn ((tupz tl9 ++ tl) ++ rest) x its := hli.mono fun p hp => by rw [List.append_assoc]; exact List.mem_append_right _ hp
      have hsub2 : ∀ p ∈ rest, p ∈ (tupz tl9 ++ tl) ++ rest := fun p hp => List.mem_append_right _ hp
      clear hsel N10 hli0 p9 hlm
      generalize tupz tl9 ++ tl = T at *
      have hC2 : ∀ p ∈ T ++ rest, p.1 ≠ L1 + 1 := fun p hp => (hoff2 p hp).2
      have hit1 : its0.length ≤ 1 := by
        have := congrArg List.length hit0
        rw [List.length_map] at this
        rw [this]; cases lackLit (ofVals first) (ofVals here) v <;> simp
      have hfm2 := hsub2 _ hfm
      have hhm2 := hsub2 _ hhm
      have hla : litAt first here v = lackLit (ofVals first) (ofVals here) v := by unfold litAt; rw [if_neg (by rw [hin]; decide)]
      have hrl : (refsOf its0).length ≤ 1 := by rw [List.length_map]; exact hit1
      have hrl2 : (refsOf hs').length ≤ 20 := by rw [List.length_map]; lia
      by_cases hfs : first.contains v = true
      · have hfit := hfit1 hfs
        have hisf := fun (r : List (Addr × Obj)) h1 h2 h3 => is_fit_does w r a9 f hr x v t tv (lackLit (ofVals first) (ofVals here) v) first here h1 h2 h3 hfl hhl hne
        rw [hfit] at hisf
        k_steps
        refine Halt.go ?_
        rename News g1 L1 _ _ => N12
        k_dflt (refine' Does.useE (hisf ((a9, listOf (refsOf its0).toArray ln) :: (I, _) :: (hp, _) :: (L1 + 1, _) :: (T ++ rest)) (LackIs.of (.head _) hit0 (hli1.mono fun p hp => .tail _ (.tail _ (.tail _ (.tail _ hp))))) (hf.mono fun p hp => .tail _ (.tail _ (.tail _ (.tail _ (hsub2 p hp))))) (hh.mono fun p hp => .tail _ (.tail _ (.tail _ (.tail _ (hsub2 p hp)))))) ?k1 ?k2 ?k3 ?k4 ?k5 ?k6 ?k7 ?k8 ?_)
        case k1 => k_asm
        case k2 => k_asm
        case k3 => k_asm
        case k4 => k_asm
        case k5 => k_asm
        case k6 => first | exact rfl | assumption
        case k7 => ktr_room
        case k8 => ktr_units
        intro h10 tk10 F12 N13
        k_steps
        rename News g1 L1 _ _ => N14
        rename Fr g1 L1 _ _ => F14
        rename (_ < _ ∧ _ < _ ∧ I < _ ∧ hp < _ ∧ L1 + 1 < _ ∧ AllLt _ (T ++ rest)) => l14
        rename (Obj.data _ = Data.cell (some (Value.ref a9))) => d14
        refine told_end F14 N14 (by k_memK) (.head _) (by k_memK) (fun p hp => .tail _ (.tail _ (.tail _ (.tail _ (.tail _ (.tail _ hp)))))) d14 (Ne.symm (Nat.ne_of_lt l14.2.2.1)) (Ne.symm (Nat.ne_of_lt l14.2.2.2.2.1)) hCI hoff2 (if_pos rfl) ?_ hli1 hli2 hA hB hlen hits hit1 (by rw [hla]; exact hit0) hsn
        intro z hz; have hz1 := hz; simp only [List.contains_cons, List.contains_nil, Bool.or_false, Bool.or_eq_false_iff, beq_eq_false_iff_ne, ne_eq] at hz1; simp [hz1, M0]
      · replace hfs : first.contains v = false := by simpa using hfs
        have hnl := hfit2 hfs
        have h00 : its0 = [] := by rw [hnl] at hit0; simpa using hit0
        subst h00
        k_steps
        rename News g1 L1 _ _ => N14
        rename Fr g1 L1 _ _ => F14
        rename (_ < _ ∧ _ < _ ∧ _ < _ ∧ I < _ ∧ hp < _ ∧ L1 + 1 < _ ∧ AllLt _ (T ++ rest)) => l14
        rename (Obj.data _ = Data.cell (some (Value.ref a9))) => d14
        refine told_end F14 N14 (by k_memK) (.head _) (by k_memK) (fun p hp => .tail _ (.tail _ (.tail _ (.tail _ (.tail _ (.tail _ (.tail _ hp))))))) d14 (Ne.symm (Nat.ne_of_lt l14.2.2.2.1)) (Ne.symm (Nat.ne_of_lt l14.2.2.2.2.2.1)) hCI hoff2 (if_pos rfl) ?_ hli1 hli2 hA hB hlen hits (Nat.zero_le _) (by rw [hla]; exact hit0) hsn
        intro z hz; have hz1 := hz; simp only [List.contains_cons, List.contains_nil, Bool.or_false, Bool.or_eq_false_iff, beq_eq_false_iff_ne, ne_eq] at hz1; simp [hz1, M0]
  · intro m' nw h tk d' x1_i
    obtain ⟨hp, tl, hs', its, nn, oc, vc, hm1, hm2, hoc, rfl, hoff, hpI, hpC, hCI, hli, hA, hB, hlen, hits⟩ := x1_i
    intro F6 N6
    replace N6 : News g1 L1 h _ := N6
    replace F6 : Fr g1 L1 h _ := F6
    have F9 := overs F6 ([Str.ofString "heap", Str.ofString "v"]) (m₀ := M0 st f hr x t) hm2 [(Str.ofString "heap", Value.ref hp)] ⟨hm1, trivial⟩
    dsimp only [over, M0] at F9
    clear F6
    obtain ⟨hnd, hl5, hfil⟩ := told_nodup hs1 hs2 hne
    rw [show litsOf first here = its.map (·.1) from hits.symm] at hnd hl5
    rw [List.length_map] at hl5
    have hC2 : ∀ p ∈ tl ++ rest, p.1 ≠ L1 + 1 := fun p hp => (hoff p hp).2
    have hfm2 : (f, listOf fvs.toArray fn) ∈ tl ++ rest := List.mem_append_right _ hfm
    have hhm2 : (hr, listOf hvs.toArray hn) ∈ tl ++ rest := List.mem_append_right _ hhm
    have hz18 : hs'.length ≤ 1000 := by lia
    k_steps
    refine Halt.go ?_
    k_dflt (refine' Does.useX4 (once_each_does w ((hp, listOf (refsOf hs').toArray nn) :: (L1 + 1, oc) :: (tl ++ rest)) _ _ x hs' its (.head _) hz18 (hli.mono fun p hp => .tail _ (.tail _ hp)) hA hB hnd hl5) ?k1 ?k2 ?k3 ?k4 ?k5 ?k6 ?k7 ?k8 ?_)
    case k1 => k_asm
    case k2 => k_asm
    case k3 => k_asm
    case k4 => k_asm
    case k5 => k_asm
    case k6 => first | exact rfl | assumption
    case k7 => ktr_room
    case k8 => ktr_units
    intro h9 tk9 F10 a9 tl9 out k9 x1_i N10
    obtain ⟨p9, ho1, ho2⟩ := x1_i
    have c1 : @Ne Nat a9 (L1 + 1) := ne_of_data N10 p9 (List.mem_append_right _ (.tail _ (.head _))) (by rw [hoc]; exact fun e => nomatch e)
    have N11 : News g1 L1 h9 ((a9, tupO (refsOf out) k9) :: (hp, listOf (refsOf hs').toArray nn) :: (L1 + 1, oc) :: (tl ++ rest)) := fun p hp => by
      rcases List.mem_cons.mp hp with rfl | hp
      · exact N10 _ p9
      · exact N10 p (List.mem_append_right _ hp)
    clear N10 p9
    have hro : (refsOf out).length ≤ 5 := by rw [List.length_map, ho1.length_eq]; exact hl5
    k_steps
    refine Halt.go ?_
    rename News g1 L1 _ _ => N12
    rename Fr g1 L1 _ _ => F12
    refine call_set_lit (src := srcOf x hs') (U := its.map fun i => litKey x i.1) (by rfl) (isList_of N12 (.tail _ (.tail _ (.head _)))) ?_ (keys_src N12 fun i hi => ((hli i (hA i hi)).mono fun p hp => .tail _ (.tail _ (.tail _ (.tail _ hp))))) (by rw [List.length_map]; exact hl5) ?_ (by ktr_units) fun h13 tk13 hS hk13 => ?_
    · unfold srcOf; rw [List.map_map]; simp
    · intro i hi
      obtain ⟨j, hj, rfl⟩ := List.mem_map.mp hi
      exact List.mem_map.mpr ⟨j, hA j hj, rfl⟩
    have F13 := F12.kept hk13
    have N13 := N12.grown hk13
    clear F12 N12
    k_steps
    refine Halt.go ?_
    refine sorted_lits (Dr := fun _ => True) (x := x) (its := its) F13 N13 (hli.mono fun p hp => .tail _ (.tail _ (.tail _ (.tail _ hp)))) hnd hl5 (fun E Q hq => coll_set (by rfl) hS E Q fun h2 tk2 d vs hk2 hd hv => hq h2 tk2 d vs hk2 hd ?_) ?_
    · obtain ⟨l, rfl, hln, hl1, hl2⟩ := hv
      obtain ⟨ls, e, hp⟩ := decode (x := x) hA hB hnd hln hl1 hl2
      exact ⟨ls, e, hp⟩
    · intro D2 out2 c2 h14 tk14 d14 _ o1 o2 F14 N14 lt14
      obtain rfl : out2 = out := rising_unique (o1.trans ho1.symm) o2 ho2
      clear F13 N13 hS hk13
      k_steps
      rename News g1 L1 _ _ => N15
      rename Fr g1 L1 _ _ => F15
      rename (Obj.data _ = Data.cell (some (Value.ref a9))) => d15
      refine comp_evalX F15 (by with_unfolding_all rfl) (newEnv_cell (x := Str.ofString "v") rfl rfl rfl) rfl (by decide) ?_
      k_steps
      rename Obj => oX
      have N16 : News g1 L1 h14 ((a9, tupO (refsOf out2) k9) :: (L1 + 1, oX) :: (tl ++ rest)) := fun p hp => N15 p (by
        simp only [List.mem_cons] at hp ⊢
        rcases hp with h | h | h <;> simp [h])
      clear N15
      have hfv := hfi.length
      refine CompGoX.listC (by rfl) F15 N16 (k := fn) (vs := fvs) (.tail _ (.tail _ hfm2)) (by rw [sizeLine_eq]; lia) (fun C i ys nw => ∃ oc' vc, nw = (C + 1, oc') :: (a9, tupO (refsOf out2) k9) :: (L1 + 1, oX) :: (tl ++ rest) ∧ (∀ p ∈ (a9, tupO (refsOf out2) k9) :: (L1 + 1, oX) :: (tl ++ rest), p.1 < C) ∧ oc'.data = .cell vc ∧
        IntsAre ys ((first.take i).filter fun v => (litsOf first here).all fun q => !bars q.1 q.2 v)) (fun C hC => ⟨cellO, none, rfl, hC, rfl, .nil⟩) ?_ ?_ ?_
      · intro C i ys nw x1_i
        obtain ⟨oc', vc, rfl, _⟩ := x1_i
        exact .tail _ (.tail _ (.tail _ hfm2))
      · intro I C D i ys0 nw v oI oC m₂ h tk d E' hIC hID hCD hv x1_i
        obtain ⟨oc', vc, rfl, hlt, hoc', hys⟩ := x1_i
        intro F16 N17 hC off
        have hltf : i < first.length := by obtain ⟨h, _⟩ := List.getElem?_eq_some_iff.mp hv; lia
        have hni : first[i]? = some first[i] := List.getElem?_eq_getElem hltf
        obtain ⟨tv, ht⟩ := hfi.get i first[i] hni
        have hvt : v = .int first[i] tv := by rw [ht] at hv; exact (Option.some.inj hv).symm
        subst hvt
        have htake : (first.take (i + 1)).filter (fun v => (litsOf first here).all fun q => !bars q.1 q.2 v) = (first.take i).filter (fun v => (litsOf first here).all fun q => !bars q.1 q.2 v) ++ (if ((litsOf first here).all fun q => !bars q.1 q.2 first[i]) = true then [first[i]] else []) := by
          rw [List.take_add_one, hni, List.filter_append]
          cases hp : (litsOf first here).all fun q => !bars q.1 q.2 first[i] <;> simp [hp]
        generalize first[i] = n at *
        have hoC := (off3_ne off) (C + 1, oc') (.head _)
        refine comp_setcell (own := [(I, oI), (C, oC), (D, LCg.lst ys0)]) F16 N17 (by rfl) (by rfl) (by rfl) hoc' ?_ (fun p hp => Nat.ne_of_lt (Nat.lt_succ_of_lt (hlt p hp))) fun h2 o2 F17 N18 hd2 => ?_
        · intro p hp
          simp only [List.mem_cons, List.not_mem_nil, or_false] at hp
          rcases hp with rfl | rfl | rfl
          · exact Ne.symm hoC.1
          · exact Ne.symm hoC.2.1
          · exact Ne.symm hoC.2.2
        simp only [List.cons_append, List.nil_append] at N18
        clear N17
        refine wpAny_tests_one ?_
        k_steps
        refine CompGo.tup (by rfl) (by assumption) N18 (k := k9) (vs := refsOf out2) (.tail _ (.tail _ (.tail _ (.tail _ (.head _))))) (by rw [sizeLine_eq]; lia)
          (fun i ys nw => nw = (I, oI) :: (C, oC) :: (D, LCg.lst ys0) :: (C + 1, o2) :: (a9, tupO (refsOf out2) k9) :: (L1 + 1, oX) :: (tl ++ rest) ∧ IntsAre ys (((out2.take i).filter fun q => bars q.1.1 q.1.2 n).map fun _ => (1 : Int))) ⟨rfl, .nil⟩ (fun i ys nw e => by rw [e.1]; exact .tail _ (.tail _ (.tail _ (.tail _ (.head _))))) ?_ ?_
        · intro I2 C2 D2 i2 ys2 nw2 v2 oI2 oC2 m₂2 h3 tk3 E3 hIC2 hID2 hCD2 hv2 x1_i
          obtain ⟨rfl, hys2⟩ := x1_i
          intro F18 N19 hC2' off2
          obtain ⟨q, hq, rfl⟩ : ∃ q, out2[i2]? = some q ∧ v2 = .ref q.2 := by
            rw [List.getElem?_map] at hv2
            cases e : out2[i2]? with
            | none => rw [e] at hv2; cases hv2
            | some q => rw [e] at hv2; exact ⟨q, rfl, (Option.some.inj hv2).symm⟩
          have hlq : LitIn (tl ++ rest) q.2 x q.1.1 q.1.2 := hli q (ho1.mem_iff.mp (List.mem_of_getElem? hq))
          have htk2 : ((out2.take (i2 + 1)).filter fun q => bars q.1.1 q.1.2 n) = ((out2.take i2).filter fun q => bars q.1.1 q.1.2 n) ++ (if bars q.1.1 q.1.2 n = true then [q] else []) := by
            rw [List.take_add_one, hq, List.filter_append]
            cases hp : bars q.1.1 q.1.2 n <;> simp [hp]
          refine comp_name F18 N19 hC2' hIC2 (off_C off2 hCD2) (by rfl) (by rfl) (fun h5 tk5 oC5 F19 N20 hC5 => ?_)
          refine wpAny_tests_one ?_
          k_steps
          · rename (bars q.1.1 q.1.2 n = true) => cb
            rename News g1 L1 _ _ => N21
            refine TurnOk.mk0 (by assumption) N21 hC5 off2 ⟨rfl, ?_⟩
            rw [htk2, if_pos cb, List.map_append]
            exact intsAre_snoc hys2
          · rename (bars q.1.1 q.1.2 n = false) => cb
            rename News g1 L1 _ _ => N21
            refine TurnOk.mk0 (by assumption) N21 hC5 off2 ⟨rfl, ?_⟩
            rw [htk2, if_neg (by rw [cb]; decide), List.append_nil]
            exact hys2
        · intro D2 ys2 nw2 off2 x1_i
          obtain ⟨rfl, hys2⟩ := x1_i
          intro h3 tk3 F18 N19
          k_steps
          · rename (decide _ = true) => cb
            rename News g1 L1 _ _ => N21
            rw [told_all_iff ho1 hits] at cb
            replace cb : ((litsOf first here).all fun q => !bars q.1 q.2 n) = true := cb
            refine TurnOkX.mk0 (by assumption) (drop_h (drop_h N21)) hC off ⟨o2, _, rfl, hlt, hd2, ?_⟩
            rw [htake, if_pos cb]
            exact intsAre_snoc hys
          · rename (decide _ = false) => cb
            rename News g1 L1 _ _ => N21
            rw [told_all_iff ho1 hits] at cb
            replace cb : ((litsOf first here).all fun q => !bars q.1 q.2 n) = false := cb
            refine TurnOkX.mk0 (by assumption) (drop_h (drop_h N21)) hC off ⟨o2, _, rfl, hlt, hd2, ?_⟩
            rw [htake, if_neg (by rw [cb]; decide), List.append_nil]
            exact hys
      · intro C D ys nw off x1_i
        obtain ⟨oc', vc, rfl, hlt, hoc', hys⟩ := x1_i
        intro h tk d F16 N17
        rw [hfv, List.take_length, hfil] at hys
        k_steps
        rename News h₀ L _ _ => kN
        refine hret _ _ _ _ _ ⟨by rw [decide_eq_true rfl], rfl⟩ (by assumption) (fun p hp => kN p ?_)
        exact .tail _ (.tail _ (.tail _ (.tail _ (List.mem_append_right _ hp))))
end
section
theorem Does.conv {w : World} {f : Addr} {sub news : List (Addr × Obj)} {vs : List Value} {D U : Nat} {P P' : Value → List (Addr × Obj) → Prop} (H : Does w f sub vs D U P) (hs : ∀ p ∈ sub, p ∈ news)
    (hp : ∀ (h₀ : Heap) (L : Addr) (h' : Heap) r n', P r n' → News h₀ L h' n' → ∃ n'', P' r n'' ∧ ∀ p ∈ n'', p ∈ n') : Does w f news vs D U P' := by
  intro mean mg mb dp un gd cn cs a ccd cl outer A₀ base h₀ L m s Q E B F X N T hk hdp hun hret
  refine H mean mg mb dp un gd cn cs a ccd cl outer A₀ base h₀ L m s Q E B F X (fun p hp => N p (hs p hp)) T hk hdp hun fun r n' h' tk' hP F' N' => ?_
  obtain ⟨n'', h1, h2⟩ := hp h₀ L h' r n' hP N'
  exact hret r n'' h' tk' h1 F' fun p hp => N' p (h2 p hp)
section
variable {K S : List (Addr × Obj)} {a b c d e p : Addr × Obj}
theorem mv_cases (h : p ∈ K ++ a :: b :: c :: d :: e :: S) : p ∈ K ∨ p = a ∨ p = b ∨ p = c ∨ p = d ∨ p = e ∨ p ∈ S := by simpa only [List.mem_append, List.mem_cons] using h
theorem mv_of (h : p ∈ K ∨ p = a ∨ p = b ∨ p = c ∨ p = d ∨ p = e ∨ p ∈ S) : p ∈ K ++ a :: b :: c :: d :: e :: S := by simpa only [List.mem_append, List.mem_cons] using h
theorem hd_cases (h : p ∈ a :: b :: c :: d :: e :: S) : p = a ∨ p = b ∨ p = c ∨ p = d ∨ p = e ∨ p ∈ S := by simpa only [List.mem_cons] using h
theorem hd_of (h : p = a ∨ p = b ∨ p = c ∨ p = d ∨ p = e ∨ p ∈ S) : p ∈ a :: b :: c :: d :: e :: S := by simpa only [List.mem_cons] using h
theorem mv_last (h : p ∈ e :: (K ++ a :: b :: c :: d :: S)) : p ∈ K ++ a :: b :: c :: d :: e :: S :=
  let P : Addr × Obj → Prop := fun p => p ∈ K ++ a :: b :: c :: d :: e :: S
  (all_cons (P := P) (List.mem_append_right _ (.tail _ (.tail _ (.tail _ (.tail _ (.head _)))))) (all_app (P := P) (fun p h => List.mem_append_left _ (h)) (all_cons (P := P) (List.mem_append_right _ (.head _)) (all_cons (P := P) (List.mem_append_right _ (.tail _ (.head _))) (all_cons (P := P) (List.mem_append_right _ (.tail _ (.tail _ (.head _)))) (all_cons (P := P) (List.mem_append_right _ (.tail _ (.tail _ (.tail _ (.head _))))) (fun p h => List.mem_append_right _ (.tail _ (.tail _ (.tail _ (.tail _ (.tail _ (h)))))))))))) : ∀ p ∈ e :: (K ++ a :: b :: c :: d :: S), P p) p h
theorem mv_last' (h : p ∈ K ++ a :: b :: c :: d :: e :: S) : p ∈ e :: (K ++ a :: b :: c :: d :: S) :=
  let P : Addr × Obj → Prop := fun p => p ∈ e :: (K ++ a :: b :: c :: d :: S)
  (all_app (P := P) (fun p h => .tail _ (List.mem_append_left _ (h))) (all_cons (P := P) (.tail _ (List.mem_append_right _ (.head _))) (all_cons (P := P) (.tail _ (List.mem_append_right _ (.tail _ (.head _)))) (all_cons (P := P) (.tail _ (List.mem_append_right _ (.tail _ (.tail _ (.head _))))) (all_cons (P := P) (.tail _ (List.mem_append_right _ (.tail _ (.tail _ (.tail _ (.head _)))))) (all_cons (P := P) (.head _) (fun p h => .tail _ (List.mem_append_right _ (.tail _ (.tail _ (.tail _ (.tail _ (h)))))))))))) : ∀ p ∈ K ++ a :: b :: c :: d :: e :: S, P p) p h
end
theorem draw_upd (w : World) (news : List (Addr × Obj)) (g : Obj → List (Addr × Obj)) (fd cs : Addr) (o : Obj) (tk : Tok) (k : Int) (nc : Nat) (cvs : List Value) (cells : List Int) (many : Int) (tm : Tok) (U : UpdF fd o news g) (ho : o.IsDictOf (PySem.strKind PySem.Challenge.rw_nz0015_01.row.prog w) [(Str.ofString "cells", .ref cs), (Str.ofString "at", .int k tk)])
    (hc : (cs, listOf cvs.toArray nc) ∈ news) (hci : IntsAre cvs cells) (hcl : cells.length ≤ 1000) (hk0 : 0 ≤ k) (hk1 : k < 100000) (hm : 0 < many) (hm1 : many < 100) :
    Does w 281 news [.ref fd, .int many tm] 1 16 (fun r news' => Ex4 fun v t tk' o' => r = .int v t ∧ 0 ≤ v ∧ v < many ∧ news' = g o' ∧ o'.IsDictOf (PySem.strKind PySem.Challenge.rw_nz0015_01.row.prog w) [(Str.ofString "cells", .ref cs), (Str.ofString "at", .int (k + 1) tk')]) := by
  obtain ⟨pre, post, rfl, hg, a, b⟩ := U.split
  have hc' : (cs, listOf cvs.toArray nc) ∈ pre ++ post := by
    rcases List.mem_append.mp hc with h | h
    · exact List.mem_append_left _ h
    · rcases List.mem_cons.mp h with h | h
      · exfalso
        have e : o = listOf cvs.toArray nc := (Prod.mk.inj h).2.symm
        subst e
        obtain ⟨_, _, hx, _⟩ := ho
        exact absurd hx.1 (show Value.type "list" ≠ Value.type "dict" by decide)
      · exact List.mem_append_right _ h
  refine Does.conv (draw_does w (pre ++ post) fd cs o tk k nc cvs cells many tm ho hc' hci hcl hk0 hk1 hm hm1 (fun p hp => ?_)) (fun p hp => ?_) (fun h₀ L h' r n' hP N => ?_)
  · rcases List.mem_append.mp hp with h | h
    · exact a p h
    · exact b p h
  · simp only [List.mem_cons, List.mem_append] at hp ⊢
    rcases hp with h | h | h <;> simp [h]
  · obtain ⟨v, t, tk', o', rfl, h0, h1, rfl, hd⟩ := hP
    refine ⟨g o', ⟨v, t, tk', o', rfl, h0, h1, rfl, hd⟩, fun p hp => ?_⟩
    rw [hg] at hp
    simp only [List.mem_cons, List.mem_append] at hp ⊢
    rcases hp with h | h | h <;> simp [h]
/-- rows of ints -/
def RowsIn (news : List (Addr × Obj)) : List Value → List (List Int) → Prop
  | [], [] => True
  | v :: vs, r :: rs => (∃ a, v = .ref a ∧ IntsIn news a r) ∧ RowsIn news vs rs
  | _, _ => False
theorem RowsIn.mono {news news' : List (Addr × Obj)} (h : ∀ p ∈ news, p ∈ news') : ∀ {vs : List Value} {rs : List (List Int)}, RowsIn news vs rs → RowsIn news' vs rs
  | [], [], _ => trivial
  | [], _ :: _, x => x.elim
  | _ :: _, [], x => x.elim
  | _ :: _, _ :: _, ⟨⟨a, e, hi⟩, r⟩ => ⟨⟨a, e, hi.mono h⟩, r.mono h⟩
theorem RowsIn.length {news : List (Addr × Obj)} : ∀ {vs : List Value} {rs : List (List Int)}, RowsIn news vs rs → vs.length = rs.length
  | [], [], _ => rfl
  | [], _ :: _, x => x.elim
  | _ :: _, [], x => x.elim
  | _ :: _, _ :: _, ⟨_, r⟩ => by simp [r.length]
theorem RowsIn.get {news : List (Addr × Obj)} : ∀ {vs : List Value} {rs : List (List Int)} {i : Nat} {r : List Int}, RowsIn news vs rs → rs[i]? = some r → ∃ a, vs[i]? = some (.ref a) ∧ IntsIn news a r
  | [], [], _, _, _, h => by simp at h
  | [], _ :: _, _, _, x, _ => x.elim
  | _ :: _, [], _, _, x, _ => x.elim
  | _ :: _, _ :: _, 0, _, ⟨⟨a, e, hd⟩, _⟩, h => by
    simp at h; subst h; exact ⟨a, by simp [e], hd⟩
  | _ :: _, _ :: _, i + 1, _, ⟨_, r⟩, h => by
    simp at h; obtain ⟨a, e, hd⟩ := r.get h; exact ⟨a, by simpa using e, hd⟩
theorem RowsIn.set {news : List (Addr × Obj)} {a : Addr} {r : List Int} (hd : IntsIn news a r) : ∀ {vs : List Value} {rs : List (List Int)} {i : Nat}, RowsIn news vs rs → RowsIn news (vs.set i (.ref a)) (rs.set i r)
  | [], [], _, _ => trivial
  | [], _ :: _, _, x => x.elim
  | _ :: _, [], _, x => x.elim
  | _ :: _, _ :: _, 0, ⟨_, r⟩ => ⟨⟨a, rfl, hd⟩, r⟩
  | _ :: _, _ :: _, i + 1, ⟨h, r⟩ => ⟨h, r.set hd⟩
theorem RowsIn.snoc {news : List (Addr × Obj)} {a : Addr} {r : List Int} (hd : IntsIn news a r) : ∀ {vs : List Value} {rs : List (List Int)}, RowsIn news vs rs → RowsIn news (vs ++ [.ref a]) (rs ++ [r])
  | [], [], _ => ⟨⟨a, rfl, hd⟩, trivial⟩
  | [], _ :: _, x => x.elim
  | _ :: _, [], x => x.elim
  | _ :: _, _ :: _, ⟨h, r⟩ => ⟨h, r.snoc hd⟩
/-- a level of the law: the lists of values at its beginning, and the list that the law has put by -/
structure Lev where
  ow : List (List Int)
  sv : Option (Addr × List Value × Nat)
abbrev svO (q : Addr × List Value × Nat) : Addr × Obj := (q.1, listOf q.2.1.toArray q.2.2)
def svOf (l : Lev) : List (Addr × Obj) := match l.sv with
  | some q => [svO q]
  | none => []
def svs : List Lev → List (Addr × Obj)
  | [] => []
  | l :: ls => svOf l ++ svs ls
theorem svOf_some {l : Lev} {q : Addr × List Value × Nat} (e : l.sv = some q) : svOf l = [svO q] := by unfold svOf; rw [e]
theorem svOf_none {l : Lev} (e : l.sv = none) : svOf l = [] := by unfold svOf; rw [e]
theorem svOf_list {l : Lev} {p : Addr × Obj} (h : p ∈ svOf l) : ∃ vs n, p.2 = listOf (List.toArray vs) n := by
  cases e : l.sv with
  | none => rw [svOf_none e] at h; cases h
  | some q => rw [svOf_some e] at h; rw [List.mem_singleton.mp h]; exact ⟨_, _, rfl⟩
theorem svs_cons {l : Lev} {ls : List Lev} : svs (l :: ls) = svOf l ++ svs ls := rfl
theorem svs_list {p : Addr × Obj} : ∀ {ls : List Lev}, p ∈ svs ls → ∃ vs n, p.2 = listOf (List.toArray vs) n
  | [], h => by cases h
  | l :: ls, h => by
    rw [svs_cons] at h
    rcases List.mem_append.mp h with h | h
    · exact svOf_list h
    · exact svs_list h
def OwOk (Fs Ow : List (List Int)) : Prop := Ow.length = Fs.length ∧ ∀ (i : Nat) (f o : List Int), Fs[i]? = some f → Ow[i]? = some o → o.Sublist f ∧ o ≠ []
def Hist (R : List (Addr × Obj)) (Fs : List (List Int)) : List Lev → List Value → List Value → List Value → Prop
  | [], _, trs, mks => trs = [] ∧ mks = []
  | l :: ls, doms, trs, mks => Ex4 fun (mks' trs' doms' : List Value) (t : Tok) => mks = mks' ++ [.int (trs'.length : Nat) t] ∧ PopRel R (trs'.length : Nat) doms trs doms' trs' ∧ DomsIn R doms' (l.ow.map ofVals) ∧ OwOk Fs l.ow ∧ (∀ a vs c, l.sv = some (a, vs, c) → RowsIn R vs l.ow) ∧ Hist R Fs ls doms' trs' mks'
theorem PopRel.mono {R R' : List (Addr × Obj)} (s : ∀ p ∈ R, p ∈ R') {m : Int} {d t d' t' : List Value} (h : PopRel R m d t d' t') : PopRel R' m d t d' t' := by
  rcases h with h | ⟨e, x, tt, dd, l, rv, spk, ts, n, h1, h2, h3, h4⟩
  · exact .inl h
  · exact .inr ⟨e, x, tt, dd, l, rv, spk, ts, n, h1, h2, s _ h3, h4⟩
theorem Hist.mono {R R' : List (Addr × Obj)} (s : ∀ p ∈ R, p ∈ R') {Fs : List (List Int)} : ∀ {ls : List Lev} {d t m : List Value}, Hist R Fs ls d t m → Hist R' Fs ls d t m
  | [], _, _, _, h => h
  | _ :: _, _, _, _, ⟨a, b, c, t, h1, h2, h3, h4, h5, h6⟩ => ⟨a, b, c, t, h1, h2.mono s, h3.mono s, h4, fun a vs c e => (h5 a vs c e).mono s, h6.mono s⟩
theorem Hist.len {R : List (Addr × Obj)} {Fs : List (List Int)} : ∀ {ls : List Lev} {d t m : List Value}, Hist R Fs ls d t m → m.length = ls.length ∧ t.length ≤ ls.length
  | [], _, _, _, ⟨h1, h2⟩ => by subst h1; subst h2; exact ⟨rfl, Nat.le_refl _⟩
  | _ :: _, _, _, _, ⟨a, b, c, t, h1, h2, _, _, _, h6⟩ => by
    obtain ⟨i1, i2⟩ := h6.len
    refine ⟨by rw [h1, List.length_append, i1]; rfl, ?_⟩
    obtain ⟨_, _, e⟩ | ⟨_, _, _, _, _, _, _, _, _, e, _⟩ := h2
    · rw [← e, List.length_cons]; lia
    · rw [e, List.length_append]
      show _ + 1 ≤ _ + 1
      lia
def HistP (R : List (Addr × Obj)) (Fs : List (List Int)) (ls : List Lev) (doms trs mks : List Value) : Bool → Prop
  | false => Hist R Fs ls doms trs mks
  | true => ∃ mks' t, mks = mks' ++ [.int (trs.length : Nat) t] ∧ Hist R Fs ls doms trs mks'
theorem HistP.mono {R R' : List (Addr × Obj)} (s : ∀ p ∈ R, p ∈ R') {Fs : List (List Int)} {ls : List Lev} {d t m : List Value} : ∀ {b : Bool}, HistP R Fs ls d t m b → HistP R' Fs ls d t m b
  | false, h => Hist.mono s h
  | true, ⟨a, b, c, h⟩ => ⟨a, b, c, Hist.mono s h⟩
theorem HistP.len {R : List (Addr × Obj)} {Fs : List (List Int)} {ls : List Lev} {d t m : List Value} : ∀ {b : Bool}, HistP R Fs ls d t m b → m.length ≤ ls.length + 1 ∧ t.length ≤ ls.length
  | false, h => ⟨by rw [(Hist.len h).1]; lia, (Hist.len h).2⟩
  | true, ⟨a, b, c, h⟩ => ⟨by rw [c, List.length_append, (Hist.len h).1, List.length_singleton]; exact Nat.le_refl _, (Hist.len h).2⟩
def SvOk (R : List (Addr × Obj)) : List Lev → Prop
  | [] => True
  | l :: ls => (∀ q, l.sv = some q → ∀ p ∈ svs ls ++ R, @Ne Nat p.1 q.1) ∧ SvOk R ls
theorem SvOk.ext {R R' : List (Addr × Obj)} : ∀ {ls : List Lev}, SvOk R ls → (∀ p ∈ R', p ∈ R ∨ ∀ q ∈ svs ls, @Ne Nat p.1 q.1) → SvOk R' ls
  | [], _, _ => trivial
  | l :: ls, ⟨h1, h2⟩, h => ⟨fun q e p hp => by
      rcases List.mem_append.mp hp with hp | hp
      · exact h1 q e p (List.mem_append_left _ hp)
      · rcases h p hp with h | h
        · exact h1 q e p (List.mem_append_right _ h)
        · refine h (svO q) ?_
          rw [svs_cons, svOf_some e]
          exact .head _, h2.ext fun p hp => (h p hp).imp id fun h q hq => h q (by rw [svs_cons]; exact List.mem_append_right _ hq)⟩
structure StoD (w : World) (st : Addr) (R : List (Addr × Obj)) (Fs Ow : List (List Int)) (ls : List Lev) (b : Nat) (pend : Bool) (dx D Fi Tr Mk Nw : Addr) (doms fs trs mks : List Value) (on : Obj) (kvs : List (Int × Value)) (nF : Nat) : Prop where
  ist : (st, instObj 270 dx) ∈ R
  ifi : (Fi, listOf fs.toArray nF) ∈ R
  dfs : DomsIn R fs (Fs.map ofVals)
  dom : DomsIn R doms (Ow.map ofVals)
  fok : ∀ f ∈ Fs, f.Sublist [0, 1, 2, 3, 4, 5]
  ook : OwOk Fs Ow
  fln : Fs.length ≤ 3
  his : HistP R Fs ls doms trs mks pend
  ond : on.IsDictOf (PySem.intKind PySem.Challenge.rw_nz0015_01.row.prog w) kvs
  kvl : kvs.length ≤ b
  lsl : ls.length ≤ b
  e1 : @Ne Nat dx D
  e2 : @Ne Nat dx Tr
  e3 : @Ne Nat dx Nw
  e4 : @Ne Nat dx Mk
  e5 : @Ne Nat D Tr
  e6 : @Ne Nat D Nw
  e7 : @Ne Nat D Mk
  e8 : @Ne Nat Tr Nw
  e9 : @Ne Nat Tr Mk
  ea : @Ne Nat Nw Mk
  off : ∀ p ∈ svs ls ++ R, @Ne Nat p.1 dx ∧ @Ne Nat p.1 D ∧ @Ne Nat p.1 Tr ∧ @Ne Nat p.1 Nw ∧ @Ne Nat p.1 Mk
  sok : SvOk R ls
/-- the store over its part of the ledger -/
inductive Sto (w : World) (st : Addr) (R nw : List (Addr × Obj)) (Fs Ow : List (List Int)) (ls : List Lev) (b : Nat) (pend : Bool) : Prop
  | mk (dx D Fi Tr Mk Nw : Addr) (doms fs trs mks : List Value) (on : Obj) (kvs : List (Int × Value)) (nD nF nT nM : Nat) (t1 t2 t3 t4 t5 t6 t7 t8 sp : Tok) (fl : Bool) (cv : Value)
    (e : nw = (dx, stD w.params t1 t2 t3 t4 t5 t6 t7 t8 D Fi Tr Mk Nw sp fl cv 8) :: (D, listOf doms.toArray nD) :: (Tr, listOf trs.toArray nT) :: (Nw, on) :: (Mk, listOf mks.toArray nM) :: (svs ls ++ R))
    (h : StoD w st R Fs Ow ls b pend dx D Fi Tr Mk Nw doms fs trs mks on kvs nF) : Sto w st R nw Fs Ow ls b pend
def Away (K nw : List (Addr × Obj)) : Prop := ∀ p ∈ K, ∀ q ∈ nw, @Ne Nat p.1 q.1
theorem not_isT_list {p : Addr × Obj} {vs : List Value} {n : Nat} (e : p.2 = listOf (List.toArray vs) n) : ¬ isT p := by
  intro x1_i
  obtain ⟨us, k, e2⟩ := x1_i
  rw [e] at e2
  exact absurd (congrArg Obj.cls e2) (show Value.type "list" ≠ Value.type "tuple" by decide)
theorem not_isT_dict {p : Addr × Obj} (e : p.2.cls = .type "dict") : ¬ isT p := by
  intro x1_i
  obtain ⟨us, k, e2⟩ := x1_i
  rw [e2] at e
  exact absurd e (show Value.type "tuple" ≠ Value.type "dict" by decide)
theorem Sto.sub {w : World} {st : Addr} {R nw : List (Addr × Obj)} {Fs Ow : List (List Int)} {ls : List Lev} {b : Nat} {pend : Bool} (S : Sto w st R nw Fs Ow ls b pend) : ∀ p ∈ R, p ∈ nw := by
  obtain ⟨dx, D, Fi, Tr, Mk, Nw, doms, fs, trs, mks, on, kvs, nD, nF, nT, nM, t1, t2, t3, t4, t5, t6, t7, t8, sp, fl, cv, rfl, H⟩ := S
  intro p hp
  exact hd_of (.inr (.inr (.inr (.inr (.inr (List.mem_append_right _ hp))))))
theorem StoD.ext {w : World} {st : Addr} {R R' : List (Addr × Obj)} {Fs Ow : List (List Int)} {ls : List Lev} {b : Nat} {pend : Bool} {dx D Fi Tr Mk Nw : Addr} {doms fs trs mks : List Value} {on : Obj} {kvs : List (Int × Value)} {nF : Nat}
    (H : StoD w st R Fs Ow ls b pend dx D Fi Tr Mk Nw doms fs trs mks on kvs nF) (s : ∀ p ∈ R, p ∈ R')
    (h : ∀ p ∈ R', p ∈ R ∨ ((@Ne Nat p.1 dx ∧ @Ne Nat p.1 D ∧ @Ne Nat p.1 Tr ∧ @Ne Nat p.1 Nw ∧ @Ne Nat p.1 Mk) ∧ ∀ q ∈ svs ls, @Ne Nat p.1 q.1)) :
    StoD w st R' Fs Ow ls b pend dx D Fi Tr Mk Nw doms fs trs mks on kvs nF :=
  { H with
    ist := s _ H.ist
    ifi := s _ H.ifi
    dfs := H.dfs.mono s
    dom := H.dom.mono s
    his := H.his.mono s
    off := fun p hp => by
      rcases List.mem_append.mp hp with hp | hp
      · exact H.off p (List.mem_append_left _ hp)
      · rcases h p hp with h | h
        · exact H.off p (List.mem_append_right _ h)
        · exact h.1
    sok := H.sok.ext fun p hp => (h p hp).imp id fun h => h.2 }
theorem Sto.ext {w : World} {st : Addr} {R nw : List (Addr × Obj)} {Fs Ow : List (List Int)} {ls : List Lev} {b : Nat} {pend : Bool} (S : Sto w st R nw Fs Ow ls b pend) (q : Addr × Obj) (hq : ∀ p ∈ nw, ¬ isT p → @Ne Nat q.1 p.1) :
    ∃ nw', Sto w st (q :: R) nw' Fs Ow ls b pend ∧ (∀ p ∈ nw', p = q ∨ p ∈ nw) := by
  obtain ⟨dx, D, Fi, Tr, Mk, Nw, doms, fs, trs, mks, on, kvs, nD, nF, nT, nM, t1, t2, t3, t4, t5, t6, t7, t8, sp, fl, cv, rfl, H⟩ := S
  refine ⟨_, ⟨dx, D, Fi, Tr, Mk, Nw, doms, fs, trs, mks, on, kvs, nD, nF, nT, nM, t1, t2, t3, t4, t5, t6, t7, t8, sp, fl, cv, rfl, H.ext (fun p hp => .tail _ hp) fun p hp => ?_⟩, fun p hp => ?_⟩
  · rcases List.mem_cons.mp hp with rfl | hp
    · refine .inr ⟨⟨hq _ (.head _) (not_isT_dict rfl), hq _ (.tail _ (.head _)) (not_isT_list rfl), hq _ (.tail _ (.tail _ (.head _))) (not_isT_list rfl), hq _ (.tail _ (.tail _ (.tail _ (.head _)))) ?_, hq _ (.tail _ (.tail _ (.tail _ (.tail _ (.head _))))) (not_isT_list rfl)⟩, fun q hq2 => hq _ (.tail _ (.tail _ (.tail _ (.tail _ (.tail _ (List.mem_append_left _ hq2)))))) ?_⟩
      · obtain ⟨_, _, hx, _⟩ := H.ond
        exact not_isT_dict hx.1
      · obtain ⟨vs, n, e⟩ := svs_list hq2
        exact not_isT_list e
    · exact .inl hp
  · rcases hd_cases hp with h | h | h | h | h | h
    · exact .inr (hd_of (.inl h))
    · exact .inr (hd_of (.inr (.inl h)))
    · exact .inr (hd_of (.inr (.inr (.inl h))))
    · exact .inr (hd_of (.inr (.inr (.inr (.inl h)))))
    · exact .inr (hd_of (.inr (.inr (.inr (.inr (.inl h))))))
    · rcases List.mem_append.mp h with h | h
      · exact .inr (hd_of (.inr (.inr (.inr (.inr (.inr (List.mem_append_left _ h)))))))
      · rcases List.mem_cons.mp h with h | h
        · exact .inl h
        · exact .inr (hd_of (.inr (.inr (.inr (.inr (.inr (List.mem_append_right _ h)))))))
/-- the store as the asking methods want it -/
theorem Sto.asks {w : World} {st : Addr} {R nw : List (Addr × Obj)} {Fs Ow : List (List Int)} {ls : List Lev} {b : Nat} {pend : Bool} (S : Sto w st R nw Fs Ow ls b pend) : ∃ doms fs, StoreIn w.params nw st doms fs ∧ DomsIn R doms (Ow.map ofVals) ∧ DomsIn R fs (Fs.map ofVals) := by
  obtain ⟨dx, D, Fi, Tr, Mk, Nw, doms, fs, trs, mks, on, kvs, nD, nF, nT, nM, t1, t2, t3, t4, t5, t6, t7, t8, sp, fl, cv, rfl, H⟩ := S
  exact ⟨doms, fs, ⟨dx, t1, t2, t3, t4, t5, t6, t7, t8, D, Fi, Tr, Mk, Nw, sp, fl, cv, 8, nD, nF, hd_of (.inr (.inr (.inr (.inr (.inr (List.mem_append_right _ H.ist)))))), .head _, .tail _ (.head _), hd_of (.inr (.inr (.inr (.inr (.inr (List.mem_append_right _ H.ifi))))))⟩, H.dom, H.dfs⟩
theorem Sto.inst {w : World} {st : Addr} {R nw : List (Addr × Obj)} {Fs Ow : List (List Int)} {ls : List Lev} {b : Nat} {pend : Bool} (S : Sto w st R nw Fs Ow ls b pend) : Ex18 fun dx t1 t2 t3 t4 t5 t6 t7 t8 D Fi Tr Mk Nw sp fl cv n => (st, instObj 270 dx) ∈ nw ∧ (dx, stD w.params t1 t2 t3 t4 t5 t6 t7 t8 D Fi Tr Mk Nw sp fl cv n) ∈ nw := by
  obtain ⟨dx, D, Fi, Tr, Mk, Nw, doms, fs, trs, mks, on, kvs, nD, nF, nT, nM, t1, t2, t3, t4, t5, t6, t7, t8, sp, fl, cv, rfl, H⟩ := S
  exact ⟨dx, t1, t2, t3, t4, t5, t6, t7, t8, D, Fi, Tr, Mk, Nw, sp, fl, cv, 8, hd_of (.inr (.inr (.inr (.inr (.inr (List.mem_append_right _ H.ist)))))), .head _⟩
theorem Sto.facts {w : World} {st : Addr} {R nw : List (Addr × Obj)} {Fs Ow : List (List Int)} {ls : List Lev} {b : Nat} {pend : Bool} (S : Sto w st R nw Fs Ow ls b pend) : (∀ f ∈ Fs, f.Sublist [0, 1, 2, 3, 4, 5]) ∧ OwOk Fs Ow ∧ Fs.length ≤ 3 ∧ ls.length ≤ b := by
  obtain ⟨dx, D, Fi, Tr, Mk, Nw, doms, fs, trs, mks, on, kvs, nD, nF, nT, nM, t1, t2, t3, t4, t5, t6, t7, t8, sp, fl, cv, rfl, H⟩ := S
  exact ⟨H.fok, H.ook, H.fln, H.lsl⟩
theorem Away.mono {K nw nw' : List (Addr × Obj)} (h : Away K nw) (s : ∀ p ∈ nw', ∃ q ∈ nw, @Eq Nat q.1 p.1) : Away K nw' := fun p hp q hq => by
  obtain ⟨q', h1, h2⟩ := s q hq
  have := h p hp q' h1
  lia
theorem push_op (w : World) (st : Addr) (K R nw : List (Addr × Obj)) (Fs Ow : List (List Int)) (ls : List Lev) (b : Nat) (S : Sto w st R nw Fs Ow ls b false) (hb : b ≤ 500) (hK : Away K nw) :
    Does w 246 (K ++ nw) [.ref st] 1 16 (fun r news' => r = .none ∧ ∃ nw', news' = K ++ nw' ∧ Sto w st R nw' Fs Ow ls b true ∧ Away K nw') := by
  obtain ⟨dx, D, Fi, Tr, Mk, Nw, doms, fs, trs, mks, on, kvs, nD, nF, nT, nM, t1, t2, t3, t4, t5, t6, t7, t8, sp, fl, cv, rfl, H⟩ := S
  obtain ⟨i1, i2⟩ := H.his.len
  have := H.lsl
  refine Does.conv (push_does w (K ++ (dx, stD w.params t1 t2 t3 t4 t5 t6 t7 t8 D Fi Tr Mk Nw sp fl cv 8) :: (D, listOf doms.toArray nD) :: (Tr, listOf trs.toArray nT) :: (Nw, on) :: (svs ls ++ R)) st dx Mk Tr (listOf doms.toArray nD) mks trs nM nT t1 t2 t3 t4 t5 t6 t7 t8 D Fi Nw sp fl cv 8 ?m1 ?m2 ?m3 (by lia) (by lia) (fun p hp => ?_)) (fun p hp => mv_last hp) (fun h₀ L h' r n' hP N => ?_)
  case m1 => exact List.mem_append_right _ (.tail _ (.tail _ (.tail _ (.tail _ (List.mem_append_right _ H.ist)))))
  case m2 => exact List.mem_append_right _ (.head _)
  case m3 => exact List.mem_append_right _ (.tail _ (.tail _ (.head _)))
  · rcases List.mem_append.mp hp with hp | hp
    · exact hK p hp (Mk, _) (.tail _ (.tail _ (.tail _ (.tail _ (.head _)))))
    · rcases List.mem_cons.mp hp with rfl | hp
      · exact H.e4
      · rcases List.mem_cons.mp hp with rfl | hp
        · exact H.e7
        · rcases List.mem_cons.mp hp with rfl | hp
          · exact H.e9
          · rcases List.mem_cons.mp hp with rfl | hp
            · exact H.ea
            · exact (H.off p hp).2.2.2.2
  · obtain ⟨rfl, t, nM', rfl⟩ := hP
    refine ⟨K ++ (dx, stD w.params t1 t2 t3 t4 t5 t6 t7 t8 D Fi Tr Mk Nw sp fl cv 8) :: (D, listOf doms.toArray nD) :: (Tr, listOf trs.toArray nT) :: (Nw, on) :: (Mk, listOf (mks ++ [Value.int (trs.length : Nat) t]).toArray nM') :: (svs ls ++ R), ⟨rfl, _, rfl, ⟨dx, D, Fi, Tr, Mk, Nw, doms, fs, trs, _, on, kvs, nD, nF, nT, nM', t1, t2, t3, t4, t5, t6, t7, t8, sp, fl, cv, rfl, { H with his := ⟨mks, t, rfl, H.his⟩ }⟩, hK.mono fun p hp => ?_⟩, fun p hp => mv_last' hp⟩
    rcases hd_cases hp with rfl | rfl | rfl | rfl | rfl | h
    · exact ⟨(dx, _), .head _, rfl⟩
    · exact ⟨(D, _), .tail _ (.head _), rfl⟩
    · exact ⟨(Tr, _), .tail _ (.tail _ (.head _)), rfl⟩
    · exact ⟨(Nw, _), .tail _ (.tail _ (.tail _ (.head _))), rfl⟩
    · exact ⟨(Mk, listOf mks.toArray nM), .tail _ (.tail _ (.tail _ (.tail _ (.head _)))), rfl⟩
    · exact ⟨p, hd_of (.inr (.inr (.inr (.inr (.inr h))))), rfl⟩
end
section

theorem isT.away {h₀ h : Heap} {L : Addr} {news : List (Addr × Obj)} {p q : Addr × Obj} (t : isT p) (N : News h₀ L h news) (hp : p ∈ news) (hq : q ∈ news) (hn : ¬ isT q) : @Ne Nat p.1 q.1 := fun e => by
  have a := (N p hp).1
  have b := (N q hq).1
  have e' : p.1 = q.1 := e
  rw [e', b] at a
  obtain ⟨vs, n, ht⟩ := t
  exact hn ⟨vs, n, by rw [← ht]; exact Option.some.inj a⟩
section
variable {a b c d e p : Addr × Obj} {tl K S R : List (Addr × Obj)}
theorem en_sub (h : p ∈ K ++ a :: b :: c :: d :: e :: (S ++ (tupz tl ++ R))) : p ∈ a :: b :: c :: d :: (tl ++ (K ++ e :: (S ++ R))) :=
  let P : Addr × Obj → Prop := fun p => p ∈ a :: b :: c :: d :: (tl ++ (K ++ e :: (S ++ R)))
  (all_app (P := P) (fun p h => .tail _ (.tail _ (.tail _ (.tail _ (List.mem_append_right _ (List.mem_append_left _ (h))))))) (all_cons (P := P) (.head _) (all_cons (P := P) (.tail _ (.head _)) (all_cons (P := P) (.tail _ (.tail _ (.head _))) (all_cons (P := P) (.tail _ (.tail _ (.tail _ (.head _)))) (all_cons (P := P) (.tail _ (.tail _ (.tail _ (.tail _ (List.mem_append_right _ (List.mem_append_right _ (.head _))))))) (all_app (P := P) (fun p h => .tail _ (.tail _ (.tail _ (.tail _ (List.mem_append_right _ (List.mem_append_right _ (.tail _ (List.mem_append_left _ (h))))))))) (all_app (P := P) (fun p h => .tail _ (.tail _ (.tail _ (.tail _ (List.mem_append_left _ ((mem_tupz.mp h).1)))))) (fun p h => .tail _ (.tail _ (.tail _ (.tail _ (List.mem_append_right _ (List.mem_append_right _ (.tail _ (List.mem_append_right _ (h)))))))))))))))) : ∀ p ∈ K ++ a :: b :: c :: d :: e :: (S ++ (tupz tl ++ R)), P p) p h
theorem en_pre (h : p ∈ a :: b :: c :: d :: (K ++ e :: (S ++ R))) : p ∈ K ++ a :: b :: c :: d :: e :: (S ++ R) :=
  let P : Addr × Obj → Prop := fun p => p ∈ K ++ a :: b :: c :: d :: e :: (S ++ R)
  (all_cons (P := P) (List.mem_append_right _ (.head _)) (all_cons (P := P) (List.mem_append_right _ (.tail _ (.head _))) (all_cons (P := P) (List.mem_append_right _ (.tail _ (.tail _ (.head _)))) (all_cons (P := P) (List.mem_append_right _ (.tail _ (.tail _ (.tail _ (.head _))))) (all_app (P := P) (fun p h => List.mem_append_left _ (h)) (all_cons (P := P) (List.mem_append_right _ (.tail _ (.tail _ (.tail _ (.tail _ (.head _)))))) (all_app (P := P) (fun p h => List.mem_append_right _ (.tail _ (.tail _ (.tail _ (.tail _ (.tail _ (List.mem_append_left _ (h)))))))) (fun p h => List.mem_append_right _ (.tail _ (.tail _ (.tail _ (.tail _ (.tail _ (List.mem_append_right _ (h)))))))))))))) : ∀ p ∈ a :: b :: c :: d :: (K ++ e :: (S ++ R)), P p) p h
theorem en_sel (hK : ∀ q ∈ K, ¬ isT q) (he : ¬ isT e) (hS : ∀ q ∈ S, ¬ isT q) (t : isT p) (h : p ∈ tl ++ (K ++ e :: (S ++ R))) : p ∈ tupz tl ++ R := by
  rcases List.mem_append.mp h with h | h
  · exact List.mem_append_left _ (mem_tupz.mpr ⟨h, t⟩)
  · rcases List.mem_append.mp h with h | h
    · exact absurd t (hK p h)
    · rcases List.mem_cons.mp h with h | h
      · exact absurd t (h ▸ he)
      · rcases List.mem_append.mp h with h | h
        · exact absurd t (hS p h)
        · exact List.mem_append_right _ h
theorem en_off {h₀ h : Heap} {L : Addr} (N : News h₀ L h (a :: b :: c :: d :: (tl ++ (K ++ e :: (S ++ R))))) (ha : ¬ isT a) (hb : ¬ isT b) (hc : ¬ isT c) (hd : ¬ isT d) (he : ¬ isT e) (hS : ∀ q ∈ S, ¬ isT q) (hK : ∀ q ∈ K, ¬ isT q) :
    ∀ p ∈ tupz tl, ((@Ne Nat p.1 a.1 ∧ @Ne Nat p.1 b.1 ∧ @Ne Nat p.1 c.1 ∧ @Ne Nat p.1 d.1 ∧ @Ne Nat p.1 e.1) ∧ ∀ q ∈ S, @Ne Nat p.1 q.1) ∧ ∀ q ∈ K, @Ne Nat q.1 p.1 := fun p hp => by
  obtain ⟨h1, t⟩ := mem_tupz.mp hp
  have hp' : p ∈ a :: b :: c :: d :: (tl ++ (K ++ e :: (S ++ R))) := by simp [h1]
  exact ⟨⟨⟨t.away N hp' (by simp) ha, t.away N hp' (by simp) hb, t.away N hp' (by simp) hc, t.away N hp' (by simp) hd, t.away N hp' (by simp) he⟩, fun q hq => t.away N hp' (by simp [hq]) (hS q hq)⟩, fun q hq => Ne.symm (t.away N hp' (by simp [hq]) (hK q hq))⟩
theorem en_away {a' b' c' d' e' : Addr × Obj} (hK : Away K (a :: b :: c :: d :: e :: (S ++ R))) (ea : @Eq Nat a.1 a'.1) (eb : @Eq Nat b.1 b'.1) (ec : @Eq Nat c.1 c'.1) (ed : @Eq Nat d.1 d'.1) (ee : @Eq Nat e.1 e'.1) (hT : ∀ p ∈ tupz tl, ∀ q ∈ K, @Ne Nat q.1 p.1) :
    Away K (a' :: b' :: c' :: d' :: e' :: (S ++ (tupz tl ++ R))) := fun p hp q hq => by
  rcases hd_cases hq with rfl | rfl | rfl | rfl | rfl | h
  · have := hK p hp a (.head _); lia
  · have := hK p hp b (.tail _ (.head _)); lia
  · have := hK p hp c (.tail _ (.tail _ (.head _))); lia
  · have := hK p hp d (.tail _ (.tail _ (.tail _ (.head _)))); lia
  · have := hK p hp e (.tail _ (.tail _ (.tail _ (.tail _ (.head _))))); lia
  · rcases List.mem_append.mp h with h | h
    · exact hK p hp q (hd_of (.inr (.inr (.inr (.inr (.inr (List.mem_append_left _ h)))))))
    · rcases List.mem_append.mp h with h | h
      · exact hT q h p hp
      · exact hK p hp q (hd_of (.inr (.inr (.inr (.inr (.inr (List.mem_append_right _ h)))))))
end
theorem set_same {α : Type} : ∀ {l : List α} {i : Nat} {v : α}, l[i]? = some v → l.set i v = l
  | [], _, _, h => by simp at h
  | a :: l, 0, v, h => by simp at h; rw [h]; rfl
  | a :: l, i + 1, v, h => by
    have : l.set i v = l := set_same (by simpa using h)
    show a :: l.set i v = _
    rw [this]
theorem set_back {α : Type} {l : List α} {i : Nat} {u v : α} (h : l[i]? = some v) : (l.set i u).set i v = l := by rw [List.set_set]; exact set_same h
theorem map_set' {α β : Type} (f : α → β) : ∀ (l : List α) (i : Nat) (a : α), (l.set i a).map f = (l.map f).set i (f a)
  | [], _, _ => rfl
  | b :: l, 0, a => rfl
  | b :: l, i + 1, a => by
    show f b :: (l.set i a).map f = f b :: (l.map f).set i (f a)
    rw [map_set' f l i a]
theorem OwOk.set {Fs Ow : List (List Int)} {i : Nat} {row r : List Int} (h : OwOk Fs Ow) (e : Ow[i]? = some row) (hs : r.Sublist row) (hn : r ≠ []) : OwOk Fs (Ow.set i r) := by
  refine ⟨by rw [List.length_set]; exact h.1, fun j f o hf ho => ?_⟩
  by_cases hij : i = j
  · subst hij
    have hl : i < Ow.length := (List.getElem?_eq_some_iff.mp e).1
    rw [List.getElem?_set_self hl] at ho
    obtain rfl := Option.some.inj ho
    exact ⟨hs.trans (h.2 i f row hf e).1, hn⟩
  · rw [List.getElem?_set_ne hij] at ho
    exact h.2 j f o hf ho
theorem OwOk.row {Fs Ow : List (List Int)} {i : Nat} {row : List Int} (h : OwOk Fs Ow) (hF : ∀ f ∈ Fs, f.Sublist [0, 1, 2, 3, 4, 5]) (e : Ow[i]? = some row) : ∃ f, Fs[i]? = some f ∧ row.Sublist f ∧ row ≠ [] ∧ f.Sublist [0, 1, 2, 3, 4, 5] ∧ row.Sublist [0, 1, 2, 3, 4, 5] := by
  have hl : i < Ow.length := (List.getElem?_eq_some_iff.mp e).1
  have hl2 : i < Fs.length := by rw [← h.1]; exact hl
  have h2 := h.2 i Fs[i] row (List.getElem?_eq_getElem hl2) e
  have h3 := hF _ (List.getElem_mem hl2)
  exact ⟨_, List.getElem?_eq_getElem hl2, h2.1, h2.2, h3, h2.1.trans h3⟩
abbrev EnterOk (w : World) (st : Addr) (K R : List (Addr × Obj)) (Fs Ow : List (List Int)) (ls : List Lev) (b : Nat) (x k : Int) (sg : Sign) (row : List Int) : Value → List (Addr × Obj) → Prop :=
  fun r news' => ∃ nw' R', news' = K ++ nw' ∧ Away K nw' ∧ (∀ p ∈ R, p ∈ R') ∧
    ((keptBy sg k row = [] ∧ r = .bool false ∧ Sto w st R' nw' Fs Ow ls b true) ∨
     (keptBy sg k row ≠ [] ∧ r = .bool true ∧ Sto w st R' nw' Fs (Ow.set x.toNat (keptBy sg k row)) (⟨Ow, none⟩ :: ls) (b + 1) false))
theorem enter_fin {w : World} {st : Addr} {K R : List (Addr × Obj)} {Fs Ow : List (List Int)} {ls : List Lev} {b : Nat} {x k : Int} {sg : Sign} {row : List Int} {dx D Fi Tr Mk Nw l d : Addr} {doms fs trs mks : List Value} {on : Obj} {kvs : List (Int × Value)} {nD nF nT nM : Nat} {t1 t2 t3 t4 t5 t6 t7 t8 sp : Tok} {fl : Bool} {cv : Value}
    (H : StoD w st R Fs Ow ls b true dx D Fi Tr Mk Nw doms fs trs mks on kvs nF) (h0 : 0 ≤ x) (e : Ow[x.toNat]? = some row) (hk0 : -1 ≤ k) (hk1 : k < 7) (hd : doms[x.toNat]? = some (.ref d))
    (hK : Away K ((dx, stD w.params t1 t2 t3 t4 t5 t6 t7 t8 D Fi Tr Mk Nw sp fl cv 8) :: (D, listOf doms.toArray nD) :: (Tr, listOf trs.toArray nT) :: (Nw, on) :: (Mk, listOf mks.toArray nM) :: (svs ls ++ R))) (hKt : ∀ p ∈ K, ¬ isT p)
    {h₀ h' : Heap} {L : Addr} {r : Value} {n' : List (Addr × Obj)} (N : News h₀ L h' n')
    (hP : EnterPost w (K ++ (Mk, listOf mks.toArray nM) :: (svs ls ++ R)) dx D Fi Tr Mk Nw l d doms trs nD nT on kvs t1 t2 t3 t4 t5 t6 t7 t8 sp fl cv x k sg (ofVals row) r n') :
    ∃ n'', EnterOk w st K R Fs Ow ls b x k sg row r n'' ∧ ∀ p ∈ n'', p ∈ n' := by
  obtain ⟨f, hf, hr1, hr2, hr3, hr4⟩ := H.ook.row H.fok e
  have hst := struck_of hr4 sg hk0 hk1
  have hks : (keptBy sg k row).Sublist [0, 1, 2, 3, 4, 5] := (kept_sub sg k row).trans hr4
  have hMk : ¬ isT (Mk, listOf mks.toArray nM) := not_isT_list rfl
  have hSv : ∀ q ∈ svs ls, ¬ isT q := fun q hq => by obtain ⟨vs, n, e⟩ := svs_list hq; exact not_isT_list e
  have hon : ¬ isT (Nw, on) := by obtain ⟨_, _, hx, _⟩ := H.ond; exact not_isT_dict hx.1
  obtain ⟨mks', tm, hm, hH⟩ := H.his
  obtain ⟨tl, htl, hC⟩ := hP
  have hsub : ∀ p ∈ R, p ∈ tupz tl ++ R := fun p hp => List.mem_append_right _ hp
  obtain ⟨c1, rfl, cv', rfl⟩ | ⟨c1, c2, rfl, rfl⟩ | ⟨c1, c2, rfl, on', f', e', nD', nT', t', rv', spk', ts', hon', rfl, hf', he'⟩ := hC
  · have T := en_off N (not_isT_dict rfl) (not_isT_list rfl) (not_isT_list rfl) hon hMk hSv hKt
    refine ⟨K ++ (dx, stD w.params t1 t2 t3 t4 t5 t6 t7 t8 D Fi Tr Mk Nw sp true cv' 8) :: (D, listOf (doms).toArray nD) :: (Tr, listOf (trs).toArray nT) :: (Nw, on) :: (Mk, listOf mks.toArray nM) :: (svs ls ++ (tupz tl ++ R)), ⟨_, tupz tl ++ R, rfl, en_away hK rfl rfl rfl rfl rfl fun p hp => (T p hp).2, hsub, .inl ⟨?_, rfl, ⟨dx, D, Fi, Tr, Mk, Nw, doms, fs, trs, mks, on, kvs, nD, nF, nT, nM, t1, t2, t3, t4, t5, t6, t7, t8, sp, true, cv', rfl, H.ext hsub fun p hp => ?_⟩⟩⟩, fun p hp => en_sub hp⟩
    · by_cases hq : keptBy sg k row = []
      · exact hq
      · exact absurd (hst.symm.trans c1) (ofVals_ne hks hq)
    · rcases List.mem_append.mp hp with hp | hp
      · exact .inr (T p hp).1
      · exact .inl hp
  · have T := en_off N (not_isT_dict rfl) (not_isT_list rfl) (not_isT_list rfl) hon hMk hSv hKt
    have hkr : keptBy sg k row = row := ofVals_inj hks hr4 (hst.symm.trans c2)
    have H2 := H.ext (R' := tupz tl ++ R) hsub fun p hp => by
      rcases List.mem_append.mp hp with hp | hp
      · exact .inr (T p hp).1
      · exact .inl hp
    refine ⟨K ++ (dx, stD w.params t1 t2 t3 t4 t5 t6 t7 t8 D Fi Tr Mk Nw sp fl cv 8) :: (D, listOf (doms).toArray nD) :: (Tr, listOf (trs).toArray nT) :: (Nw, on) :: (Mk, listOf mks.toArray nM) :: (svs ls ++ (tupz tl ++ R)), ⟨_, tupz tl ++ R, rfl, en_away hK rfl rfl rfl rfl rfl fun p hp => (T p hp).2, hsub, .inr ⟨by rw [hkr]; exact hr2, rfl, ⟨dx, D, Fi, Tr, Mk, Nw, doms, fs, trs, mks, on, kvs, nD, nF, nT, nM, t1, t2, t3, t4, t5, t6, t7, t8, sp, fl, cv, rfl, { H2 with dom := ?_, ook := ?_, his := ?_, kvl := Nat.le_succ_of_le H.kvl, lsl := Nat.succ_le_succ H.lsl, sok := ⟨fun q e => (nomatch e), H2.sok⟩ }⟩⟩⟩, fun p hp => en_sub hp⟩
    · rw [hkr, set_same e]; exact H2.dom
    · rw [hkr, set_same e]; exact H.ook
    · exact ⟨mks', trs, doms, tm, hm, .inl ⟨rfl, rfl, rfl⟩, H2.dom, H.ook, fun _ _ _ e => (nomatch e), Hist.mono hsub hH⟩
  · have hon2 : ¬ isT (Nw, on') := by obtain ⟨_, _, hx, _⟩ := hon'; exact not_isT_dict hx.1
    have T := en_off N (not_isT_dict rfl) (not_isT_list rfl) (not_isT_list rfl) hon2 hMk hSv hKt
    have hkn : keptBy sg k row ≠ [] := fun h => c1 (by rw [hst, h]; rfl)
    have H2 := H.ext (R' := tupz tl ++ R) hsub fun p hp => by
      rcases List.mem_append.mp hp with hp | hp
      · exact .inr (T p hp).1
      · exact .inl hp
    have hl : x.toNat < doms.length := (List.getElem?_eq_some_iff.mp hd).1
    have hsel := fun p hp t => en_sel hKt hMk hSv (p := p) (tl := tl) (R := R) t hp
    refine ⟨K ++ (dx, stD w.params t1 t2 t3 t4 t5 t6 t7 t8 D Fi Tr Mk Nw sp fl cv 8) :: (D, listOf (doms.set x.toNat (Value.ref f')).toArray nD') :: (Tr, listOf (trs ++ [Value.ref e']).toArray nT') :: (Nw, on') :: (Mk, listOf mks.toArray nM) :: (svs ls ++ (tupz tl ++ R)), ⟨_, tupz tl ++ R, rfl, en_away hK rfl rfl rfl rfl rfl fun p hp => (T p hp).2, hsub, .inr ⟨hkn, rfl, ⟨dx, D, Fi, Tr, Mk, Nw, doms.set x.toNat (.ref f'), fs, trs ++ [.ref e'], mks, on', stored kvs x (.bool true), nD', nF, nT', nM, t1, t2, t3, t4, t5, t6, t7, t8, sp, fl, cv, rfl, { H2 with dom := ?_, ook := H.ook.set e (kept_sub sg k row) hkn, his := ?_, ond := hon', kvl := ?_, lsl := Nat.succ_le_succ H.lsl, sok := ⟨fun q e => (nomatch e), H2.sok⟩ }⟩⟩⟩, fun p hp => en_sub hp⟩
    · rw [map_set']
      refine DomsIn.set ?_ H2.dom
      rw [← hst]
      exact hf'.selT hsel
    · refine ⟨mks', trs, doms, tm, hm, .inr ⟨e', x, t', d, l, rv', spk', ts', 0, rfl, rfl, hsel _ he' ⟨_, _, rfl⟩, h0, by rw [List.length_set]; exact hl, (set_back hd).symm⟩, H2.dom, H.ook, fun _ _ _ e => (nomatch e), Hist.mono hsub hH⟩
    · have := stored_length_le kvs x (.bool true)
      have := H.kvl
      lia

theorem decide_op (w : World) (st : Addr) (K R nw : List (Addr × Obj)) (Fs Ow : List (List Int)) (ls : List Lev) (b : Nat) (l : Addr) (x k : Int) (sg : Sign) (row : List Int) (S : Sto w st R nw Fs Ow ls b true) (hb : b ≤ 500) (hK : Away K nw) (hKt : ∀ p ∈ K, ¬ isT p)
    (hl : LitIn R l x sg k) (h0 : 0 ≤ x) (e : Ow[x.toNat]? = some row) (hk0 : -1 ≤ k) (hk1 : k < 7) :
    Does w 232 (K ++ nw) [.ref st, .ref l] 6 220 (EnterOk w st K R Fs Ow ls b x k sg row) := by
  obtain ⟨dx, D, Fi, Tr, Mk, Nw, doms, fs, trs, mks, on, kvs, nD, nF, nT, nM, t1, t2, t3, t4, t5, t6, t7, t8, sp, fl, cv, rfl, H⟩ := S
  obtain ⟨i1, i2⟩ := H.his.len
  have i3 := H.lsl
  have i4 := H.kvl
  have i5 := H.fln
  have i6 := H.ook.1
  have i7 := H.dom.length
  rw [List.length_map] at i7
  obtain ⟨f, hf, hr1, hr2, hr3, hr4⟩ := H.ook.row H.fok e
  have hrl : row.length ≤ 6 := hr4.length_le
  have hol := ofVals_len row.length row rfl
  have hxl : x.toNat < Ow.length := (List.getElem?_eq_some_iff.mp e).1
  obtain ⟨d, hd, hdd⟩ := H.dom.get (i := x.toNat) (p := ofVals row) (by rw [List.getElem?_map, e]; rfl)
  have sR : ∀ p ∈ R, p ∈ K ++ (Mk, listOf mks.toArray nM) :: (svs ls ++ R) := fun p hp => List.mem_append_right _ (.tail _ (List.mem_append_right _ hp))
  refine Does.conv (decide_does w (K ++ (Mk, listOf mks.toArray nM) :: (svs ls ++ R)) st dx D Fi Tr Mk Nw l d doms trs nD nT on kvs t1 t2 t3 t4 t5 t6 t7 t8 sp fl cv x k sg (ofVals row) (sR _ H.ist) (hl.mono sR) h0 (by lia) hd (by lia) (by lia) (hdd.mono sR) (by lia) H.ond (by lia) H.e1 H.e2 H.e3 H.e5 H.e6 H.e8 ?r1 ?r2 ?r3 ?r4) (fun p hp => en_pre hp) (fun h₀ L h' r n' hP N => enter_fin H h0 e hk0 hk1 hd hK hKt N hP)
  case r1 =>
    intro p hp
    rcases List.mem_append.mp hp with hp | hp
    · exact hK p hp (dx, _) (.head _)
    · rcases List.mem_cons.mp hp with rfl | hp
      · exact Ne.symm H.e4
      · exact (H.off p hp).1
  case r2 =>
    intro p hp
    rcases List.mem_append.mp hp with hp | hp
    · exact hK p hp (D, _) (.tail _ (.head _))
    · rcases List.mem_cons.mp hp with rfl | hp
      · exact Ne.symm H.e7
      · exact (H.off p hp).2.1
  case r3 =>
    intro p hp
    rcases List.mem_append.mp hp with hp | hp
    · exact hK p hp (Tr, _) (.tail _ (.tail _ (.head _)))
    · rcases List.mem_cons.mp hp with rfl | hp
      · exact Ne.symm H.e9
      · exact (H.off p hp).2.2.1
  case r4 =>
    intro p hp
    rcases List.mem_append.mp hp with hp | hp
    · exact hK p hp (Nw, _) (.tail _ (.tail _ (.tail _ (.head _))))
    · rcases List.mem_cons.mp hp with rfl | hp
      · exact Ne.symm H.ea
      · exact (H.off p hp).2.2.2.1

theorem strike_op (w : World) (st : Addr) (K R nw : List (Addr × Obj)) (Fs Ow : List (List Int)) (ls : List Lev) (b : Nat) (l rv : Addr) (x k : Int) (sg : Sign) (row : List Int) (nr : Nat) (hrv : (rv, tupO [] nr) ∈ R) (S : Sto w st R nw Fs Ow ls b true) (hb : b ≤ 500) (hK : Away K nw) (hKt : ∀ p ∈ K, ¬ isT p)
    (hl : LitIn R l x sg k) (h0 : 0 ≤ x) (e : Ow[x.toNat]? = some row) (hk0 : -1 ≤ k) (hk1 : k < 7) :
    Does w 225 (K ++ nw) [.ref st, .ref l, .ref rv] 6 220 (EnterOk w st K R Fs Ow ls b x k sg row) := by
  obtain ⟨dx, D, Fi, Tr, Mk, Nw, doms, fs, trs, mks, on, kvs, nD, nF, nT, nM, t1, t2, t3, t4, t5, t6, t7, t8, sp, fl, cv, rfl, H⟩ := S
  obtain ⟨i1, i2⟩ := H.his.len
  have i3 := H.lsl
  have i4 := H.kvl
  have i5 := H.fln
  have i6 := H.ook.1
  have i7 := H.dom.length
  rw [List.length_map] at i7
  obtain ⟨f, hf, hr1, hr2, hr3, hr4⟩ := H.ook.row H.fok e
  have hrl : row.length ≤ 6 := hr4.length_le
  have hol := ofVals_len row.length row rfl
  have hxl : x.toNat < Ow.length := (List.getElem?_eq_some_iff.mp e).1
  obtain ⟨d, hd, hdd⟩ := H.dom.get (i := x.toNat) (p := ofVals row) (by rw [List.getElem?_map, e]; rfl)
  have sR : ∀ p ∈ R, p ∈ K ++ (Mk, listOf mks.toArray nM) :: (svs ls ++ R) := fun p hp => List.mem_append_right _ (.tail _ (List.mem_append_right _ hp))
  refine Does.conv (strike_does w (K ++ (Mk, listOf mks.toArray nM) :: (svs ls ++ R)) st dx D Fi Tr Mk Nw l d doms trs nD nT on kvs t1 t2 t3 t4 t5 t6 t7 t8 sp fl cv x k sg (ofVals row) rv nr (sR _ hrv) (sR _ H.ist) (hl.mono sR) h0 (by lia) hd (by lia) (by lia) (hdd.mono sR) (by lia) H.ond (by lia) H.e1 H.e2 H.e3 H.e5 H.e6 H.e8 ?r1 ?r2 ?r3 ?r4) (fun p hp => en_pre hp) (fun h₀ L h' r n' hP N => enter_fin H h0 e hk0 hk1 hd hK hKt N hP)
  case r1 =>
    intro p hp
    rcases List.mem_append.mp hp with hp | hp
    · exact hK p hp (dx, _) (.head _)
    · rcases List.mem_cons.mp hp with rfl | hp
      · exact Ne.symm H.e4
      · exact (H.off p hp).1
  case r2 =>
    intro p hp
    rcases List.mem_append.mp hp with hp | hp
    · exact hK p hp (D, _) (.tail _ (.head _))
    · rcases List.mem_cons.mp hp with rfl | hp
      · exact Ne.symm H.e7
      · exact (H.off p hp).2.1
  case r3 =>
    intro p hp
    rcases List.mem_append.mp hp with hp | hp
    · exact hK p hp (Tr, _) (.tail _ (.tail _ (.head _)))
    · rcases List.mem_cons.mp hp with rfl | hp
      · exact Ne.symm H.e9
      · exact (H.off p hp).2.2.1
  case r4 =>
    intro p hp
    rcases List.mem_append.mp hp with hp | hp
    · exact hK p hp (Nw, _) (.tail _ (.tail _ (.tail _ (.head _))))
    · rcases List.mem_cons.mp hp with rfl | hp
      · exact Ne.symm H.ea
      · exact (H.off p hp).2.2.2.1

end
section
theorem popRel_len {R : List (Addr × Obj)} {m : Int} {doms trs doms' trs' : List Value} (h : PopRel R m doms trs doms' trs') : doms.length = doms'.length ∧ trs.length ≤ trs'.length + 1 := by
  obtain ⟨h1, h2, h3⟩ | ⟨e, x, t, d, l, rv, spk, ts, n, h1, h2, h3, h4, h5, h6⟩ := h
  · rw [h2, h3]; exact ⟨rfl, Nat.le_succ _⟩
  · refine ⟨by rw [h6, List.length_set], ?_⟩
    rw [h1, List.length_append]; exact Nat.le_refl _
section
variable {K S : List (Addr × Obj)} {a b c d e x y p : Addr × Obj}
theorem po_pre (h : p ∈ a :: b :: c :: (K ++ d :: e :: S)) : p ∈ K ++ a :: b :: c :: d :: e :: S :=
  let P : Addr × Obj → Prop := fun p => p ∈ K ++ a :: b :: c :: d :: e :: S
  (all_cons (P := P) (List.mem_append_right _ (.head _)) (all_cons (P := P) (List.mem_append_right _ (.tail _ (.head _))) (all_cons (P := P) (List.mem_append_right _ (.tail _ (.tail _ (.head _)))) (all_app (P := P) (fun p h => List.mem_append_left _ (h)) (all_cons (P := P) (List.mem_append_right _ (.tail _ (.tail _ (.tail _ (.head _))))) (all_cons (P := P) (List.mem_append_right _ (.tail _ (.tail _ (.tail _ (.tail _ (.head _)))))) (fun p h => List.mem_append_right _ (.tail _ (.tail _ (.tail _ (.tail _ (.tail _ (h)))))))))))) : ∀ p ∈ a :: b :: c :: (K ++ d :: e :: S), P p) p h
theorem po_sub (h : p ∈ K ++ a :: b :: c :: y :: x :: S) : p ∈ a :: b :: c :: x :: y :: (K ++ d :: e :: S) :=
  let P : Addr × Obj → Prop := fun p => p ∈ a :: b :: c :: x :: y :: (K ++ d :: e :: S)
  (all_app (P := P) (fun p h => .tail _ (.tail _ (.tail _ (.tail _ (.tail _ (List.mem_append_left _ (h))))))) (all_cons (P := P) (.head _) (all_cons (P := P) (.tail _ (.head _)) (all_cons (P := P) (.tail _ (.tail _ (.head _))) (all_cons (P := P) (.tail _ (.tail _ (.tail _ (.tail _ (.head _))))) (all_cons (P := P) (.tail _ (.tail _ (.tail _ (.head _)))) (fun p h => .tail _ (.tail _ (.tail _ (.tail _ (.tail _ (List.mem_append_right _ (.tail _ (.tail _ (h)))))))))))))) : ∀ p ∈ K ++ a :: b :: c :: y :: x :: S, P p) p h
end
theorem pop_op (w : World) (st : Addr) (K R : List (Addr × Obj)) (Fs Ow : List (List Int)) (ls : List Lev) (b : Nat) (dx D Fi Tr Mk Nw : Addr) (doms fs trs mks doms' trs' mks' : List Value) (on : Obj) (kvs : List (Int × Value)) (nD nF nT nM : Nat) (t1 t2 t3 t4 t5 t6 t7 t8 sp tn tm : Tok) (fl : Bool) (cv : Value)
    (H : StoD w st R Fs Ow ls b false dx D Fi Tr Mk Nw doms' fs trs' mks' on kvs nF) (hb : b ≤ 500) (hm : mks = mks' ++ [.int (trs'.length : Nat) tm]) (hR : PopRel R (trs'.length : Nat) doms trs doms' trs')
    (hK : Away K ((dx, stD w.params t1 t2 t3 t4 t5 t6 t7 t8 D Fi Tr Mk Nw sp fl cv 8) :: (D, listOf doms.toArray nD) :: (Tr, listOf trs.toArray nT) :: (Nw, on) :: (Mk, listOf mks.toArray nM) :: (svs ls ++ R))) :
    Does w 253 (K ++ (dx, stD w.params t1 t2 t3 t4 t5 t6 t7 t8 D Fi Tr Mk Nw sp fl cv 8) :: (D, listOf doms.toArray nD) :: (Tr, listOf trs.toArray nT) :: (Nw, on) :: (Mk, listOf mks.toArray nM) :: (svs ls ++ R)) [.ref st, .int 1 tn] 3 120
      (fun r news' => r = .none ∧ ∃ nw', news' = K ++ nw' ∧ Sto w st R nw' Fs Ow ls b false ∧ Away K nw') := by
  obtain ⟨i1, i2⟩ := H.his.len
  have i3 := H.lsl
  have i5 := H.fln
  have i6 := H.ook.1
  have i7 := H.dom.length
  rw [List.length_map] at i7
  obtain ⟨j1, j2⟩ := popRel_len hR
  have hml : mks.length = mks'.length + 1 := by rw [hm, List.length_append]; rfl
  have e0 : (((mks.length : Nat) : Int) - 1).toNat = mks'.length := by lia
  have sR : ∀ p ∈ svs ls ++ R, p ∈ K ++ (Nw, on) :: (Mk, listOf mks.toArray nM) :: (svs ls ++ R) := fun p hp => List.mem_append_right _ (.tail _ (.tail _ hp))
  have sR2 : ∀ p ∈ R, p ∈ K ++ (Nw, on) :: (Mk, listOf mks.toArray nM) :: (svs ls ++ R) := fun p hp => sR p (List.mem_append_right _ hp)
  refine Does.conv (pop_does w (K ++ (Nw, on) :: (Mk, listOf mks.toArray nM) :: (svs ls ++ R)) st dx D Fi Tr Mk Nw doms fs trs mks doms' trs' nD nF nT nM t1 t2 t3 t4 t5 t6 t7 t8 sp tn tm fl cv (trs'.length : Nat) (Fs.map ofVals)
    (sR2 _ H.ist) (sR2 _ H.ifi) (H.dfs.mono sR2) (List.mem_append_right _ (.tail _ (.head _))) (by lia) (by lia) (by lia) (by lia) ?hm1 (hR.mono sR2) H.e1 H.e2 H.e5 ?r1 ?r2 ?r3) (fun p hp => po_pre hp) (fun h₀ L h' r n' hP N => ?_)
  case hm1 => rw [e0, hm, List.getElem?_append_right (Nat.le_refl _), Nat.sub_self]; rfl
  case r1 =>
    intro p hp
    rcases List.mem_append.mp hp with hp | hp
    · exact hK p hp (dx, _) (.head _)
    · rcases List.mem_cons.mp hp with rfl | hp
      · exact Ne.symm H.e3
      · rcases List.mem_cons.mp hp with rfl | hp
        · exact Ne.symm H.e4
        · exact (H.off p hp).1
  case r2 =>
    intro p hp
    rcases List.mem_append.mp hp with hp | hp
    · exact hK p hp (D, _) (.tail _ (.head _))
    · rcases List.mem_cons.mp hp with rfl | hp
      · exact Ne.symm H.e6
      · rcases List.mem_cons.mp hp with rfl | hp
        · exact Ne.symm H.e7
        · exact (H.off p hp).2.1
  case r3 =>
    intro p hp
    rcases List.mem_append.mp hp with hp | hp
    · exact hK p hp (Tr, _) (.tail _ (.tail _ (.head _)))
    · rcases List.mem_cons.mp hp with rfl | hp
      · exact Ne.symm H.e8
      · rcases List.mem_cons.mp hp with rfl | hp
        · exact Ne.symm H.e9
        · exact (H.off p hp).2.2.1
  obtain ⟨rfl, Mk', Nw', on', fl', cv', nD', nT', nM', hon', rfl, hlt, hne⟩ := hP
  rw [e0] at N ⊢
  have htk : mks.take mks'.length = mks' := by rw [hm]; exact List.take_left' rfl
  rw [htk] at N ⊢
  have q1 := hlt _ (.head _)
  have q2 := hlt _ (.tail _ (.head _))
  have q3 := hlt _ (.tail _ (.tail _ (.head _)))
  have q4 := fun p hp => hlt p (.tail _ (.tail _ (.tail _ (List.mem_append_left _ hp))))
  have q5 := fun p hp => hlt p (.tail _ (.tail _ (.tail _ (sR p hp))))
  refine ⟨K ++ (dx, stD w.params t1 t2 t3 t4 t5 t6 t7 t8 D Fi Tr Mk' Nw' sp fl' cv' 8) :: (D, listOf doms'.toArray nD') :: (Tr, listOf trs'.toArray nT') :: (Nw', on') :: (Mk', listOf mks'.toArray nM') :: (svs ls ++ R), ⟨rfl, _, rfl, ⟨dx, D, Fi, Tr, Mk', Nw', doms', fs, trs', mks', on', [], nD', nF, nT', nM', t1, t2, t3, t4, t5, t6, t7, t8, sp, fl', cv', rfl,
    { H with ond := hon', kvl := Nat.zero_le _, e3 := Nat.ne_of_lt q1.2, e4 := Nat.ne_of_lt q1.1, e6 := Nat.ne_of_lt q2.2, e7 := Nat.ne_of_lt q2.1, e8 := Nat.ne_of_lt q3.2, e9 := Nat.ne_of_lt q3.1, ea := Ne.symm hne, off := fun p hp => ?_ }⟩, fun p hp q hq => ?_⟩, fun p hp => po_sub hp⟩
  · have := H.off p hp
    exact ⟨this.1, this.2.1, this.2.2.1, Nat.ne_of_lt (q5 p hp).2, Nat.ne_of_lt (q5 p hp).1⟩
  · rcases hd_cases hq with rfl | rfl | rfl | rfl | rfl | h
    · exact hK p hp (dx, stD w.params t1 t2 t3 t4 t5 t6 t7 t8 D Fi Tr Mk Nw sp fl cv 8) (.head _)
    · exact hK p hp (D, listOf doms.toArray nD) (.tail _ (.head _))
    · exact hK p hp (Tr, listOf trs.toArray nT) (.tail _ (.tail _ (.head _)))
    · exact Nat.ne_of_lt (q4 p hp).2
    · exact Nat.ne_of_lt (q4 p hp).1
    · exact hK p hp q (hd_of (.inr (.inr (.inr (.inr (.inr h))))))
abbrev PopOk (w : World) (st : Addr) (K R : List (Addr × Obj)) (Fs Ow : List (List Int)) (ls : List Lev) (b : Nat) : Value → List (Addr × Obj) → Prop := fun r news' => r = .none ∧ ∃ nw', news' = K ++ nw' ∧ Sto w st R nw' Fs Ow ls b false ∧ Away K nw'
/-- a level that nothing was put on is taken back -/
theorem popP_op (w : World) (st : Addr) (K R nw : List (Addr × Obj)) (Fs Ow : List (List Int)) (ls : List Lev) (b : Nat) (tn : Tok) (S : Sto w st R nw Fs Ow ls b true) (hb : b ≤ 500) (hK : Away K nw) :
    Does w 253 (K ++ nw) [.ref st, .int 1 tn] 3 120 (PopOk w st K R Fs Ow ls b) := by
  obtain ⟨dx, D, Fi, Tr, Mk, Nw, doms, fs, trs, mks, on, kvs, nD, nF, nT, nM, t1, t2, t3, t4, t5, t6, t7, t8, sp, fl, cv, rfl, H⟩ := S
  obtain ⟨mks', t, hm, hH⟩ := H.his
  exact pop_op w st K R Fs Ow ls b dx D Fi Tr Mk Nw doms fs trs mks doms trs mks' on kvs nD nF nT nM t1 t2 t3 t4 t5 t6 t7 t8 sp tn t fl cv { H with his := hH } hb hm (.inl ⟨rfl, rfl, rfl⟩) hK
/-- the last level is taken back; the list that was put by comes out -/
theorem popL_op (w : World) (st : Addr) (K R nw : List (Addr × Obj)) (Fs Ow : List (List Int)) (l : Lev) (ls : List Lev) (b : Nat) (tn : Tok) (q : Addr × List Value × Nat) (hq : l.sv = some q) (S : Sto w st R nw Fs Ow (l :: ls) b false) (hb : b ≤ 500) (hK : Away K nw) :
    (svO q ∈ nw ∧ RowsIn R q.2.1 l.ow ∧ OwOk Fs l.ow) ∧ Does w 253 (K ++ nw) [.ref st, .int 1 tn] 3 120 (PopOk w st (K ++ [svO q]) R Fs l.ow ls b) := by
  obtain ⟨dx, D, Fi, Tr, Mk, Nw, doms, fs, trs, mks, on, kvs, nD, nF, nT, nM, t1, t2, t3, t4, t5, t6, t7, t8, sp, fl, cv, rfl, H⟩ := S
  obtain ⟨mks', trs', doms', t, hm, hR, hd, ho, hr, hH⟩ := H.his
  have es : svs (l :: ls) = svO q :: svs ls := by rw [svs_cons, svOf_some hq]; rfl
  have ho2 := H.off
  have hs := H.sok
  rw [es, List.cons_append] at hK ho2 ⊢
  refine ⟨⟨.tail _ (.tail _ (.tail _ (.tail _ (.tail _ (.head _))))), hr q.1 q.2.1 q.2.2 hq, ho⟩, ?_⟩
  have hz := ho2 (svO q) (.head _)
  refine Does.conv (pop_op w st (K ++ [svO q]) R Fs l.ow ls b dx D Fi Tr Mk Nw doms fs trs mks doms' trs' mks' on kvs nD nF nT nM t1 t2 t3 t4 t5 t6 t7 t8 sp tn t fl cv { H with dom := hd, ook := ho, his := hH, lsl := Nat.le_of_succ_le H.lsl, off := fun p hp => ho2 p (.tail _ hp), sok := hs.2 } hb hm hR ?_) (fun p hp => ?_) (fun h₀ L h' r n' hP N => ⟨n', hP, fun p hp => hp⟩)
  · intro p hp y hy
    rcases List.mem_append.mp hp with hp | hp
    · refine hK p hp y ?_
      rcases hd_cases hy with rfl | rfl | rfl | rfl | rfl | h
      · exact .head _
      · exact .tail _ (.head _)
      · exact .tail _ (.tail _ (.head _))
      · exact .tail _ (.tail _ (.tail _ (.head _)))
      · exact .tail _ (.tail _ (.tail _ (.tail _ (.head _))))
      · exact hd_of (.inr (.inr (.inr (.inr (.inr (.tail _ h))))))
    · rw [List.mem_singleton.mp hp]
      rcases hd_cases hy with rfl | rfl | rfl | rfl | rfl | h
      · exact hz.1
      · exact hz.2.1
      · exact hz.2.2.1
      · exact hz.2.2.2.1
      · exact hz.2.2.2.2
      · exact Ne.symm (hs.1 q hq y h)
  · rcases mv_cases hp with h | h | h | h | h | h | h
    · rcases List.mem_append.mp h with h | h
      · exact mv_of (.inl h)
      · exact mv_of (.inr (.inr (.inr (.inr (.inr (.inr (by rw [List.mem_singleton.mp h]; exact .head _)))))))
    · exact mv_of (.inr (.inl h))
    · exact mv_of (.inr (.inr (.inl h)))
    · exact mv_of (.inr (.inr (.inr (.inl h))))
    · exact mv_of (.inr (.inr (.inr (.inr (.inl h)))))
    · exact mv_of (.inr (.inr (.inr (.inr (.inr (.inl h))))))
    · exact mv_of (.inr (.inr (.inr (.inr (.inr (.inr (.tail _ h)))))))
/-- the law puts a list by -/
theorem Sto.save {w : World} {st : Addr} {R nw : List (Addr × Obj)} {Fs Ow : List (List Int)} {l : Lev} {ls : List Lev} {b : Nat} (S : Sto w st R nw Fs Ow (l :: ls) b false) (hl : l.sv = none) (q : Addr × List Value × Nat) (hq : ∀ p ∈ nw, @Ne Nat q.1 p.1) (hr : RowsIn R q.2.1 l.ow) :
    ∃ nw', Sto w st R nw' Fs Ow (⟨l.ow, some q⟩ :: ls) b false ∧ (∀ p ∈ nw', p = svO q ∨ p ∈ nw) := by
  obtain ⟨dx, D, Fi, Tr, Mk, Nw, doms, fs, trs, mks, on, kvs, nD, nF, nT, nM, t1, t2, t3, t4, t5, t6, t7, t8, sp, fl, cv, rfl, H⟩ := S
  obtain ⟨mks', trs', doms', t, hm, hR, hd, ho, _, hH⟩ := H.his
  have es : svs (l :: ls) = svs ls := by rw [svs_cons, svOf_none hl]; rfl
  have es2 : svs (⟨l.ow, some q⟩ :: ls) = svO q :: svs ls := rfl
  have ho2 := H.off
  rw [es] at hq ho2
  rw [es]
  refine ⟨_, ⟨dx, D, Fi, Tr, Mk, Nw, doms, fs, trs, mks, on, kvs, nD, nF, nT, nM, t1, t2, t3, t4, t5, t6, t7, t8, sp, fl, cv, rfl, { H with his := ⟨mks', trs', doms', t, hm, hR, hd, ho, fun a vs c e => ?_, hH⟩, lsl := H.lsl, off := fun p hp => ?_, sok := ⟨fun q' e p hp => ?_, H.sok.2⟩ }⟩, fun p hp => ?_⟩
  · obtain rfl := Option.some.inj e
    exact hr
  · rw [es2] at hp
    rcases List.mem_cons.mp hp with rfl | hp
    · exact ⟨hq _ (.head _), hq _ (.tail _ (.head _)), hq _ (.tail _ (.tail _ (.head _))), hq _ (.tail _ (.tail _ (.tail _ (.head _)))), hq _ (.tail _ (.tail _ (.tail _ (.tail _ (.head _)))))⟩
    · exact ho2 p hp
  · obtain rfl := Option.some.inj e
    exact Ne.symm (hq p (hd_of (.inr (.inr (.inr (.inr (.inr hp)))))))
  · rw [es2] at hp
    rcases hd_cases hp with h | h | h | h | h | h
    · exact .inr (hd_of (.inl h))
    · exact .inr (hd_of (.inr (.inl h)))
    · exact .inr (hd_of (.inr (.inr (.inl h))))
    · exact .inr (hd_of (.inr (.inr (.inr (.inl h)))))
    · exact .inr (hd_of (.inr (.inr (.inr (.inr (.inl h))))))
    · rcases List.mem_cons.mp h with h | h
      · exact .inl h
      · exact .inr (hd_of (.inr (.inr (.inr (.inr (.inr h))))))
end
section
open PyProof.Rows.LCg
section
variable {prog : Program} {w : World} {A : Around} {E : Value → Shared → Prop} {s : Shared} {h₀ : Heap} {L : Addr} {m : Str → Option Value}
theorem sub_signs {value slice : PySem.Expr} {a : Addr} {t1 t2 t3 t4 u : Tok} {n : Nat} {k : Int} {news : List (Addr × Obj)} {Q : Value → Shared → Prop} (N : News h₀ L s.heap news) (hm : (a, tupO [.str (Str.ofString "<=") t1, .str (Str.ofString ">=") t2, .str (Str.ofString "!=") t3, .str (Str.ofString "=") t4] n) ∈ news)
    (h0 : 0 ≤ k) (hk : k < 4) (h : ∀ sg t, Q (.str (Sign.txt sg) t) s)
    (hs : subscripted slice false (.ref a) (.int k u) = operate [.ref a, .int k u] (getItem (.ref a) (.int k u)) := by with_unfolding_all rfl) :
    wpAny (model prog w) A (subscriptTail value slice (.ref a) (.int k u)) Q E s := by
  obtain ⟨sg, t, e⟩ : ∃ sg t, [Value.str (Str.ofString "<=") t1, .str (Str.ofString ">=") t2, .str (Str.ofString "!=") t3, .str (Str.ofString "=") t4][k.toNat]? = some (.str (Sign.txt sg) t) := by
    obtain h | h | h | h : k = 0 ∨ k = 1 ∨ k = 2 ∨ k = 3 := by lia
    · subst h; exact ⟨.le, t1, rfl⟩
    · subst h; exact ⟨.ge, t2, rfl⟩
    · subst h; exact ⟨.ne, t3, rfl⟩
    · subst h; exact ⟨.eq, t4, rfl⟩
  exact sub_tup N hm h0 (by lia) e (h sg t) hs
end
theorem small_range : ∀ n : Nat, n ≤ 10 → Builtin.Range.small 0 (n : Nat) 1 = true ∧ Builtin.Range.rangeSize 0 (n : Nat) 1 = ((n : Nat) : Int) := by decide
/-- where an iterator is left out -/
theorem Away.nil (nw : List (Addr × Obj)) : Away [] nw := fun p hp => nomatch hp
theorem Away.consK {q : Addr × Obj} {K nw : List (Addr × Obj)} (h1 : ∀ p ∈ nw, @Ne Nat q.1 p.1) (h : Away K nw) : Away (q :: K) nw := fun p hp => by
  rcases List.mem_cons.mp hp with rfl | hp
  · exact h1
  · exact h p hp
theorem Away.ofK {q : Addr × Obj} {K nw : List (Addr × Obj)} (h : Away (q :: K) nw) : (∀ p ∈ nw, @Ne Nat q.1 p.1) ∧ Away K nw := ⟨h q (.head _), fun p hp => h p (.tail _ hp)⟩
theorem Away.sub {K K' nw : List (Addr × Obj)} (h : Away K nw) (s : ∀ p ∈ K', p ∈ K) : Away K' nw := fun p hp => h p (s p hp)
section
variable {L x : Nat}
theorem low0 (h : L + 7 < x) : L < x := Nat.lt_of_le_of_lt (Nat.add_le_add_left (by decide : 0 ≤ 7) L) h
theorem low1 (h : L + 7 < x) : L + 1 < x := Nat.lt_of_le_of_lt (Nat.add_le_add_left (by decide : 1 ≤ 7) L) h
theorem low2 (h : L + 7 < x) : L + 1 + 1 < x := Nat.lt_of_le_of_lt (Nat.add_le_add_left (by decide : 2 ≤ 7) L) h
theorem low3 (h : L + 7 < x) : L + 1 + 1 + 1 < x := Nat.lt_of_le_of_lt (Nat.add_le_add_left (by decide : 3 ≤ 7) L) h
theorem low4 (h : L + 7 < x) : L + 1 + 1 + 1 + 1 < x := Nat.lt_of_le_of_lt (Nat.add_le_add_left (by decide : 4 ≤ 7) L) h
theorem low5 (h : L + 7 < x) : L + 1 + 1 + 1 + 1 + 1 < x := Nat.lt_of_le_of_lt (Nat.add_le_add_left (by decide : 5 ≤ 7) L) h
theorem low6 (h : L + 7 < x) : L + 1 + 1 + 1 + 1 + 1 + 1 < x := Nat.lt_of_le_of_lt (Nat.add_le_add_left (by decide : 6 ≤ 7) L) h
theorem low7 (h : L + 7 < x) : L + 1 + 1 + 1 + 1 + 1 + 1 + 1 < x := Nat.lt_of_le_of_lt (Nat.add_le_add_left (by decide : 7 ≤ 7) L) h
end
theorem kq0 {k : Int} (h : k ≤ 300) : k < 100000 := Int.lt_of_le_of_lt h (by decide)
theorem kq1 {k : Int} (h : k ≤ 300) : k + 1 < 100000 := Int.lt_of_le_of_lt (Int.add_le_add_right h 1) (by decide)
theorem kq2 {k : Int} (h : k ≤ 300) : k + 1 + 1 < 100000 := Int.lt_of_le_of_lt (Int.add_le_add_right (Int.add_le_add_right h 1) 1) (by decide)
theorem kq3 {k : Int} (h : k ≤ 300) : k + 1 + 1 + 1 < 100000 := Int.lt_of_le_of_lt (Int.add_le_add_right (Int.add_le_add_right (Int.add_le_add_right h 1) 1) 1) (by decide)
end
section
def Offs (as : List Addr) (nw : List (Addr × Obj)) : Prop := ∀ a ∈ as, ∀ q ∈ nw, @Ne Nat a q.1
theorem offs_all {as : List Addr} {nw : List (Addr × Obj)} {a : Addr} (h : Offs as nw) (m : a ∈ as) : ∀ q ∈ nw, q.1 ≠ a := fun q hq => Ne.symm (h a m q hq)
theorem Offs.away {as : List Addr} {K nw : List (Addr × Obj)} (h : Offs as nw) (e : K.map Prod.fst = as) : Away K nw := fun p hp => h p.1 (e ▸ List.mem_map_of_mem hp)
theorem Offs.of {as : List Addr} {K nw : List (Addr × Obj)} (h : Away K nw) (e : K.map Prod.fst = as) : Offs as nw := fun a ha => by
  rw [← e] at ha
  obtain ⟨p, hp, rfl⟩ := List.mem_map.mp ha
  exact h p hp
end
theorem words_W17_1 : True := by
  k_with "k_lts" => (first   | with_reducible exact low0 (by assumption) | with_reducible exact low1 (by assumption) | with_reducible exact low2 (by assumption) | with_reducible exact low3 (by assumption) | with_reducible exact low4 (by assumption) | with_reducible exact low5 (by assumption) | with_reducible exact low6 (by assumption) | with_reducible exact low7 (by assumption))
  k_with "call ref" => (((k_here; k_dflt (refine' Does.useD (draw_upd _ _ _ _ _ _ _ _ _ _ _ _ _ ?q9_q ?q1_q ?q2_q ?q3_q ?q4_q ?q5_q ?q6_q ?q7_q ?q8_q) ?k1_q ?k2_q ?k3_q ?k4_q ?k5_q ?k6_q ?k7_q ?k8_q ?_; (case k1_q => k_asm); (case k2_q => k_asm); (case k3_q => k_asm); (case k4_q => k_asm); (case k5_q => k_asm); (case k6_q => first | exact rfl | assumption); (case q9_q => k_updF); (case q1_q => assumption); (case q2_q => k_memK); (case q3_q => assumption); (case q4_q => first | assumption | exact Nat.le_trans (by assumption) (by decide) | omega); (case q5_q => first | assumption | exact le1 (by assumption) | exact le1 (le1 (by assumption)) | exact le1 (le1 (le1 (by assumption))) | omega); (case q6_q => first | exact kq0 (by assumption) | exact kq1 (by assumption) | exact kq2 (by assumption) | exact kq3 (by assumption) | omega); (case q7_q => first | decide | assumption | omega); (case q8_q => first | decide | assumption | omega); (case k7_q => ktr_room); (case k8_q => ktr_units)); intro h9_w tk9_w F9_w v9_w t9_w tk10_w o9_w p9_w N9_w w9_w x9_w; (try dsimp only at N9_w); (try k_sweep))); (try revert x9_w); (try revert w9_w); (try revert N9_w); (try revert p9_w); (try revert o9_w); (try revert tk10_w); (try revert t9_w); (try revert v9_w); (try revert F9_w); (try revert tk9_w); (try revert h9_w); intros)
  k_with "eval ListComp" => (((k_here; refine Halt.mk ?_)))
  k_with "exec Assign cons ListComp" => (((k_here; refine Halt.mk ?_)))
  k_with "call ref" => (((k_here; (with_reducible show wpAny _ _ (call (Value.ref 270) _) _ _ _); refine Halt.mk ?_)))
  k_with "call ref" => (((k_here; (with_reducible show wpAny _ _ (call (Value.ref 35) _) _ _ _); refine Halt.mk ?_)))
  k_with "call ref" => (((k_here; (with_reducible show wpAny _ _ (call (Value.ref 141) _) _ _ _); refine Halt.mk ?_)))
  k_with "call ref" => (((k_here; (with_reducible show wpAny _ _ (call (Value.ref 293) _) _ _ _); refine Halt.mk ?_)))
  k_with "call ref" => (((k_here; (with_reducible show wpAny _ _ (call (Value.ref 246) _) _ _ _); refine Halt.mk ?_)))
  k_with "call ref" => (((k_here; (with_reducible show wpAny _ _ (call (Value.ref 232) _) _ _ _); refine Halt.mk ?_)))
  k_with "call ref" => (((k_here; (with_reducible show wpAny _ _ (call (Value.ref 225) _) _ _ _); refine Halt.mk ?_)))
  k_with "call ref" => (((k_here; (with_reducible show wpAny _ _ (call (Value.ref 253) _) _ _ _); refine Halt.mk ?_)))
  k_with "call ref" => (((k_here; (with_reducible show wpAny _ _ (call (Value.ref 303) _) _ _ _); refine Halt.mk ?_)))
  k_with "compareOp NotEq ref ref" => (((k_here; k_dflt (first   | (refine' ne_ints ?k1_q ?k2_q ?k3_q ?k4_q ?k5_q ?k6_q ?_; (case k1_q => k_asm); (case k2_q => k_memK); (case k3_q => k_memK); (case k4_q => (first | assumption | exact .nil | exact .cons _ _ .nil)); (case k5_q => (first | assumption | exact .nil | exact .cons _ _ .nil)); (case k6_q => (first | ktr_units | (simp only [ktrTop, Around.in1]; omega))); k_whole)   | (refine' ne_nilL ?k1_q ?k2_q ?k3_q ?k6_q ?_; (case k1_q => k_asm); (case k2_q => k_memK); (case k3_q => k_memK); (case k6_q => (first | ktr_units | (simp only [ktrTop, Around.in1]; omega))); k_whole)))))
  k_with "k_all" => (first | assumption | exact allNe_of (by assumption) | exact offs_all (by assumption) (by k_memK))
  trivial
section
noncomputable def lawQ (P : Params) : (q : FuncData) ×' ((Mine.hd.heap_39 P).lookup 308).map (·.data) = some (Data.func q) := ⟨_, by with_unfolding_all rfl⟩
noncomputable def lawB (P : Params) : List Stmt := match (lawQ P).1.body with | .stmts b => b | _ => []
noncomputable def lawS (P : Params) : Scope := (lawQ P).1.scope
noncomputable def lapB (P : Params) : List Stmt := match lawB P with
  | _ :: _ :: _ :: _ :: _ :: (.For _ _ b _ _) :: _ => b
  | _ => []
/-- what does not change while the laps go -/
structure LapC where
  st : Addr
  fd : Addr
  sk : Addr
  ca : Addr
  fl : Addr
  many : Nat
  tm : Tok
  nc : Nat
  nf : Nat
  cvs : List Value
  fvs : List Value
  cells : List Int
  Fs : List (List Int)
def MB (c : LapC) : Str → Option Value := fun y => if y = Str.ofString "stack" then some (Value.ref c.sk) else if y = Str.ofString "many" then some (Value.int (c.many : Nat) c.tm) else none
def StackIs : List Value → List Lev → Prop
  | vs, [] => vs = []
  | vs, l :: ls => ∃ vs' q, vs = vs' ++ [.ref q.1] ∧ l.sv = some q ∧ StackIs vs' ls
theorem StackIs.len : ∀ {vs : List Value} {ls : List Lev}, StackIs vs ls → vs.length = ls.length
  | _, [], h => by rw [show _ = [] from h]; rfl
  | _, _ :: _, ⟨vs', q, h1, _, h3⟩ => by rw [h1, List.length_append, h3.len]; rfl
def Ords (L I fd sk ow : Addr) : Prop := @LT.lt Nat _ (L + 7) fd ∧ @LT.lt Nat _ (L + 7) sk ∧ (@Ne Nat (L + 1) ow ∧ @Ne Nat (L + 1 + 1) ow ∧ @Ne Nat (L + 1 + 1 + 1) ow ∧ @Ne Nat (L + 1 + 1 + 1 + 1) ow ∧ @Ne Nat (L + 1 + 1 + 1 + 1 + 1) ow ∧ @Ne Nat (L + 1 + 1 + 1 + 1 + 1 + 1) ow ∧ @Ne Nat (L + 1 + 1 + 1 + 1 + 1 + 1 + 1) ow) ∧ @LT.lt Nat _ (L + 7) I ∧ @Ne Nat fd sk ∧ @Ne Nat fd ow ∧ @Ne Nat sk ow ∧ @Ne Nat I fd ∧ @Ne Nat I sk ∧ @Ne Nat I ow
abbrev lapAs (L I fd sk ow : Addr) : List Addr := [I, L + 1 + 1 + 1 + 1 + 1 + 1 + 1, L + 1 + 1 + 1 + 1 + 1 + 1, L + 1 + 1 + 1 + 1 + 1, L + 1 + 1 + 1 + 1, L + 1 + 1 + 1, L + 1 + 1, L + 1, fd, sk, ow]
/-- what holds in a lap -/
inductive LapAt (w : World) (L I : Addr) (c : LapC) (b : Nat) (kb : Int) (pend : Bool) (lsS : List Lev) (OwS : List (List Int)) (ls : List Lev) (Ow : List (List Int)) (v3 v6 v7 : Option Value) (m' : Str → Option Value) (nw0 : List (Addr × Obj)) : Prop
  | mk (ow : Addr) (nw R : List (Addr × Obj)) (stv ovs : List Value) (ns no : Nat) (fo : Obj) (k : Int) (tk : Tok) (c1 c2 c3 c4 c5 c6 c7 : Obj)
    (hm : (∀ z, ([Str.ofString "lap", Str.ofString "way", Str.ofString "told", Str.ofString "kept", Str.ofString "first", Str.ofString "script"] : List Str).contains z = false → m' z = MB c z))
    (e : nw0 = (L + 1 + 1 + 1 + 1 + 1 + 1 + 1, c7) :: (L + 1 + 1 + 1 + 1 + 1 + 1, c6) :: (L + 1 + 1 + 1 + 1 + 1, c5) :: (L + 1 + 1 + 1 + 1, c4) :: (L + 1 + 1 + 1, c3) :: (L + 1 + 1, c2) :: (L + 1, c1) :: (c.fd, fo) :: (c.sk, listOf stv.toArray ns) :: (ow, listOf ovs.toArray no) :: nw)
    (d1 : c1.data = .cell (some (.ref c.fd)))
    (d2 : c2.data = .cell (some (.ref c.st)))
    (d3 : c3.data = .cell v3)
    (d4 : c4.data = .cell (some (.ref c.fl)))
    (d5 : c5.data = .cell (some (.ref ow)))
    (d6 : c6.data = .cell v6)
    (d7 : c7.data = .cell v7)
    (hfo : fo.IsDictOf (PySem.strKind PySem.Challenge.rw_nz0015_01.row.prog w) [(Str.ofString "cells", .ref c.ca), (Str.ofString "at", .int k tk)])
    (hk0 : 0 ≤ k)
    (hk1 : k ≤ kb)
    (hS : Sto w c.st R nw c.Fs OwS lsS b pend)
    (hst : StackIs stv ls)
    (hov : RowsIn R ovs Ow)
    (hfv : RowsIn R c.fvs c.Fs)
    (hca : (c.ca, listOf c.cvs.toArray c.nc) ∈ R)
    (hfl : (c.fl, listOf c.fvs.toArray c.nf) ∈ R)
    (hord : Ords L I c.fd c.sk ow)
    (hoff : Offs (lapAs L I c.fd c.sk ow) nw) : LapAt w L I c b kb pend lsS OwS ls Ow v3 v6 v7 m' nw0
/-- what holds at the head of a lap -/
def LapInv (w : World) (L I : Addr) (c : LapC) (i : Nat) (m' : Str → Option Value) (nw0 : List (Addr × Obj)) : Prop :=
  Ex5 fun (ls : List Lev) (Ow : List (List Int)) (v3 v6 v7 : Option Value) => LapAt w L I c i (100 + 10 * i) false ls Ow ls Ow v3 v6 v7 m' nw0
/-- where the laps stand, at the end of a piece of the lap -/
def LapEnd (w : World) (h₀ : Heap) (L I : Addr) (it : Obj) (s : Shared) (c : LapC) (i : Nat) (f : Flow) (s' : Shared) : Prop := f = .next ∧ TurnX h₀ L s I it (LapInv w L I c i) (fun _ _ => False) .next s'
noncomputable def lapThen (P : Params) : List Stmt := match lapB P with
  | _ :: (.If _ b _ _) :: _ => b
  | _ => []
noncomputable def lapElse (P : Params) : List Stmt := match lapB P with
  | _ :: (.If _ _ b _) :: _ => b
  | _ => []
noncomputable def lapTail (P : Params) : List Stmt := (lapB P).drop 2
noncomputable def lapElse2 (P : Params) : List Stmt := (lapElse P).drop 2
noncomputable def lapElse3 (P : Params) : List Stmt := (lapElse P).drop 4
end
section
def lapK (L I fd sk ow : Addr) (it c1 c2 c3 c4 c5 c6 c7 fo so oo : Obj) : List (Addr × Obj) := [(I, it), (L + 1 + 1 + 1 + 1 + 1 + 1 + 1, c7), (L + 1 + 1 + 1 + 1 + 1 + 1, c6), (L + 1 + 1 + 1 + 1 + 1, c5), (L + 1 + 1 + 1 + 1, c4), (L + 1 + 1 + 1, c3), (L + 1 + 1, c2), (L + 1, c1), (fd, fo), (sk, so), (ow, oo)]
section
variable {L I fd sk ow : Addr} {it c1 c2 c3 c4 c5 c6 c7 fo so oo : Obj} {nw : List (Addr × Obj)}
theorem lapK_away (h : Offs (lapAs L I fd sk ow) nw) : Away (lapK L I fd sk ow it c1 c2 c3 c4 c5 c6 c7 fo so oo) nw := h.away rfl
theorem lapK_offs (h : Away (lapK L I fd sk ow it c1 c2 c3 c4 c5 c6 c7 fo so oo) nw) : Offs (lapAs L I fd sk ow) nw := Offs.of h rfl
theorem lapK_ne (g : Ords L I fd sk ow) (h : Offs (lapAs L I fd sk ow) nw) : ∀ p ∈ (L + 1 + 1 + 1 + 1 + 1 + 1 + 1, c7) :: (L + 1 + 1 + 1 + 1 + 1 + 1, c6) :: (L + 1 + 1 + 1 + 1 + 1, c5) :: (L + 1 + 1 + 1 + 1, c4) :: (L + 1 + 1 + 1, c3) :: (L + 1 + 1, c2) :: (L + 1, c1) :: (fd, fo) :: (sk, so) :: (ow, oo) :: nw, p.1 ≠ I := by
  obtain ⟨g1, g2, g3, g4, g5, g6, g7, g8, g9, g0⟩ := g
  have q : ∀ a : Nat, a ≤ 7 → @Ne Nat (L + a) I := fun a ha => Nat.ne_of_lt (Nat.lt_of_le_of_lt (Nat.add_le_add_left ha L) g4)
  intro p hp
  rcases List.mem_cons.mp hp with rfl | hp
  · exact q 7 (by decide)
  rcases List.mem_cons.mp hp with rfl | hp
  · exact q 6 (by decide)
  rcases List.mem_cons.mp hp with rfl | hp
  · exact q 5 (by decide)
  rcases List.mem_cons.mp hp with rfl | hp
  · exact q 4 (by decide)
  rcases List.mem_cons.mp hp with rfl | hp
  · exact q 3 (by decide)
  rcases List.mem_cons.mp hp with rfl | hp
  · exact q 2 (by decide)
  rcases List.mem_cons.mp hp with rfl | hp
  · exact q 1 (by decide)
  rcases List.mem_cons.mp hp with rfl | hp
  · exact Ne.symm g8
  rcases List.mem_cons.mp hp with rfl | hp
  · exact Ne.symm g9
  rcases List.mem_cons.mp hp with rfl | hp
  · exact Ne.symm g0
  · exact Ne.symm (h I (.head _) p hp)
theorem not_isT_cell {a : Addr} {o : Obj} {v : Option Value} (h : o.data = .cell v) : ¬ isT (a, o) := by
  intro x1_i
  obtain ⟨us, k, e⟩ := x1_i
  rw [show o = _ from e] at h
  cases h
theorem not_isT_cls {a : Addr} {o : Obj} {n : String} (h : o.cls = .type n) (hn : Value.type n ≠ .type "tuple") : ¬ isT (a, o) := by
  intro x1_i
  obtain ⟨us, k, e⟩ := x1_i
  rw [show o = _ from e] at h
  exact hn h.symm
theorem lapK_notT {w : World} {v1 v2 v3 v4 v5 v6 v7 : Option Value} {kvs : List (Str × Value)} {s1 s2 : List Value} {n1 n2 : Nat} (hit : it.cls = .type "range_iterator") (d1 : c1.data = .cell v1) (d2 : c2.data = .cell v2) (d3 : c3.data = .cell v3) (d4 : c4.data = .cell v4) (d5 : c5.data = .cell v5) (d6 : c6.data = .cell v6) (d7 : c7.data = .cell v7)
    (hfo : fo.IsDictOf (PySem.strKind PySem.Challenge.rw_nz0015_01.row.prog w) kvs) : ∀ p ∈ lapK L I fd sk ow it c1 c2 c3 c4 c5 c6 c7 fo (listOf s1.toArray n1) (listOf s2.toArray n2), ¬ isT p := by
  intro p hp
  rcases List.mem_cons.mp hp with rfl | hp
  · exact not_isT_cls hit (by decide)
  rcases List.mem_cons.mp hp with rfl | hp
  · exact not_isT_cell d7
  rcases List.mem_cons.mp hp with rfl | hp
  · exact not_isT_cell d6
  rcases List.mem_cons.mp hp with rfl | hp
  · exact not_isT_cell d5
  rcases List.mem_cons.mp hp with rfl | hp
  · exact not_isT_cell d4
  rcases List.mem_cons.mp hp with rfl | hp
  · exact not_isT_cell d3
  rcases List.mem_cons.mp hp with rfl | hp
  · exact not_isT_cell d2
  rcases List.mem_cons.mp hp with rfl | hp
  · exact not_isT_cell d1
  rcases List.mem_cons.mp hp with rfl | hp
  · obtain ⟨_, _, hx, _⟩ := hfo
    exact not_isT_cls hx.1 (by decide)
  rcases List.mem_cons.mp hp with rfl | hp
  · exact not_isT_list rfl
  · rw [List.mem_singleton.mp hp]; exact not_isT_list rfl
end
/-- a piece of the lap ends -/
theorem LapEnd.of {w : World} {h₀ h : Heap} {L I ow : Addr} {it : Obj} {s : Shared} {c : LapC} {i : Nat} {m' : Str → Option Value} {nw R : List (Addr × Obj)} {Ow : List (List Int)} {ls : List Lev} {stv ovs : List Value} {ns no : Nat} {fo : Obj} {k : Int} {tk : Tok} {c1 c2 c3 c4 c5 c6 c7 : Obj} {v3 v6 v7 : Option Value} {tk' : Nat} {d' : Drawn}
    (F : Fr h₀ L h m') (N : News h₀ L h (lapK L I c.fd c.sk ow it c1 c2 c3 c4 c5 c6 c7 fo (listOf stv.toArray ns) (listOf ovs.toArray no) ++ nw))
    (hm : ∀ z, ([Str.ofString "lap", Str.ofString "way", Str.ofString "told", Str.ofString "kept", Str.ofString "first", Str.ofString "script"] : List Str).contains z = false → m' z = MB c z)
    (d1 : c1.data = .cell (some (.ref c.fd))) (d2 : c2.data = .cell (some (.ref c.st))) (d3 : c3.data = .cell v3) (d4 : c4.data = .cell (some (.ref c.fl))) (d5 : c5.data = .cell (some (.ref ow))) (d6 : c6.data = .cell v6) (d7 : c7.data = .cell v7)
    (hfo : fo.IsDictOf (PySem.strKind PySem.Challenge.rw_nz0015_01.row.prog w) [(Str.ofString "cells", .ref c.ca), (Str.ofString "at", .int k tk)]) (hk0 : 0 ≤ k) (hk1 : k ≤ 100 + 10 * i)
    (hS : Sto w c.st R nw c.Fs Ow ls i false) (hst : StackIs stv ls) (hov : RowsIn R ovs Ow) (hfv : RowsIn R c.fvs c.Fs) (hca : (c.ca, listOf c.cvs.toArray c.nc) ∈ R) (hfl : (c.fl, listOf c.fvs.toArray c.nf) ∈ R)
    (hord : Ords L I c.fd c.sk ow) (hoff : Offs (lapAs L I c.fd c.sk ow) nw) : LapEnd w h₀ L I it s c i .next { s with heap := h, toks := tk', drawn := d' } :=
  ⟨rfl, _, _, _, _, _, F, N, lapK_ne hord hoff, ls, Ow, v3, v6, v7, ow, nw, R, stv, ovs, ns, no, fo, k, tk, c1, c2, c3, c4, c5, c6, c7, hm, rfl, d1, d2, d3, d4, d5, d6, d7, hfo, hk0, hk1, hS, hst, hov, hfv, hca, hfl, hord, hoff⟩
theorem StoD.up {w : World} {st : Addr} {R : List (Addr × Obj)} {Fs Ow : List (List Int)} {ls : List Lev} {b b' : Nat} {pend : Bool} {dx D Fi Tr Mk Nw : Addr} {doms fs trs mks : List Value} {on : Obj} {kvs : List (Int × Value)} {nF : Nat}
    (H : StoD w st R Fs Ow ls b pend dx D Fi Tr Mk Nw doms fs trs mks on kvs nF) (h : b ≤ b') : StoD w st R Fs Ow ls b' pend dx D Fi Tr Mk Nw doms fs trs mks on kvs nF := { H with kvl := Nat.le_trans H.kvl h, lsl := Nat.le_trans H.lsl h }
theorem Sto.up {w : World} {st : Addr} {R nw : List (Addr × Obj)} {Fs Ow : List (List Int)} {ls : List Lev} {b b' : Nat} {pend : Bool} (S : Sto w st R nw Fs Ow ls b pend) (h : b ≤ b') : Sto w st R nw Fs Ow ls b' pend := by
  obtain ⟨dx, D, Fi, Tr, Mk, Nw, doms, fs, trs, mks, on, kvs, nD, nF, nT, nM, t1, t2, t3, t4, t5, t6, t7, t8, sp, fl, cv, e, H⟩ := S
  exact ⟨dx, D, Fi, Tr, Mk, Nw, doms, fs, trs, mks, on, kvs, nD, nF, nT, nM, t1, t2, t3, t4, t5, t6, t7, t8, sp, fl, cv, e, H.up h⟩
/-- each of them laid after all ahead of it -/
def Fresh : List (Addr × Obj) → List (Addr × Obj) → Prop
  | [], _ => True
  | q :: fr, base => (∀ p ∈ fr ++ base, @Ne Nat q.1 p.1) ∧ Fresh fr base
theorem Fresh.ne : ∀ {fr base : List (Addr × Obj)}, Fresh fr base → ∀ q ∈ fr, ∀ p ∈ base, @Ne Nat q.1 p.1
  | [], _, _, _, h, _, _ => nomatch h
  | _ :: _, _, ⟨h1, h2⟩, q, hq, p, hp => by
    rcases List.mem_cons.mp hq with rfl | hq
    · exact h1 p (List.mem_append_right _ hp)
    · exact h2.ne q hq p hp
theorem Sto.extL {w : World} {st : Addr} {nw base : List (Addr × Obj)} {Fs Ow : List (List Int)} {ls : List Lev} {b : Nat} {pend : Bool} : ∀ {fr R : List (Addr × Obj)}, Sto w st R nw Fs Ow ls b pend → Fresh fr base → (∀ p ∈ nw, p ∈ base) →
    ∃ nw', Sto w st (fr ++ R) nw' Fs Ow ls b pend ∧ (∀ p ∈ nw', p ∈ fr ∨ p ∈ nw)
  | [], R, S, _, _ => ⟨nw, S, fun p hp => .inr hp⟩
  | q :: fr, R, S, ⟨h1, h2⟩, hb => by
    obtain ⟨nw1, S1, m1⟩ := S.extL h2 hb
    obtain ⟨nw2, S2, m2⟩ := S1.ext q fun p hp _ => by
      rcases m1 p hp with h | h
      · exact h1 p (List.mem_append_left _ h)
      · exact h1 p (List.mem_append_right _ (hb p h))
    refine ⟨nw2, S2, fun p hp => ?_⟩
    rcases m2 p hp with h | h
    · exact .inl (h ▸ .head _)
    · exact (m1 p h).imp (.tail _) id
theorem idx_small {x : Int} {a b : Nat} (h : x.toNat < a) (e : a = b) (l : b ≤ 3) : x < 1000 := by lia
end
section
theorem Offs.mem {as : List Addr} {nw : List (Addr × Obj)} {a : Addr} (h : Offs as nw) (m : a ∈ as) : ∀ q ∈ nw, @Ne Nat a q.1 := h a m
theorem lap_tail (w : World) (mean : ExcName → Option Value) (mg mb : Str → Option Value) (dp un : Nat) (gd : Option (List Code)) (a : Addr) (ccd : Value) (outer : List Env) (A₀ : Around) (base h₀ h : Heap) (L I : Addr) (it : Obj) (s : Shared) (E : Value → Shared → Prop) (c : LapC) (i : Nat) (m : Str → Option Value) (nw0 : List (Addr × Obj)) (tk0 : Nat) (d0 : Drawn)
    (hi : i ≤ 10) (hmany : c.Fs.length = c.many) (B : Below A₀ base outer h₀) (F6 : Fr h₀ L h m) (X : (Mine.hd.heap_39 w.params).In h₀) (hinv : LapInv w L I c i m nw0) (N6 : News h₀ L h ((I, it) :: nw0)) (hnI : ∀ p ∈ nw0, p.1 ≠ I)
    (T : Top Mine.hd.view_39 (looseW Mine.hd.view_39 [Str.ofString "has_domains"]) mean mg mb h₀) (hdp : dp + 20 < recursionLimit) (hun : un + 1000 < cLine) :
    wpAny (model PySem.Challenge.rw_nz0015_01.row.prog w) (ktrTop dp un gd (Str.ofString "law") (lawS w.params) L a ccd (cellsFrom (L + 1) (lawS w.params).names []) outer) (execs (lapTail w.params) (envX (Str.ofString "law") (lawS w.params) L a ccd (cellsFrom (L + 1) (lawS w.params).names []))) (LapEnd w h₀ L I it s c i) E { s with heap := h, toks := tk0, drawn := d0 } := by
  revert X T
  k_fill
  intro X T
  unfold lapTail lapB lawB lawS
  dsimp only [lawQ, List.drop]
  obtain ⟨ls, Ow, v3, v6, v7, hat⟩ := id hinv
  obtain ⟨ow, nw, R, stv, ovs, ns, no, fo, k, tk, c1, c2, c3, c4, c5, c6, c7, hm, rfl, d1, d2, d3, d4, d5, d6, d7, hfo, hk0, hk1, hS, hst, hov, hfv, hca, hfl, hord, hoff⟩ := hat
  obtain ⟨st, fd, sk, ca, fl, many, tm, nc, nf, cvs, fvs, cells, Fs⟩ := c
  dsimp only at hmany N6 hnI d1 d2 d4 hm hfo hS hfv hca hfl hord hoff
  obtain ⟨g1, g2, g3, g4, g5, g6, g7, g8, g9, g0⟩ := id hord
  have F9 := overs F6 ([Str.ofString "lap", Str.ofString "way", Str.ofString "told", Str.ofString "kept", Str.ofString "first", Str.ofString "script"]) (m₀ := MB ⟨st, fd, sk, ca, fl, many, tm, nc, nf, cvs, fvs, cells, Fs⟩) hm [] trivial
  have hinv2 : LapInv w L I ⟨st, fd, sk, ca, fl, many, tm, nc, nf, cvs, fvs, cells, Fs⟩ i (fun z => if ([Str.ofString "lap", Str.ofString "way", Str.ofString "told", Str.ofString "kept", Str.ofString "first", Str.ofString "script"] : List Str).contains z = true then m z else MB ⟨st, fd, sk, ca, fl, many, tm, nc, nf, cvs, fvs, cells, Fs⟩ z) _ := ⟨ls, Ow, v3, v6, v7, ow, nw, R, stv, ovs, ns, no, fo, k, tk, c1, c2, c3, c4, c5, c6, c7, fun z hz => if_neg (by rw [hz]; decide), rfl, d1, d2, d3, d4, d5, d6, d7, hfo, hk0, hk1, hS, hst, hov, hfv, hca, hfl, hord, hoff⟩
  dsimp only [over, MB] at F9
  have hfl2 := hS.sub _ hfl
  obtain ⟨sf1, sf2, sf3, sf4⟩ := hS.facts
  have hmn : many ≤ 3 := by lia
  have hsr := small_range many (by lia)
  have hfvl := hfv.length
  have hovl := hov.length
  have howl := sf2.1
  k_steps
  refine Halt.go ?_
  k_dflt (refine' comp_evalX ?c0 ?c1 (newEnv_plain ?c2 ?c6) ?c3 ?c4 ?_ ?c5; (case c0 => k_asm); (case c1 => with_unfolding_all rfl); (case c2 => decide); (case c6 => rfl); (case c3 => rfl); (case c4 => decide); (case c5 => (intro _; with_unfolding_all rfl)))
  k_steps
  rename IsRange _ _ _ _ _ _ _ _ => hrg
  rename Fr _ _ _ _ => F10
  rename News h₀ L _ _ => N10
  obtain ⟨doms, fs, hSI, hdd, hdf⟩ := hS.asks
  refine CompGoX.range (by rfl) F10 N10 hrg hsr.1 hsr.2 (by rw [sizeLine_eq]; lia) (fun C j ys nw' => nw' = (I, it) :: (L + 1 + 1 + 1 + 1 + 1 + 1 + 1, c7) :: (L + 1 + 1 + 1 + 1 + 1 + 1, c6) :: (L + 1 + 1 + 1 + 1 + 1, c5) :: (L + 1 + 1 + 1 + 1, c4) :: (L + 1 + 1 + 1, c3) :: (L + 1 + 1, c2) :: (L + 1, c1) :: (fd, fo) :: (sk, listOf stv.toArray ns) :: (ow, listOf ovs.toArray no) :: nw ∧ ys = []) (fun C => ⟨rfl, rfl⟩) ?_ ?_
  · intro I2 C2 D2 j ys nw2 t2 oI oC m₂ h2 tk2 d2 E2 hIC hID hCD hj x1_i
    obtain ⟨rfl, rfl⟩ := x1_i
    intro F11 N11 hC2 off2
    have e1 : Fs[j]? = some Fs[j] := List.getElem?_eq_getElem (by lia)
    have e2 : Ow[j]? = some Ow[j] := List.getElem?_eq_getElem (by lia)
    generalize Fs[j] = f at e1
    generalize Ow[j] = o at e2
    obtain ⟨f', e1', hr1, hr2, hr3, hr4⟩ := sf2.row sf1 e2
    obtain rfl : f' = f := Option.some.inj (e1'.symm.trans e1)
    obtain ⟨fa, hfa, hfi⟩ := hfv.get e1
    obtain ⟨oa, hoa, hoi⟩ := hov.get e2
    obtain ⟨da, hda, hdi⟩ := hdd.get (i := j) (p := ofVals o) (by rw [List.getElem?_map, e2]; rfl)
    obtain ⟨ga, hga, hgi⟩ := hdf.get (i := j) (p := ofVals f') (by rw [List.getElem?_map, e1]; rfl)
    refine comp_name F11 N11 hC2 hIC (off_C off2 hCD) (by rfl) (by rfl) (fun h5 tk5 oC5 F12 N12 hC5 => ?_)
    clear F11 N11 F10 N10
    have ej : ((0 : Int) + (j : Int)).toNat = j := by lia
    have hx0 : (0 : Int) ≤ 0 + (j : Int) := by lia
    have hx1 : (0 : Int) + (j : Int) < 1000 := by lia
    rw [← ej] at hfa hoa hda hga
    generalize (0 : Int) + (j : Int) = x at *
    refine wpAny_tests_one ?_
    k_steps
    refine Halt.go ?_
    have hsub : ∀ p ∈ nw, p ∈ (I2, oI) :: (C2, oC5) :: (D2, LCg.lst []) :: (I, it) :: (L + 1 + 1 + 1 + 1 + 1 + 1 + 1, c7) :: (L + 1 + 1 + 1 + 1 + 1 + 1, c6) :: (L + 1 + 1 + 1 + 1 + 1, c5) :: (L + 1 + 1 + 1 + 1, c4) :: (L + 1 + 1 + 1, c3) :: (L + 1 + 1, c2) :: (L + 1, c1) :: (fd, fo) :: (sk, listOf stv.toArray ns) :: (ow, listOf ovs.toArray no) :: nw := fun p hp => by
      iterate 14 (refine List.mem_cons_of_mem _ ?_)
      exact hp
    have hsR := fun p hp => hsub p (hS.sub p hp)
    k_dflt (refine' DoesD.useE (is_told_does w _ st fa oa doms fs x t2 ga da f' o (hSI.mono hsub) hx0 hx1 hga (hgi.mono hsR) hda (hdi.mono hsR) (hfi.mono hsR) (hoi.mono hsR) hr3 hr1 hr2) ?k1 ?k2 ?k3 ?k4 ?k5 ?k6 ?k7 ?k8 ?_)
    case k1 => k_asm
    case k2 => k_asm
    case k3 => k_asm
    case k4 => k_asm
    case k5 => k_asm
    case k6 => first | exact rfl | assumption
    case k7 => ktr_room
    case k8 => ktr_units
    intro h9 tk9 d9 F13 N13
    clear F12 N12
    k_steps
    rename News h₀ L _ _ => N14
    exact TurnOkX.mk0 (by assumption) N14 hC5 off2 ⟨rfl, rfl⟩
  · intro C2 D2 ys nw2 off2 x1_i
    obtain ⟨rfl, rfl⟩ := x1_i
    intro h2 tk2 d2 F11 N11
    clear F10 N10
    k_steps
    rename News h₀ L _ _ => N12
    rename Fr h₀ L _ _ => F12
    refine ⟨rfl, _, _, _, _, _, F12, fun p hp => N12 p ?_, hnI, hinv2⟩
    exact .tail _ (.tail _ hp)
end
section
theorem lap_else3a (w : World) (mean : ExcName → Option Value) (mg mb : Str → Option Value) (dp un : Nat) (gd : Option (List Code)) (a : Addr) (ccd : Value) (outer : List Env) (A₀ : Around) (base h₀ h : Heap) (L I : Addr) (it : Obj) (s : Shared) (E : Value → Shared → Prop) (c : LapC) (i : Nat) (m : Str → Option Value) (nw0 : List (Addr × Obj)) (tk0 : Nat) (d0 : Drawn) (ls : List Lev) (Ow : List (List Int)) (v3 v6 v7 : Option Value) (kl : Addr)
    (hi : i ≤ 10) (hmany : c.Fs.length = c.many) (hm2 : 2 ≤ c.many) (hcl : c.cells.length ≤ 50) (hci : IntsAre c.cvs c.cells) (hit : it.cls = .type "range_iterator") (B : Below A₀ base outer h₀) (F6 : Fr h₀ L h m) (X : (Mine.hd.heap_39 w.params).In h₀) (hinv : LapAt w L I c i (100 + 10 * i + 10) true ls Ow ls Ow v3 v6 v7 m nw0) (htold : m (Str.ofString "told") = some (.bool false)) (hkept : m (Str.ofString "kept") = some (.ref kl)) (N6 : News h₀ L h ((kl, LCg.lst []) :: (I, it) :: nw0)) (hnI : ∀ p ∈ nw0, p.1 ≠ I) (hkl : ∀ p ∈ (I, it) :: nw0, @Ne Nat kl p.1)
    (T : Top Mine.hd.view_39 (looseW Mine.hd.view_39 [Str.ofString "has_domains"]) mean mg mb h₀) (hdp : dp + 20 < recursionLimit) (hun : un + 1000 < cLine) :
    wpAny (model PySem.Challenge.rw_nz0015_01.row.prog w) (ktrTop dp un gd (Str.ofString "law") (lawS w.params) L a ccd (cellsFrom (L + 1) (lawS w.params).names []) outer) (execs (lapElse3 w.params) (envX (Str.ofString "law") (lawS w.params) L a ccd (cellsFrom (L + 1) (lawS w.params).names []))) (LapEnd w h₀ L I it s c (i + 1)) E { s with heap := h, toks := tk0, drawn := d0 } := by
  revert X T
  k_fill
  intro X T
  unfold lapElse3 lapElse lapB lawB lawS
  dsimp only [lawQ, List.drop]
  obtain ⟨ow, nw, R, stv, ovs, ns, no, fo, k, tk, c1, c2, c3, c4, c5, c6, c7, hm, rfl, d1, d2, d3, d4, d5, d6, d7, hfo, hk0, hk1, hS, hst, hov, hfv, hca, hfl, hord, hoff⟩ := id hinv
  obtain ⟨st, fd, sk, ca, fl, many, tm, nc, nf, cvs, fvs, cells, Fs⟩ := c
  dsimp only at hmany hm2 hcl hci N6 hnI d1 d2 d4 hm hfo hS hfv hca hfl hord hoff
  obtain ⟨g1, g2, g3, g4, g5, g6, g7, g8, g9, g0⟩ := id hord
  have F9 := overs F6 ([Str.ofString "lap", Str.ofString "way", Str.ofString "told", Str.ofString "kept", Str.ofString "first", Str.ofString "script"]) (m₀ := MB ⟨st, fd, sk, ca, fl, many, tm, nc, nf, cvs, fvs, cells, Fs⟩) hm [(Str.ofString "told", Value.bool false), (Str.ofString "kept", Value.ref kl)] ⟨htold, hkept, trivial⟩
  dsimp only [over, MB] at F9
  clear F6
  have hca2 := hS.sub _ hca
  have hfl2 := hS.sub _ hfl
  have hstl := hst.len
  obtain ⟨sf1, sf2, sf3, sf4⟩ := hS.facts
  have hmn : many ≤ 3 := by lia
  have hfvl := hfv.length
  have hovl := hov.length
  have howl := sf2.1
  obtain ⟨dx, t1, t2, t3, t4, t5, t6, t7, t8, Da, Fa, Ta, Ma, Na, sp, sfl, cv, n8, hin1, hin2⟩ := hS.inst
  k_steps
  refine Halt.go ?_
  rename News h₀ L _ _ => N10
  have hK : Away (lapK L I fd sk ow it c1 c2 c3 c4 c5 c6 c7 fo (listOf stv.toArray ns) (listOf ovs.toArray no)) nw := lapK_away hoff
  have N11 : News h₀ L _ (lapK L I fd sk ow it c1 c2 c3 c4 c5 c6 c7 fo (listOf stv.toArray ns) (listOf ovs.toArray no) ++ nw) := fun p hp => N10 p (.tail _ (.tail _ (.tail _ hp)))
  clear N10
  k_dflt (refine' Does.useO (popP_op w st _ R nw Fs Ow ls i _ hS (by lia) hK) ?k1 ?k2 ?k3 ?k4 ?k5 ?k6 ?k7 ?k8 ?_)
  case k1 => k_asm
  case k2 => k_asm
  case k3 => k_asm
  case k4 => exact N11
  case k5 => k_asm
  case k6 => first | exact rfl | assumption
  case k7 => ktr_room
  case k8 => ktr_units
  intro h9 tk9 F12 nw' x1_i N12
  obtain ⟨hS', hK'⟩ := x1_i
  k_steps
  refine LapEnd.of (c := ⟨st, fd, sk, ca, fl, many, tm, nc, nf, cvs, fvs, cells, Fs⟩) F12 N12 ?_ d1 d2 d3 d4 d5 d6 d7 hfo hk0 (by lia) (hS'.up (Nat.le_succ i)) hst hov hfv hca hfl hord (lapK_offs hK')
  k_extra "m_agree"
  rfl
theorem lap_else3b (w : World) (mean : ExcName → Option Value) (mg mb : Str → Option Value) (dp un : Nat) (gd : Option (List Code)) (a : Addr) (ccd : Value) (outer : List Env) (A₀ : Around) (base h₀ h : Heap) (L I : Addr) (it : Obj) (s : Shared) (E : Value → Shared → Prop) (c : LapC) (i : Nat) (m : Str → Option Value) (nw0 : List (Addr × Obj)) (tk0 : Nat) (d0 : Drawn) (ls : List Lev) (Ow : List (List Int)) (tx : Tok) (x : Int) (v6 v7 : Option Value) (kl : Addr) (kvs : List Value) (ks : List Int)
    (hi : i ≤ 10) (hmany : c.Fs.length = c.many) (hm2 : 2 ≤ c.many) (hcl : c.cells.length ≤ 50) (hci : IntsAre c.cvs c.cells) (hit : it.cls = .type "range_iterator") (B : Below A₀ base outer h₀) (F6 : Fr h₀ L h m) (X : (Mine.hd.heap_39 w.params).In h₀) (hinv : LapAt w L I c (i + 1) (100 + 10 * i + 10) false (⟨Ow, none⟩ :: ls) (Ow.set x.toNat ks) ls Ow (some (.int x tx)) v6 v7 m nw0) (htold : m (Str.ofString "told") = some (.bool true)) (hkept : m (Str.ofString "kept") = some (.ref kl)) (hx0 : 0 ≤ x) (hx1 : x.toNat < Ow.length) (hkv : IntsAre kvs ks) (hks : ks ≠ []) (hkl6 : ks.length ≤ 6) (hOk : OwOk c.Fs Ow) (N6 : News h₀ L h ((kl, LCg.lst kvs) :: (I, it) :: nw0)) (hnI : ∀ p ∈ nw0, p.1 ≠ I) (hkl : ∀ p ∈ (I, it) :: nw0, @Ne Nat kl p.1)
    (T : Top Mine.hd.view_39 (looseW Mine.hd.view_39 [Str.ofString "has_domains"]) mean mg mb h₀) (hdp : dp + 20 < recursionLimit) (hun : un + 1000 < cLine) :
    wpAny (model PySem.Challenge.rw_nz0015_01.row.prog w) (ktrTop dp un gd (Str.ofString "law") (lawS w.params) L a ccd (cellsFrom (L + 1) (lawS w.params).names []) outer) (execs (lapElse3 w.params) (envX (Str.ofString "law") (lawS w.params) L a ccd (cellsFrom (L + 1) (lawS w.params).names []))) (LapEnd w h₀ L I it s c (i + 1)) E { s with heap := h, toks := tk0, drawn := d0 } := by
  revert X T
  k_fill
  intro X T
  unfold lapElse3 lapElse lapB lawB lawS
  dsimp only [lawQ, List.drop]
  obtain ⟨ow, nw, R, stv, ovs, ns, no, fo, k, tk, c1, c2, c3, c4, c5, c6, c7, hm, rfl, d1, d2, d3, d4, d5, d6, d7, hfo, hk0, hk1, hS, hst, hov, hfv, hca, hfl, hord, hoff⟩ := id hinv
  obtain ⟨st, fd, sk, ca, fl, many, tm, nc, nf, cvs, fvs, cells, Fs⟩ := c
  dsimp only at hOk hmany hm2 hcl hci N6 hnI d1 d2 d4 hm hfo hS hfv hca hfl hord hoff
  obtain ⟨g1, g2, g3, g4, g5, g6, g7, g8, g9, g0⟩ := id hord
  have F9 := overs F6 ([Str.ofString "lap", Str.ofString "way", Str.ofString "told", Str.ofString "kept", Str.ofString "first", Str.ofString "script"]) (m₀ := MB ⟨st, fd, sk, ca, fl, many, tm, nc, nf, cvs, fvs, cells, Fs⟩) hm [(Str.ofString "told", Value.bool true), (Str.ofString "kept", Value.ref kl)] ⟨htold, hkept, trivial⟩
  dsimp only [over, MB] at F9
  clear F6
  have hca2 := hS.sub _ hca
  have hfl2 := hS.sub _ hfl
  have hstl := hst.len
  obtain ⟨sf1, sf2, sf3, sf4⟩ := hS.facts
  have hmn : many ≤ 3 := by lia
  have hfvl := hfv.length
  have hovl := hov.length
  have howl := hOk.1
  have hx63 := idx_small hx1 howl sf3
  k_steps
  · rename ((true != !decide (ks = [])) = true) => q
    simp [hks] at q
  refine Halt.go ?_
  rename News h₀ L _ _ => N10
  rename Fr h₀ L _ _ => F10
  have N11 : News h₀ L _ ((kl, LCg.lst kvs) :: (I, it) :: (L + 1 + 1 + 1 + 1 + 1 + 1 + 1, c7) :: (L + 1 + 1 + 1 + 1 + 1 + 1, c6) :: (L + 1 + 1 + 1 + 1 + 1, c5) :: (L + 1 + 1 + 1 + 1, c4) :: (L + 1 + 1 + 1, c3) :: (L + 1 + 1, c2) :: (L + 1, c1) :: (fd, fo) :: (sk, listOf stv.toArray ns) :: (ow, listOf ovs.toArray no) :: nw) := fun p hp => N10 p (.tail _ (.tail _ hp))
  clear N10
  k_dflt (refine' comp_eval ?c0 ?c1 ?c2 ?c3 ?c4 ?_ ?c5; (case c0 => k_asm); (case c1 => with_unfolding_all rfl); (case c2 => decide); (case c3 => rfl); (case c4 => decide); (case c5 => (intro _; with_unfolding_all rfl)))
  k_steps
  refine CompGo.list (by rfl) F10 N11 (k := no) (vs := ovs) (by k_memK) (by rw [sizeLine_eq]; lia) (fun j ys nw' => ∃ fr, nw' = fr ++ ((kl, LCg.lst kvs) :: (I, it) :: (L + 1 + 1 + 1 + 1 + 1 + 1 + 1, c7) :: (L + 1 + 1 + 1 + 1 + 1 + 1, c6) :: (L + 1 + 1 + 1 + 1 + 1, c5) :: (L + 1 + 1 + 1 + 1, c4) :: (L + 1 + 1 + 1, c3) :: (L + 1 + 1, c2) :: (L + 1, c1) :: (fd, fo) :: (sk, listOf stv.toArray ns) :: (ow, listOf ovs.toArray no) :: nw) ∧ Fresh fr ((kl, LCg.lst kvs) :: (I, it) :: (L + 1 + 1 + 1 + 1 + 1 + 1 + 1, c7) :: (L + 1 + 1 + 1 + 1 + 1 + 1, c6) :: (L + 1 + 1 + 1 + 1 + 1, c5) :: (L + 1 + 1 + 1 + 1, c4) :: (L + 1 + 1 + 1, c3) :: (L + 1 + 1, c2) :: (L + 1, c1) :: (fd, fo) :: (sk, listOf stv.toArray ns) :: (ow, listOf ovs.toArray no) :: nw) ∧ RowsIn fr ys (Ow.take j)) ⟨[], rfl, trivial, trivial⟩ ?_ ?_ ?_
  · intro j ys nw' x1_i
    obtain ⟨fr, rfl, _⟩ := x1_i
    exact List.mem_append_right _ (by k_memK)
  · intro I2 C2 D2 j ys nw2 v oI oC m₂ h2 tk2 E2 hIC hID hCD hv x1_i
    obtain ⟨fr, rfl, hfr, hrw⟩ := x1_i
    intro F11 N13 hC2 off2
    have hj : j < Ow.length := by rw [← hovl]; exact (List.getElem?_eq_some_iff.mp hv).1
    have e2 : Ow[j]? = some Ow[j] := List.getElem?_eq_getElem hj
    generalize Ow[j] = row at e2
    obtain ⟨f', e1', hr1, hr2, hr3, hr4⟩ := hOk.row sf1 e2
    obtain ⟨ra, hra, rvs, rn, hrm, hrI⟩ := hov.get e2
    obtain rfl : v = .ref ra := by rw [hra] at hv; exact (Option.some.inj hv).symm
    have hrm2 := hS.sub _ hrm
    have hrl := hrI.length
    have hr5 := hr4.length_le
    have hrl2 : rvs.length ≤ 1000 := by rw [hrl]; exact Nat.le_trans hr5 (by decide)
    clear N11
    refine comp_name F11 N13 hC2 hIC (off_C off2 hCD) (by rfl) (by rfl) (fun h5 tk5 oC5 F12 N14 hC5 => ?_)
    refine wpAny_tests_nil ?_
    simp only [if_true]
    k_steps
    rename News h₀ L _ _ => N15
    rename Fr h₀ L _ _ => F15
    rename (I2 < _ ∧ C2 < _ ∧ D2 < _ ∧ _) => l15
    refine TurnOk.mk1 (rest := fun nw' => ∃ fr, nw' = fr ++ _ ∧ Fresh fr _ ∧ RowsIn fr _ (Ow.take (j + 1))) F15 N15 hC5 l15 off2 ⟨_ :: fr, rfl, ⟨fun p hp => Ne.symm (allNe_of l15.2.2.2 p hp), hfr⟩, ?_⟩
    rw [take_snoc e2]
    exact (hrw.mono fun p hp => .tail _ hp).snoc ⟨rvs, _, .head _, hrI⟩
  · intro D2 ys nw2 off2 x1_i
    obtain ⟨fr, rfl, hfr, hrw⟩ := x1_i
    intro h2 tk2 F11 N13
    have hlt : Ow.take ovs.length = Ow := by rw [hovl, List.take_length]
    rw [hlt] at hrw
    obtain ⟨nw1, S1, m1⟩ := hS.ext (kl, LCg.lst kvs) fun p hp _ => hkl p (by
      iterate 11 (refine List.mem_cons_of_mem _ ?_)
      exact hp)
    have hb1 : ∀ p ∈ nw1, p ∈ (kl, LCg.lst kvs) :: (I, it) :: (L + 1 + 1 + 1 + 1 + 1 + 1 + 1, c7) :: (L + 1 + 1 + 1 + 1 + 1 + 1, c6) :: (L + 1 + 1 + 1 + 1 + 1, c5) :: (L + 1 + 1 + 1 + 1, c4) :: (L + 1 + 1 + 1, c3) :: (L + 1 + 1, c2) :: (L + 1, c1) :: (fd, fo) :: (sk, listOf stv.toArray ns) :: (ow, listOf ovs.toArray no) :: nw := fun p hp => by
      rcases m1 p hp with rfl | h
      · exact .head _
      · iterate 12 (refine List.mem_cons_of_mem _ ?_)
        exact h
    obtain ⟨nw2, S2, m2⟩ := S1.extL hfr hb1
    have hoff1 : Away (lapK L I fd sk ow it c1 c2 c3 c4 c5 c6 c7 fo (listOf stv.toArray ns) (listOf ovs.toArray no)) nw2 := fun q hq p hp => by
      have hq' : q ∈ (I, it) :: (L + 1 + 1 + 1 + 1 + 1 + 1 + 1, c7) :: (L + 1 + 1 + 1 + 1 + 1 + 1, c6) :: (L + 1 + 1 + 1 + 1 + 1, c5) :: (L + 1 + 1 + 1 + 1, c4) :: (L + 1 + 1 + 1, c3) :: (L + 1 + 1, c2) :: (L + 1, c1) :: (fd, fo) :: (sk, listOf stv.toArray ns) :: (ow, listOf ovs.toArray no) :: nw := List.mem_append_left _ (show q ∈ lapK L I fd sk ow it c1 c2 c3 c4 c5 c6 c7 fo (listOf stv.toArray ns) (listOf ovs.toArray no) from hq)
      rcases m2 p hp with h | h
      · exact Ne.symm (hfr.ne p h q (.tail _ hq'))
      · rcases m1 p h with rfl | h
        · exact Ne.symm (hkl q hq')
        · exact lapK_away hoff q hq p h
    have hD := off1_nes off2
    obtain ⟨nw3, S3, m3⟩ := S2.save rfl (D2, ys, ys.length) (fun p hp => by
      rcases m2 p hp with h | h
      · exact hD p (List.mem_append_left _ h)
      · exact hD p (List.mem_append_right _ (hb1 p h))) (hrw.mono fun p hp => List.mem_append_left _ hp)
    have hoff3 : Away (lapK L I fd sk ow it c1 c2 c3 c4 c5 c6 c7 fo (listOf stv.toArray ns) (listOf ovs.toArray no)) nw3 := fun q hq p hp => by
      rcases m3 p hp with rfl | h
      · exact Ne.symm (hD q (List.mem_append_right _ (.tail _ (List.mem_append_left nw (show q ∈ lapK L I fd sk ow it c1 c2 c3 c4 c5 c6 c7 fo (listOf stv.toArray ns) (listOf ovs.toArray no) from hq)))))
      · exact hoff1 q hq p h
    have N14 : News h₀ L h2 ((I, it) :: (L + 1 + 1 + 1 + 1 + 1 + 1 + 1, c7) :: (L + 1 + 1 + 1 + 1 + 1 + 1, c6) :: (L + 1 + 1 + 1 + 1 + 1, c5) :: (L + 1 + 1 + 1 + 1, c4) :: (L + 1 + 1 + 1, c3) :: (L + 1 + 1, c2) :: (L + 1, c1) :: (fd, fo) :: (sk, listOf stv.toArray ns) :: (ow, listOf ovs.toArray no) :: nw3) := fun p hp => by
      rcases List.mem_append.mp (show p ∈ lapK L I fd sk ow it c1 c2 c3 c4 c5 c6 c7 fo (listOf stv.toArray ns) (listOf ovs.toArray no) ++ nw3 from hp) with h | h
      · exact N13 p (.tail _ (List.mem_append_right _ (.tail _ (List.mem_append_left nw h))))
      · rcases m3 p h with rfl | h
        · exact N13 _ (.head _)
        · rcases m2 p h with h | h
          · exact N13 p (.tail _ (List.mem_append_left _ h))
          · exact N13 p (.tail _ (List.mem_append_right _ (hb1 p h)))
    have hoffs3 := lapK_offs hoff3
    clear N13 N11
    have hstl3 : stv.length ≤ 100 := by
      have := sf4
      simp only [List.length_cons] at this
      lia
    have hx2 : x.toNat < ovs.length := by lia
    clear F10
    k_steps
    rename News h₀ L _ _ => N15
    rename Fr h₀ L _ _ => F15
    rw [List.push_toArray] at N15
    refine LapEnd.of (c := ⟨st, fd, sk, ca, fl, many, tm, nc, nf, cvs, fvs, cells, Fs⟩) (stv := stv ++ [.ref D2]) F15 N15 ?_ d1 d2 d3 d4 d5 d6 d7 hfo hk0 (by lia) S3 ⟨stv, _, rfl, rfl, hst⟩ ((hov.mono fun p hp => List.mem_append_right _ (.tail _ hp)).set ⟨kvs, _, List.mem_append_right _ (.head _), hkv⟩) (hfv.mono fun p hp => List.mem_append_right _ (.tail _ hp)) (List.mem_append_right _ (.tail _ hca)) (List.mem_append_right _ (.tail _ hfl)) hord hoffs3
    k_extra "m_agree"
    rfl
end
section
theorem lap_else2 (w : World) (mean : ExcName → Option Value) (mg mb : Str → Option Value) (dp un : Nat) (gd : Option (List Code)) (a : Addr) (ccd : Value) (outer : List Env) (A₀ : Around) (base h₀ h : Heap) (L I : Addr) (it : Obj) (s : Shared) (E : Value → Shared → Prop) (c : LapC) (i : Nat) (m : Str → Option Value) (nw0 : List (Addr × Obj)) (tk0 : Nat) (d0 : Drawn) (ls : List Lev) (Ow : List (List Int)) (way : Int) (tw tx ts tkk : Tok) (x kk : Int) (sg : Sign) (row : List Int) (kl : Addr) (kvs : List Value)
    (hi : i ≤ 10) (hmany : c.Fs.length = c.many) (hm2 : 2 ≤ c.many) (hcl : c.cells.length ≤ 50) (hci : IntsAre c.cvs c.cells) (hit : it.cls = .type "range_iterator") (B : Below A₀ base outer h₀) (F6 : Fr h₀ L h m) (X : (Mine.hd.heap_39 w.params).In h₀) (hinv : LapAt w L I c i (100 + 10 * i + 10) false ls Ow ls Ow (some (.int x tx)) (some (.str sg.txt ts)) (some (.int kk tkk)) m nw0) (hway : m (Str.ofString "way") = some (.int way tw)) (hkept : m (Str.ofString "kept") = some (.ref kl)) (hx0 : 0 ≤ x) (hrow : Ow[x.toNat]? = some row) (hkk0 : -1 ≤ kk) (hkk1 : kk < 7) (hkv : IntsAre kvs (keptBy sg kk row)) (N6 : News h₀ L h ((kl, LCg.lst kvs) :: (I, it) :: nw0)) (hnI : ∀ p ∈ nw0, p.1 ≠ I) (hkl : ∀ p ∈ (I, it) :: nw0, @Ne Nat kl p.1)
    (T : Top Mine.hd.view_39 (looseW Mine.hd.view_39 [Str.ofString "has_domains"]) mean mg mb h₀) (hdp : dp + 20 < recursionLimit) (hun : un + 1000 < cLine) :
    wpAny (model PySem.Challenge.rw_nz0015_01.row.prog w) (ktrTop dp un gd (Str.ofString "law") (lawS w.params) L a ccd (cellsFrom (L + 1) (lawS w.params).names []) outer) (execs (lapElse2 w.params) (envX (Str.ofString "law") (lawS w.params) L a ccd (cellsFrom (L + 1) (lawS w.params).names []))) (LapEnd w h₀ L I it s c (i + 1)) E { s with heap := h, toks := tk0, drawn := d0 } := by
  revert X T
  k_fill
  intro X T
  unfold lapElse2 lapElse lapB lawB lawS
  dsimp only [lawQ, List.drop]
  obtain ⟨ow, nw, R, stv, ovs, ns, no, fo, k, tk, c1, c2, c3, c4, c5, c6, c7, hm, rfl, d1, d2, d3, d4, d5, d6, d7, hfo, hk0, hk1, hS, hst, hov, hfv, hca, hfl, hord, hoff⟩ := id hinv
  obtain ⟨st, fd, sk, ca, fl, many, tm, nc, nf, cvs, fvs, cells, Fs⟩ := c
  dsimp only at hmany hm2 hcl hci N6 hnI d1 d2 d4 hm hfo hS hfv hca hfl hord hoff
  obtain ⟨g1, g2, g3, g4, g5, g6, g7, g8, g9, g0⟩ := id hord
  have F9 := overs F6 ([Str.ofString "lap", Str.ofString "way", Str.ofString "told", Str.ofString "kept", Str.ofString "first", Str.ofString "script"]) (m₀ := MB ⟨st, fd, sk, ca, fl, many, tm, nc, nf, cvs, fvs, cells, Fs⟩) hm [(Str.ofString "way", Value.int way tw), (Str.ofString "kept", Value.ref kl)] ⟨hway, hkept, trivial⟩
  dsimp only [over, MB] at F9
  clear F6
  have hca2 := hS.sub _ hca
  have hfl2 := hS.sub _ hfl
  have hstl := hst.len
  obtain ⟨sf1, sf2, sf3, sf4⟩ := hS.facts
  have hmn : many ≤ 3 := by lia
  have hfvl := hfv.length
  have hovl := hov.length
  have howl := sf2.1
  have hkl6 : (keptBy sg kk row).length ≤ 6 := by
    obtain ⟨f', _, hr1, _, _, hr4⟩ := sf2.row sf1 hrow
    exact Nat.le_trans (kept_sub sg kk row).length_le hr4.length_le
  obtain ⟨dx, t1, t2, t3, t4, t5, t6, t7, t8, Da, Fa, Ta, Ma, Na, sp, sfl, cv, n8, hin1, hin2⟩ := hS.inst
  k_steps
  refine Halt.go ?_
  have hKt : ∀ p ∈ (kl, LCg.lst kvs) :: lapK L I fd sk ow it c1 c2 c3 c4 c5 c6 c7 fo (listOf stv.toArray ns) (listOf ovs.toArray no), ¬ isT p := fun p hp => by
    rcases List.mem_cons.mp hp with rfl | hp
    · exact not_isT_list rfl
    · exact lapK_notT hit d1 d2 d3 d4 d5 d6 d7 hfo p hp
  have hK : Away ((kl, LCg.lst kvs) :: lapK L I fd sk ow it c1 c2 c3 c4 c5 c6 c7 fo (listOf stv.toArray ns) (listOf ovs.toArray no)) nw := (lapK_away hoff).consK fun p hp => hkl p (List.mem_append_right (lapK L I fd sk ow it c1 c2 c3 c4 c5 c6 c7 fo (listOf stv.toArray ns) (listOf ovs.toArray no)) hp)
  have N7 : News h₀ L _ (((kl, LCg.lst kvs) :: lapK L I fd sk ow it c1 c2 c3 c4 c5 c6 c7 fo (listOf stv.toArray ns) (listOf ovs.toArray no)) ++ nw) := N6
  clear N6
  k_dflt (refine' Does.useO (push_op w st _ R nw Fs Ow ls i hS (by lia) hK) ?k1 ?k2 ?k3 ?k4 ?k5 ?k6 ?k7 ?k8 ?_)
  case k1 => k_asm
  case k2 => k_asm
  case k3 => k_asm
  case k4 => exact N7
  case k5 => k_asm
  case k6 => first | exact rfl | assumption
  case k7 => ktr_room
  case k8 => ktr_units
  intro h9 tk9 F10 nw1 x1_i N10
  obtain ⟨S1, hK1⟩ := x1_i
  clear N7 F9 hin1 hin2 hfl2 hca2
  simp only [lapK, List.cons_append, List.nil_append] at N10
  obtain ⟨dx, t1, t2, t3, t4, t5, t6, t7, t8, Da, Fa, Ta, Ma, Na, sp, sfl, cv, n8, hin1, hin2⟩ := S1.inst
  k_steps
  · refine Halt.go ?_
    rename News h₀ L _ _ => N11
    obtain ⟨nw2, S2, m2⟩ := S1.ext (_, tupO [.int x tx, .str sg.txt ts, .int kk tkk] _) (fun p hp hn => isT.away ⟨_, _, rfl⟩ N11 (.head _) (.tail _ (List.mem_append_right ((kl, LCg.lst kvs) :: lapK L I fd sk ow it c1 c2 c3 c4 c5 c6 c7 fo (listOf stv.toArray ns) (listOf ovs.toArray no)) hp)) hn)
    have hK2 : Away ((kl, LCg.lst kvs) :: lapK L I fd sk ow it c1 c2 c3 c4 c5 c6 c7 fo (listOf stv.toArray ns) (listOf ovs.toArray no)) nw2 := fun q hq p hp => by
      rcases m2 p hp with rfl | h
      · exact Ne.symm (isT.away ⟨_, _, rfl⟩ N11 (.head _) (.tail _ (List.mem_append_left nw1 hq)) (hKt q hq))
      · exact hK1 q hq p h
    have N12 : News h₀ L _ (((kl, LCg.lst kvs) :: lapK L I fd sk ow it c1 c2 c3 c4 c5 c6 c7 fo (listOf stv.toArray ns) (listOf ovs.toArray no)) ++ nw2) := fun p hp => by
      rcases List.mem_append.mp hp with h | h
      · exact N11 p (.tail _ (List.mem_append_left nw1 h))
      · rcases m2 p h with rfl | h
        · exact N11 _ (.head _)
        · exact N11 p (.tail _ (List.mem_append_right ((kl, LCg.lst kvs) :: lapK L I fd sk ow it c1 c2 c3 c4 c5 c6 c7 fo (listOf stv.toArray ns) (listOf ovs.toArray no)) h))
    k_dflt (refine' Does.useO2 (decide_op w st _ _ nw2 Fs Ow ls i _ x kk sg row S2 (by lia) hK2 hKt ⟨tx, ts, tkk, _, .head _⟩ hx0 hrow hkk0 hkk1) ?k1 ?k2 ?k3 ?k4 ?k5 ?k6 ?k7 ?k8 ?_)
    case k1 => k_asm
    case k2 => k_asm
    case k3 => k_asm
    case k4 => exact N12
    case k5 => k_asm
    case k6 => first | exact rfl | assumption
    case k7 => ktr_room
    case k8 => ktr_units
    intro r9 h9 tk9 F12 nw3 R' x1_i N13
    obtain ⟨hA3, hR3, hcase⟩ := x1_i
    clear N11 N12
    k_dflt (refine' storeX_L ?F ?N ?_ ?a ?b; (case F => k_asm); (case N => k_asm); (case a => rfl); (case b => rfl))
    intro h10 F14 N14
    have hoff3 : Offs (lapAs L I fd sk ow) nw3 := lapK_offs hA3.ofK.2
    have hkl3 : ∀ p ∈ lapK L I fd sk ow it c1 c2 c3 c4 c5 c6 c7 fo (listOf stv.toArray ns) (listOf ovs.toArray no) ++ nw3, @Ne Nat kl p.1 := fun p hp => by
      rcases List.mem_append.mp hp with h | h
      · exact hkl p (List.mem_append_left nw h)
      · exact hA3.ofK.1 p h
    obtain ⟨hke, rfl, S3⟩ | ⟨hke, rfl, S3⟩ := hcase
    · have hk0' := hkv.length
      rw [hke] at hk0'
      obtain rfl : kvs = [] := List.eq_nil_of_length_eq_zero hk0'
      refine lap_else3a w mean mg mb dp un gd a ccd outer A₀ base h₀ _ L I it s E ⟨st, fd, sk, ca, fl, many, tm, nc, nf, cvs, fvs, cells, Fs⟩ i _ _ _ _ ls Ow _ _ _ kl hi hmany hm2 hcl hci hit B F14 X ⟨ow, nw3, R', stv, ovs, ns, no, fo, k, tk, c1, c2, c3, c4, c5, c6, c7, ?_, rfl, d1, d2, d3, d4, d5, d6, d7, hfo, hk0, hk1, S3, hst, hov.mono (fun p hp => hR3 p (.tail _ hp)), hfv.mono (fun p hp => hR3 p (.tail _ hp)), (hR3 _ (.tail _ hca)), (hR3 _ (.tail _ hfl)), hord, hoff3⟩ ?_ ?_ N14 (lapK_ne hord hoff3) hkl3 T hdp hun
      · k_extra "m_agree"
        rfl
      · rfl
      · rfl
    · refine lap_else3b w mean mg mb dp un gd a ccd outer A₀ base h₀ _ L I it s E ⟨st, fd, sk, ca, fl, many, tm, nc, nf, cvs, fvs, cells, Fs⟩ i _ _ _ _ ls Ow tx x _ _ kl kvs (keptBy sg kk row) hi hmany hm2 hcl hci hit B F14 X ⟨ow, nw3, R', stv, ovs, ns, no, fo, k, tk, c1, c2, c3, c4, c5, c6, c7, ?_, rfl, d1, d2, d3, d4, d5, d6, d7, hfo, hk0, hk1, S3, hst, hov.mono (fun p hp => hR3 p (.tail _ hp)), hfv.mono (fun p hp => hR3 p (.tail _ hp)), (hR3 _ (.tail _ hca)), (hR3 _ (.tail _ hfl)), hord, hoff3⟩ ?_ ?_ hx0 (List.getElem?_eq_some_iff.mp hrow).1 hkv hke hkl6 sf2 N14 (lapK_ne hord hoff3) hkl3 T hdp hun
      · k_extra "m_agree"
        rfl
      · rfl
      · rfl
  · refine Halt.go ?_
    rename News h₀ L _ _ => N11
    obtain ⟨nw2, S2, m2⟩ := S1.ext (_, tupO [.int x tx, .str sg.txt ts, .int kk tkk] _) (fun p hp hn => isT.away ⟨_, _, rfl⟩ N11 (.tail _ (.head _)) (.tail _ (.tail _ (List.mem_append_right ((kl, LCg.lst kvs) :: lapK L I fd sk ow it c1 c2 c3 c4 c5 c6 c7 fo (listOf stv.toArray ns) (listOf ovs.toArray no)) hp))) hn)
    obtain ⟨nw3, S3, m3⟩ := S2.ext (_, tupO [] _) (fun p hp hn => by
      rcases m2 p hp with rfl | h
      · exact absurd ⟨_, _, rfl⟩ hn
      · exact isT.away ⟨_, _, rfl⟩ N11 (.head _) (.tail _ (.tail _ (List.mem_append_right ((kl, LCg.lst kvs) :: lapK L I fd sk ow it c1 c2 c3 c4 c5 c6 c7 fo (listOf stv.toArray ns) (listOf ovs.toArray no)) h))) hn)
    have hK2 : Away ((kl, LCg.lst kvs) :: lapK L I fd sk ow it c1 c2 c3 c4 c5 c6 c7 fo (listOf stv.toArray ns) (listOf ovs.toArray no)) nw3 := fun q hq p hp => by
      rcases m3 p hp with rfl | h
      · exact Ne.symm (isT.away ⟨_, _, rfl⟩ N11 (.head _) (.tail _ (.tail _ (List.mem_append_left nw1 hq))) (hKt q hq))
      · rcases m2 p h with rfl | h
        · exact Ne.symm (isT.away ⟨_, _, rfl⟩ N11 (.tail _ (.head _)) (.tail _ (.tail _ (List.mem_append_left nw1 hq))) (hKt q hq))
        · exact hK1 q hq p h
    have N12 : News h₀ L _ (((kl, LCg.lst kvs) :: lapK L I fd sk ow it c1 c2 c3 c4 c5 c6 c7 fo (listOf stv.toArray ns) (listOf ovs.toArray no)) ++ nw3) := fun p hp => by
      rcases List.mem_append.mp hp with h | h
      · exact N11 p (.tail _ (.tail _ (List.mem_append_left nw1 h)))
      · rcases m3 p h with rfl | h
        · exact N11 _ (.head _)
        · rcases m2 p h with rfl | h
          · exact N11 _ (.tail _ (.head _))
          · exact N11 p (.tail _ (.tail _ (List.mem_append_right ((kl, LCg.lst kvs) :: lapK L I fd sk ow it c1 c2 c3 c4 c5 c6 c7 fo (listOf stv.toArray ns) (listOf ovs.toArray no)) h)))
    clear m2 m3 S2
    k_dflt (refine' Does.useO2 (strike_op w st _ _ nw3 Fs Ow ls i _ _ x kk sg row _ (.head _) S3 (by lia) hK2 hKt ⟨tx, ts, tkk, _, .tail _ (.head _)⟩ hx0 hrow hkk0 hkk1) ?k1 ?k2 ?k3 ?k4 ?k5 ?k6 ?k7 ?k8 ?_)
    case k1 => k_asm
    case k2 => k_asm
    case k3 => k_asm
    case k4 => exact N12
    case k5 => k_asm
    case k6 => first | exact rfl | assumption
    case k7 => ktr_room
    case k8 => ktr_units
    intro r9 h9 tk9 F12 nw3 R' x1_i N13
    obtain ⟨hA3, hR3, hcase⟩ := x1_i
    clear N11 N12
    k_dflt (refine' storeX_L ?F ?N ?_ ?a ?b; (case F => k_asm); (case N => k_asm); (case a => rfl); (case b => rfl))
    intro h10 F14 N14
    have hoff3 : Offs (lapAs L I fd sk ow) nw3 := lapK_offs hA3.ofK.2
    have hkl3 : ∀ p ∈ lapK L I fd sk ow it c1 c2 c3 c4 c5 c6 c7 fo (listOf stv.toArray ns) (listOf ovs.toArray no) ++ nw3, @Ne Nat kl p.1 := fun p hp => by
      rcases List.mem_append.mp hp with h | h
      · exact hkl p (List.mem_append_left nw h)
      · exact hA3.ofK.1 p h
    obtain ⟨hke, rfl, S3⟩ | ⟨hke, rfl, S3⟩ := hcase
    · have hk0' := hkv.length
      rw [hke] at hk0'
      obtain rfl : kvs = [] := List.eq_nil_of_length_eq_zero hk0'
      refine lap_else3a w mean mg mb dp un gd a ccd outer A₀ base h₀ _ L I it s E ⟨st, fd, sk, ca, fl, many, tm, nc, nf, cvs, fvs, cells, Fs⟩ i _ _ _ _ ls Ow _ _ _ kl hi hmany hm2 hcl hci hit B F14 X ⟨ow, nw3, R', stv, ovs, ns, no, fo, k, tk, c1, c2, c3, c4, c5, c6, c7, ?_, rfl, d1, d2, d3, d4, d5, d6, d7, hfo, hk0, hk1, S3, hst, hov.mono (fun p hp => hR3 p (.tail _ (.tail _ hp))), hfv.mono (fun p hp => hR3 p (.tail _ (.tail _ hp))), (hR3 _ (.tail _ (.tail _ hca))), (hR3 _ (.tail _ (.tail _ hfl))), hord, hoff3⟩ ?_ ?_ N14 (lapK_ne hord hoff3) hkl3 T hdp hun
      · k_extra "m_agree"
        rfl
      · rfl
      · rfl
    · refine lap_else3b w mean mg mb dp un gd a ccd outer A₀ base h₀ _ L I it s E ⟨st, fd, sk, ca, fl, many, tm, nc, nf, cvs, fvs, cells, Fs⟩ i _ _ _ _ ls Ow tx x _ _ kl kvs (keptBy sg kk row) hi hmany hm2 hcl hci hit B F14 X ⟨ow, nw3, R', stv, ovs, ns, no, fo, k, tk, c1, c2, c3, c4, c5, c6, c7, ?_, rfl, d1, d2, d3, d4, d5, d6, d7, hfo, hk0, hk1, S3, hst, hov.mono (fun p hp => hR3 p (.tail _ (.tail _ hp))), hfv.mono (fun p hp => hR3 p (.tail _ (.tail _ hp))), (hR3 _ (.tail _ (.tail _ hca))), (hR3 _ (.tail _ (.tail _ hfl))), hord, hoff3⟩ ?_ ?_ hx0 (List.getElem?_eq_some_iff.mp hrow).1 hkv hke hkl6 sf2 N14 (lapK_ne hord hoff3) hkl3 T hdp hun
      · k_extra "m_agree"
        rfl
      · rfl
      · rfl
end
theorem words_WB_1 : True := by
  k_with "subscriptTail" => (((k_here; (with_reducible show wpAny _ _ (subscriptTail _ _ (Value.ref _) (Value.int _ _)) _ _ _); (with_unfolding_all refine' sub_signs ?k1_q ?k2_q ?k3_q ?k4_q ?_ ?k6_q; (case k1_q => k_asm); (case k2_q => k_memK); (case k3_q => first | assumption | omega); (case k4_q => first | assumption | omega); (case k6_q => with_unfolding_all rfl)); intro sg9_w t9_w; k_whole)); (try revert t9_w); (try revert sg9_w); intros)
  k_with "ktr_rel" => (((with_reducible show LitIn _ _ _ _ _); exact ⟨_, _, _, _, by k_memK⟩))
  trivial
section
theorem lap_else1 (w : World) (mean : ExcName → Option Value) (mg mb : Str → Option Value) (dp un : Nat) (gd : Option (List Code)) (a : Addr) (ccd : Value) (outer : List Env) (A₀ : Around) (base h₀ h : Heap) (L I : Addr) (it : Obj) (s : Shared) (E : Value → Shared → Prop) (c : LapC) (i : Nat) (m : Str → Option Value) (nw0 : List (Addr × Obj)) (tk0 : Nat) (d0 : Drawn) (ls : List Lev) (Ow : List (List Int)) (v3 v6 v7 : Option Value) (way : Int) (tw : Tok)
    (hi : i ≤ 10) (hmany : c.Fs.length = c.many) (hm2 : 2 ≤ c.many) (hcl : c.cells.length ≤ 50) (hci : IntsAre c.cvs c.cells) (hit : it.cls = .type "range_iterator") (B : Below A₀ base outer h₀) (F6 : Fr h₀ L h m) (X : (Mine.hd.heap_39 w.params).In h₀) (hinv : LapAt w L I c i (100 + 10 * i + 1) false ls Ow ls Ow v3 v6 v7 m nw0) (hway : m (Str.ofString "way") = some (.int way tw)) (N6 : News h₀ L h ((I, it) :: nw0)) (hnI : ∀ p ∈ nw0, p.1 ≠ I)
    (T : Top Mine.hd.view_39 (looseW Mine.hd.view_39 [Str.ofString "has_domains"]) mean mg mb h₀) (hdp : dp + 20 < recursionLimit) (hun : un + 1000 < cLine) :
    wpAny (model PySem.Challenge.rw_nz0015_01.row.prog w) (ktrTop dp un gd (Str.ofString "law") (lawS w.params) L a ccd (cellsFrom (L + 1) (lawS w.params).names []) outer) (execs (lapElse w.params) (envX (Str.ofString "law") (lawS w.params) L a ccd (cellsFrom (L + 1) (lawS w.params).names []))) (LapEnd w h₀ L I it s c (i + 1)) E { s with heap := h, toks := tk0, drawn := d0 } := by
  revert X T
  k_fill
  intro X T
  unfold lapElse lapB lawB lawS
  dsimp only [lawQ, List.drop]
  obtain ⟨ow, nw, R, stv, ovs, ns, no, fo, k, tk, c1, c2, c3, c4, c5, c6, c7, hm, rfl, d1, d2, d3, d4, d5, d6, d7, hfo, hk0, hk1, hS, hst, hov, hfv, hca, hfl, hord, hoff⟩ := id hinv
  obtain ⟨st, fd, sk, ca, fl, many, tm, nc, nf, cvs, fvs, cells, Fs⟩ := c
  dsimp only at hmany hm2 hcl hci N6 hnI d1 d2 d4 hm hfo hS hfv hca hfl hord hoff
  obtain ⟨g1, g2, g3, g4, g5, g6, g7, g8, g9, g0⟩ := id hord
  have F9 := overs F6 ([Str.ofString "lap", Str.ofString "way", Str.ofString "told", Str.ofString "kept", Str.ofString "first", Str.ofString "script"]) (m₀ := MB ⟨st, fd, sk, ca, fl, many, tm, nc, nf, cvs, fvs, cells, Fs⟩) hm [(Str.ofString "way", Value.int way tw)] ⟨hway, trivial⟩
  dsimp only [over, MB] at F9
  clear F6
  have hca2 := hS.sub _ hca
  have hfl2 := hS.sub _ hfl
  have hstl := hst.len
  obtain ⟨sf1, sf2, sf3, sf4⟩ := hS.facts
  have hmn : many ≤ 3 := by lia
  have hmp : 0 < (many : Int) := by lia
  have hmq : (many : Int) < 100 := by lia
  have hk3 : k ≤ 300 := by lia
  have hfvl := hfv.length
  have hovl := hov.length
  have howl := sf2.1
  k_steps
  rename_i x tx tk10 o10 p10 hx0 hx1 D10 h10 l10 h11 tk11 v11 t11 tk12 o11 p11 w11 x11 sg ts h12 tk13 vk t13 tk14 fo' hfo' hv0 hv1 D12 h13 l12 h14 h15 c3' d3' h16 c6' d6' h17 c7' F10 N10 d7'
  refine Halt.go ?_
  clear p10 p11 l10 l12 hfo d3 d6 d7
  have N11 : News h₀ L _ ((I, it) :: (L + 1 + 1 + 1 + 1 + 1 + 1 + 1, c7') :: (L + 1 + 1 + 1 + 1 + 1 + 1, c6') :: (L + 1 + 1 + 1 + 1 + 1, c5) :: (L + 1 + 1 + 1 + 1, c4) :: (L + 1 + 1 + 1, c3') :: (L + 1 + 1, c2) :: (L + 1, c1) :: (fd, fo') :: (sk, listOf stv.toArray ns) :: (ow, listOf ovs.toArray no) :: nw) := fun p hp => N10 p (.tail _ (.tail _ hp))
  clear N10
  have hxo : x.toNat < Ow.length := by lia
  obtain ⟨row, hrow⟩ : ∃ row, Ow[x.toNat]? = some row := ⟨_, List.getElem?_eq_getElem hxo⟩
  obtain ⟨f', e1', hr1, hr2, hr3, hr4⟩ := sf2.row sf1 hrow
  obtain ⟨ra, hra, rvs, rn, hrm, hrI⟩ := hov.get hrow
  have hrm2 := hS.sub _ hrm
  have hr5 := hr4.length_le
  k_dflt (refine' comp_assign ?c0 ?c6 ?c7 ?c1 ?c2 ?c3 ?c4 ?c8 ?c9 ?_ ?c5; (case c0 => k_asm); (case c6 => rfl); (case c7 => with_unfolding_all rfl); (case c1 => with_unfolding_all rfl); (case c2 => decide); (case c3 => rfl); (case c4 => decide); (case c8 => rfl); (case c9 => rfl); (case c5 => (intro _; with_unfolding_all rfl)))
  k_steps
  refine CompGo.filtO (by rfl) F10 N11 (k := rn) (vs := rvs) (ns := row) (by k_memK) hrI (Nat.le_trans hr5 (by decide)) (by rfl) (by rfl) (by decide) (fun v => !bars sg (vk - 1) v) ?_ ?_
  · intro I2 C2 D2 n tn ys oI oC m₂ h tk E' hn hIC hID hCD F2 N2 hC hx off
    clear N11
    k_steps
    · assumption
    · rename News h₀ L _ _ => N12
      exact drop_h N12
  · intro D2 ys hD hys h tk' F2 N2
    dsimp only
    refine lap_else2 w mean mg mb dp un gd a ccd outer A₀ base h₀ _ L I it s E ⟨st, fd, sk, ca, fl, many, tm, nc, nf, cvs, fvs, cells, Fs⟩ i _ _ _ _ ls Ow way tw tx ts _ x (vk - 1) sg row D2 ys hi hmany hm2 hcl hci hit B F2 X ⟨ow, nw, R, stv, ovs, ns, no, fo', _, _, c1, c2, c3', c4, c5, c6', c7', ?_, rfl, d1, d2, d3', d4, d5, d6', d7', hfo', by lia, by lia, hS, hst, hov, hfv, hca, hfl, hord, hoff⟩ ?_ ?_ hx0 hrow (by lia) (by lia) hys N2 (lapK_ne hord hoff) hD T hdp hun
    · k_extra "m_agree"
      rfl
    · rfl
    · rfl
end
section
theorem lap_then (w : World) (mean : ExcName → Option Value) (mg mb : Str → Option Value) (dp un : Nat) (gd : Option (List Code)) (a : Addr) (ccd : Value) (outer : List Env) (A₀ : Around) (base h₀ h : Heap) (L I : Addr) (it : Obj) (s : Shared) (E : Value → Shared → Prop) (c : LapC) (i : Nat) (m : Str → Option Value) (nw0 : List (Addr × Obj)) (tk0 : Nat) (d0 : Drawn) (l : Lev) (ls : List Lev) (Ow : List (List Int)) (v3 v6 v7 : Option Value)
    (hi : i ≤ 10) (hmany : c.Fs.length = c.many) (hm2 : 2 ≤ c.many) (hcl : c.cells.length ≤ 50) (hci : IntsAre c.cvs c.cells) (hit : it.cls = .type "range_iterator") (B : Below A₀ base outer h₀) (F6 : Fr h₀ L h m) (X : (Mine.hd.heap_39 w.params).In h₀) (hinv : LapAt w L I c i (100 + 10 * i + 10) false (l :: ls) Ow (l :: ls) Ow v3 v6 v7 m nw0) (N6 : News h₀ L h ((I, it) :: nw0)) (hnI : ∀ p ∈ nw0, p.1 ≠ I)
    (T : Top Mine.hd.view_39 (looseW Mine.hd.view_39 [Str.ofString "has_domains"]) mean mg mb h₀) (hdp : dp + 20 < recursionLimit) (hun : un + 1000 < cLine) :
    wpAny (model PySem.Challenge.rw_nz0015_01.row.prog w) (ktrTop dp un gd (Str.ofString "law") (lawS w.params) L a ccd (cellsFrom (L + 1) (lawS w.params).names []) outer) (execs (lapThen w.params) (envX (Str.ofString "law") (lawS w.params) L a ccd (cellsFrom (L + 1) (lawS w.params).names []))) (LapEnd w h₀ L I it s c (i + 1)) E { s with heap := h, toks := tk0, drawn := d0 } := by
  revert X T
  k_fill
  intro X T
  unfold lapThen lapB lawB lawS
  dsimp only [lawQ, List.drop]
  obtain ⟨ow, nw, R, stv, ovs, ns, no, fo, k, tk, c1, c2, c3, c4, c5, c6, c7, hm, rfl, d1, d2, d3, d4, d5, d6, d7, hfo, hk0, hk1, hS, hst, hov, hfv, hca, hfl, hord, hoff⟩ := id hinv
  obtain ⟨st, fd, sk, ca, fl, many, tm, nc, nf, cvs, fvs, cells, Fs⟩ := c
  dsimp only at hmany hm2 hcl hci N6 hnI d1 d2 d4 hm hfo hS hfv hca hfl hord hoff
  obtain ⟨g1, g2, g3, g4, g5, g6, g7, g8, g9, g0⟩ := id hord
  have F9 := overs F6 ([Str.ofString "lap", Str.ofString "way", Str.ofString "told", Str.ofString "kept", Str.ofString "first", Str.ofString "script"]) (m₀ := MB ⟨st, fd, sk, ca, fl, many, tm, nc, nf, cvs, fvs, cells, Fs⟩) hm [] trivial
  dsimp only [over, MB] at F9
  clear F6
  have hca2 := hS.sub _ hca
  have hfl2 := hS.sub _ hfl
  have hstl := hst.len
  obtain ⟨sf1, sf2, sf3, sf4⟩ := hS.facts
  have hmn : many ≤ 3 := by lia
  have hfvl := hfv.length
  have hovl := hov.length
  have howl := sf2.1
  obtain ⟨dx, t1, t2, t3, t4, t5, t6, t7, t8, Da, Fa, Ta, Ma, Na, sp, sfl, cv, n8, hin1, hin2⟩ := hS.inst
  k_steps
  refine Halt.go ?_
  obtain ⟨vs', q, rfl, hlq, hst'⟩ := hst
  have hK : Away (lapK L I fd sk ow it c1 c2 c3 c4 c5 c6 c7 fo (listOf (vs' ++ [Value.ref q.1]).toArray ns) (listOf ovs.toArray no)) nw := lapK_away hoff
  obtain ⟨⟨hqm, hqr, hqo⟩, hpop⟩ := popL_op w st (lapK L I fd sk ow it c1 c2 c3 c4 c5 c6 c7 fo (listOf (vs' ++ [Value.ref q.1]).toArray ns) (listOf ovs.toArray no)) R nw Fs Ow l ls i tk0 q hlq hS (by lia) hK
  have N7 : News h₀ L _ (lapK L I fd sk ow it c1 c2 c3 c4 c5 c6 c7 fo (listOf (vs' ++ [Value.ref q.1]).toArray ns) (listOf ovs.toArray no) ++ nw) := N6
  clear N6
  k_dflt (refine' Does.useO hpop ?k1 ?k2 ?k3 ?k4 ?k5 ?k6 ?k7 ?k8 ?_)
  case k1 => k_asm
  case k2 => k_asm
  case k3 => k_asm
  case k4 => exact N7
  case k5 => k_asm
  case k6 => first | exact rfl | assumption
  case k7 => ktr_room
  case k8 => ktr_units
  intro h9 tk9 F10 nw1 x1_i N10
  obtain ⟨S1, hK1⟩ := x1_i
  clear N7 F9 hin1 hin2 hfl2 hca2 hpop
  have hoffq : Offs (lapAs L I fd sk ow) (svO q :: nw1) := fun a ha p hp => by
    rcases List.mem_cons.mp hp with rfl | hp
    · exact hoff a ha _ hqm
    · exact lapK_offs (hK1.sub fun p hp => List.mem_append_left _ hp) a ha p hp
  have hqn : ∀ p ∈ nw1, @Ne Nat q.1 p.1 := hK1 (svO q) (List.mem_append_right _ (.head _))
  have N11 : News h₀ L h9 (lapK L I fd sk ow it c1 c2 c3 c4 c5 c6 c7 fo (listOf (vs' ++ [Value.ref q.1]).toArray ns) (listOf ovs.toArray no) ++ svO q :: nw1) := fun p hp => N10 p (by rw [List.append_assoc]; exact hp)
  clear N10
  generalize hnq : svO q :: nw1 = nwq at N11 hoffq
  simp only [lapK, List.cons_append, List.nil_append] at N11
  have hvl := hst'.len
  simp only [List.length_cons] at sf4
  k_steps
  rename News h₀ L _ _ => N13
  rename Fr h₀ L _ _ => F13
  rename (Obj.data _ = Data.cell (some (Value.ref q.1))) => d13
  rename Obj => o5
  subst hnq
  have hq1 : ∀ a ∈ lapAs L I fd sk ow, @Ne Nat a q.1 := fun a ha => hoffq a ha (svO q) (.head _)
  have hoff4 : Offs (lapAs L I fd sk q.1) nw1 := fun a ha p hp => by
    rcases List.mem_append.mp (show a ∈ [I, L + 1 + 1 + 1 + 1 + 1 + 1 + 1, L + 1 + 1 + 1 + 1 + 1 + 1, L + 1 + 1 + 1 + 1 + 1, L + 1 + 1 + 1 + 1, L + 1 + 1 + 1, L + 1 + 1, L + 1, fd, sk] ++ [q.1] from ha) with h | h
    · exact hoffq a (show a ∈ [I, L + 1 + 1 + 1 + 1 + 1 + 1 + 1, L + 1 + 1 + 1 + 1 + 1 + 1, L + 1 + 1 + 1 + 1 + 1, L + 1 + 1 + 1 + 1, L + 1 + 1 + 1, L + 1 + 1, L + 1, fd, sk] ++ [ow] from List.mem_append_left _ h) p (.tail _ hp)
    · rw [List.mem_singleton.mp h]; exact hqn p hp
  have N14 : News h₀ L _ (lapK L I fd sk q.1 it c1 c2 c3 c4 o5 c6 c7 fo (listOf vs'.toArray (ns + 1)) (listOf q.2.1.toArray q.2.2) ++ nw1) := fun p hp => N13 p (by
    iterate 10 (rcases List.mem_cons.mp hp with rfl | hp; k_memK)
    iterate 11 (refine List.mem_cons_of_mem _ ?_)
    exact hp)
  refine LapEnd.of (c := ⟨st, fd, sk, ca, fl, many, tm, nc, nf, cvs, fvs, cells, Fs⟩) (ow := q.1) F13 N14 ?_ d1 d2 d3 d4 d13 d6 d7 hfo hk0 (by lia) (S1.up (Nat.le_succ i)) hst' hqr hfv hca hfl ⟨g1, g2, ⟨hq1 _ (by k_memK), hq1 _ (by k_memK), hq1 _ (by k_memK), hq1 _ (by k_memK), hq1 _ (by k_memK), hq1 _ (by k_memK), hq1 _ (by k_memK)⟩, g4, g5, hq1 _ (by k_memK), hq1 _ (by k_memK), g8, g9, hq1 _ (by k_memK)⟩ hoff4
  k_extra "m_agree"
  rfl
end
theorem words_WF_1 : True := by
  k_with "exec If BoolOp" => (((k_here; refine Halt.mk ?_)))
  k_with "exec If" => (((k_here; (with_reducible show wpAny _ _ (exec (Stmt.If (Expr.BoolOp _ _ _) _ _ _) _) _ _ _); refine Halt.mk ?_)))
  trivial
section
/-- where the law stands once the test of the way was asked -/
def CondEnd (h₀ : Heap) (L : Addr) (m : Str → Option Value) (news : List (Addr × Obj)) (s : Shared) (P : Bool → Prop) (b : Bool) (s' : Shared) : Prop := P b ∧ ∃ h tk, s' = { s with heap := h, toks := tk } ∧ Fr h₀ L h m ∧ News h₀ L h news
theorem CondEnd.of {h₀ : Heap} {L : Addr} {m : Str → Option Value} {news all : List (Addr × Obj)} {s : Shared} {P : Bool → Prop} {b : Bool} {h : Heap} {tk : Nat} (hp : P b) (F : Fr h₀ L h m) (N : News h₀ L h all) (hs : ∀ p ∈ news, p ∈ all) : CondEnd h₀ L m news s P b { s with heap := h, toks := tk } := ⟨hp, h, tk, rfl, F, fun p h => N p (hs p h)⟩
theorem If_cond {M : Model} {A : Around} {E : Value → Shared → Prop} {s : Shared} {env : Env} {h₀ : Heap} {L : Addr} {m : Str → Option Value} {news : List (Addr × Obj)} {test : PySem.Expr} {body orelse : List Stmt} {pos : Pos} {Q : Flow → Shared → Prop} (_F : Fr h₀ L s.heap m) (_N : News h₀ L s.heap news) (P : Bool → Prop)
    (h : wpAny M A (isTrue test env (eval test env)) (CondEnd h₀ L m news s P) E s)
    (hb : ∀ b h tk, P b → Fr h₀ L h m → News h₀ L h news → if b then wpAny M A (execs body env) Q E { s with heap := h, toks := tk } else wpAny M A (execs orelse env) Q E { s with heap := h, toks := tk }) : wpAny M A (exec (.If test body orelse pos) env) Q E s := by
  refine wpAny_If (wpAny_mono h (fun b s2 hc => ?_) fun _ _ e => e)
  obtain ⟨hp, h2, tk2, rfl, F2, N2⟩ := hc
  exact hb b h2 tk2 hp F2 N2
theorem lap_turn (w : World) (mean : ExcName → Option Value) (mg mb : Str → Option Value) (dp un : Nat) (gd : Option (List Code)) (a : Addr) (ccd : Value) (outer : List Env) (A₀ : Around) (base h₀ h : Heap) (L I : Addr) (it : Obj) (s : Shared) (Q : Flow → Shared → Prop) (E : Value → Shared → Prop) (c : LapC) (i : Nat) (m : Str → Option Value) (nw0 : List (Addr × Obj)) (tl : Tok) (vl : Int) (tk0 : Nat) (d0 : Drawn)
    (hi : i ≤ 9) (hmany : c.Fs.length = c.many) (hm2 : 2 ≤ c.many) (hcl : c.cells.length ≤ 50) (hci : IntsAre c.cvs c.cells) (B : Below A₀ base outer h₀) (F6 : Fr h₀ L h (fun y => if y = Str.ofString "lap" then some (.int vl tl) else m y)) (X : (Mine.hd.heap_39 w.params).In h₀)
    (hit : it.cls = .type "range_iterator") (hinv : LapInv w L I c i m nw0) (N6 : News h₀ L h ((I, it) :: nw0)) (hnI : ∀ p ∈ nw0, p.1 ≠ I)
    (T : Top Mine.hd.view_39 (looseW Mine.hd.view_39 [Str.ofString "has_domains"]) mean mg mb h₀) (hdp : dp + 20 < recursionLimit) (hun : un + 1000 < cLine) :
    wpAny (model PySem.Challenge.rw_nz0015_01.row.prog w) (ktrTop dp un gd (Str.ofString "law") (lawS w.params) L a ccd (cellsFrom (L + 1) (lawS w.params).names []) outer) (execs (lapB w.params) (envX (Str.ofString "law") (lawS w.params) L a ccd (cellsFrom (L + 1) (lawS w.params).names []))) (TurnX h₀ L s I it (LapInv w L I c (i + 1)) Q) E { s with heap := h, toks := tk0, drawn := d0 } := by
  revert X T
  k_fill
  intro X T
  unfold lapB lawB lawS
  dsimp only [lawQ]
  obtain ⟨ls, Ow, v3, v6, v7, hinv⟩ := hinv
  obtain ⟨ow, nw, R, stv, ovs, ns, no, fo, k, tk, c1, c2, c3, c4, c5, c6, c7, hm, rfl, d1, d2, d3, d4, d5, d6, d7, hfo, hk0, hk1, hS, hst, hov, hfv, hca, hfl, hord, hoff⟩ := id hinv
  obtain ⟨st, fd, sk, ca, fl, many, tm, nc, nf, cvs, fvs, cells, Fs⟩ := c
  dsimp only at hmany hm2 hcl hci N6 hnI d1 d2 d4 hm hfo hS hfv hca hfl hord hoff
  obtain ⟨g1, g2, g3, g4, g5, g6, g7, g8, g9, g0⟩ := id hord
  have F9 := overs F6 ([Str.ofString "lap", Str.ofString "way", Str.ofString "told", Str.ofString "kept", Str.ofString "first", Str.ofString "script"]) (m₀ := MB ⟨st, fd, sk, ca, fl, many, tm, nc, nf, cvs, fvs, cells, Fs⟩) (fun z hz => by
      refine Eq.trans (if_neg ?_) (hm z hz)
      rintro rfl
      exact absurd hz (by decide)) [(Str.ofString "lap", Value.int vl tl)] ⟨rfl, trivial⟩
  dsimp only [over, MB] at F9
  clear F6
  have hca2 := hS.sub _ hca
  have hfl2 := hS.sub _ hfl
  have hstl := hst.len
  obtain ⟨sf1, sf2, sf3, sf4⟩ := hS.facts
  have hmn : many ≤ 3 := by lia
  have hmp : 0 < (many : Int) := by lia
  have hmq : (many : Int) < 100 := by lia
  have hk3 : k ≤ 300 := by lia
  have hfvl := hfv.length
  have hovl := hov.length
  k_steps
  refine Halt.go ?_
  rename_i h9 tk9 v t tk10 fo' hfo' hv0 hv1 h10 F10 N10
  refine If_cond F10 N10 (fun b => b = true → stv ≠ []) ?_ ?_
  · k_steps
    · rename News h₀ L _ _ => N11
      exact CondEnd.of (fun e => nomatch e) (by assumption) N11 fun p hp => .tail _ hp
    · rename News h₀ L _ _ => N11
      exact CondEnd.of (fun _ => by assumption) (by assumption) N11 fun p hp => .tail _ hp
    · exact CondEnd.of (fun e => nomatch e) (by assumption) N10 fun p hp => hp
  · intro b h2 tk2 hp F2 N2
    have hat : ∀ (kb : Int) m', 100 + 10 * (i : Int) + 1 ≤ kb → (∀ z, ([Str.ofString "lap", Str.ofString "way", Str.ofString "told", Str.ofString "kept", Str.ofString "first", Str.ofString "script"] : List Str).contains z = false → m' z = MB ⟨st, fd, sk, ca, fl, many, tm, nc, nf, cvs, fvs, cells, Fs⟩ z) → LapAt w L I ⟨st, fd, sk, ca, fl, many, tm, nc, nf, cvs, fvs, cells, Fs⟩ i kb false ls Ow ls Ow v3 v6 v7 m' _ := fun kb m' hkb hm' => ⟨ow, nw, R, stv, ovs, ns, no, fo', _, _, c1, c2, c3, c4, c5, c6, c7, hm', rfl, d1, d2, d3, d4, d5, d6, d7, hfo', by lia, by lia, hS, hst, hov, hfv, hca, hfl, hord, hoff⟩
    cases b with
    | false =>
      simp only [Bool.false_eq_true, if_false]
      refine wpAny_mono (lap_else1 w mean mg mb dp un gd a ccd outer A₀ base h₀ h2 L I it s E ⟨st, fd, sk, ca, fl, many, tm, nc, nf, cvs, fvs, cells, Fs⟩ i _ _ tk2 d0 ls Ow v3 v6 v7 v t (by lia) hmany hm2 hcl hci hit B F2 X (hat _ _ (Int.le_refl _) ?hm9) (by exact if_pos rfl) N2 (lapK_ne hord hoff) T hdp hun) (fun f s3 h3 => ?_) fun _ _ e => e
      case hm9 =>
        k_extra "m_agree"
        rfl
      obtain ⟨rfl, h4, tk4, d4', m4, nw4, F4, N4, hn4, hinv4⟩ := h3
      dsimp only
      exact wpAny_mono (lap_tail w mean mg mb dp un gd a ccd outer A₀ base h₀ h4 L I it s E ⟨st, fd, sk, ca, fl, many, tm, nc, nf, cvs, fvs, cells, Fs⟩ (i + 1) m4 nw4 tk4 d4' (by lia) hmany B F4 X hinv4 N4 hn4 T hdp hun) (fun f s4 h5 => by obtain ⟨rfl, h6⟩ := h5; exact h6) fun _ _ e => e
    | true =>
      simp only [if_true]
      cases ls with
      | nil =>
        exact absurd (List.eq_nil_of_length_eq_zero hstl) (hp rfl)
      | cons l ls =>
        refine wpAny_mono (lap_then w mean mg mb dp un gd a ccd outer A₀ base h₀ h2 L I it s E ⟨st, fd, sk, ca, fl, many, tm, nc, nf, cvs, fvs, cells, Fs⟩ i _ _ tk2 d0 l ls Ow v3 v6 v7 (by lia) hmany hm2 hcl hci hit B F2 X (hat _ _ (by lia) ?hm9) N2 (lapK_ne hord hoff) T hdp hun) (fun f s3 h3 => ?_) fun _ _ e => e
        case hm9 =>
          k_extra "m_agree"
          rfl
        obtain ⟨rfl, h4, tk4, d4', m4, nw4, F4, N4, hn4, hinv4⟩ := h3
        dsimp only
        exact wpAny_mono (lap_tail w mean mg mb dp un gd a ccd outer A₀ base h₀ h4 L I it s E ⟨st, fd, sk, ca, fl, many, tm, nc, nf, cvs, fvs, cells, Fs⟩ (i + 1) m4 nw4 tk4 d4' (by lia) hmany B F4 X hinv4 N4 hn4 T hdp hun) (fun f s4 h5 => by obtain ⟨rfl, h6⟩ := h5; exact h6) fun _ _ e => e
end
section
noncomputable def lawC (P : Params) : List Stmt := (lawB P).drop 5
/-- the loop over the laps -/
theorem law_c (w : World) (mean : ExcName → Option Value) (mg mb : Str → Option Value) (dp un : Nat) (gd : Option (List Code)) (a : Addr) (ccd : Value) (outer : List Env) (A₀ : Around) (base h₀ h : Heap) (L : Addr) (s : Shared) (Q : Flow → Shared → Prop) (E : Value → Shared → Prop) (c : LapC) (m : Str → Option Value) (tk0 : Nat) (d0 : Drawn)
    (ow : Addr) (nw R : List (Addr × Obj)) (Ow : List (List Int)) (ovs : List Value) (ns no : Nat) (fo : Obj) (k : Int) (tk : Tok) (c1 c2 c3 c4 c5 c6 c7 : Obj) (v3 v6 v7 : Option Value)
    (hmany : c.Fs.length = c.many) (hm2 : 2 ≤ c.many) (hcl : c.cells.length ≤ 50) (hci : IntsAre c.cvs c.cells) (B : Below A₀ base outer h₀) (F6 : Fr h₀ L h m) (X : (Mine.hd.heap_39 w.params).In h₀)
    (hm : ∀ z, ([Str.ofString "lap", Str.ofString "way", Str.ofString "told", Str.ofString "kept", Str.ofString "first", Str.ofString "script"] : List Str).contains z = false → m z = MB c z)
    (N6 : News h₀ L h ((L + 1 + 1 + 1 + 1 + 1 + 1 + 1, c7) :: (L + 1 + 1 + 1 + 1 + 1 + 1, c6) :: (L + 1 + 1 + 1 + 1 + 1, c5) :: (L + 1 + 1 + 1 + 1, c4) :: (L + 1 + 1 + 1, c3) :: (L + 1 + 1, c2) :: (L + 1, c1) :: (c.fd, fo) :: (c.sk, listOf (List.toArray []) ns) :: (ow, listOf ovs.toArray no) :: nw))
    (d1 : c1.data = .cell (some (.ref c.fd))) (d2 : c2.data = .cell (some (.ref c.st))) (d3 : c3.data = .cell v3) (d4 : c4.data = .cell (some (.ref c.fl))) (d5 : c5.data = .cell (some (.ref ow))) (d6 : c6.data = .cell v6) (d7 : c7.data = .cell v7)
    (hfo : fo.IsDictOf (PySem.strKind PySem.Challenge.rw_nz0015_01.row.prog w) [(Str.ofString "cells", .ref c.ca), (Str.ofString "at", .int k tk)]) (hk0 : 0 ≤ k) (hk1 : k ≤ 50)
    (hS : Sto w c.st R nw c.Fs Ow [] 0 false) (hov : RowsIn R ovs Ow) (hfv : RowsIn R c.fvs c.Fs) (hca : (c.ca, listOf c.cvs.toArray c.nc) ∈ R) (hfl : (c.fl, listOf c.fvs.toArray c.nf) ∈ R)
    (g1 : @LT.lt Nat _ (L + 7) c.fd) (g2 : @LT.lt Nat _ (L + 7) c.sk) (g3 : (@Ne Nat (L + 1) ow ∧ @Ne Nat (L + 1 + 1) ow ∧ @Ne Nat (L + 1 + 1 + 1) ow ∧ @Ne Nat (L + 1 + 1 + 1 + 1) ow ∧ @Ne Nat (L + 1 + 1 + 1 + 1 + 1) ow ∧ @Ne Nat (L + 1 + 1 + 1 + 1 + 1 + 1) ow ∧ @Ne Nat (L + 1 + 1 + 1 + 1 + 1 + 1 + 1) ow)) (g5 : @Ne Nat c.fd c.sk) (g6 : @Ne Nat c.fd ow) (g7 : @Ne Nat c.sk ow) (hoff : Offs [L + 1 + 1 + 1 + 1 + 1 + 1 + 1, L + 1 + 1 + 1 + 1 + 1 + 1, L + 1 + 1 + 1 + 1 + 1, L + 1 + 1 + 1 + 1, L + 1 + 1 + 1, L + 1 + 1, L + 1, c.fd, c.sk, ow] nw)
    (T : Top Mine.hd.view_39 (looseW Mine.hd.view_39 [Str.ofString "has_domains"]) mean mg mb h₀) (hdp : dp + 20 < recursionLimit) (hun : un + 1000 < cLine)
    (hret : ∀ h' tk d, (∀ b o, h₀.get? b = some o → h'.get? b = some o) → Q (.ret (.bool true)) { s with heap := h', toks := tk, drawn := d }) (hE : PassesOwn (model PySem.Challenge.rw_nz0015_01.row.prog w) (ktrTop dp un gd (Str.ofString "law") (lawS w.params) L a ccd (cellsFrom (L + 1) (lawS w.params).names []) outer) (envX (Str.ofString "law") (lawS w.params) L a ccd (cellsFrom (L + 1) (lawS w.params).names [])) E) :
    wpAny (model PySem.Challenge.rw_nz0015_01.row.prog w) (ktrTop dp un gd (Str.ofString "law") (lawS w.params) L a ccd (cellsFrom (L + 1) (lawS w.params).names []) outer) (execs (lawC w.params) (envX (Str.ofString "law") (lawS w.params) L a ccd (cellsFrom (L + 1) (lawS w.params).names []))) Q E { s with heap := h, toks := tk0, drawn := d0 } := by
  revert X T hE
  k_fill
  intro X T hE
  unfold lawC lawB lawS at *
  dsimp only [lawQ, List.drop] at *
  obtain ⟨st, fd, sk, ca, fl, many, tm, nc, nf, cvs, fvs, cells, Fs⟩ := c
  dsimp only at hmany hm2 hcl hci N6 d1 d2 d4 hm hfo hS hfv hca hfl g1 g2 g5 g6 g7 hoff
  have F9 := overs F6 ([Str.ofString "lap", Str.ofString "way", Str.ofString "told", Str.ofString "kept", Str.ofString "first", Str.ofString "script"]) (m₀ := MB ⟨st, fd, sk, ca, fl, many, tm, nc, nf, cvs, fvs, cells, Fs⟩) hm [] trivial
  dsimp only [over, MB] at F9
  clear F6
  have hca2 := hS.sub _ hca
  have hk3 : k ≤ 300 := Int.le_trans hk1 (by decide)
  k_steps
  rename_i h9 tk9 F11 v t tk10 fo' hfo' N12 hv0 hv1 h10 tk11 t1 u1 w1 hrg F10 N10 hkp
  obtain ⟨n, hn, hn6⟩ : ∃ n : Nat, 4 + v = (n : Int) ∧ n ≤ 6 := ⟨(4 + v).toNat, by lia, by lia⟩
  rw [hn] at hrg
  have hsr := small_range n (by lia)
  refine ⟨_, _, _, _, _, _, n, _, _, by rfl, hrg, hsr.1, hsr.2, F10, N10, fun I hI => ?_⟩
  have q1 : @LT.lt Nat _ (L + 7) I := hI _ (.head _)
  have q2 : @LT.lt Nat _ fd I := hI (fd, fo') (by k_memK)
  have q3 : @LT.lt Nat _ sk I := hI (sk, _) (by k_memK)
  have q4 : @LT.lt Nat _ ow I := hI (ow, _) (by k_memK)
  refine ⟨LapInv w L I ⟨st, fd, sk, ca, fl, many, tm, nc, nf, cvs, fvs, cells, Fs⟩, ⟨[], Ow, v3, v6, v7, ow, nw, R, [], ovs, ns, no, fo', _, _, c1, c2, c3, c4, c5, c6, c7, ?_, rfl, d1, d2, d3, d4, d5, d6, d7, hfo', by lia, by lia, hS, rfl, hov, hfv, hca, hfl, ⟨g1, g2, g3, q1, g5, g6, g7, Ne.symm (Nat.ne_of_lt q2), Ne.symm (Nat.ne_of_lt q3), Ne.symm (Nat.ne_of_lt q4)⟩, fun a ha p hp => ?_⟩, ?_, ?_⟩
  · k_extra "m_agree"
    rfl
  · rcases List.mem_cons.mp ha with rfl | ha
    · exact Ne.symm (Nat.ne_of_lt (hI p (List.mem_append_right [(L + 1 + 1 + 1 + 1 + 1 + 1 + 1, c7), (L + 1 + 1 + 1 + 1 + 1 + 1, c6), (L + 1 + 1 + 1 + 1 + 1, c5), (L + 1 + 1 + 1 + 1, c4), (L + 1 + 1 + 1, c3), (L + 1 + 1, c2), (L + 1, c1), (fd, fo'), (sk, _), (ow, _)] hp)))
    · exact hoff a ha p hp
  · rintro i m₁ news₁ t' h' tk' d' hi hJ hnI F N
    exact lap_turn w mean mg mb dp un gd a ccd outer A₀ base h₀ h' L I _ _ _ E ⟨st, fd, sk, ca, fl, many, tm, nc, nf, cvs, fvs, cells, Fs⟩ i m₁ news₁ t' _ tk' d' (by lia) hmany hm2 hcl hci B F X rfl hJ N hnI T hdp hun
  · rintro m' nw' h' tk' d' hJ F N
    dsimp only
    k_steps
    exact hret _ _ _ F.keep
end
section
theorem DomsIn.selT {news news' : List (Addr × Obj)} (h : ∀ p ∈ news, isT p → p ∈ news') : ∀ {vs : List Value} {ps : List (List (Int × Int))}, DomsIn news vs ps → DomsIn news' vs ps
  | [], [], _ => trivial
  | [], _ :: _, x => x.elim
  | _ :: _, [], x => x.elim
  | _ :: _, _ :: _, ⟨⟨a, e, hd⟩, r⟩ => ⟨⟨a, e, hd.selT h⟩, r.selT h⟩
section
variable {e1 e2 e3 e4 e5 e6 e7 f g q x d t n mm s i p : Addr × Obj} {fr Tu R0 : List (Addr × Obj)}
theorem law_perm : ∀ p ∈ e7 :: e6 :: e5 :: e4 :: e3 :: e2 :: e1 :: f :: g :: q :: x :: d :: t :: n :: mm :: (fr ++ (Tu ++ s :: i :: R0)),
    p ∈ q :: (fr ++ d :: i :: (Tu ++ e7 :: e6 :: e5 :: e4 :: e3 :: e2 :: e1 :: f :: g :: s :: x :: t :: mm :: n :: R0)) :=
  let P := fun p => p ∈ q :: (fr ++ d :: i :: (Tu ++ e7 :: e6 :: e5 :: e4 :: e3 :: e2 :: e1 :: f :: g :: s :: x :: t :: mm :: n :: R0))
  have z : ∀ p ∈ e7 :: e6 :: e5 :: e4 :: e3 :: e2 :: e1 :: f :: g :: s :: x :: t :: mm :: n :: R0, P p := fun p h => .tail _ (List.mem_append_right _ (.tail _ (.tail _ (List.mem_append_right _ h))))
  all_cons (P := P) (z _ (.head _)) (all_cons (P := P) (z _ (.tail _ (.head _))) (all_cons (P := P) (z _ (.tail _ (.tail _ (.head _)))) (all_cons (P := P) (z _ (.tail _ (.tail _ (.tail _ (.head _))))) (all_cons (P := P) (z _ (.tail _ (.tail _ (.tail _ (.tail _ (.head _)))))) (all_cons (P := P) (z _ (.tail _ (.tail _ (.tail _ (.tail _ (.tail _ (.head _))))))) (all_cons (P := P) (z _ (.tail _ (.tail _ (.tail _ (.tail _ (.tail _ (.tail _ (.head _)))))))) (all_cons (P := P) (z _ (.tail _ (.tail _ (.tail _ (.tail _ (.tail _ (.tail _ (.tail _ (.head _))))))))) (all_cons (P := P) (z _ (.tail _ (.tail _ (.tail _ (.tail _ (.tail _ (.tail _ (.tail _ (.tail _ (.head _)))))))))) (all_cons (P := P) (.head _) (all_cons (P := P) (z _ (.tail _ (.tail _ (.tail _ (.tail _ (.tail _ (.tail _ (.tail _ (.tail _ (.tail _ (.tail _ (.head _)))))))))))) (all_cons (P := P) (.tail _ (List.mem_append_right _ (.head _))) (all_cons (P := P) (z _ (.tail _ (.tail _ (.tail _ (.tail _ (.tail _ (.tail _ (.tail _ (.tail _ (.tail _ (.tail _ (.tail _ (.head _))))))))))))) (all_cons (P := P) (z _ (.tail _ (.tail _ (.tail _ (.tail _ (.tail _ (.tail _ (.tail _ (.tail _ (.tail _ (.tail _ (.tail _ (.tail _ (.tail _ (.head _))))))))))))))) (all_cons (P := P) (z _ (.tail _ (.tail _ (.tail _ (.tail _ (.tail _ (.tail _ (.tail _ (.tail _ (.tail _ (.tail _ (.tail _ (.tail _ (.head _)))))))))))))) (all_app (P := P) (fun p h => .tail _ (List.mem_append_left _ h)) (all_app (P := P) (fun p h => .tail _ (List.mem_append_right _ (.tail _ (.tail _ (List.mem_append_left _ h))))) (all_cons (P := P) (z _ (.tail _ (.tail _ (.tail _ (.tail _ (.tail _ (.tail _ (.tail _ (.tail _ (.tail _ (.head _))))))))))) (all_cons (P := P) (.tail _ (List.mem_append_right _ (.tail _ (.head _)))) fun p h => z p (.tail _ (.tail _ (.tail _ (.tail _ (.tail _ (.tail _ (.tail _ (.tail _ (.tail _ (.tail _ (.tail _ (.tail _ (.tail _ (.tail _ (h)))))))))))))))))))))))))))))))))
theorem law_all {P : Addr × Obj → Prop} (h1 : P x) (h2 : P d) (h3 : P t) (h4 : P n) (h5 : P mm) (h6 : ∀ p ∈ fr ++ Tu, P p) (h7 : P s) (h8 : P i) (h9 : ∀ p ∈ R0, P p) : ∀ p ∈ x :: d :: t :: n :: mm :: (fr ++ (Tu ++ s :: i :: R0)), P p :=
  all_cons h1 (all_cons h2 (all_cons h3 (all_cons h4 (all_cons h5 (all_app (fun p h => h6 p (List.mem_append_left _ h)) (all_app (fun p h => h6 p (List.mem_append_right _ h)) (all_cons h7 (all_cons h8 h9))))))))
theorem law_all2 {P : Addr × Obj → Prop} (h6 : ∀ p ∈ fr ++ Tu, P p) (h7 : P s) (h8 : P i) (h9 : ∀ p ∈ R0, P p) : ∀ p ∈ fr ++ (Tu ++ s :: i :: R0), P p :=
  all_app (fun p h => h6 p (List.mem_append_left _ h)) (all_app (fun p h => h6 p (List.mem_append_right _ h)) (all_cons h7 (all_cons h8 h9)))
end
theorem out_ne {a lo hi x : Nat} (h : a < lo ∨ hi < a) (h1 : lo ≤ x) (h2 : x ≤ hi) : a ≠ x := by
  rcases h with h | h
  · exact Nat.ne_of_lt (Nat.lt_of_lt_of_le h h1)
  · exact Nat.ne_of_gt (Nat.lt_of_le_of_lt h2 h)
end
theorem words_WH_1 : True := by
  k_with "exec For Name Name cons nil" => (((k_here; (rename Fr _ _ _ _ => lF'_w); (with_unfolding_all refine' For_turns lF'_w ?_; k_whole))); (try revert lF'_w); intros)
  trivial
section
noncomputable def lawD (P : Params) : List Stmt := (lawB P).drop 3
/-- what is left of the law once the first lists are drawn -/
theorem law_d (w : World) (mean : ExcName → Option Value) (mg mb : Str → Option Value) (dp un : Nat) (gd : Option (List Code)) (a : Addr) (ccd : Value) (outer : List Env) (A₀ : Around) (base h₀ h : Heap) (L : Addr) (s : Shared) (Q : Flow → Shared → Prop) (E : Value → Shared → Prop) (m : Str → Option Value) (tk0 : Nat) (d0 : Drawn)
    (st fd sk ca fl dx D Fi Tr Mk Nw : Addr) (many : Nat) (tm : Tok) (nc nf ns : Nat) (cvs fvs : List Value) (cells : List Int) (Fs : List (List Int)) (R0 : List (Addr × Obj)) (fo on : Obj) (k : Int) (tk t1 t2 t3 t4 t5 t6 t7 t8 sp : Tok) (cv : Value) (c1 c2 c3 c4 c5 c6 c7 : Obj) (v3 v5 v6 v7 : Option Value)
    (hmany : Fs.length = many) (hm2 : 2 ≤ many) (hm3 : many ≤ 3) (hcl : cells.length ≤ 50) (hci : IntsAre cvs cells) (B : Below A₀ base outer h₀) (F6 : Fr h₀ L h m) (X : (Mine.hd.heap_39 w.params).In h₀)
    (hm : ∀ z, ([Str.ofString "lap", Str.ofString "way", Str.ofString "told", Str.ofString "kept", Str.ofString "first", Str.ofString "script"] : List Str).contains z = false → m z = MB ⟨st, fd, sk, ca, fl, many, tm, nc, nf, cvs, fvs, cells, Fs⟩ z)
    (N6 : News h₀ L h ((D, listOf (List.toArray []) 0) :: (Fi, listOf (List.toArray []) 0) :: (L + 1 + 1 + 1 + 1 + 1 + 1 + 1, c7) :: (L + 1 + 1 + 1 + 1 + 1 + 1, c6) :: (L + 1 + 1 + 1 + 1 + 1, c5) :: (L + 1 + 1 + 1 + 1, c4) :: (L + 1 + 1 + 1, c3) :: (L + 1 + 1, c2) :: (L + 1, c1) :: (fd, fo) :: (sk, listOf (List.toArray []) ns) :: (st, instObj 270 dx) :: (dx, stD w.params t1 t2 t3 t4 t5 t6 t7 t8 D Fi Tr Mk Nw sp false cv 8) :: (Tr, listOf (List.toArray []) 0) :: (Mk, listOf (List.toArray []) 0) :: (Nw, on) :: R0))
    (d1 : c1.data = .cell (some (.ref fd))) (d2 : c2.data = .cell (some (.ref st))) (d3 : c3.data = .cell v3) (d4 : c4.data = .cell (some (.ref fl))) (d5 : c5.data = .cell v5) (d6 : c6.data = .cell v6) (d7 : c7.data = .cell v7)
    (hfo : fo.IsDictOf (PySem.strKind PySem.Challenge.rw_nz0015_01.row.prog w) [(Str.ofString "cells", .ref ca), (Str.ofString "at", .int k tk)]) (hk0 : 0 ≤ k) (hk1 : k ≤ 50)
    (hon : on.IsDictOf (PySem.intKind PySem.Challenge.rw_nz0015_01.row.prog w) ([] : List (Int × Value))) (hFs : ∀ f ∈ Fs, f.Sublist [0, 1, 2, 3, 4, 5] ∧ f ≠ [])
    (hfv : RowsIn R0 fvs Fs) (hca : (ca, listOf cvs.toArray nc) ∈ R0) (hfl : (fl, listOf fvs.toArray nf) ∈ R0)
    (o1 : @LT.lt Nat _ (L + 7) fd) (o2 : @LT.lt Nat _ fd dx) (o3 : @LT.lt Nat _ dx st) (o4 : @LT.lt Nat _ st D) (o5 : @LT.lt Nat _ D Fi) (o6 : @LT.lt Nat _ Fi Tr) (o7 : @LT.lt Nat _ Tr Mk) (o8 : @LT.lt Nat _ Mk Nw) (o9 : @LT.lt Nat _ Nw sk)
    (hoff : Offs [L + 1 + 1 + 1 + 1 + 1 + 1 + 1, L + 1 + 1 + 1 + 1 + 1 + 1, L + 1 + 1 + 1 + 1 + 1, L + 1 + 1 + 1 + 1, L + 1 + 1 + 1, L + 1 + 1, L + 1, fd, sk, dx, D, Fi, Tr, Mk, Nw] R0)
    (T : Top Mine.hd.view_39 (looseW Mine.hd.view_39 [Str.ofString "has_domains"]) mean mg mb h₀) (hdp : dp + 20 < recursionLimit) (hun : un + 1000 < cLine)
    (hret : ∀ h' tk d, (∀ b o, h₀.get? b = some o → h'.get? b = some o) → Q (.ret (.bool true)) { s with heap := h', toks := tk, drawn := d }) (hE : PassesOwn (model PySem.Challenge.rw_nz0015_01.row.prog w) (ktrTop dp un gd (Str.ofString "law") (lawS w.params) L a ccd (cellsFrom (L + 1) (lawS w.params).names []) outer) (envX (Str.ofString "law") (lawS w.params) L a ccd (cellsFrom (L + 1) (lawS w.params).names [])) E) :
    wpAny (model PySem.Challenge.rw_nz0015_01.row.prog w) (ktrTop dp un gd (Str.ofString "law") (lawS w.params) L a ccd (cellsFrom (L + 1) (lawS w.params).names []) outer) (execs (lawD w.params) (envX (Str.ofString "law") (lawS w.params) L a ccd (cellsFrom (L + 1) (lawS w.params).names []))) Q E { s with heap := h, toks := tk0, drawn := d0 } := by
  have hE0 := hE
  revert X T hE
  k_fill
  intro X T hE
  unfold lawS at hE
  dsimp only [lawQ] at hE
  unfold lawD lawB lawS
  dsimp only [lawQ, List.drop]
  have F9 := overs F6 ([Str.ofString "lap", Str.ofString "way", Str.ofString "told", Str.ofString "kept", Str.ofString "first", Str.ofString "script"]) (m₀ := MB ⟨st, fd, sk, ca, fl, many, tm, nc, nf, cvs, fvs, cells, Fs⟩) hm [] trivial
  dsimp only [over, MB] at F9
  clear F6
  have l_fd_st : @LT.lt Nat _ fd st := Nat.lt_trans o2 o3
  have l_dx_D : @LT.lt Nat _ dx D := Nat.lt_trans o3 o4
  have l_st_Fi : @LT.lt Nat _ st Fi := Nat.lt_trans o4 o5
  have l_D_Tr : @LT.lt Nat _ D Tr := Nat.lt_trans o5 o6
  have l_Fi_Mk : @LT.lt Nat _ Fi Mk := Nat.lt_trans o6 o7
  have l_Tr_Nw : @LT.lt Nat _ Tr Nw := Nat.lt_trans o7 o8
  have l_Mk_sk : @LT.lt Nat _ Mk sk := Nat.lt_trans o8 o9
  have l_fd_D : @LT.lt Nat _ fd D := Nat.lt_trans l_fd_st o4
  have l_dx_Fi : @LT.lt Nat _ dx Fi := Nat.lt_trans l_dx_D o5
  have l_st_Tr : @LT.lt Nat _ st Tr := Nat.lt_trans l_st_Fi o6
  have l_D_Mk : @LT.lt Nat _ D Mk := Nat.lt_trans l_D_Tr o7
  have l_Fi_Nw : @LT.lt Nat _ Fi Nw := Nat.lt_trans l_Fi_Mk o8
  have l_Tr_sk : @LT.lt Nat _ Tr sk := Nat.lt_trans l_Tr_Nw o9
  have l_fd_Fi : @LT.lt Nat _ fd Fi := Nat.lt_trans l_fd_D o5
  have l_dx_Tr : @LT.lt Nat _ dx Tr := Nat.lt_trans l_dx_Fi o6
  have l_st_Mk : @LT.lt Nat _ st Mk := Nat.lt_trans l_st_Tr o7
  have l_D_Nw : @LT.lt Nat _ D Nw := Nat.lt_trans l_D_Mk o8
  have l_Fi_sk : @LT.lt Nat _ Fi sk := Nat.lt_trans l_Fi_Nw o9
  have l_fd_Tr : @LT.lt Nat _ fd Tr := Nat.lt_trans l_fd_Fi o6
  have l_dx_Mk : @LT.lt Nat _ dx Mk := Nat.lt_trans l_dx_Tr o7
  have l_st_Nw : @LT.lt Nat _ st Nw := Nat.lt_trans l_st_Mk o8
  have l_D_sk : @LT.lt Nat _ D sk := Nat.lt_trans l_D_Nw o9
  have l_fd_Mk : @LT.lt Nat _ fd Mk := Nat.lt_trans l_fd_Tr o7
  have l_dx_Nw : @LT.lt Nat _ dx Nw := Nat.lt_trans l_dx_Mk o8
  have l_st_sk : @LT.lt Nat _ st sk := Nat.lt_trans l_st_Nw o9
  have l_fd_Nw : @LT.lt Nat _ fd Nw := Nat.lt_trans l_fd_Mk o8
  have l_dx_sk : @LT.lt Nat _ dx sk := Nat.lt_trans l_dx_Nw o9
  have l_fd_sk : @LT.lt Nat _ fd sk := Nat.lt_trans l_fd_Nw o9
  have p_dx : @LT.lt Nat _ (L + 7) dx := Nat.lt_trans o1 o2
  have p_st : @LT.lt Nat _ (L + 7) st := Nat.lt_trans o1 l_fd_st
  have p_D : @LT.lt Nat _ (L + 7) D := Nat.lt_trans o1 l_fd_D
  have p_Fi : @LT.lt Nat _ (L + 7) Fi := Nat.lt_trans o1 l_fd_Fi
  have p_Tr : @LT.lt Nat _ (L + 7) Tr := Nat.lt_trans o1 l_fd_Tr
  have p_Mk : @LT.lt Nat _ (L + 7) Mk := Nat.lt_trans o1 l_fd_Mk
  have p_Nw : @LT.lt Nat _ (L + 7) Nw := Nat.lt_trans o1 l_fd_Nw
  have p_sk : @LT.lt Nat _ (L + 7) sk := Nat.lt_trans o1 l_fd_sk
  obtain ⟨bs, hbs⟩ : ∃ bs, bs = (L + 1 + 1 + 1 + 1 + 1 + 1 + 1, c7) :: (L + 1 + 1 + 1 + 1 + 1 + 1, c6) :: (L + 1 + 1 + 1 + 1 + 1, c5) :: (L + 1 + 1 + 1 + 1, c4) :: (L + 1 + 1 + 1, c3) :: (L + 1 + 1, c2) :: (L + 1, c1) :: (fd, fo) :: (sk, listOf (List.toArray []) ns) :: (st, instObj 270 dx) :: (dx, stD w.params t1 t2 t3 t4 t5 t6 t7 t8 D Fi Tr Mk Nw sp false cv 8) :: (Tr, listOf (List.toArray []) 0) :: (Mk, listOf (List.toArray []) 0) :: (Nw, on) :: R0 := ⟨_, rfl⟩
  rw [← hbs] at N6
  have hc2 : (L + 1 + 1, c2) ∈ bs := by rw [hbs]; k_memK
  have hc4 : (L + 1 + 1 + 1 + 1, c4) ∈ bs := by rw [hbs]; k_memK
  have hst : (st, instObj 270 dx) ∈ bs := by rw [hbs]; k_memK
  have hdx : (dx, stD w.params t1 t2 t3 t4 t5 t6 t7 t8 D Fi Tr Mk Nw sp false cv 8) ∈ bs := by rw [hbs]; k_memK
  have hRb : ∀ p ∈ R0, p ∈ bs := fun p hp => by
    rw [hbs]
    iterate 14 (refine List.mem_cons_of_mem _ ?_)
    exact hp
  have hflb := hRb _ hfl
  have hbD : ∀ p ∈ bs, @Ne Nat p.1 D := by
    rw [hbs]
    iterate 14 (refine all_cons (by dsimp only; k_ne) ?_)
    exact fun p hp => Ne.symm (hoff D (by k_memK) p hp)
  have hbF : ∀ p ∈ bs, @Ne Nat p.1 Fi := by
    rw [hbs]
    iterate 14 (refine all_cons (by dsimp only; k_ne) ?_)
    exact fun p hp => Ne.symm (hoff Fi (by k_memK) p hp)
  have hfvl := hfv.length
  k_steps
  rename Fr h₀ L _ _ => F10
  refine iter_listTurns (by rfl) F10 N6 (show (fl, listOf fvs.toArray nf) ∈ _ by k_memK) rfl rfl (fun I hI => ?_)
  refine items_ind (fun rem m news => (∀ z, ([Str.ofString "lap", Str.ofString "way", Str.ofString "told", Str.ofString "kept", Str.ofString "first", Str.ofString "script"] : List Str).contains z = false → m z = MB ⟨st, fd, sk, ca, fl, many, tm, nc, nf, cvs, fvs, cells, Fs⟩ z) ∧
    Ex6 fun Tu dv left done nD nF => news = (D, listOf dv.toArray nD) :: (Fi, listOf dv.toArray nF) :: (Tu ++ bs) ∧ (∀ p ∈ Tu, isT p) ∧ DomsIn (Tu ++ bs) dv (done.map ofVals) ∧ RowsIn bs rem left ∧ done ++ left = Fs) ?_ ?_ _ _ _ ?_
  · intro m news x1_i
    obtain ⟨hm, Tu, dv, left, done, nD, nF, rfl, hT, hD, hR, hdl⟩ := x1_i
    refine ItemsRest.zero (fun h tk F N => ?_)
    have F5 := forget _ F hm
    clear F
    replace N : News h₀ L h ((D, listOf dv.toArray nD) :: (Fi, listOf dv.toArray nF) :: (Tu ++ bs)) := N
    dsimp only
    obtain rfl : left = [] := by cases left with
      | nil => rfl
      | cons _ _ => exact hR.elim
    rw [List.append_nil] at hdl
    rw [hdl] at hD
    k_steps
    refine Halt.go ?_
    refine wpAny_Assign_Name ?_ (by with_unfolding_all rfl)
    k_steps
    refine Halt.go ?_
    k_dflt (refine' comp_eval ?c0 ?c1 ?c2 ?c3 ?c4 ?_ ?c5; (case c0 => k_asm); (case c1 => with_unfolding_all rfl); (case c2 => decide); (case c3 => rfl); (case c4 => decide); (case c5 => (intro _; with_unfolding_all rfl)))
    k_steps
    rename Fr h₀ L _ _ => F12
    refine CompGo.list (by rfl) F12 N (k := nf) (vs := fvs) (by k_memK) (by rw [sizeLine_eq]; lia) (fun j ys nw' => ∃ fr, nw' = fr ++ ((D, listOf dv.toArray nD) :: (Fi, listOf dv.toArray nF) :: (Tu ++ bs)) ∧ Fresh fr ((D, listOf dv.toArray nD) :: (Fi, listOf dv.toArray nF) :: (Tu ++ bs)) ∧ RowsIn fr ys (Fs.take j)) ⟨[], rfl, trivial, trivial⟩ ?_ ?_ ?_
    · intro j ys nw' x1_i
      obtain ⟨fr, rfl, _⟩ := x1_i
      exact List.mem_append_right _ (by k_memK)
    · intro I2 C2 D2 j ys nw2 v oI oC m₂ h2 tk2 E2 hIC hID hCD hv x1_i
      obtain ⟨fr, rfl, hfr, hrw⟩ := x1_i
      intro F11 N13 hC2 off2
      have hj : j < Fs.length := by rw [← hfvl]; exact (List.getElem?_eq_some_iff.mp hv).1
      have e2 : Fs[j]? = some Fs[j] := List.getElem?_eq_getElem hj
      have hrf := (hFs Fs[j] (List.getElem_mem hj)).1
      generalize Fs[j] = row at e2 hrf
      obtain ⟨ra, hra, rvs, rn, hrm, hrI⟩ := hfv.get e2
      obtain rfl : v = .ref ra := by rw [hra] at hv; exact (Option.some.inj hv).symm
      have hrm2 := hRb _ hrm
      have hrl := hrI.length
      have hr5 := hrf.length_le
      have hrl2 : rvs.length ≤ 1000 := by rw [hrl]; exact Nat.le_trans hr5 (by decide)
      clear N
      refine comp_name F11 N13 hC2 hIC (off_C off2 hCD) (by rfl) (by rfl) (fun h5 tk5 oC5 F13 N14 hC5 => ?_)
      refine wpAny_tests_nil ?_
      simp only [if_true]
      k_steps
      rename News h₀ L _ _ => N15
      rename Fr h₀ L _ _ => F15
      rename (I2 < _ ∧ C2 < _ ∧ D2 < _ ∧ _) => l15
      refine TurnOk.mk1 (rest := fun nw' => ∃ fr, nw' = fr ++ _ ∧ Fresh fr _ ∧ RowsIn fr _ (Fs.take (j + 1))) F15 N15 hC5 l15 off2 ⟨_ :: fr, rfl, ⟨fun p hp => Ne.symm (allNe_of l15.2.2.2 p hp), hfr⟩, ?_⟩
      rw [take_snoc e2]
      exact (hrw.mono fun p hp => .tail _ hp).snoc ⟨rvs, _, .head _, hrI⟩
    · intro D2 ys nw2 off2 x1_i
      obtain ⟨fr, rfl, hfr, hrw⟩ := x1_i
      intro h2 tk2 F11 N13
      have hlt : Fs.take fvs.length = Fs := by rw [hfvl, List.take_length]
      rw [hlt] at hrw
      have hD2 := off1_nes off2
      replace N13 : News h₀ L h2 ((D2, LCg.lst ys) :: (fr ++ (D, listOf dv.toArray nD) :: (Fi, listOf dv.toArray nF) :: (Tu ++ bs))) := N13
      have N14 : News h₀ L h2 ((L + 1 + 1 + 1 + 1 + 1 + 1 + 1, c7) :: (L + 1 + 1 + 1 + 1 + 1 + 1, c6) :: (L + 1 + 1 + 1 + 1 + 1, c5) :: (L + 1 + 1 + 1 + 1, c4) :: (L + 1 + 1 + 1, c3) :: (L + 1 + 1, c2) :: (L + 1, c1) :: (fd, fo) :: (sk, listOf (List.toArray []) ns) :: (D2, LCg.lst ys) :: (dx, stD w.params t1 t2 t3 t4 t5 t6 t7 t8 D Fi Tr Mk Nw sp false cv 8) :: (D, listOf dv.toArray nD) :: (Tr, listOf (List.toArray []) 0) :: (Nw, on) :: (Mk, listOf (List.toArray []) 0) :: (svs [] ++ (fr ++ (Tu ++ (st, instObj 270 dx) :: (Fi, listOf dv.toArray nF) :: R0)))) := fun p hp => N13 p (by rw [hbs]; exact law_perm p hp)
      have hbb : ∀ p ∈ bs, p ∈ (D, listOf dv.toArray nD) :: (Fi, listOf dv.toArray nF) :: (Tu ++ bs) := fun p hp => .tail _ (.tail _ (List.mem_append_right _ hp))
      have hfT : ∀ p ∈ fr ++ Tu, ∀ e ∈ (D, listOf dv.toArray nD) :: (Fi, listOf dv.toArray nF) :: (Tu ++ bs), ¬ isT e → @Ne Nat p.1 e.1 := fun p hp e he hn => by
        rcases List.mem_append.mp hp with hp | hp
        · exact hfr.ne p hp e he
        · exact isT.away (hT p hp) N13 (.tail _ (List.mem_append_right _ (.tail _ (.tail _ (List.mem_append_left _ hp))))) (.tail _ (List.mem_append_right _ he)) hn
      have hTo : ∀ p ∈ bs, isT p → p ∈ R0 := by
        rw [hbs]
        refine all_cons (fun ht => absurd ht (not_isT_cell d7)) (all_cons (fun ht => absurd ht (not_isT_cell d6)) (all_cons (fun ht => absurd ht (not_isT_cell d5)) (all_cons (fun ht => absurd ht (not_isT_cell d4)) (all_cons (fun ht => absurd ht (not_isT_cell d3)) (all_cons (fun ht => absurd ht (not_isT_cell d2)) (all_cons (fun ht => absurd ht (not_isT_cell d1)) (all_cons (fun ht => ?_) (all_cons (fun ht => absurd ht (not_isT_list rfl)) (all_cons (fun ht => ?_) (all_cons (fun ht => absurd ht (not_isT_dict rfl)) (all_cons (fun ht => absurd ht (not_isT_list rfl)) (all_cons (fun ht => absurd ht (not_isT_list rfl)) (all_cons (fun ht => ?_) fun p hp _ => hp)))))))))))))
        · obtain ⟨_, _, hx, _⟩ := hfo
          exact absurd ht (not_isT_dict hx.1)
        · obtain ⟨us, kk, e⟩ := ht
          exact absurd (congrArg Obj.cls e) (show Value.ref 270 ≠ Value.type "tuple" from fun e => nomatch e)
        · obtain ⟨_, _, hx, _⟩ := hon
          exact absurd ht (not_isT_dict hx.1)
      have hDR : DomsIn (fr ++ (Tu ++ (st, instObj 270 dx) :: (Fi, listOf dv.toArray nF) :: R0)) dv (Fs.map ofVals) := hD.selT fun p hp ht => by
        refine List.mem_append_right _ ?_
        rcases List.mem_append.mp hp with hp | hp
        · exact List.mem_append_left _ hp
        · exact List.mem_append_right _ (.tail _ (.tail _ (hTo p hp ht)))
      have hR0 : ∀ p ∈ R0, p ∈ fr ++ (Tu ++ (st, instObj 270 dx) :: (Fi, listOf dv.toArray nF) :: R0) := fun p hp => List.mem_append_right _ (List.mem_append_right _ (.tail _ (.tail _ hp)))
      have bdx : (dx, stD w.params t1 t2 t3 t4 t5 t6 t7 t8 D Fi Tr Mk Nw sp false cv 8) ∈ (D, listOf dv.toArray nD) :: (Fi, listOf dv.toArray nF) :: (Tu ++ bs) := hbb _ hdx
      have bTr : (Tr, listOf (List.toArray []) 0) ∈ (D, listOf dv.toArray nD) :: (Fi, listOf dv.toArray nF) :: (Tu ++ bs) := hbb _ (by rw [hbs]; k_memK)
      have bMk : (Mk, listOf (List.toArray []) 0) ∈ (D, listOf dv.toArray nD) :: (Fi, listOf dv.toArray nF) :: (Tu ++ bs) := hbb _ (by rw [hbs]; k_memK)
      have bNw : (Nw, on) ∈ (D, listOf dv.toArray nD) :: (Fi, listOf dv.toArray nF) :: (Tu ++ bs) := hbb _ (by rw [hbs]; k_memK)
      have nNw : ¬ isT (Nw, on) := by
        obtain ⟨_, _, hx, _⟩ := hon
        exact not_isT_dict hx.1
      have hS : Sto w st (fr ++ (Tu ++ (st, instObj 270 dx) :: (Fi, listOf dv.toArray nF) :: R0)) ((dx, stD w.params t1 t2 t3 t4 t5 t6 t7 t8 D Fi Tr Mk Nw sp false cv 8) :: (D, listOf dv.toArray nD) :: (Tr, listOf (List.toArray []) 0) :: (Nw, on) :: (Mk, listOf (List.toArray []) 0) :: (svs [] ++ (fr ++ (Tu ++ (st, instObj 270 dx) :: (Fi, listOf dv.toArray nF) :: R0)))) Fs Fs [] 0 false := ⟨dx, D, Fi, Tr, Mk, Nw, dv, dv, [], [], on, [], nD, nF, 0, 0, t1, t2, t3, t4, t5, t6, t7, t8, sp, false, cv, rfl,
        { ist := List.mem_append_right _ (List.mem_append_right _ (.head _)), ifi := List.mem_append_right _ (List.mem_append_right _ (.tail _ (.head _))), dfs := hDR, dom := hDR, fok := fun f hf => (hFs f hf).1,
          ook := ⟨rfl, fun i f o e1 e2 => by
            obtain rfl := Option.some.inj (e1.symm.trans e2)
            exact ⟨List.Sublist.refl _, (hFs f (List.mem_of_getElem? e1)).2⟩⟩, fln := by lia, his := ⟨rfl, rfl⟩, ond := hon, kvl := Nat.le_refl _, lsl := Nat.le_refl _,
          e1 := by k_ne, e2 := by k_ne, e3 := by k_ne, e4 := by k_ne, e5 := by k_ne, e6 := by k_ne, e7 := by k_ne, e8 := by k_ne, e9 := by k_ne, ea := by k_ne,
          off := law_all2 (fun p h => ⟨hfT p h _ bdx (not_isT_dict rfl), hfT p h _ (.head _) (not_isT_list rfl), hfT p h _ bTr (not_isT_list rfl), hfT p h _ bNw nNw, hfT p h _ bMk (not_isT_list rfl)⟩)
            ⟨by k_ne, by k_ne, by k_ne, by k_ne, by k_ne⟩ ⟨by k_ne, by k_ne, by k_ne, by k_ne, by k_ne⟩
            (fun p h => ⟨Ne.symm (hoff dx (by k_memK) p h), Ne.symm (hoff D (by k_memK) p h), Ne.symm (hoff Tr (by k_memK) p h), Ne.symm (hoff Nw (by k_memK) p h), Ne.symm (hoff Mk (by k_memK) p h)⟩),
          sok := trivial }⟩
      have hKb : ∀ e ∈ [(L + 1 + 1 + 1 + 1 + 1 + 1 + 1, c7), (L + 1 + 1 + 1 + 1 + 1 + 1, c6), (L + 1 + 1 + 1 + 1 + 1, c5), (L + 1 + 1 + 1 + 1, c4), (L + 1 + 1 + 1, c3), (L + 1 + 1, c2), (L + 1, c1), (fd, fo), (sk, listOf (List.toArray []) ns)], e ∈ (D, listOf dv.toArray nD) :: (Fi, listOf dv.toArray nF) :: (Tu ++ bs) := fun e he => hbb e (by rw [hbs]; exact List.mem_append_left _ he)
      have hlow : ∀ e ∈ [(L + 1 + 1 + 1 + 1 + 1 + 1 + 1, c7), (L + 1 + 1 + 1 + 1 + 1 + 1, c6), (L + 1 + 1 + 1 + 1 + 1, c5), (L + 1 + 1 + 1 + 1, c4), (L + 1 + 1 + 1, c3), (L + 1 + 1, c2), (L + 1, c1), (fd, fo), (sk, listOf (List.toArray []) ns)], @LT.lt Nat _ e.1 dx ∨ @LT.lt Nat _ Nw e.1 := by
        iterate 8 (refine all_cons (.inl (by dsimp only; walk_at "k_lts")) ?_)
        exact all_cons (.inr o9) fun _ hp => nomatch hp
      have hKt : ∀ e ∈ [(L + 1 + 1 + 1 + 1 + 1 + 1 + 1, c7), (L + 1 + 1 + 1 + 1 + 1 + 1, c6), (L + 1 + 1 + 1 + 1 + 1, c5), (L + 1 + 1 + 1 + 1, c4), (L + 1 + 1 + 1, c3), (L + 1 + 1, c2), (L + 1, c1), (fd, fo), (sk, listOf (List.toArray []) ns)], ¬ isT e := by
        refine all_cons (not_isT_cell d7) (all_cons (not_isT_cell d6) (all_cons (not_isT_cell d5) (all_cons (not_isT_cell d4) (all_cons (not_isT_cell d3) (all_cons (not_isT_cell d2) (all_cons (not_isT_cell d1) (all_cons ?_ (all_cons (not_isT_list rfl) fun _ hp => nomatch hp))))))))
        obtain ⟨_, _, hx, _⟩ := hfo
        exact not_isT_dict hx.1
      have hA1 : ∀ e ∈ [(L + 1 + 1 + 1 + 1 + 1 + 1 + 1, c7), (L + 1 + 1 + 1 + 1 + 1 + 1, c6), (L + 1 + 1 + 1 + 1 + 1, c5), (L + 1 + 1 + 1 + 1, c4), (L + 1 + 1 + 1, c3), (L + 1 + 1, c2), (L + 1, c1), (fd, fo), (sk, listOf (List.toArray []) ns)], ∀ p ∈ (dx, stD w.params t1 t2 t3 t4 t5 t6 t7 t8 D Fi Tr Mk Nw sp false cv 8) :: (D, listOf dv.toArray nD) :: (Tr, listOf (List.toArray []) 0) :: (Nw, on) :: (Mk, listOf (List.toArray []) 0) :: (svs [] ++ (fr ++ (Tu ++ (st, instObj 270 dx) :: (Fi, listOf dv.toArray nF) :: R0))), @Ne Nat e.1 p.1 := fun e he =>
        have q := hlow e he
        law_all (out_ne q (Nat.le_refl _) (Nat.le_of_lt l_dx_Nw)) (out_ne q (Nat.le_of_lt l_dx_D) (Nat.le_of_lt l_D_Nw)) (out_ne q (Nat.le_of_lt l_dx_Tr) (Nat.le_of_lt l_Tr_Nw)) (out_ne q (Nat.le_of_lt l_dx_Nw) (Nat.le_refl _)) (out_ne q (Nat.le_of_lt l_dx_Mk) (Nat.le_of_lt o8))
          (fun p h => Ne.symm (hfT p h e (hKb e he) (hKt e he))) (out_ne q (Nat.le_of_lt o3) (Nat.le_of_lt l_st_Nw)) (out_ne q (Nat.le_of_lt l_dx_Fi) (Nat.le_of_lt l_Fi_Nw)) (fun p h => hoff e.1 (List.mem_append_left [dx, D, Fi, Tr, Mk, Nw] (List.mem_map_of_mem he)) p h)
      have hA2 : ∀ p ∈ (dx, stD w.params t1 t2 t3 t4 t5 t6 t7 t8 D Fi Tr Mk Nw sp false cv 8) :: (D, listOf dv.toArray nD) :: (Tr, listOf (List.toArray []) 0) :: (Nw, on) :: (Mk, listOf (List.toArray []) 0) :: (svs [] ++ (fr ++ (Tu ++ (st, instObj 270 dx) :: (Fi, listOf dv.toArray nF) :: R0))), @Ne Nat D2 p.1 :=
        law_all (hD2 _ (List.mem_append_right _ bdx)) (hD2 _ (List.mem_append_right _ (.head _))) (hD2 _ (List.mem_append_right _ bTr)) (hD2 _ (List.mem_append_right _ bNw)) (hD2 _ (List.mem_append_right _ bMk))
          (all_app (fun p h => hD2 p (List.mem_append_left _ h)) fun p h => hD2 p (List.mem_append_right _ (.tail _ (.tail _ (List.mem_append_left _ h)))))
          (hD2 _ (List.mem_append_right _ (hbb _ hst))) (hD2 _ (List.mem_append_right _ (.tail _ (.head _)))) (fun p h => hD2 p (List.mem_append_right _ (hbb p (hRb p h))))
      have hoffF : Offs [L + 1 + 1 + 1 + 1 + 1 + 1 + 1, L + 1 + 1 + 1 + 1 + 1 + 1, L + 1 + 1 + 1 + 1 + 1, L + 1 + 1 + 1 + 1, L + 1 + 1 + 1, L + 1 + 1, L + 1, fd, sk, D2] ((dx, stD w.params t1 t2 t3 t4 t5 t6 t7 t8 D Fi Tr Mk Nw sp false cv 8) :: (D, listOf dv.toArray nD) :: (Tr, listOf (List.toArray []) 0) :: (Nw, on) :: (Mk, listOf (List.toArray []) 0) :: (svs [] ++ (fr ++ (Tu ++ (st, instObj 270 dx) :: (Fi, listOf dv.toArray nF) :: R0)))) := Offs.of (K := [(L + 1 + 1 + 1 + 1 + 1 + 1 + 1, c7), (L + 1 + 1 + 1 + 1 + 1 + 1, c6), (L + 1 + 1 + 1 + 1 + 1, c5), (L + 1 + 1 + 1 + 1, c4), (L + 1 + 1 + 1, c3), (L + 1 + 1, c2), (L + 1, c1), (fd, fo), (sk, listOf (List.toArray []) ns), (D2, LCg.lst ys)]) (fun e he p hp => by
        rcases List.mem_append.mp (show e ∈ [(L + 1 + 1 + 1 + 1 + 1 + 1 + 1, c7), (L + 1 + 1 + 1 + 1 + 1 + 1, c6), (L + 1 + 1 + 1 + 1 + 1, c5), (L + 1 + 1 + 1 + 1, c4), (L + 1 + 1 + 1, c3), (L + 1 + 1, c2), (L + 1, c1), (fd, fo), (sk, listOf (List.toArray []) ns)] ++ [(D2, LCg.lst ys)] from he) with he | he
        · exact hA1 e he p hp
        · rw [List.mem_singleton.mp he]; exact hA2 p hp) rfl
      have hD2n : ∀ e ∈ [(L + 1 + 1 + 1 + 1 + 1 + 1 + 1, c7), (L + 1 + 1 + 1 + 1 + 1 + 1, c6), (L + 1 + 1 + 1 + 1 + 1, c5), (L + 1 + 1 + 1 + 1, c4), (L + 1 + 1 + 1, c3), (L + 1 + 1, c2), (L + 1, c1), (fd, fo), (sk, listOf (List.toArray []) ns)], @Ne Nat D2 e.1 := fun e he => hD2 e (List.mem_append_right _ (hKb e he))
      clear N13 hlow hKb hKt hA1 hA2 hfT bdx bTr bMk bNw nNw
      generalize hNW : ((dx, stD w.params t1 t2 t3 t4 t5 t6 t7 t8 D Fi Tr Mk Nw sp false cv 8) :: (D, listOf dv.toArray nD) :: (Tr, listOf (List.toArray []) 0) :: (Nw, on) :: (Mk, listOf (List.toArray []) 0) :: (svs [] ++ (fr ++ (Tu ++ (st, instObj 270 dx) :: (Fi, listOf dv.toArray nF) :: R0)))) = nwF at N14 hS hoffF
      clear hNW
      have g3 : @Ne Nat (L + 1) D2 ∧ @Ne Nat (L + 1 + 1) D2 ∧ @Ne Nat (L + 1 + 1 + 1) D2 ∧ @Ne Nat (L + 1 + 1 + 1 + 1) D2 ∧ @Ne Nat (L + 1 + 1 + 1 + 1 + 1) D2 ∧ @Ne Nat (L + 1 + 1 + 1 + 1 + 1 + 1) D2 ∧ @Ne Nat (L + 1 + 1 + 1 + 1 + 1 + 1 + 1) D2 := ⟨Ne.symm (hD2n (_, c1) (by k_memK)), Ne.symm (hD2n (_, c2) (by k_memK)), Ne.symm (hD2n (_, c3) (by k_memK)), Ne.symm (hD2n (_, c4) (by k_memK)), Ne.symm (hD2n (_, c5) (by k_memK)), Ne.symm (hD2n (_, c6) (by k_memK)), Ne.symm (hD2n (_, c7) (by k_memK))⟩
      have g6 : @Ne Nat fd D2 := Ne.symm (hD2n (fd, fo) (by k_memK))
      have g7 : @Ne Nat sk D2 := Ne.symm (hD2n (sk, _) (by k_memK))
      have g2 : @LT.lt Nat _ (L + 7) sk := p_sk
      have g5 : @Ne Nat fd sk := Nat.ne_of_lt l_fd_sk
      clear hD2n
      k_dflt (refine' storeX_C ?F ?N ?c ?U ?d ?_ ?a ?b; (case a => rfl); (case b => rfl); (case F => exact F11); (case N => exact N14); (case c => rfl); (case U => k_updF); (case d => k_asm))
      intro h3 o3' F13 N15 d13
      dsimp only at N15 ⊢
      refine law_c w mean mg mb dp un gd a ccd outer A₀ base h₀ h3 L s Q E ⟨st, fd, sk, ca, fl, many, tm, nc, nf, cvs, fvs, cells, Fs⟩ _ _ d0 D2 nwF (fr ++ (Tu ++ (st, instObj 270 dx) :: (Fi, listOf dv.toArray nF) :: R0)) Fs ys ns _ fo k _ c1 c2 c3 c4 o3' c6 c7 v3 v6 v7 hmany hm2 hcl hci B F13 X ?_ N15 d1 d2 d3 d4 d13 d6 d7 hfo hk0 hk1 hS (hrw.mono fun p hp => List.mem_append_left _ hp) (hfv.mono hR0) (hR0 _ hca) (hR0 _ hfl) o1 g2 g3 g5 g6 g7 hoffF T hdp hun hret hE0
      k_extra "m_agree"
      try rfl
  · intro v rem m news x1_i
    obtain ⟨hm, Tu, dv, left, done, nD, nF, rfl, hT, hD, hR, hdl⟩ := x1_i
    intro IH
    refine ItemsRest.val (fun h tk F => ?_)
    refine AllObj.cons (fun o' hc' => ?_)
    refine AllObj.nil (fun N' => ?_)
    have F5 := forget _ F hm
    clear F
    simp only [List.cons_append, List.nil_append] at N'
    match left, hR with
    | [], hR => exact hR.elim
    | f :: left, hR =>
      obtain ⟨⟨fa, rfl, fvs', fn, hfm, hfi⟩, hR'⟩ := hR
      have hff : f ∈ Fs := by rw [← hdl]; exact List.mem_append_right _ (.head _)
      obtain ⟨hf1, hf2⟩ := hFs f hff
      have N7 : News h₀ L h ((D, listOf dv.toArray nD) :: (Fi, listOf dv.toArray nF) :: (I, o') :: (Tu ++ bs)) :=
        news_c (N' _ (.tail _ (.head _))) (news_c (N' _ (.tail _ (.tail _ (.head _)))) (news_c (N' _ (.head _)) fun p hp => N' p (.tail _ (.tail _ (.tail _ hp)))))
      clear N'
      k_steps
      refine Halt.go ?_
      have hfsort : f.Pairwise (· ≤ ·) := List.Pairwise.sublist hf1 (by decide)
      have hfm2 : (fa, listOf fvs'.toArray fn) ∈ (D, listOf dv.toArray nD) :: (Fi, listOf dv.toArray nF) :: (I, o') :: (Tu ++ bs) := .tail _ (.tail _ (.tail _ (List.mem_append_right _ hfm)))
      k_dflt (refine' Does.useA (from_values_does w _ fa fn fvs' f hfm2 hfi (Nat.le_trans hf1.length_le (by decide)) hfsort) ?k1 ?k2 ?k3 ?k4 ?k5 ?k6 ?k7 ?k8 ?_)
      case k1 => k_asm
      case k2 => k_asm
      case k3 => k_asm
      case k4 => k_asm
      case k5 => k_asm
      case k6 => first | exact rfl | assumption
      case k7 => ktr_room
      case k8 => ktr_units
      intro h9 tk9 F11 da tl hda N8
      have hTI : ∀ p ∈ tupz tl ++ ((I, o') :: (Tu ++ bs)), @Ne Nat p.1 D ∧ @Ne Nat p.1 Fi := by
        refine all_app (fun p hp => ?_) (all_cons ⟨Ne.symm (Nat.ne_of_lt (hI _ (.head _))), Ne.symm (Nat.ne_of_lt (hI _ (.tail _ (.head _))))⟩ (all_app (fun p hp => ?_) fun p hp => ⟨hbD p hp, hbF p hp⟩))
        · obtain ⟨y1, y2⟩ := mem_tupz.mp hp
          exact ⟨isT.away y2 N8 (List.mem_append_left _ y1) (List.mem_append_right tl (.head _)) (not_isT_list rfl), isT.away y2 N8 (List.mem_append_left _ y1) (List.mem_append_right tl (.tail _ (.head _))) (not_isT_list rfl)⟩
        · have y : p ∈ tl ++ (D, listOf dv.toArray nD) :: (Fi, listOf dv.toArray nF) :: (I, o') :: (Tu ++ bs) := List.mem_append_right tl (.tail _ (.tail _ (.tail _ (List.mem_append_left _ hp))))
          exact ⟨isT.away (hT p hp) N8 y (List.mem_append_right tl (.head _)) (not_isT_list rfl), isT.away (hT p hp) N8 y (List.mem_append_right tl (.tail _ (.head _))) (not_isT_list rfl)⟩
      have hda2 : DomIn (tupz tl ++ ((I, o') :: (Tu ++ bs))) da (ofVals f) := hda.selT (all_app (fun p hp ht => List.mem_append_left _ (mem_tupz.mpr ⟨hp, ht⟩)) (all_cons (fun ht => absurd ht (not_isT_list rfl)) (all_cons (fun ht => absurd ht (not_isT_list rfl)) fun p hp _ => List.mem_append_right _ hp)))
      have N9 : News h₀ L h9 ((D, listOf dv.toArray nD) :: (Fi, listOf dv.toArray nF) :: (tupz tl ++ ((I, o') :: (Tu ++ bs)))) :=
        news_c (N8 _ (List.mem_append_right tl (.head _))) (news_c (N8 _ (List.mem_append_right tl (.tail _ (.head _)))) (all_app (fun p hp => N8 p (List.mem_append_left _ (mem_tupz.mp hp).1)) fun p hp => N8 p (List.mem_append_right tl (.tail _ (.tail _ hp)))))
      clear N8
      have hdvl := hD.length
      rw [List.length_map] at hdvl
      have hdl2 : done.length + (left.length + 1) = many := by rw [← hmany, ← hdl, List.length_append]; rfl
      k_steps
      refine Halt.go ?_
      k_dflt (refine' Does.useV (new_var_does w _ st dx D Fi Tr Mk Nw da dv dv nD nF t1 t2 t3 t4 t5 t6 t7 t8 sp false cv (ofVals f) (List.mem_append_right _ (.tail _ (List.mem_append_right _ hst))) (List.mem_append_right _ (.tail _ (List.mem_append_right _ hdx))) hda2 (ofVals_ne hf1 hf2) (by lia) (by lia) (Nat.ne_of_lt o5) (fun p hp => (hTI p hp).1) (fun p hp => (hTI p hp).2)) ?k1 ?k2 ?k3 ?k4 ?k5 ?k6 ?k7 ?k8 ?_)
      case k1 => k_asm
      case k2 => k_asm
      case k3 => k_asm
      case k4 => exact N9
      case k5 => k_asm
      case k6 => first | exact rfl | assumption
      case k7 => ktr_room
      case k8 => ktr_units
      intro r9 h10 tk10 F12 nD' nF' N10
      k_steps
      have hIm : (I, o') ∈ (D, listOf (dv ++ [Value.ref da]).toArray nD') :: (Fi, listOf (dv ++ [Value.ref da]).toArray nF') :: (tupz tl ++ ((I, o') :: (Tu ++ bs))) := .tail _ (.tail _ (List.mem_append_right _ (.head _)))
      have hsb : ∀ p ∈ (tupz tl ++ Tu) ++ bs, p ∈ (D, listOf (dv ++ [Value.ref da]).toArray nD') :: (Fi, listOf (dv ++ [Value.ref da]).toArray nF') :: (tupz tl ++ ((I, o') :: (Tu ++ bs))) := fun p hp => by
        rw [List.append_assoc] at hp
        refine .tail _ (.tail _ ?_)
        rcases List.mem_append.mp hp with hp | hp
        · exact List.mem_append_left _ hp
        · exact List.mem_append_right _ (.tail _ hp)
      have hIt : ¬ isT (I, o') := not_isT_cls (n := "list_iterator") hc' (by decide)
      have hTs : ∀ p ∈ tupz tl ++ Tu, isT p := fun p hp => by
        rcases List.mem_append.mp hp with hp | hp
        · exact (mem_tupz.mp hp).2
        · exact hT p hp
      refine turn_end (news' := (D, listOf (dv ++ [Value.ref da]).toArray nD') :: (Fi, listOf (dv ++ [Value.ref da]).toArray nF') :: ((tupz tl ++ Tu) ++ bs)) F12 N10 hIm (all_cons (.head _) (all_cons (.tail _ (.head _)) hsb)) (all_cons (Nat.ne_of_lt (hI (D, listOf (List.toArray []) 0) (.head _))) (all_cons (Nat.ne_of_lt (hI (Fi, listOf (List.toArray []) 0) (.tail _ (.head _)))) (all_app (fun p hp => isT.away (hTs p hp) N10 (hsb p (List.mem_append_left _ hp)) hIm hIt) fun p hp => Nat.ne_of_lt (hI p (.tail _ (.tail _ hp)))))) ⟨⟨.tail _ (.tail _ (List.mem_append_right _ hflb)), trivial⟩, IH _ _ ⟨?_, tupz tl ++ Tu, dv ++ [.ref da], left, done ++ [f], nD', nF', rfl, hTs, ?_, hR', ?_⟩⟩
      · k_extra "m_agree"
      · rw [List.map_append]
        refine DomsIn.snoc (hda2.selT fun p hp ht => ?_) (hD.mono fun p hp => ?_)
        · rw [List.append_assoc]
          rcases List.mem_append.mp hp with hp | hp
          · exact List.mem_append_left _ hp
          · rcases List.mem_cons.mp hp with rfl | hp
            · exact absurd ht hIt
            · exact List.mem_append_right _ hp
        · rw [List.append_assoc]
          exact List.mem_append_right _ hp
      · rw [List.append_assoc]
        exact hdl
  · exact ⟨fun z hz => if_neg (by rw [hz]; decide), [], [], Fs, [], 0, 0, rfl, fun p hp => (nomatch hp), trivial, hfv.mono hRb, rfl⟩
end
theorem words_WI_1 : True := by
  k_with "KdnMade" => (((k_here; k_dflt (refine' kdn_made_str ?F_q ?N_q ?U_q ?d_q ?k_q ?n_q ?_; (case F_q => k_asm); (case N_q => k_asm); (case U_q => k_updF); (case d_q => k_asm); (case k_q => rfl); (case n_q => exact of_decide_eq_true (by first | rfl | kernel_rfl!)); intro h'_w o'_w F'_w N'_w hd'_w); (try dsimp only at N'_w); (try simp only [strPairs] at hd'_w))); (try revert hd'_w); (try revert N'_w); (try revert F'_w); (try revert o'_w); (try revert h'_w); intros)
  trivial
section
theorem law_walk (w : World) (mean : ExcName → Option Value) (mg mb : Str → Option Value) (dp un : Nat) (gd : Option (List Code)) (a : Addr) (ccd : Value) (outer : List Env) (A₀ : Around) (base h₀ : Heap) (L : Addr) (s : Shared) (Q : Flow → Shared → Prop) (E : Value → Shared → Prop)
    (sl : Addr) (vals : List Value) (ns : List Int) (hsl : h₀.IsList sl vals.toArray) (hI : IntsAre vals ns) (hlen : ns.length ≤ 63) (B : Below A₀ base outer h₀) (F : Fr h₀ L s.heap (fun y => List.lookup y [(Str.ofString "script", Value.ref sl)])) (X : (Mine.hd.heap_39 w.params).In h₀)
    (c1 c2 c3 c4 c5 c6 c7 : Obj) (d1 : c1.data = .cell none) (d2 : c2.data = .cell none) (d3 : c3.data = .cell none) (d4 : c4.data = .cell none) (d5 : c5.data = .cell none) (d6 : c6.data = .cell none) (d7 : c7.data = .cell none)
    (N : News h₀ L s.heap [(L + 1 + 1 + 1 + 1 + 1 + 1 + 1, c7), (L + 1 + 1 + 1 + 1 + 1 + 1, c6), (L + 1 + 1 + 1 + 1 + 1, c5), (L + 1 + 1 + 1 + 1, c4), (L + 1 + 1 + 1, c3), (L + 1 + 1, c2), (L + 1, c1)])
    (T : Top Mine.hd.view_39 (looseW Mine.hd.view_39 [Str.ofString "has_domains"]) mean mg mb h₀) (hdp : dp + 20 < recursionLimit) (hun : un + 1000 < cLine)
    (hret : ∀ h' tk d, (∀ b o, h₀.get? b = some o → h'.get? b = some o) → Q (.ret (.bool true)) { s with heap := h', toks := tk, drawn := d }) (hE : PassesOwn (model PySem.Challenge.rw_nz0015_01.row.prog w) (ktrTop dp un gd (Str.ofString "law") (lawS w.params) L a ccd (cellsFrom (L + 1) (lawS w.params).names []) outer) (envX (Str.ofString "law") (lawS w.params) L a ccd (cellsFrom (L + 1) (lawS w.params).names [])) E) :
    wpAny (model PySem.Challenge.rw_nz0015_01.row.prog w) (ktrTop dp un gd (Str.ofString "law") (lawS w.params) L a ccd (cellsFrom (L + 1) (lawS w.params).names []) outer) (execs (lawB w.params) (envX (Str.ofString "law") (lawS w.params) L a ccd (cellsFrom (L + 1) (lawS w.params).names []))) Q E s := by
  have hE0 := hE
  revert X T hE
  k_fill
  intro X T hE
  unfold lawS at hE
  dsimp only [lawQ] at hE
  unfold lawB lawS
  dsimp only [lawQ]
  k_steps
  refine Halt.go ?_
  k_dflt (refine' comp_eval ?c0 ?c1 ?c2 ?c3 ?c4 ?_ ?c5; (case c0 => k_asm); (case c1 => with_unfolding_all rfl); (case c2 => decide); (case c3 => rfl); (case c4 => decide); (case c5 => (intro _; with_unfolding_all rfl)))
  k_steps
  rename_i fd h1 fo0 lo0 hfo0 l1a D1 ws h2 F2 N2 hI2 hC2 hL2 l1b
  have hwl := hI2.length
  have hw50 : (List.take 50 ns).length ≤ 50 := by rw [hC2]; exact Nat.min_le_left _ _
  refine CompGo.list (by rfl) F2 N2 (k := 0) (vs := ws) (by k_memK) (by rw [sizeLine_eq]; lia) (fun j ys nw' => nw' = [(D1, listOf ws.toArray 0), (fd, fo0), (L + 1 + 1 + 1 + 1 + 1 + 1 + 1, c7), (L + 1 + 1 + 1 + 1 + 1 + 1, c6), (L + 1 + 1 + 1 + 1 + 1, c5), (L + 1 + 1 + 1 + 1, c4), (L + 1 + 1 + 1, c3), (L + 1 + 1, c2), (L + 1, c1)] ∧ ∃ zs, IntsAre ys zs ∧ zs.length = j) ⟨rfl, [], .nil, rfl⟩ (fun j ys nw' e => by rw [e.1]; exact .head _) ?_ ?_
  · intro I2 C2 D2 j ys nw2 v oI oC m₂ h3 tk2 E2 hIC hID hCD hv x1_i
    obtain ⟨rfl, zs, hzs, hzl⟩ := x1_i
    intro F11 N13 hC3 off2
    obtain ⟨n, t, rfl⟩ : ∃ n t, v = .int n t := by
      have hlt : j < (List.take 50 ns).length := by rw [← hwl]; exact (List.getElem?_eq_some_iff.mp hv).1
      obtain ⟨t, ht⟩ := hI2.get j _ (List.getElem?_eq_getElem hlt)
      rw [ht] at hv
      exact ⟨_, t, (Option.some.inj hv).symm⟩
    clear N2 F2
    refine comp_name F11 N13 hC3 hIC (off_C off2 hCD) (by rfl) (by rfl) (fun h5 tk5 oC5 F13 N14 hC5 => ?_)
    refine wpAny_tests_nil ?_
    simp only [if_true]
    k_steps
    rename News h₀ L _ _ => N15
    rename Fr h₀ L _ _ => F15
    exact TurnOk.mk0 F15 N15 hC5 off2 ⟨rfl, _, intsAre_snoc hzs, by rw [List.length_append, hzl]; rfl⟩
  · intro ca ys nw2 off2 x1_i
    obtain ⟨rfl, zs, hzs, hzl⟩ := x1_i
    intro h3 tk3 F11 N13
    have hca1 := off1_nes off2
    have q1 : @Ne Nat ca fd := hca1 (fd, fo0) (by k_memK)
    have o1 : @LT.lt Nat _ (L + 7) fd := l1a.1
    have N14 : News h₀ L h3 [(ca, LCg.lst ys), (fd, fo0), (L + 1 + 1 + 1 + 1 + 1 + 1 + 1, c7), (L + 1 + 1 + 1 + 1 + 1 + 1, c6), (L + 1 + 1 + 1 + 1 + 1, c5), (L + 1 + 1 + 1 + 1, c4), (L + 1 + 1 + 1, c3), (L + 1 + 1, c2), (L + 1, c1)] := news_c (N13 _ (.head _)) fun p hp => N13 p (.tail _ (.tail _ hp))
    have hcaL : ∀ e ∈ [(L + 1 + 1 + 1 + 1 + 1 + 1 + 1, c7), (L + 1 + 1 + 1 + 1 + 1 + 1, c6), (L + 1 + 1 + 1 + 1 + 1, c5), (L + 1 + 1 + 1 + 1, c4), (L + 1 + 1 + 1, c3), (L + 1 + 1, c2), (L + 1, c1)], @Ne Nat ca e.1 := fun e he => hca1 e (.tail _ (.tail _ he))
    have g0 : @Ne Nat (L + 1) ca ∧ @Ne Nat (L + 1 + 1) ca ∧ @Ne Nat (L + 1 + 1 + 1) ca ∧ @Ne Nat (L + 1 + 1 + 1 + 1) ca ∧ @Ne Nat (L + 1 + 1 + 1 + 1 + 1) ca ∧ @Ne Nat (L + 1 + 1 + 1 + 1 + 1 + 1) ca ∧ @Ne Nat (L + 1 + 1 + 1 + 1 + 1 + 1 + 1) ca := ⟨Ne.symm (hcaL (_, c1) (by k_memK)), Ne.symm (hcaL (_, c2) (by k_memK)), Ne.symm (hcaL (_, c3) (by k_memK)), Ne.symm (hcaL (_, c4) (by k_memK)), Ne.symm (hcaL (_, c5) (by k_memK)), Ne.symm (hcaL (_, c6) (by k_memK)), Ne.symm (hcaL (_, c7) (by k_memK))⟩
    clear N13 hca1 N2 F2 l1b
    have hcl : zs.length ≤ 50 := by lia
    k_steps
    refine Halt.go ?_
    rename_i h4 fo1 hfo1 h5 c1' d1' h6 tk6 F6 v t tk10 fo hfo N6 hv0 hv1
    k_dflt (refine' Does.use (store_does w _) ?k1 ?k2 ?k3 ?k4 ?k5 ?k6 ?k7 ?k8 ?_)
    case k1 => k_asm
    case k2 => k_asm
    case k3 => k_asm
    case k4 => exact N6
    case k5 => k_asm
    case k6 => first | exact rfl | assumption
    case k7 => ktr_room
    case k8 => ktr_units
    intro r9 news9 h7 tk7 x1_i
    obtain ⟨st, dx, D, Fi, Tr, Mk, Nw, on, t1, t2, t3, t4, t5, t6, t7, t8, sp, cv, rfl, hon, rfl, hlt, o3, o4, o5, o6, o7, o8⟩ := x1_i
    intro F7 N7
    have o2 : @LT.lt Nat _ fd dx := hlt (fd, fo) (by k_memK)
    have o0 : @LT.lt Nat _ ca dx := hlt (ca, LCg.lst ys) (by k_memK)
    clear hlt N6 F6
    have l_fd_st : @LT.lt Nat _ fd st := Nat.lt_trans o2 o3
    have l_dx_D : @LT.lt Nat _ dx D := Nat.lt_trans o3 o4
    have l_st_Fi : @LT.lt Nat _ st Fi := Nat.lt_trans o4 o5
    have l_D_Tr : @LT.lt Nat _ D Tr := Nat.lt_trans o5 o6
    have l_Fi_Mk : @LT.lt Nat _ Fi Mk := Nat.lt_trans o6 o7
    have l_Tr_Nw : @LT.lt Nat _ Tr Nw := Nat.lt_trans o7 o8
    have l_fd_D : @LT.lt Nat _ fd D := Nat.lt_trans l_fd_st o4
    have l_dx_Fi : @LT.lt Nat _ dx Fi := Nat.lt_trans l_dx_D o5
    have l_st_Tr : @LT.lt Nat _ st Tr := Nat.lt_trans l_st_Fi o6
    have l_D_Mk : @LT.lt Nat _ D Mk := Nat.lt_trans l_D_Tr o7
    have l_Fi_Nw : @LT.lt Nat _ Fi Nw := Nat.lt_trans l_Fi_Mk o8
    have l_fd_Fi : @LT.lt Nat _ fd Fi := Nat.lt_trans l_fd_D o5
    have l_dx_Tr : @LT.lt Nat _ dx Tr := Nat.lt_trans l_dx_Fi o6
    have l_st_Mk : @LT.lt Nat _ st Mk := Nat.lt_trans l_st_Tr o7
    have l_D_Nw : @LT.lt Nat _ D Nw := Nat.lt_trans l_D_Mk o8
    have l_fd_Tr : @LT.lt Nat _ fd Tr := Nat.lt_trans l_fd_Fi o6
    have l_dx_Mk : @LT.lt Nat _ dx Mk := Nat.lt_trans l_dx_Tr o7
    have l_st_Nw : @LT.lt Nat _ st Nw := Nat.lt_trans l_st_Mk o8
    have l_fd_Mk : @LT.lt Nat _ fd Mk := Nat.lt_trans l_fd_Tr o7
    have l_dx_Nw : @LT.lt Nat _ dx Nw := Nat.lt_trans l_dx_Mk o8
    have l_fd_Nw : @LT.lt Nat _ fd Nw := Nat.lt_trans l_fd_Mk o8
    have l_ca_st : @LT.lt Nat _ ca st := Nat.lt_trans o0 o3
    have l_ca_D : @LT.lt Nat _ ca D := Nat.lt_trans l_ca_st o4
    have l_ca_Fi : @LT.lt Nat _ ca Fi := Nat.lt_trans l_ca_D o5
    have l_ca_Tr : @LT.lt Nat _ ca Tr := Nat.lt_trans l_ca_Fi o6
    have l_ca_Mk : @LT.lt Nat _ ca Mk := Nat.lt_trans l_ca_Tr o7
    have l_ca_Nw : @LT.lt Nat _ ca Nw := Nat.lt_trans l_ca_Mk o8
    have p_dx : @LT.lt Nat _ (L + 7) dx := Nat.lt_trans o1 o2
    have p_st : @LT.lt Nat _ (L + 7) st := Nat.lt_trans o1 l_fd_st
    have p_D : @LT.lt Nat _ (L + 7) D := Nat.lt_trans o1 l_fd_D
    have p_Fi : @LT.lt Nat _ (L + 7) Fi := Nat.lt_trans o1 l_fd_Fi
    have p_Tr : @LT.lt Nat _ (L + 7) Tr := Nat.lt_trans o1 l_fd_Tr
    have p_Mk : @LT.lt Nat _ (L + 7) Mk := Nat.lt_trans o1 l_fd_Mk
    have p_Nw : @LT.lt Nat _ (L + 7) Nw := Nat.lt_trans o1 l_fd_Nw
    k_steps
    rename_i sk h8 l8 Tp h9 l9 h10 h11 h12 c2' d2' h13 F13 N13
    have o9 : @LT.lt Nat _ Nw sk := by walk_at "k_lts"
    have l_Mk_sk : @LT.lt Nat _ Mk sk := Nat.lt_trans o8 o9
    have l_Tr_sk : @LT.lt Nat _ Tr sk := Nat.lt_trans l_Tr_Nw o9
    have l_Fi_sk : @LT.lt Nat _ Fi sk := Nat.lt_trans l_Fi_Nw o9
    have l_D_sk : @LT.lt Nat _ D sk := Nat.lt_trans l_D_Nw o9
    have l_st_sk : @LT.lt Nat _ st sk := Nat.lt_trans l_st_Nw o9
    have l_dx_sk : @LT.lt Nat _ dx sk := Nat.lt_trans l_dx_Nw o9
    have l_fd_sk : @LT.lt Nat _ fd sk := Nat.lt_trans l_fd_Nw o9
    have l_ca_sk : @LT.lt Nat _ ca sk := Nat.lt_trans l_ca_Nw o9
    have p_sk : @LT.lt Nat _ (L + 7) sk := Nat.lt_trans o1 l_fd_sk
    obtain ⟨n, hn, hn2, hn3⟩ : ∃ n : Nat, 2 + v = (n : Int) ∧ 2 ≤ n ∧ n ≤ 3 := ⟨(2 + v).toNat, by lia, by lia, by lia⟩
    simp only [hn] at F13
    clear l9
    obtain ⟨B0, hB0⟩ : ∃ B0, B0 = (sk, listOf (List.toArray []) 0) :: (st, instObj 270 dx) :: (dx, stD w.params t1 t2 t3 t4 t5 t6 t7 t8 D Fi Tr Mk Nw sp false cv 8) :: (D, listOf (List.toArray []) 0) :: (Fi, listOf (List.toArray []) 0) :: (Tr, listOf (List.toArray []) 0) :: (Mk, listOf (List.toArray []) 0) :: (Nw, on) :: (ca, LCg.lst ys) :: (L + 1 + 1 + 1 + 1 + 1 + 1 + 1, c7) :: (L + 1 + 1 + 1 + 1 + 1 + 1, c6) :: (L + 1 + 1 + 1 + 1 + 1, c5) :: (L + 1 + 1 + 1 + 1, c4) :: (L + 1 + 1 + 1, c3) :: (L + 1 + 1, c2') :: (L + 1, c1') :: [] := ⟨_, rfl⟩
    have N14 : News h₀ L h13 ((fd, fo) :: B0) := by
      rw [hB0]
      iterate 17 (refine news_c (N13 _ (by k_memK)) ?_)
      exact fun _ hp => nomatch hp
    have hc1B : (L + 1, c1') ∈ B0 := by rw [hB0]; k_memK
    have hcaB : (ca, LCg.lst ys) ∈ B0 := by rw [hB0]; k_memK
    have hB0fd : ∀ p ∈ B0, @Ne Nat p.1 fd := by
      rw [hB0]
      iterate 16 (refine all_cons (by dsimp only; k_ne) ?_)
      exact fun _ hp => nomatch hp
    clear N13
    refine Halt.go ?_
    refine wpAny_Assign_Name ?_ (by with_unfolding_all rfl)
    k_steps
    refine Halt.go ?_
    k_dflt (refine' comp_eval ?c0 ?c1 ?c2 ?c3 ?c4 ?_ ?c5; (case c0 => k_asm); (case c1 => with_unfolding_all rfl); (case c2 => decide); (case c3 => rfl); (case c4 => decide); (case c5 => (intro _; with_unfolding_all rfl)))
    k_steps
    rename IsRange _ _ _ _ _ _ _ _ => hrg
    rename Fr h₀ L _ _ => F14
    rename News h₀ L _ _ => N15
    have hsr := small_range n (by lia)
    refine CompGo.range (by rfl) F14 N15 hrg hsr.1 hsr.2 (by rw [sizeLine_eq]; lia) (fun j ys nw' => Ex5 fun fr o' k' tk' Fs => nw' = (fd, o') :: (fr ++ B0) ∧ Obj.IsDictOf (PySem.strKind PySem.Challenge.rw_nz0015_01.row.prog w) o' [(Str.ofString "cells", .ref ca), (Str.ofString "at", .int k' tk')] ∧ 0 ≤ k' ∧ k' ≤ 1 + 6 * (j : Int) ∧ Fresh fr ((fd, fo) :: B0) ∧ RowsIn fr ys Fs ∧ Fs.length = j ∧ (∀ f ∈ Fs, f.Sublist [0, 1, 2, 3, 4, 5] ∧ f ≠ [])) ⟨[], fo, _, _, [], rfl, hfo, by lia, by lia, trivial, trivial, rfl, fun f hf => nomatch hf⟩ ?_ ?_
    · intro I2 C2 D2 j ys2 nw2 t2' oI oC m₂ h14 tk14 E2 hIC hID hCD hj x1_i
      obtain ⟨fr, o', k', tk', Fs, rfl, ho', hk0', hk1', hfr, hrw, hFl, hFs⟩ := x1_i
      intro F15 N16 hC3 off2
      clear N15 F14
      refine comp_name F15 N16 hC3 hIC (off_C off2 hCD) (by rfl) (by rfl) (fun h15 tk15 oC5 F16 N17 hC5 => ?_)
      refine wpAny_tests_nil ?_
      simp only [if_true]
      k_steps
      refine Halt.go ?_
      have hoffm := off3_ne off2
      have N18 : News h₀ L h15 ((fd, o') :: (I2, oI) :: (C2, oC5) :: (D2, LCg.lst ys2) :: (fr ++ B0)) := news_c (N17 _ (.tail _ (.tail _ (.tail _ (.head _))))) (news_c (N17 _ (.head _)) (news_c (N17 _ (.tail _ (.head _))) (news_c (N17 _ (.tail _ (.tail _ (.head _)))) fun p hp => N17 p (.tail _ (.tail _ (.tail _ (.tail _ hp)))))))
      have hf3 : ∀ p ∈ (I2, oI) :: (C2, oC5) :: (D2, LCg.lst ys2) :: (fr ++ B0), p.1 ≠ fd := all_cons (Ne.symm (hoffm (fd, o') (.head _)).1) (all_cons (Ne.symm (hoffm (fd, o') (.head _)).2.1) (all_cons (Ne.symm (hoffm (fd, o') (.head _)).2.2) (all_app (fun p hp => hfr.ne p hp (fd, fo) (.head _)) hB0fd)))
      clear N17
      k_dflt (refine' Does.use (drawn_does w ((I2, oI) :: (C2, oC5) :: (D2, LCg.lst ys2) :: (fr ++ B0)) fd ca o' tk' k' _ ys zs ho' (.tail _ (.tail _ (.tail _ (List.mem_append_right _ hcaB)))) hzs (by lia) hk0' (by lia) hf3) ?k1 ?k2 ?k3 ?k4 ?k5 ?k6 ?k7 ?k8 ?_)
      case k1 => k_asm
      case k2 => k_asm
      case k3 => k_asm
      case k4 => exact N18
      case k5 => k_asm
      case k6 => first | exact rfl | assumption
      case k7 => ktr_room
      case k8 => ktr_units
      intro r9 news9 h16 tk16 x1_i
      obtain ⟨a9, vs9, c9, ns9, tk9', k9, o9', rfl, rfl, hi9, hne9, hsub9, hk9a, hk9b, ho9, hoff9⟩ := x1_i
      intro F17 N19
      refine TurnOk.mk (rest := fun nw' => Ex5 fun fr o' k' tk' Fs => nw' = (fd, o') :: (fr ++ B0) ∧ Obj.IsDictOf (PySem.strKind PySem.Challenge.rw_nz0015_01.row.prog w) o' [(Str.ofString "cells", .ref ca), (Str.ofString "at", .int k' tk')] ∧ 0 ≤ k' ∧ k' ≤ 1 + 6 * ((j + 1 : Nat) : Int) ∧ Fresh fr ((fd, fo) :: B0) ∧ RowsIn fr _ Fs ∧ Fs.length = j + 1 ∧ (∀ f ∈ Fs, f.Sublist [0, 1, 2, 3, 4, 5] ∧ f ≠ [])) ((fd, o9') :: ((a9, listOf vs9.toArray c9) :: fr ++ B0)) F17 N19 hC5 (all_cons (.tail _ (.tail _ (.head _))) (all_cons (.tail _ (.tail _ (.tail _ (.head _)))) (all_cons (.tail _ (.tail _ (.tail _ (.tail _ (.head _))))) (all_cons (.tail _ (.head _)) (all_cons (.head _) fun p hp => .tail _ (.tail _ (.tail _ (.tail _ (.tail _ hp)))))))))
        (LCg.Off3.of (all_cons (hoffm (fd, o') (.head _)) (all_cons ⟨Ne.symm (hoff9 (I2, oI) (.tail _ (.head _))), Ne.symm (hoff9 (C2, oC5) (.tail _ (.tail _ (.head _)))), Ne.symm (hoff9 (D2, LCg.lst ys2) (.tail _ (.tail _ (.tail _ (.head _)))))⟩ fun p hp => hoffm p (.tail _ hp))))
        ⟨(a9, listOf vs9.toArray c9) :: fr, o9', k9, tk9', Fs ++ [ns9], rfl, ho9, by lia, by lia, ⟨all_app (fun p hp => Ne.symm (hoff9 p (.tail _ (.tail _ (.tail _ (.tail _ (List.mem_append_left _ hp))))))) (all_cons (Ne.symm (hoff9 (fd, o9') (.head _))) fun p hp => Ne.symm (hoff9 p (.tail _ (.tail _ (.tail _ (.tail _ (List.mem_append_right _ hp))))))), hfr⟩, (hrw.mono fun p hp => .tail _ hp).snoc ⟨vs9, c9, .head _, hi9⟩, by rw [List.length_append, hFl]; rfl, all_app hFs (all_cons ⟨hsub9, hne9⟩ fun _ hp => nomatch hp)⟩
    · intro fl fvs nw3 off3 x1_i
      obtain ⟨fr, o', k', tk', Fs, rfl, ho', hk0', hk1', hfr, hrw, hFl, hFs⟩ := x1_i
      intro h17 tk17 F18 N20
      clear N15 F14
      have hfln := off1_nes off3
      have hB0m : ∀ p ∈ B0, p ∈ (fl, LCg.lst fvs) :: (fd, o') :: (fr ++ B0) := fun p hp => .tail _ (.tail _ (List.mem_append_right _ hp))
      have NB : News h₀ L h17 B0 := fun p hp => N20 p (hB0m p hp)
      rw [hB0] at NB
      have N21 : News h₀ L h17 ((D, listOf (List.toArray []) 0) :: (Fi, listOf (List.toArray []) 0) :: (L + 1 + 1 + 1 + 1 + 1 + 1 + 1, c7) :: (L + 1 + 1 + 1 + 1 + 1 + 1, c6) :: (L + 1 + 1 + 1 + 1 + 1, c5) :: (L + 1 + 1 + 1 + 1, c4) :: (L + 1 + 1 + 1, c3) :: (L + 1 + 1, c2') :: (L + 1, c1') :: (fd, o') :: (sk, listOf (List.toArray []) 0) :: (st, instObj 270 dx) :: (dx, stD w.params t1 t2 t3 t4 t5 t6 t7 t8 D Fi Tr Mk Nw sp false cv 8) :: (Tr, listOf (List.toArray []) 0) :: (Mk, listOf (List.toArray []) 0) :: (Nw, on) :: ((fl, LCg.lst fvs) :: (fr ++ [(ca, LCg.lst ys)]))) := by
        iterate 9 (refine news_c (NB _ (by k_memK)) ?_)
        refine news_c (N20 _ (.tail _ (.head _))) ?_
        iterate 6 (refine news_c (NB _ (by k_memK)) ?_)
        exact news_c (N20 _ (.head _)) (all_app (fun p hp => N20 p (.tail _ (.tail _ (List.mem_append_left _ hp)))) (news_c (NB _ (by k_memK)) fun _ hp => nomatch hp))
      clear NB
      have hent : ∀ e ∈ B0, @Ne Nat ca e.1 → ∀ p ∈ ((fl, LCg.lst fvs) :: (fr ++ [(ca, LCg.lst ys)])), @Ne Nat e.1 p.1 := fun e he hc =>
        all_cons (Ne.symm (hfln e (.tail _ (List.mem_append_right _ he)))) (all_app (fun p hp => Ne.symm (hfr.ne p hp e (.tail _ he))) (all_cons (Ne.symm hc) fun _ hp => nomatch hp))
      rw [hB0] at hent
      have hoffR : Offs [L + 1 + 1 + 1 + 1 + 1 + 1 + 1, L + 1 + 1 + 1 + 1 + 1 + 1, L + 1 + 1 + 1 + 1 + 1, L + 1 + 1 + 1 + 1, L + 1 + 1 + 1, L + 1 + 1, L + 1, fd, sk, dx, D, Fi, Tr, Mk, Nw] ((fl, LCg.lst fvs) :: (fr ++ [(ca, LCg.lst ys)])) := by
        refine all_cons (hent (_, c7) (by k_memK) (hcaL (_, c7) (by k_memK))) (all_cons (hent (_, c6) (by k_memK) (hcaL (_, c6) (by k_memK))) (all_cons (hent (_, c5) (by k_memK) (hcaL (_, c5) (by k_memK))) (all_cons (hent (_, c4) (by k_memK) (hcaL (_, c4) (by k_memK))) (all_cons (hent (_, c3) (by k_memK) (hcaL (_, c3) (by k_memK))) (all_cons (hent (_, c2') (by k_memK) (hcaL (_, c2) (by k_memK))) (all_cons (hent (_, c1') (by k_memK) (hcaL (_, c1) (by k_memK))) (all_cons ?_ ?_)))))))
        · exact all_cons (Ne.symm (hfln (fd, o') (.head _))) (all_app (fun p hp => Ne.symm (hfr.ne p hp (fd, fo) (.head _))) (all_cons (Ne.symm q1) fun _ hp => nomatch hp))
        · refine all_cons (hent (sk, _) (by k_memK) (by dsimp only; k_ne)) (all_cons (hent (dx, _) (by k_memK) (by dsimp only; k_ne)) (all_cons (hent (D, _) (by k_memK) (by dsimp only; k_ne)) (all_cons (hent (Fi, _) (by k_memK) (by dsimp only; k_ne)) (all_cons (hent (Tr, _) (by k_memK) (by dsimp only; k_ne)) (all_cons (hent (Mk, _) (by k_memK) (by dsimp only; k_ne)) (all_cons (hent (Nw, on) (by k_memK) (by dsimp only; k_ne)) fun _ hp => nomatch hp))))))
      generalize hR0e : ((fl, LCg.lst fvs) :: (fr ++ [(ca, LCg.lst ys)])) = R0 at N21 hoffR
      have hcaR : (ca, LCg.lst ys) ∈ R0 := by rw [← hR0e]; exact .tail _ (List.mem_append_right _ (.head _))
      have hflR : (fl, LCg.lst fvs) ∈ R0 := by rw [← hR0e]; exact .head _
      have hrwR : RowsIn R0 fvs Fs := hrw.mono fun p hp => by rw [← hR0e]; exact .tail _ (List.mem_append_left _ hp)
      clear hR0e hent N20
      k_dflt (refine' storeX_C ?F ?N ?c ?U ?d ?_ ?a ?b; (case a => rfl); (case b => rfl); (case F => exact F18); (case N => exact N21); (case c => rfl); (case U => k_updF); (case d => k_asm))
      intro h18 o18 F19 N22 d18
      dsimp only at N22 ⊢
      refine law_d w mean mg mb dp un gd a ccd outer A₀ base h₀ h18 L s Q E _ _ s.drawn st fd sk ca fl dx D Fi Tr Mk Nw n tk6 _ _ 0 ys fvs zs Fs R0 o' on k' tk' t1 t2 t3 t4 t5 t6 t7 t8 sp cv c1' c2' c3 o18 c5 c6 c7 none none none none hFl hn2 hn3 hcl hzs B F19 X ?_ N22 d1' d2' d3 d18 d5 d6 d7 ho' hk0' (by lia) hon hFs hrwR hcaR hflR o1 o2 o3 o4 o5 o6 o7 o8 o9 hoffR T hdp hun hret hE0
      intro z hz
      have hz1 := hz
      simp only [List.contains_cons, List.contains_nil, Bool.or_false, Bool.or_eq_false_iff] at hz1
      have hz2 := hz1.2.2.2.2.2
      simp only [MB, List.lookup, hz2]
end
end
section
theorem lookup_if (k : Str) (v : Value) : (fun y => if y = k then some v else none) = fun y => List.lookup y [(k, v)] := by
  funext y
  by_cases h : y = k
  · subst h; simp [List.lookup]
  · have h2 : (y == k) = false := by simpa using h
    simp only [List.lookup, h2, if_neg h]
end
theorem words_WJ_1 : True := by
  k_with "k_qdec" => (decide +kernel)
  trivial
local macro_rules | `(tactic| k_qdec) => `(tactic| k_extra "k_qdec")
section
theorem join : PySem.Challenge.rw_nz0015_01.Holds := by
  w_on
  refine holds_law (by decide +kernel) fun said => ?_
  refine holds_open (q := hd.view_39) (loose := [Str.ofString "has_domains"]) (Xt := fun s => xlAt hd.view_39 [] s && recOk [] s) (XP := XL hd.view_39 []) (Yf := Hook.obs HK) (Ya := Hook.val HK) (YP := Hook.says HK) (N := 3198) hl_run (Hook.of HK) (Hook.keeps HK) (fun s e => xl_of s (Bool.and_eq_true_iff.mp e).1) XL.keeps (by rfl) (by rfl) (by rfl) (fun s e => recFacts_of (Bool.and_eq_true_iff.mp e).2) (by rfl) (by first | assumption | decide +kernel) (by decide +kernel) ⟨rfl, rfl, rfl, rfl, rfl, by decide +kernel⟩ ?hw ?hc
  case hw => w_witness2
  k_go0
  all_goals (try k_fold)
  rename_i sl vs1 ns1 hL ra w1 r0 hI hr hc1 hc2 K0 hD h1 tk1 F o7 o6 o5 o4 o3 o2 o1 e7 e6 e5 e4 e3 e2 e1 N0 X0
  rename _ = #[] => hg
  clear X0 r0 ra hr
  replace F : Fr _ _ h1 (fun y => if y = Str.ofString "script" then some (Value.ref sl) else none) := F
  rw [lookup_if] at F
  refine law_walk _ _ _ _ _ _ _ _ _ _ _ _ _ _ _ _ _ sl vs1 _ hL hI (by lia) K0 F (by assumption) o1 o2 o3 o4 o5 o6 o7 e1 e2 e3 e4 e5 e6 e7 N0 (by assumption) (by decide) (by decide) ?_ ?_
  · intro h' tk d hk
    dsimp only [qk]
    refine ⟨.inl ⟨_, _, [], rfl, fun _ => ?_, ReadsW.bool true, ?_, fun _ => ⟨List.nodup_nil, fun _ hm => (nomatch hm)⟩⟩, hk, rfl, hg⟩
    · rfl
    · wrow_post
  · passes_own
end
end Mine
theorem PySem.Challenge.cw_nz0015_01_holds : PySem.Challenge.rw_nz0015_01.Holds := by
  exact Mine.join
