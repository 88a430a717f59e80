import PyProof.Rows.All
import Wide.All
import OpenK.AllK
import Wide.FinOn
import KE.KStateDown
import KE.DataMinMax
import Lean
import HandS.ForMost
import HandS.Defaults
import HandS.MakeKwOnly
import HandS.Property
import HandS.Strs
import HandS.Evl
import HandS.Walk
import HandS.Zip
import HandS.Wide
import HandS.WideBits
import HandS.EndBits
import HandS.SortKw
import HandS.Conv
import HandS.TupAny
import HandS.Flow
import HandS.Head0
import HandS.Head1
import HandS.Head2
import HandS.HeadEnd
import HandS.HeadHook1
import HandS.HeadHook2
import PySem.Challenge.RW_everyfire_k15_whole_courses_of_a_fire
import KE.GoesEnum
import KE.GoesMore
import HandS.Steps
set_option Elab.async false
set_option linter.all false
set_option maxRecDepth 100000
section
set_option maxHeartbeats 4000000
namespace EF
open PySem PySem.Spec PyProof.Rows L2
/-! ### the text by places -/
def top (i : Nat) : Stmt := PySem.Challenge.pw_everyfire_k15_whole_courses_of_a_fire.main.body.getD i (.Pass ⟨0, 0, 0, 0⟩)
abbrev s_check_winds : Stmt := top 10
abbrev s_check_changes : Stmt := top 11
abbrev s_blowing : Stmt := top 12
abbrev s_chances : Stmt := top 13
abbrev s_least_numbers : Stmt := top 15
abbrev s_most_numbers : Stmt := top 16
abbrev s_is_number : Stmt := top 17
abbrev s_check_numbers : Stmt := top 18
abbrev s_check_rows : Stmt := top 19
abbrev s_least_minutes : Stmt := top 20
abbrev s_caught : Stmt := top 21
abbrev s_spread : Stmt := top 22
abbrev s_check_fire : Stmt := top 23
abbrev s_told : Stmt := top 24
abbrev s_burning : Stmt := top 25
abbrev s_fastest : Stmt := top 26
abbrev s_slowest : Stmt := top 27
abbrev s_word_of : Stmt := top 28
abbrev s_states : Stmt := top 29
abbrev s_is_name : Stmt := top 38
abbrev s_are_different : Stmt := top 39
abbrev s_require : Stmt := top 40
abbrev s_checked_times : Stmt := top 41
abbrev s_law_row : Stmt := top 44
abbrev s_law_numbers : Stmt := top 45
abbrev s_law_names : Stmt := top 46
abbrev s_law_parts : Stmt := top 47
abbrev s_law_made : Stmt := top 48
abbrev s_law_weather : Stmt := top 49
abbrev s_law_rows : Stmt := top 50
abbrev s_law_wind : Stmt := top 51
abbrev s_law_stopped : Stmt := top 52
abbrev s_law_course : Stmt := top 53
abbrev s_law : Stmt := top 54
abbrev s_L_init : Stmt := inClass (top 42) 0
abbrev s_L_are_ends : Stmt := inClass (top 42) 1
abbrev s_L_checked_link : Stmt := inClass (top 42) 2
abbrev s_L_checked_path : Stmt := inClass (top 42) 3
abbrev s_L_check_place : Stmt := inClass (top 42) 5
abbrev s_L_check_wind : Stmt := inClass (top 42) 6
abbrev s_L_link_names : Stmt := inClass (top 42) 4
/-- the keyword default x of Land.__init__ -/
def kwAt (x : Str) (K : PySem.W.Frag) : Addr := match K.lookup (He.fAd K ("Land", some "__init__")) with
  | some ⟨_, _, .func fd, _⟩ => (match fd.kwdefaults with
    | .ref D => (match PySem.W.nsIn K D x with
      | some (some (.ref a)) => a
      | _ => 0)
    | _ => 0)
  | _ => 0
/-- the property link_names, its getter -/
def prA (K : PySem.W.Frag) : Addr := He.ma K (He.ga K "Land") "link_names"
def prG (K : PySem.W.Frag) : Addr := match PySem.W.recIn K (prA K) "property" with
  | some (.ref g :: _) => g
  | _ => 0
def d_check_winds : He.DefD := ⟨("check_winds", none), "check_winds", "check_winds", defArgs s_check_winds, defBody s_check_winds, defScope s_check_winds, [], []⟩
def d_check_changes : He.DefD := ⟨("check_changes", none), "check_changes", "check_changes", defArgs s_check_changes, defBody s_check_changes, defScope s_check_changes, [], []⟩
def d_blowing : He.DefD := ⟨("blowing", none), "blowing", "blowing", defArgs s_blowing, defBody s_blowing, defScope s_blowing, [], []⟩
def d_chances : He.DefD := ⟨("chances", none), "chances", "chances", defArgs s_chances, defBody s_chances, defScope s_chances, [], []⟩
def d_least_numbers : He.DefD := ⟨("least_numbers", none), "least_numbers", "least_numbers", defArgs s_least_numbers, defBody s_least_numbers, defScope s_least_numbers, [], []⟩
def d_most_numbers : He.DefD := ⟨("most_numbers", none), "most_numbers", "most_numbers", defArgs s_most_numbers, defBody s_most_numbers, defScope s_most_numbers, [], []⟩
def d_is_number : He.DefD := ⟨("is_number", none), "is_number", "is_number", defArgs s_is_number, defBody s_is_number, defScope s_is_number, [], []⟩
def d_check_numbers : He.DefD := ⟨("check_numbers", none), "check_numbers", "check_numbers", defArgs s_check_numbers, defBody s_check_numbers, defScope s_check_numbers, [], []⟩
def d_check_rows : He.DefD := ⟨("check_rows", none), "check_rows", "check_rows", defArgs s_check_rows, defBody s_check_rows, defScope s_check_rows, [], []⟩
def d_least_minutes : He.DefD := ⟨("least_minutes", none), "least_minutes", "least_minutes", defArgs s_least_minutes, defBody s_least_minutes, defScope s_least_minutes, [], []⟩
def d_caught : He.DefD := ⟨("caught", none), "caught", "caught", defArgs s_caught, defBody s_caught, defScope s_caught, [], []⟩
def d_spread : He.DefD := ⟨("spread", none), "spread", "spread", defArgs s_spread, defBody s_spread, defScope s_spread, [], []⟩
def d_check_fire : He.DefD := ⟨("check_fire", none), "check_fire", "check_fire", defArgs s_check_fire, defBody s_check_fire, defScope s_check_fire, [], []⟩
def d_told : He.DefD := ⟨("told", none), "told", "told", defArgs s_told, defBody s_told, defScope s_told, [], []⟩
def d_burning : He.DefD := ⟨("burning", none), "burning", "burning", defArgs s_burning, defBody s_burning, defScope s_burning, [], []⟩
def d_fastest : He.DefD := ⟨("fastest", none), "fastest", "fastest", defArgs s_fastest, defBody s_fastest, defScope s_fastest, [], []⟩
def d_slowest : He.DefD := ⟨("slowest", none), "slowest", "slowest", defArgs s_slowest, defBody s_slowest, defScope s_slowest, [], []⟩
def d_word_of : He.DefD := ⟨("word_of", none), "word_of", "word_of", defArgs s_word_of, defBody s_word_of, defScope s_word_of, [], []⟩
def d_states : He.DefD := ⟨("states", none), "states", "states", defArgs s_states, defBody s_states, defScope s_states, [], []⟩
def d_is_name : He.DefD := ⟨("is_name", none), "is_name", "is_name", defArgs s_is_name, defBody s_is_name, defScope s_is_name, [], []⟩
def d_are_different : He.DefD := ⟨("are_different", none), "are_different", "are_different", defArgs s_are_different, defBody s_are_different, defScope s_are_different, [], []⟩
def d_require : He.DefD := ⟨("require", none), "require", "require", defArgs s_require, defBody s_require, defScope s_require, [], []⟩
def d_checked_times : He.DefD := ⟨("checked_times", none), "checked_times", "checked_times", defArgs s_checked_times, defBody s_checked_times, defScope s_checked_times, [], []⟩
def d_law_row : He.DefD := ⟨("_law_row", none), "_law_row", "_law_row", defArgs s_law_row, defBody s_law_row, defScope s_law_row, [], []⟩
def d_law_numbers : He.DefD := ⟨("_law_numbers", none), "_law_numbers", "_law_numbers", defArgs s_law_numbers, defBody s_law_numbers, defScope s_law_numbers, [], []⟩
def d_law_names : He.DefD := ⟨("_law_names", none), "_law_names", "_law_names", defArgs s_law_names, defBody s_law_names, defScope s_law_names, [], []⟩
def d_law_parts : He.DefD := ⟨("_law_parts", none), "_law_parts", "_law_parts", defArgs s_law_parts, defBody s_law_parts, defScope s_law_parts, [], []⟩
def d_law_made : He.DefD := ⟨("_law_made", none), "_law_made", "_law_made", defArgs s_law_made, defBody s_law_made, defScope s_law_made, [], []⟩
def d_law_weather : He.DefD := ⟨("_law_weather", none), "_law_weather", "_law_weather", defArgs s_law_weather, defBody s_law_weather, defScope s_law_weather, [], []⟩
def d_law_rows : He.DefD := ⟨("_law_rows", none), "_law_rows", "_law_rows", defArgs s_law_rows, defBody s_law_rows, defScope s_law_rows, [], []⟩
def d_law_wind : He.DefD := ⟨("_law_wind", none), "_law_wind", "_law_wind", defArgs s_law_wind, defBody s_law_wind, defScope s_law_wind, [], []⟩
def d_law_stopped : He.DefD := ⟨("_law_stopped", none), "_law_stopped", "_law_stopped", defArgs s_law_stopped, defBody s_law_stopped, defScope s_law_stopped, [], []⟩
def d_law_course : He.DefD := ⟨("_law_course", none), "_law_course", "_law_course", defArgs s_law_course, defBody s_law_course, defScope s_law_course, [], []⟩
def d_law : He.DefD := ⟨("law", none), "law", "law", defArgs s_law, defBody s_law, defScope s_law, [], []⟩
def d_L_init : He.DefD := ⟨("Land", some "__init__"), "__init__", "Land.__init__", defArgs s_L_init, defBody s_L_init, defScope s_L_init, [], [("links", .adr (kwAt "links")), ("paths", .adr (kwAt "paths"))]⟩
def d_L_are_ends : He.DefD := ⟨("Land", some "are_ends"), "are_ends", "Land.are_ends", defArgs s_L_are_ends, defBody s_L_are_ends, defScope s_L_are_ends, [], []⟩
def d_L_checked_link : He.DefD := ⟨("Land", some "checked_link"), "checked_link", "Land.checked_link", defArgs s_L_checked_link, defBody s_L_checked_link, defScope s_L_checked_link, [], []⟩
def d_L_checked_path : He.DefD := ⟨("Land", some "checked_path"), "checked_path", "Land.checked_path", defArgs s_L_checked_path, defBody s_L_checked_path, defScope s_L_checked_path, [], []⟩
def d_L_check_place : He.DefD := ⟨("Land", some "check_place"), "check_place", "Land.check_place", defArgs s_L_check_place, defBody s_L_check_place, defScope s_L_check_place, [], []⟩
def d_L_check_wind : He.DefD := ⟨("Land", some "check_wind"), "check_wind", "Land.check_wind", defArgs s_L_check_wind, defBody s_L_check_wind, defScope s_L_check_wind, [], []⟩
def fn : List He.DefD := [d_check_winds, d_check_changes, d_blowing, d_chances, d_least_numbers, d_most_numbers, d_is_number, d_check_numbers, d_check_rows, d_least_minutes, d_caught, d_spread, d_check_fire, d_told, d_burning, d_fastest, d_slowest, d_word_of, d_states, d_is_name, d_are_different, d_require, d_checked_times, d_law_row, d_law_numbers, d_law_names, d_law_parts, d_law_made, d_law_weather, d_law_rows, d_law_wind, d_law_stopped, d_law_course, d_law, d_L_init, d_L_are_ends, d_L_checked_link, d_L_checked_path, d_L_check_place, d_L_check_wind]
def fa : List He.Fa := [.glo "check_winds", .glo "check_changes", .glo "blowing", .glo "chances", .glo "least_numbers", .glo "most_numbers", .glo "is_number", .glo "check_numbers", .glo "check_rows", .glo "least_minutes", .glo "caught", .glo "spread", .glo "check_fire", .glo "told", .glo "burning", .glo "fastest", .glo "slowest", .glo "word_of", .glo "states", .glo "is_name", .glo "are_different", .glo "require", .glo "checked_times", .glo "_law_row", .glo "_law_numbers", .glo "_law_names", .glo "_law_parts", .glo "_law_made", .glo "_law_weather", .glo "_law_rows", .glo "_law_wind", .glo "_law_stopped", .glo "_law_course", .glo "law", .glo "Land", .free "len", .free "range", .free "min", .free "max", .free "abs", .free "int", .free "tuple", .free "list", .free "zip", .free "any", .free "all", .free "enumerate", .free "sorted", .int "MOST_CHANGES" 40, .int "MOST_MINUTE" 100000, .str "NAME_CHARS" "abcdefghijklmnopqrstuvwxyz0123456789", .int "MOST_NAME_CHARS" 12, .int "MOST_WINDS" 4, .int "MOST_PLACES" 24, .int "MOST_LINKS" 60, .int "MOST_PATHS" 60, .int "MOST_MINUTES" 1000, .cls "Land", .noat "Land" "winds", .noat "Land" "places", .noat "Land" "links", .noat "Land" "paths", .meth "Land" "are_ends", .meth "Land" "checked_link", .meth "Land" "checked_path", .meth "Land" "check_place", .meth "Land" "check_wind", .mkr "Land"]
def emptyT (K : PySem.W.Frag) (a : Addr) : Bool := match K.lookup a with
  | some ⟨.type c, _, .seq its _, _⟩ => decide (c = "tuple") && its.isEmpty
  | _ => false
/-- further facts: the default (), the property -/
def exB (K : PySem.W.Frag) : Bool := emptyT K (kwAt "links" K) && (emptyT K (kwAt "paths" K) && (He.eqO (PySem.W.findIn K (.ref (He.ga K "Land")) "link_names") (some (some (.ref (prA K)))) &&
  (He.eqO (PySem.W.specialIn K (.ref (prA K)) "__get__") (some (some (.builtin "property.__get__"))) && (decide (PySem.W.takesIn K (.ref (prA K)) = some true) &&
  ((match PySem.W.recIn K (prA K) "property" with
    | some (.ref g :: _) => decide (g = prG K)
    | _ => false) && (match K.lookup (prG K) with
    | some ⟨_, _, .func fd, _⟩ => PySem.W.codeIn K fd.code "Land.link_names" && (He.dflB K fd.defaults [] && He.kwdB K fd.kwdefaults [])
    | _ => false))))))
def fnA (K : PySem.W.Frag) (a : Addr) : He.FnW := match K.lookup a with
  | some ⟨_, _, .func fd, _⟩ => some (fd.name, fd.qualname, fd.params, fd.body, fd.scope, fd.globals, fd.closure, fd.builtins)
  | _ => none
def prV : He.FnW := some ("link_names", "Land.link_names", defArgs s_L_link_names, .stmts (defBody s_L_link_names), defScope s_L_link_names, mainGlobals, [], builtinsNs)
/-! ### the Hook -/
abbrev AlM : Type := He.AlD × Bool × He.FnW
def obsM (K : PySem.W.Frag) : AlM := (He.obsD fa fn K, exB K, fnA K (prG K))
def valM : AlM := (He.valD fn, true, prV)
structure Says (K : PySem.W.Frag) : Prop where
  all : obsM K = valM
theorem Says.c {K : PySem.W.Frag} (h : Says K) : He.SaysD fa fn K := (Prod.ext_iff.mp h.all).1
theorem Says.ex {K : PySem.W.Frag} (h : Says K) : exB K = true := (Prod.ext_iff.mp (Prod.ext_iff.mp h.all).2).1
theorem Says.pr {K : PySem.W.Frag} (h : Says K) : fnA K (prG K) = prV := (Prod.ext_iff.mp (Prod.ext_iff.mp h.all).2).2
theorem saysH {h : Heap} (e : obsM (He.frG h.get? (He.asD h.get? 6)) = valM) : ∃ K : PySem.W.Frag, K.In h ∧ Says K := ⟨_, He.frG_in, ⟨e⟩⟩
abbrev hk : PySem.W.Hook where
  α := AlM
  obs := fun s => obsM (He.frG s.heap.get? (He.asD s.heap.get? 6))
  val := fun _ => valM
  says := fun _ h => ∃ K : PySem.W.Frag, K.In h ∧ Says K
  of := fun _ _ e => saysH e
  keeps := fun _ _ _ ⟨K, hK, c⟩ k => ⟨K, PySem.W.Frag.In.keeps hK k, c⟩
abbrev R : PySem.W.OpenRow := PySem.W.OpenLaw.row PySem.Challenge.rw_everyfire_k15_whole_courses_of_a_fire
def ob (s : PySem.W.SharedT) : AlM := obsM (He.frG (HandSHeadRun.getT s) (He.asD (HandSHeadRun.getT s) 6))
theorem ob_eq (s : PySem.W.SharedT) : ob s = hk.obs s.abs := by
  have e : HandSHeadRun.getT s = s.abs.heap.get? := funext fun a => HandSHeadRun.getT_eq s a
  show obsM (He.frG (HandSHeadRun.getT s) (He.asD (HandSHeadRun.getT s) 6)) = obsM (He.frG s.abs.heap.get? (He.asD s.abs.heap.get? 6))
  rw [e]
def nm1 : List PySem.Str := ["_wall", "EveryfireError", "InvalidLand", "UnknownName", "InvalidWeather", "InvalidQuestion", "MOST_CHANGES", "MOST_MINUTE", "check_winds", "check_changes", "blowing", "chances", "least_numbers", "most_numbers", "is_number", "check_numbers", "check_rows", "least_minutes", "caught", "spread", "check_fire", "told", "burning", "fastest", "slowest"]
def nm2 : List PySem.Str := ["word_of", "states", "NAME_CHARS", "MOST_NAME_CHARS", "MOST_WINDS", "MOST_PLACES", "MOST_LINKS", "MOST_PATHS", "MOST_MINUTES", "is_name", "are_different", "require", "checked_times", "Land", "_law_row", "_law_numbers", "_law_names", "_law_parts", "_law_made", "_law_weather", "_law_rows", "_law_wind", "_law_stopped", "_law_course"]
def names : List PySem.Str := nm1 ++ nm2
/-- what the proofs lean on: the written part K behind the top, what the module's names hold -/
structure Tx (K : PySem.W.Frag) (mg : Str → Option Value) : Prop where
  s : Says K
  gl : ∀ x : Str, (He.Fa.glo x).ok K = true → mg x = some (.ref (He.ga K x))
  fr : ∀ x : Str, (He.Fa.free x).ok K = true → mg x = none
  it : ∀ (x : Str) (i : Int), (He.Fa.int x i).ok K = true → ∃ t, mg x = some (.int i t)
  st : ∀ x z : Str, (He.Fa.str x z).ok K = true → ∃ t, mg x = some (.str z t)
theorem Tx.mk' {K : PySem.W.Frag} {h : Heap} {mg : Str → Option Value} (X : K.In h) (G : h.Ns mainGlobals mg) (c : Says K) : Tx K mg :=
  ⟨c, fun _ z => He.glo_ok X G z, fun _ z => He.free_ok X G z, fun _ _ z => He.int_ok X G z, fun _ _ z => He.str_ok X G z⟩
section
variable {K : PySem.W.Frag} {mg : Str → Option Value}
theorem Tx.g_check_winds (T : Tx K mg) : mg "check_winds" = some (.ref (He.ga K "check_winds")) := T.gl _ (T.s.c.fact 0 (f := .glo "check_winds") rfl)
theorem Tx.g_check_changes (T : Tx K mg) : mg "check_changes" = some (.ref (He.ga K "check_changes")) := T.gl _ (T.s.c.fact 1 (f := .glo "check_changes") rfl)
theorem Tx.g_blowing (T : Tx K mg) : mg "blowing" = some (.ref (He.ga K "blowing")) := T.gl _ (T.s.c.fact 2 (f := .glo "blowing") rfl)
theorem Tx.g_chances (T : Tx K mg) : mg "chances" = some (.ref (He.ga K "chances")) := T.gl _ (T.s.c.fact 3 (f := .glo "chances") rfl)
theorem Tx.g_least_numbers (T : Tx K mg) : mg "least_numbers" = some (.ref (He.ga K "least_numbers")) := T.gl _ (T.s.c.fact 4 (f := .glo "least_numbers") rfl)
theorem Tx.g_most_numbers (T : Tx K mg) : mg "most_numbers" = some (.ref (He.ga K "most_numbers")) := T.gl _ (T.s.c.fact 5 (f := .glo "most_numbers") rfl)
theorem Tx.g_is_number (T : Tx K mg) : mg "is_number" = some (.ref (He.ga K "is_number")) := T.gl _ (T.s.c.fact 6 (f := .glo "is_number") rfl)
theorem Tx.g_check_numbers (T : Tx K mg) : mg "check_numbers" = some (.ref (He.ga K "check_numbers")) := T.gl _ (T.s.c.fact 7 (f := .glo "check_numbers") rfl)
theorem Tx.g_check_rows (T : Tx K mg) : mg "check_rows" = some (.ref (He.ga K "check_rows")) := T.gl _ (T.s.c.fact 8 (f := .glo "check_rows") rfl)
theorem Tx.g_least_minutes (T : Tx K mg) : mg "least_minutes" = some (.ref (He.ga K "least_minutes")) := T.gl _ (T.s.c.fact 9 (f := .glo "least_minutes") rfl)
theorem Tx.g_caught (T : Tx K mg) : mg "caught" = some (.ref (He.ga K "caught")) := T.gl _ (T.s.c.fact 10 (f := .glo "caught") rfl)
theorem Tx.g_spread (T : Tx K mg) : mg "spread" = some (.ref (He.ga K "spread")) := T.gl _ (T.s.c.fact 11 (f := .glo "spread") rfl)
theorem Tx.g_check_fire (T : Tx K mg) : mg "check_fire" = some (.ref (He.ga K "check_fire")) := T.gl _ (T.s.c.fact 12 (f := .glo "check_fire") rfl)
theorem Tx.g_told (T : Tx K mg) : mg "told" = some (.ref (He.ga K "told")) := T.gl _ (T.s.c.fact 13 (f := .glo "told") rfl)
theorem Tx.g_burning (T : Tx K mg) : mg "burning" = some (.ref (He.ga K "burning")) := T.gl _ (T.s.c.fact 14 (f := .glo "burning") rfl)
theorem Tx.g_fastest (T : Tx K mg) : mg "fastest" = some (.ref (He.ga K "fastest")) := T.gl _ (T.s.c.fact 15 (f := .glo "fastest") rfl)
theorem Tx.g_slowest (T : Tx K mg) : mg "slowest" = some (.ref (He.ga K "slowest")) := T.gl _ (T.s.c.fact 16 (f := .glo "slowest") rfl)
theorem Tx.g_word_of (T : Tx K mg) : mg "word_of" = some (.ref (He.ga K "word_of")) := T.gl _ (T.s.c.fact 17 (f := .glo "word_of") rfl)
theorem Tx.g_states (T : Tx K mg) : mg "states" = some (.ref (He.ga K "states")) := T.gl _ (T.s.c.fact 18 (f := .glo "states") rfl)
theorem Tx.g_is_name (T : Tx K mg) : mg "is_name" = some (.ref (He.ga K "is_name")) := T.gl _ (T.s.c.fact 19 (f := .glo "is_name") rfl)
theorem Tx.g_are_different (T : Tx K mg) : mg "are_different" = some (.ref (He.ga K "are_different")) := T.gl _ (T.s.c.fact 20 (f := .glo "are_different") rfl)
theorem Tx.g_require (T : Tx K mg) : mg "require" = some (.ref (He.ga K "require")) := T.gl _ (T.s.c.fact 21 (f := .glo "require") rfl)
theorem Tx.g_checked_times (T : Tx K mg) : mg "checked_times" = some (.ref (He.ga K "checked_times")) := T.gl _ (T.s.c.fact 22 (f := .glo "checked_times") rfl)
theorem Tx.g_law_row (T : Tx K mg) : mg "_law_row" = some (.ref (He.ga K "_law_row")) := T.gl _ (T.s.c.fact 23 (f := .glo "_law_row") rfl)
theorem Tx.g_law_numbers (T : Tx K mg) : mg "_law_numbers" = some (.ref (He.ga K "_law_numbers")) := T.gl _ (T.s.c.fact 24 (f := .glo "_law_numbers") rfl)
theorem Tx.g_law_names (T : Tx K mg) : mg "_law_names" = some (.ref (He.ga K "_law_names")) := T.gl _ (T.s.c.fact 25 (f := .glo "_law_names") rfl)
theorem Tx.g_law_parts (T : Tx K mg) : mg "_law_parts" = some (.ref (He.ga K "_law_parts")) := T.gl _ (T.s.c.fact 26 (f := .glo "_law_parts") rfl)
theorem Tx.g_law_made (T : Tx K mg) : mg "_law_made" = some (.ref (He.ga K "_law_made")) := T.gl _ (T.s.c.fact 27 (f := .glo "_law_made") rfl)
theorem Tx.g_law_weather (T : Tx K mg) : mg "_law_weather" = some (.ref (He.ga K "_law_weather")) := T.gl _ (T.s.c.fact 28 (f := .glo "_law_weather") rfl)
theorem Tx.g_law_rows (T : Tx K mg) : mg "_law_rows" = some (.ref (He.ga K "_law_rows")) := T.gl _ (T.s.c.fact 29 (f := .glo "_law_rows") rfl)
theorem Tx.g_law_wind (T : Tx K mg) : mg "_law_wind" = some (.ref (He.ga K "_law_wind")) := T.gl _ (T.s.c.fact 30 (f := .glo "_law_wind") rfl)
theorem Tx.g_law_stopped (T : Tx K mg) : mg "_law_stopped" = some (.ref (He.ga K "_law_stopped")) := T.gl _ (T.s.c.fact 31 (f := .glo "_law_stopped") rfl)
theorem Tx.g_law_course (T : Tx K mg) : mg "_law_course" = some (.ref (He.ga K "_law_course")) := T.gl _ (T.s.c.fact 32 (f := .glo "_law_course") rfl)
theorem Tx.g_law (T : Tx K mg) : mg "law" = some (.ref (He.ga K "law")) := T.gl _ (T.s.c.fact 33 (f := .glo "law") rfl)
theorem Tx.g_Land (T : Tx K mg) : mg "Land" = some (.ref (He.ga K "Land")) := T.gl _ (T.s.c.fact 34 (f := .glo "Land") rfl)
theorem Tx.f_len (T : Tx K mg) : mg "len" = none := T.fr _ (T.s.c.fact 35 (f := .free "len") rfl)
theorem Tx.f_range (T : Tx K mg) : mg "range" = none := T.fr _ (T.s.c.fact 36 (f := .free "range") rfl)
theorem Tx.f_min (T : Tx K mg) : mg "min" = none := T.fr _ (T.s.c.fact 37 (f := .free "min") rfl)
theorem Tx.f_max (T : Tx K mg) : mg "max" = none := T.fr _ (T.s.c.fact 38 (f := .free "max") rfl)
theorem Tx.f_abs (T : Tx K mg) : mg "abs" = none := T.fr _ (T.s.c.fact 39 (f := .free "abs") rfl)
theorem Tx.f_int (T : Tx K mg) : mg "int" = none := T.fr _ (T.s.c.fact 40 (f := .free "int") rfl)
theorem Tx.f_tuple (T : Tx K mg) : mg "tuple" = none := T.fr _ (T.s.c.fact 41 (f := .free "tuple") rfl)
theorem Tx.f_list (T : Tx K mg) : mg "list" = none := T.fr _ (T.s.c.fact 42 (f := .free "list") rfl)
theorem Tx.f_zip (T : Tx K mg) : mg "zip" = none := T.fr _ (T.s.c.fact 43 (f := .free "zip") rfl)
theorem Tx.f_any (T : Tx K mg) : mg "any" = none := T.fr _ (T.s.c.fact 44 (f := .free "any") rfl)
theorem Tx.f_all (T : Tx K mg) : mg "all" = none := T.fr _ (T.s.c.fact 45 (f := .free "all") rfl)
theorem Tx.f_enumerate (T : Tx K mg) : mg "enumerate" = none := T.fr _ (T.s.c.fact 46 (f := .free "enumerate") rfl)
theorem Tx.f_sorted (T : Tx K mg) : mg "sorted" = none := T.fr _ (T.s.c.fact 47 (f := .free "sorted") rfl)
theorem Tx.c_MOST_CHANGES (T : Tx K mg) : ∃ t, mg "MOST_CHANGES" = some (.int 40 t) := T.it _ _ (T.s.c.fact 48 (f := .int "MOST_CHANGES" 40) rfl)
theorem Tx.c_MOST_MINUTE (T : Tx K mg) : ∃ t, mg "MOST_MINUTE" = some (.int 100000 t) := T.it _ _ (T.s.c.fact 49 (f := .int "MOST_MINUTE" 100000) rfl)
theorem Tx.c_NAME_CHARS (T : Tx K mg) : ∃ t, mg "NAME_CHARS" = some (.str "abcdefghijklmnopqrstuvwxyz0123456789" t) := T.st _ _ (T.s.c.fact 50 (f := .str "NAME_CHARS" "abcdefghijklmnopqrstuvwxyz0123456789") rfl)
theorem Tx.c_MOST_NAME_CHARS (T : Tx K mg) : ∃ t, mg "MOST_NAME_CHARS" = some (.int 12 t) := T.it _ _ (T.s.c.fact 51 (f := .int "MOST_NAME_CHARS" 12) rfl)
theorem Tx.c_MOST_WINDS (T : Tx K mg) : ∃ t, mg "MOST_WINDS" = some (.int 4 t) := T.it _ _ (T.s.c.fact 52 (f := .int "MOST_WINDS" 4) rfl)
theorem Tx.c_MOST_PLACES (T : Tx K mg) : ∃ t, mg "MOST_PLACES" = some (.int 24 t) := T.it _ _ (T.s.c.fact 53 (f := .int "MOST_PLACES" 24) rfl)
theorem Tx.c_MOST_LINKS (T : Tx K mg) : ∃ t, mg "MOST_LINKS" = some (.int 60 t) := T.it _ _ (T.s.c.fact 54 (f := .int "MOST_LINKS" 60) rfl)
theorem Tx.c_MOST_PATHS (T : Tx K mg) : ∃ t, mg "MOST_PATHS" = some (.int 60 t) := T.it _ _ (T.s.c.fact 55 (f := .int "MOST_PATHS" 60) rfl)
theorem Tx.c_MOST_MINUTES (T : Tx K mg) : ∃ t, mg "MOST_MINUTES" = some (.int 1000 t) := T.it _ _ (T.s.c.fact 56 (f := .int "MOST_MINUTES" 1000) rfl)
theorem Tx.cls (T : Tx K mg) : Cls K (He.ga K "Land") := He.cls_ok (T.s.c.fact 57 (f := .cls "Land") rfl)
theorem Tx.n_winds (T : Tx K mg) : NoAttr K (He.ga K "Land") "winds" := He.noat_ok (T.s.c.fact 58 (f := .noat "Land" "winds") rfl)
theorem Tx.n_places (T : Tx K mg) : NoAttr K (He.ga K "Land") "places" := He.noat_ok (T.s.c.fact 59 (f := .noat "Land" "places") rfl)
theorem Tx.n_links (T : Tx K mg) : NoAttr K (He.ga K "Land") "links" := He.noat_ok (T.s.c.fact 60 (f := .noat "Land" "links") rfl)
theorem Tx.n_paths (T : Tx K mg) : NoAttr K (He.ga K "Land") "paths" := He.noat_ok (T.s.c.fact 61 (f := .noat "Land" "paths") rfl)
theorem Tx.m_are_ends (T : Tx K mg) : Meth K (He.ga K "Land") "are_ends" (He.ma K (He.ga K "Land") "are_ends") := He.meth_ok (T.s.c.fact 62 (f := .meth "Land" "are_ends") rfl)
theorem Tx.m_checked_link (T : Tx K mg) : Meth K (He.ga K "Land") "checked_link" (He.ma K (He.ga K "Land") "checked_link") := He.meth_ok (T.s.c.fact 63 (f := .meth "Land" "checked_link") rfl)
theorem Tx.m_checked_path (T : Tx K mg) : Meth K (He.ga K "Land") "checked_path" (He.ma K (He.ga K "Land") "checked_path") := He.meth_ok (T.s.c.fact 64 (f := .meth "Land" "checked_path") rfl)
theorem Tx.m_check_place (T : Tx K mg) : Meth K (He.ga K "Land") "check_place" (He.ma K (He.ga K "Land") "check_place") := He.meth_ok (T.s.c.fact 65 (f := .meth "Land" "check_place") rfl)
theorem Tx.m_check_wind (T : Tx K mg) : Meth K (He.ga K "Land") "check_wind" (He.ma K (He.ga K "Land") "check_wind") := He.meth_ok (T.s.c.fact 66 (f := .meth "Land" "check_wind") rfl)
theorem Tx.mkr (T : Tx K mg) : Mk K (He.ga K "Land") (He.ma K (He.ga K "Land") "__init__") := He.mkr_ok (T.s.c.fact 67 (f := .mkr "Land") rfl)
end
end EF
end
section
set_option maxHeartbeats 0
namespace EF
open PySem PySem.Spec PyProof.Rows L2
theorem run (w : World) : HandSHeadRun.RunEq R (PySem.W.view R.prog [54]) hk ob 20000 names w := by
  intro os
  kernel_rfl
end EF
end
section
set_option maxHeartbeats 4000000
namespace EF
open PySem PySem.Spec PyProof.Rows L2
def spLaw (K : PySem.W.Frag) : Sp := fun vs H Q _ => ∃ (a : Addr) (ns : List Int), vs = [.ref a] ∧ SqL K H a (ns.map V.int) ∧ ns.length ≤ 63 ∧ (∀ z ∈ ns, Builtin.Int.intBits z ≤ 1048576) ∧ ∀ H', Q (.bl true) H'
/-- the law's call over a head by facts, with the script's bits -/
theorem walkB {l : PySem.W.OpenLaw} {n k : Nat} {q : Program} {loose : List Str} {XP : (Str → Option Value) → Heap → Prop} {YP : World → Heap → Prop} {d : DefRec} {x : Str}
    (hn : l.most = some n) (hn2 : n ≤ sizeLine) (hdf : d.params.defaults = []) (hr : Room k callerA)
    (F : ∀ (w : World) (mg : Str → Option Value) (fa : Addr) (h : Heap), YP w h → h.Ns mainGlobals mg → mg d.name = some (.ref fa) →
      ∃ (K : PySem.W.Frag) (fd : FuncData) (sp : Sp), K.In h ∧ (∀ (s : Shared) (u : Value), BindsTo s fd ⟨[u], []⟩ [(x, u)]) ∧
        (∀ (H : Hp) (a : Addr) (ns : List Int), ns.length ≤ n → (∀ z ∈ ns, Builtin.Int.intBits z ≤ 1048576) → SqL K H a (ns.map V.int) → sp [.ref a] H (fun v _ => v = .bl true) fun _ _ _ => False) ∧
        ∀ base : Heap, K.In base → base.Ns mainGlobals mg → FnOk l.prog w K mg base CX0 k fa fd [x] sp) :
    PySem.W.WalkO q loose XP YP l.row.toRowW d [] (fun f vs => PySem.call f vs) := by
  refine Att.attach_callB hn hdf fun w s₀ s₁ mg mb fa o pm cd doc a vs ns G Y ho hd hcd hmg hobj hints hlen hbits hg => ?_
  obtain ⟨K, fd, sp, KX, hb, hsp, hF⟩ := F w mg fa _ Y G.T.g hmg
  exact law_call KX G.T.g G.T.b G.T.builtins G.T.nolimit hg hobj hints (Nat.le_trans hlen hn2) hr hF hb (fun H _ hS => hsp H a ns hlen hbits hS) fun H e s' z => z
theorem facts {P : Program} {w : World} {K : PySem.W.Frag} {h : Heap} {mg : Str → Option Value} {f : Addr} (X : K.In h) (G : h.Ns mainGlobals mg) (hfa : mg ("law" : Str) = some (.ref f)) (c : Says K)
    (hF : ∀ (base : Heap) (fd : FuncData), Tx K mg → FunD K d_law.name d_law.qual d_law.params d_law.body d_law.scope (d_law.dvs K) (d_law.kws K) (He.fAd K d_law.at_) fd → FnOk P w K mg base CX0 20 (He.fAd K d_law.at_) fd ["_law_script"] (spLaw K)) :
    ∃ fd : FuncData, (∀ (s : Shared) (v : Value), BindsTo s fd ⟨[v], []⟩ [("_law_script", v)]) ∧ ∀ base : Heap, K.In base → base.Ns mainGlobals mg → FnOk P w K mg base CX0 20 f fd ["_law_script"] (spLaw K) := by
  obtain ⟨fd, F⟩ := c.c.def_ 33 (d := d_law) rfl
  have T := Tx.mk' X G c
  have e := hfa.symm.trans T.g_law
  cases e
  have b := FunD.bindsA (ps := ["_law_script"]) F fun _ _ _ _ _ _ us hl => match us, hl with | [_], _ => rfl
  exact ⟨fd, fun s v => b s [v] rfl, fun base _ _ => hF base fd T F⟩
end EF
open PySem PySem.W PySem.Calls PyProof.Rows
theorem EF.holds_of (hF : ∀ (P : Program) (w : World) (K : PySem.W.Frag) (mg : PySem.Str → Option Value) (base : Heap) (fd : FuncData), EF.Tx K mg → L2.FunD K EF.d_law.name EF.d_law.qual EF.d_law.params EF.d_law.body EF.d_law.scope (EF.d_law.dvs K) (EF.d_law.kws K) (He.fAd K EF.d_law.at_) fd → L2.FnOk P w K mg base L2.CX0 20 (He.fAd K EF.d_law.at_) fd ["_law_script"] (EF.spLaw K)) :
    PySem.Challenge.rw_everyfire_k15_whole_courses_of_a_fire.Holds := by
  w_on; o_law
  refine HandSHeadRun.head_any (r := EF.R) (q := view EF.R.prog [54]) (H := EF.hk) (ob := EF.ob) (M := 20000) (loose := EF.names) (d := HandSHeadRun.topDef EF.R.prog 54) (kwd := []) EF.ob_eq
    (by kernel_rfl) (fun s => by kernel_rfl) EF.run (by kernel_rfl) (by kernel_rfl) (by kernel_rfl) (by rfl) (by first | assumption | decide +kernel) (by decide +kernel) ⟨rfl, rfl, rfl, rfl, rfl, by decide +kernel⟩ ?hw ?hc
  case hw => w_witness2
  case hc =>
    refine EF.walkB (l := PySem.Challenge.rw_everyfire_k15_whole_courses_of_a_fire) (n := 63) (k := 20) (x := "_law_script") rfl (by decide) (by kernel_rfl) ⟨rfl, by decide, by decide⟩ ?F
    intro w mg fa h Y G hmg0
    obtain ⟨K, KX, c⟩ := Y
    have hmg : mg ("law" : PySem.Str) = some (.ref fa) := by
      have e : (HandSHeadRun.topDef EF.R.prog 54).name = ("law" : PySem.Str) := by kernel_rfl
      rw [← e]
      exact hmg0
    obtain ⟨fd, hb, hF'⟩ := EF.facts (P := (PySem.Challenge.rw_everyfire_k15_whole_courses_of_a_fire).prog) (w := w) KX G hmg c (fun base fd T F => hF _ w K mg base fd T F)
    exact ⟨K, fd, EF.spLaw K, KX, hb, fun H a ns hl hb hS => ⟨a, ns, rfl, hS, hl, hb, fun _ => rfl⟩, hF'⟩
end
section
set_option maxHeartbeats 4000000
namespace EF
open PySem PySem.Spec PyProof.Rows L2 Evl
/-! ### data in the heap: numbers, texts, tuples of data -/
/-- every tuple that is read stays -/
structure Tk (H H' : Hp) : Prop where
  rd : ∀ a xs, Rd H a (.tup xs) → Rd H' a (.tup xs)
  fz : ∀ a ob xs, H a = some (.frz ob (.tup xs)) → H' a = some (.frz ob (.tup xs))
theorem Tk.refl (H : Hp) : Tk H H := ⟨fun _ _ h => h, fun _ _ _ h => h⟩
theorem Tk.trans {H H1 H2 : Hp} (a : Tk H H1) (b : Tk H1 H2) : Tk H H2 := ⟨fun x o h => b.rd x o (a.rd x o h), fun x o y h => b.fz x o y (a.fz x o y h)⟩
theorem ex_tk {H H' : Hp} (e : Ex H H') : Tk H H' := ⟨fun _ _ h => ex_rd e h, fun _ _ _ h => e _ _ h⟩
theorem tk_upd {H : Hp} {a : Addr} {o o' : HO} (h : H a = some o) (h1 : ∀ xs, o ≠ .tup xs) (h2 : ∀ ob xs, o ≠ .frz ob (.tup xs)) : Tk H (upd H a o') := by
  refine ⟨fun b xs r => ?_, fun b ob xs r => ?_⟩
  · have hb : b ≠ a := fun z => by
      rw [z] at r
      rcases r with r | ⟨ob, r⟩
      · rw [h] at r; exact h1 xs (Option.some.inj r)
      · rw [h] at r; exact h2 ob xs (Option.some.inj r)
    rcases r with r | ⟨ob, r⟩
    · exact .inl (by rw [upd_ne hb]; exact r)
    · exact .inr ⟨ob, by rw [upd_ne hb]; exact r⟩
  · have hb : b ≠ a := fun z => by
      rw [z, h] at r
      exact h2 ob xs (Option.some.inj r)
    rw [upd_ne hb]
    exact r
theorem tk_lst {H : Hp} {a : Addr} {xs : List V} {o' : HO} (h : H a = some (.lst xs)) : Tk H (upd H a o') := tk_upd h (fun _ z => nomatch z) fun _ _ z => nomatch z
theorem tk_dK {H : Hp} {a : Addr} {xs : List (Key × V)} {o' : HO} (h : H a = some (.dK xs)) : Tk H (upd H a o') := tk_upd h (fun _ z => nomatch z) fun _ _ z => nomatch z
theorem tk_ins {H : Hp} {a C dx : Addr} {fs : List (Str × V)} {o' : HO} (h : H a = some (.ins C dx fs)) : Tk H (upd H a o') := tk_upd h (fun _ z => nomatch z) fun _ _ z => nomatch z
theorem tk_frz {H : Hp} {a : Addr} {ob : Obj} {xs : List (Key × V)} {o' : HO} (h : H a = some (.frz ob (.dK xs))) : Tk H (upd H a o') := tk_upd h (fun _ z => nomatch z) fun _ _ z => by injection z with _ z; cases z
theorem tk_new {H : Hp} {a : Addr} {o' : HO} (h : H a = none) : Tk H (upd H a o') := ex_tk (Ex.new h)
theorem tk_t {K : PySem.W.Frag} {H H' : Hp} {a : Addr} {xs : List V} (e : Tk H H') (h : SqT K H a xs) : SqT K H' a xs := by
  rcases h with h | h
  · exact .inl (e.rd _ _ h)
  · exact .inr h
mutual
inductive Tp (K : PySem.W.Frag) (H : Hp) : V → PyData → Prop
  | non : Tp K H .non .none
  | bl (b : Bool) : Tp K H (.bl b) (.bool b)
  | int (i : Int) : Tp K H (.int i) (.int i)
  | str (x : Str) : Tp K H (.str x) (.str x)
  | tup {a : Addr} {xs : List V} {ds : List PyData} : SqT K H a xs → TpAll K H xs ds → Tp K H (.ref a) (.tuple ds)
inductive TpAll (K : PySem.W.Frag) (H : Hp) : List V → List PyData → Prop
  | nil : TpAll K H [] []
  | cons {v : V} {vs : List V} {d : PyData} {ds : List PyData} : Tp K H v d → TpAll K H vs ds → TpAll K H (v :: vs) (d :: ds)
end
mutual
theorem tp_tk {K : PySem.W.Frag} {H H' : Hp} (e : Tk H H') : ∀ {v : V} {d : PyData}, Tp K H v d → Tp K H' v d
  | _, _, .non => .non
  | _, _, .bl b => .bl b
  | _, _, .int i => .int i
  | _, _, .str x => .str x
  | _, _, .tup s r => .tup (tk_t e s) (tpa_tk e r)
theorem tpa_tk {K : PySem.W.Frag} {H H' : Hp} (e : Tk H H') : ∀ {vs : List V} {ds : List PyData}, TpAll K H vs ds → TpAll K H' vs ds
  | _, _, .nil => .nil
  | _, _, .cons r t => .cons (tp_tk e r) (tpa_tk e t)
end
mutual
theorem tp_dp {K : PySem.W.Frag} {H : Hp} : ∀ {v : V} {d : PyData}, Tp K H v d → Dp K H v d
  | _, _, .non => .non
  | _, _, .bl b => .bl b
  | _, _, .int i => .int i
  | _, _, .str x => .str x
  | _, _, .tup s r => .tup s (tpa_dpa r)
theorem tpa_dpa {K : PySem.W.Frag} {H : Hp} : ∀ {vs : List V} {ds : List PyData}, TpAll K H vs ds → DpAll K H vs ds
  | _, _, .nil => .nil
  | _, _, .cons r t => .cons (tp_dp r) (tpa_dpa t)
end
theorem tp_ex {K : PySem.W.Frag} {H H' : Hp} {v : V} {d : PyData} (e : Ex H H') (h : Tp K H v d) : Tp K H' v d := tp_tk (ex_tk e) h
theorem tpa_ex {K : PySem.W.Frag} {H H' : Hp} {vs : List V} {ds : List PyData} (e : Ex H H') (h : TpAll K H vs ds) : TpAll K H' vs ds := tpa_tk (ex_tk e) h
section
variable {K : PySem.W.Frag} {H : Hp} {v : V} {vs : List V} {d : PyData} {ds : List PyData}
theorem tp_int {i : Int} (h : Tp K H v (.int i)) : v = .int i := by cases h; rfl
theorem tp_str {x : Str} (h : Tp K H v (.str x)) : v = .str x := by cases h; rfl
theorem tp_non (h : Tp K H v .none) : v = .non := by cases h; rfl
theorem tp_tup (h : Tp K H v (.tuple ds)) : ∃ a xs, v = .ref a ∧ SqT K H a xs ∧ TpAll K H xs ds := by
  cases h with
  | tup s r => exact ⟨_, _, rfl, s, r⟩
theorem tpa_len : ∀ {vs : List V} {ds : List PyData}, TpAll K H vs ds → vs.length = ds.length
  | _, _, .nil => rfl
  | _, _, .cons _ t => congrArg (· + 1) (tpa_len t)
theorem tpa_cons (h : TpAll K H vs (d :: ds)) : ∃ x xs, vs = x :: xs ∧ Tp K H x d ∧ TpAll K H xs ds := by
  cases h with
  | cons r t => exact ⟨_, _, rfl, r, t⟩
theorem tpa_nil (h : TpAll K H vs []) : vs = [] := by cases h; rfl
theorem tpa_get : ∀ {vs : List V} {ds : List PyData} {i : Nat} {d : PyData}, TpAll K H vs ds → ds[i]? = some d → ∃ v, vs[i]? = some v ∧ Tp K H v d
  | _, _, _, _, .nil, e => by simp at e
  | _, _, 0, _, .cons r _, e => by simp at e; subst e; exact ⟨_, rfl, r⟩
  | _, _, i + 1, _, .cons _ t, e => by
    obtain ⟨v, h1, h2⟩ := tpa_get (i := i) t (by simpa using e)
    exact ⟨v, by simpa using h1, h2⟩
theorem tpa_at : ∀ {vs : List V} {ds : List PyData} {i : Nat} {v : V}, TpAll K H vs ds → vs[i]? = some v → ∃ d, ds[i]? = some d ∧ Tp K H v d
  | _, _, _, _, .nil, e => by simp at e
  | _, _, 0, _, .cons r _, e => by simp at e; subst e; exact ⟨_, rfl, r⟩
  | _, _, i + 1, _, .cons _ t, e => by
    obtain ⟨v, h1, h2⟩ := tpa_at (i := i) t (by simpa using e)
    exact ⟨v, by simpa using h1, h2⟩
theorem tpa_app : ∀ {vs ws : List V} {ds es : List PyData}, TpAll K H vs ds → TpAll K H ws es → TpAll K H (vs ++ ws) (ds ++ es)
  | _, _, _, _, .nil, s => s
  | _, _, _, _, .cons r t, s => .cons r (tpa_app t s)
theorem tpa_one (h : Tp K H v d) : TpAll K H [v] [d] := .cons h .nil
theorem tpa_take : ∀ {vs : List V} {ds : List PyData} (n : Nat), TpAll K H vs ds → TpAll K H (vs.take n) (ds.take n)
  | _, _, 0, _ => .nil
  | _, _, _ + 1, .nil => .nil
  | _, _, n + 1, .cons r t => .cons r (tpa_take n t)
theorem tpa_drop : ∀ {vs : List V} {ds : List PyData} (n : Nat), TpAll K H vs ds → TpAll K H (vs.drop n) (ds.drop n)
  | _, _, 0, s => s
  | _, _, _ + 1, .nil => .nil
  | _, _, n + 1, .cons _ t => tpa_drop n t
theorem tpa_ints : ∀ {vs : List V} {ns : List Int}, TpAll K H vs (ns.map PyData.int) → vs = ns.map V.int
  | _, [], h => tpa_nil h
  | _, n :: ns, h => by
    obtain ⟨x, xs, rfl, r, t⟩ := tpa_cons h
    rw [tp_int r, tpa_ints t]
    rfl
theorem tpa_strs : ∀ {vs : List V} {ns : List Str}, TpAll K H vs (ns.map PyData.str) → vs = ns.map V.str
  | _, [], h => tpa_nil h
  | _, n :: ns, h => by
    obtain ⟨x, xs, rfl, r, t⟩ := tpa_cons h
    rw [tp_str r, tpa_strs t]
    rfl
theorem tpa_of_ints : ∀ {ns : List Int}, TpAll K H (ns.map V.int) (ns.map PyData.int)
  | [] => .nil
  | _ :: _ => .cons (.int _) tpa_of_ints
theorem tpa_of_strs : ∀ {ns : List Str}, TpAll K H (ns.map V.str) (ns.map PyData.str)
  | [] => .nil
  | _ :: _ => .cons (.str _) tpa_of_strs
/-- an item of a list of encoded things -/
theorem tpa_item {α : Type} {f : α → PyData} {l : List α} {i : Nat} (h : TpAll K H vs (l.map f)) {v : V} (e : vs[i]? = some v) : ∃ a, l[i]? = some a ∧ Tp K H v (f a) := by
  obtain ⟨d, h1, h2⟩ := tpa_at h e
  rw [List.getElem?_map] at h1
  cases q : l[i]? with
  | none => rw [q] at h1; cases h1
  | some a =>
    rw [q] at h1
    cases h1
    exact ⟨a, rfl, h2⟩
theorem tpa_item' {α : Type} {f : α → PyData} {l : List α} {i : Nat} {a : α} (h : TpAll K H vs (l.map f)) (e : l[i]? = some a) : ∃ v, vs[i]? = some v ∧ Tp K H v (f a) :=
  tpa_get h (by rw [List.getElem?_map, e]; rfl)
theorem tpa_maplen {α : Type} {f : α → PyData} {l : List α} (h : TpAll K H vs (l.map f)) : vs.length = l.length := by
  rw [tpa_len h, List.length_map]
/-- two, four things in a tuple -/
theorem tp_tup2 {d1 d2 : PyData} (h : Tp K H v (.tuple [d1, d2])) : ∃ a x y, v = .ref a ∧ SqT K H a [x, y] ∧ Tp K H x d1 ∧ Tp K H y d2 := by
  obtain ⟨a, xs, rfl, s, r⟩ := tp_tup h
  obtain ⟨x, xs, rfl, r1, r⟩ := tpa_cons r
  obtain ⟨y, xs, rfl, r2, r⟩ := tpa_cons r
  cases tpa_nil r
  exact ⟨a, x, y, rfl, s, r1, r2⟩
theorem tp_tup3 {d1 d2 d3 : PyData} (h : Tp K H v (.tuple [d1, d2, d3])) : ∃ a x y z, v = .ref a ∧ SqT K H a [x, y, z] ∧ Tp K H x d1 ∧ Tp K H y d2 ∧ Tp K H z d3 := by
  obtain ⟨a, xs, rfl, s, r⟩ := tp_tup h
  obtain ⟨x, xs, rfl, r1, r⟩ := tpa_cons r
  obtain ⟨y, xs, rfl, r2, r⟩ := tpa_cons r
  obtain ⟨z, xs, rfl, r3, r⟩ := tpa_cons r
  cases tpa_nil r
  exact ⟨a, x, y, z, rfl, s, r1, r2, r3⟩
theorem tp_tup4 {d1 d2 d3 d4 : PyData} (h : Tp K H v (.tuple [d1, d2, d3, d4])) : ∃ a x y z w, v = .ref a ∧ SqT K H a [x, y, z, w] ∧ Tp K H x d1 ∧ Tp K H y d2 ∧ Tp K H z d3 ∧ Tp K H w d4 := by
  obtain ⟨a, xs, rfl, s, r⟩ := tp_tup h
  obtain ⟨x, xs, rfl, r1, r⟩ := tpa_cons r
  obtain ⟨y, xs, rfl, r2, r⟩ := tpa_cons r
  obtain ⟨z, xs, rfl, r3, r⟩ := tpa_cons r
  obtain ⟨w, xs, rfl, r4, r⟩ := tpa_cons r
  cases tpa_nil r
  exact ⟨a, x, y, z, w, rfl, s, r1, r2, r3, r4⟩
/-- a list of data -/
def Ls (K : PySem.W.Frag) (H : Hp) (v : V) (ds : List PyData) : Prop := ∃ a xs, v = .ref a ∧ SqL K H a xs ∧ TpAll K H xs ds
theorem ls_ex {H' : Hp} (e : Ex H H') (h : Ls K H v ds) : Ls K H' v ds := by
  obtain ⟨a, xs, h1, h2, h3⟩ := h
  exact ⟨a, xs, h1, ex_l e h2, tpa_ex e h3⟩
end
/-! ### the kinds of data of this program -/
structure Lk where
  nm : Str
  one : Str
  oth : Str
  tm : List (Option (Int × Int))
def ePr : Option (Int × Int) → PyData
  | none => .none
  | some p => .tuple [.int p.1, .int p.2]
def eO : Option Int → PyData
  | none => .none
  | some i => .int i
def eLk (l : Lk) : PyData := .tuple [.str l.nm, .str l.one, .str l.oth, .tuple (l.tm.map ePr)]
def eRw (r : List (Option Int)) : PyData := .tuple (r.map eO)
def eMP (p : Int × Str) : PyData := .tuple [.int p.1, .str p.2]
def ePM (p : Str × Int) : PyData := .tuple [.str p.1, .int p.2]
def ePO (p : Str × Option Int) : PyData := .tuple [.str p.1, eO p.2]
def vO : Option Int → V
  | none => .non
  | some i => .int i
theorem tp_o {K : PySem.W.Frag} {H : Hp} {v : V} {o : Option Int} (h : Tp K H v (eO o)) : v = vO o := by
  cases o with
  | none => exact tp_non h
  | some i => exact tp_int h
theorem tp_vO {K : PySem.W.Frag} {H : Hp} (o : Option Int) : Tp K H (vO o) (eO o) := by
  cases o with
  | none => exact .non
  | some i => exact .int i
/-! ### a def as it is called -/
/-- the def at f keeps the promise sp; it has the parameters ps, no defaults -/
structure Cal (P : Program) (w : World) (K : PySem.W.Frag) (mg : Str → Option Value) (base : Heap) (k : Nat) (f : Addr) (ps : List Str) (sp : Sp) : Prop where
  ok : ∃ fd, FnOk P w K mg base CX0 k f fd ps sp ∧ Binds K fd ps [] ∧ PySem.W.keepIn K (.ref f) = true
section
variable {X : Cx} {k k' : Nat} {f C : Addr} {ps : List Str} {sp : Sp} {x m : Str} {p pos apos : Pos} {e o : Expr} {es : List Expr} {t : TA} {ta : TE} {pl : Sem Bool}
theorem pe_cal (c : Cal X.prog X.w X.K X.mg X.base k f ps sp) (hr : Room k' X.A) (hm : X.mg x = some (.ref f)) (ha : PA X (e :: es) t) (hk : k ≤ k' := by decide) (hg : Gl X x := by rfl) (hdb : (x == ("__debug__" : Str)) = false := by decide)
    (he : starEach (e :: es) X.env = (false, eval e X.env) :: starEach es X.env := by rfl) (hpl : (backTo pos (starEach es X.env)).any (·.1) = false := by rfl) : PE X (.Call (.Name x p) (e :: es) [] pos) (tCall sp [] E0 t) := by
  obtain ⟨fd, F, b, kp⟩ := c.ok
  exact pe_call F (hr.mono hk) hg hm kp b .nil pass0 ha hdb he hpl
end
end EF
end
section
set_option maxHeartbeats 4000000
namespace PySem
open Sem (wp)
open AutoSeq1 (wpAny_loadPart')
/-- enumerate(v) of anything whose iterator is a new object o -/
theorem ef_meets_enum1 {v : Value} {o : Obj} {H : Heap → Prop} (B : Begins v o H) :
    Meets (Builtin.«enumerate.__new__» ⟨[.type "enumerate", v], []⟩) (fun _ R s => H s.heap ∧
      R (.ok (.ret (.ref (s.heap.push o).objs.size))) { s with heap := (s.heap.push o).push { cls := .type "enumerate", data := .fields #[.none, .bool false, .ref s.heap.objs.size, rawInt 0, .none, .none] } }) :=
  .of_wp fun prog w A R s h => by
    obtain ⟨hp, g, d, tk, os⟩ := s
    obtain ⟨h1, h⟩ := h
    have hsub := sub_enumerate
    have q1 : ∀ {A' : Around} {E : Value → Shared → Prop} {Q : Value → Shared → Prop}, Q (.ref hp.objs.size) ⟨hp.push o, g, d, tk, os⟩ → wpAny (model prog w) A' (pyIter v) Q E ⟨hp, g, d, tk, os⟩ := fun q => B.iter prog w _ _ ⟨hp, g, d, tk, os⟩ _ h1 q
    wp_walk using q1
    refine wpAny_stack_any fun st => wpAny_pure ?_
    split
    · rename_i c _ _ _ _ _
      cases (c == Value.type "enumerate") <;>
      · wp_walk using q1
        exact ⟨_, rfl, h⟩
    · wp_walk using q1
      exact ⟨_, rfl, h⟩
theorem ef_enum1 {prog : Program} {w : World} {A : Around} {E : Value → Shared → Prop} {s : Shared} {v : Value} {o : Obj} {H : Heap → Prop} {Q : Value → Shared → Prop} (B : Begins v o H) (h1 : H s.heap)
    (h : ∀ h', IsEnum h' (s.heap.objs.size + 1) s.heap.objs.size 0 .none → h'.get? s.heap.objs.size = some o → (∀ b o, s.heap.get? b = some o → h'.get? b = some o) → Q (.ref (s.heap.objs.size + 1)) { s with heap := h' }) :
    wpAny (model prog w) A (call (.type "enumerate") [v]) Q E s := by
  refine callType_new F.called_enumerate (by decide) (F.typeCall_enumerate_1 _) (F.newCall_enumerate_1 _) (fun obj => F.args_object_init_2 obj _) F.entry_enumerate_new (ef_meets_enum1 B) ⟨h1, ?_⟩
  have hz : (s.heap.push o).objs.size = s.heap.objs.size + 1 := Heap.size_push ..
  show _ ∧ _
  rw [hz]
  have he : IsEnum ((s.heap.push o).push { cls := .type "enumerate", data := .fields #[.none, .bool false, .ref s.heap.objs.size, rawInt 0, .none, .none] }) (s.heap.objs.size + 1) s.heap.objs.size 0 .none := by
    have z := Heap.get?_push_size (s.heap.push o) (o := { cls := .type "enumerate", data := .fields #[.none, .bool false, .ref s.heap.objs.size, rawInt 0, .none, .none] }) rfl
    rw [hz] at z
    exact z
  exact ⟨⟨_, he, rfl⟩, h _ he (Heap.get?_push_of_some _ (Heap.get?_push_size _ B.free)) fun b o x => Heap.get?_push_of_some _ (Heap.get?_push_of_some _ x)⟩
end PySem
namespace EF
open PySem PySem.Spec PyProof.Rows L2 Evl RZ
/-- the tuple at a, each item in a new pair with its place -/
def IteT (K : PySem.W.Frag) (a : Addr) : It where
  go := fun i H => ∃ xs : List V, SqT K H a xs ∧ i < xs.length
  yld := fun i H v H' => ∃ T x, v = .ref T ∧ H T = none ∧ H' = upd H T (.tup [.int (i : Nat), x]) ∧ ∀ xs, SqT K H a xs → xs[i]? = some x
  stop := fun i H => ∃ xs : List V, SqT K H a xs ∧ i = xs.length
theorem turn_enumT {P : Program} {w : World} {K : PySem.W.Frag} {elts : List Expr} {kk : Nat} {tpos : Pos} (a e it : Addr) (hae : a ≠ e) (hai : a ≠ it) (hei : e ≠ it) :
    Turn P w K (.Tuple elts kk tpos) (IteT K a) [e, it] e (fun i h => (∃ old, IsEnum h e it ((i : Nat) : Int) old) ∧ h.IsTupleIter it a i) where
  mem := List.mem_cons_self
  obj := fun i h st b hb => by
    obtain ⟨⟨old, he⟩, o, ho, hc, hd⟩ := st
    rcases List.mem_cons.mp hb with z | z
    · rw [z]; exact ⟨_, he, fun v q => nomatch q⟩
    · rw [List.mem_singleton.mp z]
      exact ⟨o, ho, fun v q => by rw [hd] at q; cases q⟩
  keep := fun i h h' st k => ⟨st.1.elim fun old he => ⟨old, k e List.mem_cons_self _ he⟩, st.2.at fun o q => k it (by simp) o q⟩
  item := by
    intro X hP hw hK hc i pins s σ H E I hf st hg
    subst hP hw hK
    obtain ⟨⟨old, he⟩, hit⟩ := st
    obtain ⟨xs, hq, hi⟩ := hg
    obtain ⟨its, rv, p, hz⟩ := I.tuple hq
    have hlen := rv.length
    have hel : e < s.heap.objs.size := Heap.lt_size he
    have hil : it < s.heap.objs.size := hit.elim fun o q => Heap.lt_size q.1
    have D := Draws.tuple (prog := X.prog) (w := X.w) (A := X.A.in1) (I.ok.hd hc) it a hai its.toArray
    refine wpAny_pyNext_enum_itemD D he ⟨hit, p⟩ (by simp; omega) hei (by simp [hei, Ne.symm hae]) fun u h' tk hu ho hst hT hsz hk => ?_
    have hu' : its[i]? = some u := by simpa using hu
    have hx : xs[i]? = some xs[i] := List.getElem?_eq_getElem hi
    obtain ⟨u2, hu2, ru⟩ := rv.get hx
    obtain rfl : u = u2 := Option.some.inj (hu'.symm.trans hu2)
    refine ⟨_, rfl, wpAny_letOwnedTupleGo_enum (s := { s with heap := h', toks := tk + 1 }) ho fun h'' he' sb => ?_⟩
    have hT2 : h''.get? s.heap.objs.size = some { cls := .type "tuple", data := .seq #[.int i tk, u] } := (sb.2 _ (Nat.ne_of_gt hel)).trans hT
    have new : ObjOk X.prog X.w (upd H s.heap.objs.size (.tup [.int (i : Nat), xs[i]])) h'' s.heap.objs.size (.tup [.int (i : Nat), xs[i]]) :=
      ⟨sz_of (by show 2 ≤ 100000; decide), [.int i tk, u], .cons ⟨_, rfl⟩ (.cons ru .nil), ⟨_, hT2, rfl, _, rfl⟩⟩
    have I1 : Inv X pins σ (upd H s.heap.objs.size (.tup [.int (i : Nat), xs[i]])) { s with heap := h'', toks := tk + 1 } :=
      I.turnedNew (ch := [e, it]) (fun b ob hb q => (sb.2 b (fun z => hb (by simp [z]))).trans (hk b ob (fun z => hb (by simp [z])) (fun z => hb (by simp [z])) q)) hf (Nat.le_refl _) new
    refine ⟨.ref s.heap.objs.size, _, I1, rfl, ⟨_, xs[i], rfl, I.hok.fresh (Nat.le_refl _), rfl, fun ys hy => by rw [I.tuple_inj hy hq]; exact hx⟩, ⟨⟨u, ?_⟩, hst.1.at fun o q => (sb.2 it (Ne.symm hei)).trans q⟩, fun b hb => ?_⟩
    · have e1 : ((i + 1 : Nat) : Int) = (i : Int) + 1 := by omega
      rw [e1]
      exact he'
    · have hb' : b < s.heap.objs.size := by
        rcases List.mem_cons.mp hb with z | z
        · rw [z]; exact hel
        · rw [List.mem_singleton.mp z]; exact hil
      rw [upd_ne (Nat.ne_of_lt hb')]
      exact (hf b hb).1
  done := by
    intro X hP hw hK hc i pins s σ H E I hf st hg
    subst hP hw hK
    obtain ⟨⟨old, he⟩, hit⟩ := st
    obtain ⟨xs, hq, hi⟩ := hg
    obtain ⟨its, rv, p, hz⟩ := I.tuple hq
    obtain ⟨f0, f1, f2, f3, f4, f5⟩ := hf it (by simp)
    have hlen := rv.length
    have D := Draws.tuple (prog := X.prog) (w := X.w) (A := X.A.in1) (I.ok.hd hc) it a hai its.toArray
    have hi2 : i = its.toArray.size := by simp; omega
    rw [hi2] at hit
    exact wpAny_pyNext_enum_endD D he ⟨hit, p⟩ fun h' eb => ⟨rfl, I.turned (t' := s.toks) (fun b o hb q => eb b o hb q) f0 f1 f3 f4 f5⟩
  self := fun A i s Q E st h => st.1.elim fun _ he => wpAny_pyIter_enum he h
def iEnumT (K : PySem.W.Frag) (ta : TA) : TI := fun σ H R => ta σ H fun vs H1 => ∃ a, vs = [.ref a] ∧ (((∃ xs, SqL K H1 a xs) ∧ R (Ite K a) H1) ∨ ((∃ xs, SqT K H1 a xs) ∧ R (IteT K a) H1))
/-- enumerate(list or tuple) -/
theorem pi_enumA {X : Cx} {e : Expr} {ta : TA} {p pos tpos : Pos} {elts : List Expr} {kk : Nat} (hg : Gl X "enumerate") (hm : X.mg "enumerate" = none) (ha : PA X [e] ta) (hs : starEach [e] X.env = [(false, eval e X.env)] := by rfl) :
    PI X (.Tuple elts kk tpos) (.Call (.Name "enumerate" p) [e] [] pos) (iEnumT X.K ta) := by
  refine ⟨fun pins s σ H R I h => ?_⟩
  refine Call_ (ld_blt I hg hm boot_enumerate (PyProof.Rows.callWith_type1 (thn (ha.run pos pins s σ H _ I h) fun us s1 ⟨vs, H1, I1, r1, q1⟩ => ?_) hs rfl))
  obtain ⟨a, ex, q⟩ := q1
  subst ex
  obtain ⟨u, rfl, ru⟩ := vals1 r1
  cases ru
  have hin : ∀ b, b ∈ [s1.heap.objs.size + 1, s1.heap.objs.size] → FpOk X pins H1 b := fun b hb => by
    have hle : s1.heap.objs.size ≤ b := by
      rcases List.mem_cons.mp hb with z | z
      · rw [z]; exact Nat.le_succ _
      · rw [List.mem_singleton.mp z]; exact Nat.le_refl _
    exact I1.fpOk hle (I1.hok.fresh hle)
  rcases q with ⟨⟨xs, hq⟩, q⟩ | ⟨⟨xs, hq⟩, q⟩
  · obtain ⟨its, rv, p', hz⟩ := I1.list hq
    refine call_enumerate_list p'.isList fun h' he hit hsz hk => wpAny_pyIter_enum he ?_
    have I2 : Inv X pins σ H1 { s1 with heap := h' } := I1.kept (t' := s1.toks) hk
    exact ⟨s1.heap.objs.size + 1, [s1.heap.objs.size + 1, s1.heap.objs.size], _, _, H1, rfl, I2, turn_enum a (s1.heap.objs.size + 1) s1.heap.objs.size, ⟨⟨.none, he⟩, hit, Nat.succ_ne_self _⟩, hin, q⟩
  · obtain ⟨its, rv, p', hz⟩ := I1.tuple hq
    have hal : a < s1.heap.objs.size := p'.lt
    refine ef_enum1 (begins_tuple a its.toArray) p' fun h' he hit hk => wpAny_pyIter_enum he ?_
    have I2 : Inv X pins σ H1 { s1 with heap := h' } := I1.kept (t' := s1.toks) hk
    exact ⟨s1.heap.objs.size + 1, [s1.heap.objs.size + 1, s1.heap.objs.size], _, _, H1, rfl, I2, turn_enumT a (s1.heap.objs.size + 1) s1.heap.objs.size (Nat.ne_of_lt (Nat.lt_succ_of_lt hal)) (Nat.ne_of_lt hal) (Nat.succ_ne_self _), ⟨⟨.none, he⟩, _, hit, rfl, rfl⟩, hin, q⟩
theorem walk_enumT {K : PySem.W.Frag} {a : Addr} {xs : List V} : Walk (IteT K a) xs.length (fun H => SqT K H a xs) (YPair (fun i => some (.int (i : Nat))) (fun i => xs[i]?)) := by
  refine ⟨fun i _ hi q => ⟨xs, q, hi⟩, fun _ q => ⟨xs, q, rfl⟩, fun i H v H' _ q y => ?_⟩
  obtain ⟨T, x, h1, h2, h3, h4⟩ := y
  exact ⟨T, .int (i : Nat), x, h1, h2, h3, rfl, h4 xs q⟩
theorem walk_zipT {K : PySem.W.Frag} {a b : Addr} {xs ys : List V} {n : Nat} (hn : n = min xs.length ys.length) : Walk (ItzT K a b) n (fun H => SqT K H a xs ∧ SqT K H b ys) (YPair (fun i => xs[i]?) (fun i => ys[i]?)) := by
  subst hn
  refine ⟨fun i _ hi q => ?_, fun _ q => ⟨xs, ys, q.1, q.2, by omega⟩, fun i H v H' _ q y => ?_⟩
  · have h1 : i < xs.length := by omega
    have h2 : i < ys.length := by omega
    exact ⟨xs, ys, xs[i], ys[i], q.1, q.2, List.getElem?_eq_getElem h1, List.getElem?_eq_getElem h2⟩
  · obtain ⟨T, x, z, h1, h2, h3, h4, h5⟩ := y
    exact ⟨T, x, z, h1, h2, h3, h4 xs q.1, h5 ys q.2⟩
end EF
end
section
set_option maxHeartbeats 4000000
namespace EF
open PySem PySem.Spec PyProof.Rows PySem.W L2 Evl RZ
/-! ### a new dict that is only read from here on -/
def tFrz (t : TE) : TE := fun σ H Q => t σ H fun v H1 => ∃ d u, v = .ref d ∧ H1 d = some u ∧ Mut (some u) ∧ ∀ od, Q v (upd H1 d (.frz od u))
theorem pe_frz {X : Cx} {e : Expr} {t : TE} (h : PE X e t) : PE X e (tFrz t) := by
  refine ⟨fun pins s σ H Q I hw => ?_⟩
  refine thn (h.run pins s σ H _ I hw) fun u s1 ⟨v, H1, I1, r, d, o, e, hd, mu, q⟩ => ?_
  obtain ⟨od, I2⟩ := I1.lock hd mu
  exact ⟨v, _, I2, r, q od⟩
/-! ### a <= b <= c <= d -/
def tChain3 (r r' r2 : R2) (ta tb tc td : TE) : TE := fun σ H Q => ta σ H fun x H1 => tb σ H1 fun y H2 => r x y H2 fun z H3 => ∃ k, z = .bl k ∧
  (if k = true then tc σ H3 fun w' H4 => r' y w' H4 fun z2 H5 => ∃ k2, z2 = .bl k2 ∧ (if k2 = true then td σ H5 fun w2 H6 => r2 w' w2 H6 Q else Q (.bl false) H5) else Q (.bl false) H3)
theorem pe_chain3 {X : Cx} {a b c d : Expr} {ta tb tc td : TE} {pos : Pos} {o1 o2 o3 : CmpOp} {r r' r2 : R2} (h1 : OpR X (compareOp o1) r) (h2 : OpR X (compareOp o2) r') (h3 : OpR X (compareOp o3) r2) (ha : PE X a ta) (hb : PE X b tb) (hc : PE X c tc) (hd : PE X d td)
    (hm : lastMarks [o1, o2, o3] [b, c, d] = false := by with_unfolding_all rfl) : PE X (.Compare a [o1, o2, o3] [b, c, d] pos) (tChain3 r r' r2 ta tb tc td) := by
  refine ⟨fun pins s σ H Q I h => ?_⟩
  refine Compare_chain (thn (ha.run pins s σ H _ I h) fun v s1 ⟨x, H1, I1, r1, q1⟩ => chain_link (thn (hb.run pins s1 σ H1 _ I1 q1) fun u s2 ⟨y, H2, I2, rr2, q2⟩ =>
    thn (h1 pins s2 σ H2 x y v u _ I2 r1 rr2 q2) fun dd s3 ⟨z, H3, I3, r3, k, e, q3⟩ => ?_)) hm
  subst e
  cases r3
  refine wpAny_truthy_bool ?_
  cases k with
  | false => exact ite_ff ⟨.bl false, H3, I3, rfl, q3⟩
  | true =>
    refine ite_tt (chain_link (thn (hc.run pins s3 σ H3 _ I3 q3) fun w' s4 ⟨z', H4, I4, r4, q4⟩ => thn (h2 pins s4 σ H4 y z' u w' _ I4 rr2 r4 q4) fun d' s5 ⟨z2, H5, I5, r5, k2, e2, q5⟩ => ?_))
    subst e2
    cases r5
    refine wpAny_truthy_bool ?_
    cases k2 with
    | false => exact ite_ff ⟨.bl false, H5, I5, rfl, q5⟩
    | true => exact ite_tt (chain_last (thn (hd.run pins s5 σ H5 _ I5 q5) fun w2 s6 ⟨z6, H6, I6, r6, q6⟩ => h3 pins s6 σ H6 z' z6 w' w2 Q I6 r4 r6 q6))
/-! ### min of a list of (minute, place); min of ints with default=None -/
theorem alike_mp (p q : Int × Str) : alike (eMP p) (eMP q) = true := by
  simp [eMP, alike, alikeAll]
theorem lt_mp (p q : Int × Str) : (dataLt (eMP p) (eMP q) = true → p.1 ≤ q.1) ∧ (dataLt (eMP p) (eMP q) = false → q.1 ≤ p.1) := by
  unfold eMP
  rw [dataLt_tuple]
  by_cases h : p.1 = q.1
  · exact ⟨fun _ => by omega, fun _ => by omega⟩
  · rw [dataLt_all_no (by simp [alike]) (by simp [PyData.eqv, h]), dataLt_int]
    exact ⟨fun e => Int.le_of_lt (of_decide_eq_true e), fun e => Int.not_lt.mp (of_decide_eq_false e)⟩
theorem minD_mp : ∀ (l : List (Int × Str)) (p : Int × Str), ∃ q, q ∈ p :: l ∧ minD (eMP p) (l.map eMP) = eMP q ∧ ∀ r ∈ p :: l, q.1 ≤ r.1
  | [], p => ⟨p, List.mem_cons_self, rfl, fun r hr => by rw [List.mem_singleton.mp hr]; exact Int.le_refl _⟩
  | a :: l, p => by
    have key : ∀ c : Int × Str, (c = p ∨ c = a) → c.1 ≤ p.1 → c.1 ≤ a.1 → ∃ q, q ∈ p :: a :: l ∧ minD (eMP c) (l.map eMP) = eMP q ∧ ∀ r ∈ p :: a :: l, q.1 ≤ r.1 := fun c hc h1 h2 => by
      obtain ⟨q, hq, e, hl⟩ := minD_mp l c
      have hqc := hl c List.mem_cons_self
      refine ⟨q, ?_, e, fun r hr => ?_⟩
      · rcases List.mem_cons.mp hq with z | z
        · subst z
          rcases hc with z | z
          · rw [z]; exact List.mem_cons_self
          · rw [z]; exact List.mem_cons_of_mem _ List.mem_cons_self
        · exact List.mem_cons_of_mem _ (List.mem_cons_of_mem _ z)
      · rcases List.mem_cons.mp hr with z | z
        · rw [z]; exact Int.le_trans hqc h1
        · rcases List.mem_cons.mp z with z | z
          · rw [z]; exact Int.le_trans hqc h2
          · exact hl r (List.mem_cons_of_mem _ z)
    show ∃ q, q ∈ p :: a :: l ∧ minD (if dataLt (eMP a) (eMP p) then eMP a else eMP p) (l.map eMP) = eMP q ∧ ∀ r ∈ p :: a :: l, q.1 ≤ r.1
    cases h : dataLt (eMP a) (eMP p) with
    | true => exact key a (.inr rfl) ((lt_mp a p).1 h) (Int.le_refl _)
    | false => exact key p (.inl rfl) (Int.le_refl _) ((lt_mp a p).2 h)
theorem depth_mp : ∀ l : List (Int × Str), PyData.depthAll (l.map eMP) ≤ 5
  | [] => by simp [PyData.depthAll]
  | a :: l => by
    have ih := depth_mp l
    simp only [List.map_cons, PyData.depthAll, eMP, PyData.depth]
    omega
def rMinMP (K : PySem.W.Frag) : List V → Hp → VK → Prop := fun vs H Q => ∃ a xs l, vs = [.ref a] ∧ SqL K H a xs ∧ TpAll K H xs (l.map eMP) ∧ l ≠ [] ∧ ∀ v p, p ∈ l → (∀ r ∈ l, p.1 ≤ r.1) → Tp K H v (eMP p) → Q v H
theorem cr_minMP {X : Cx} (hc : X.calm = true) (hu : X.A.units + 64 < cLine) : CallR X (.builtin "min") (rMinMP X.K) := by
  intro pins s σ H vs us Q I r h
  obtain ⟨a, xs, l, rfl, hs, hd, hne, q⟩ := h
  obtain ⟨its, rv, hl, _⟩ := I.list hs
  obtain ⟨as, hr⟩ := Dp.readsAll I _ _ its (tpa_dpa hd) rv
  obtain ⟨u, rfl, ru⟩ := vals1 r
  cases ru
  cases l with
  | nil => exact absurd rfl hne
  | cons p l =>
    have hA : AlikeAll ((p :: l).map eMP) := by
      refine ⟨fun x hx y hy => ?_, fun x hx => ?_⟩
      · obtain ⟨p1, _, rfl⟩ := List.mem_map.mp hx
        obtain ⟨p2, _, rfl⟩ := List.mem_map.mp hy
        exact alike_mp _ _
      · obtain ⟨p1, _, rfl⟩ := List.mem_map.mp hx
        exact fun z => nomatch z
    have hz := depth_mp (p :: l)
    refine min_list_data (x := eMP p) (xs := l.map eMP) (I.ok.hd hc) hl.isList (by simpa using hr) hA (by rw [← List.map_cons]; omega) fun i v h' tk bs hv hrd hk => ?_
    have hv' : its[i]? = some v := by simpa using hv
    have hi := (List.getElem?_eq_some_iff.mp hv').1
    have hlen := rv.length
    have hx : xs[i]? = some (xs[i]'(by omega)) := List.getElem?_eq_getElem _
    obtain ⟨u, hu1, hu2⟩ := rv.get hx
    obtain rfl : v = u := Option.some.inj (hv'.symm.trans hu1)
    obtain ⟨p0, hp0, hd0⟩ := tpa_item hd hx
    obtain ⟨as0, hr0⟩ := Dp.reads I _ _ _ (tp_dp hd0) hu2
    obtain ⟨q0, hm, e, hle⟩ := minD_mp l p
    rw [e] at hrd
    have e2 : eMP p0 = eMP q0 := alike_unique _ _ v _ _ (alike_mp _ _) (reads_keeps hk hr0) hrd
    rw [e2] at hd0
    exact ⟨_, H, I.kept (t' := tk) hk, hu2, q _ q0 hm hle hd0⟩
def rMinO (K : PySem.W.Frag) : List V → List V → Hp → VK → Prop := fun vs zs H Q => ∃ (a : Addr) (ns : List Int), vs = [.ref a] ∧ zs = [.non] ∧ SqL K H a (ns.map V.int) ∧ Q (vO ns.min?) H
theorem depth_ints : ∀ l : List Int, PyData.depthAll (l.map .int) ≤ 5
  | [] => by simp [PyData.depthAll]
  | a :: l => by
    have ih := depth_ints l
    simp only [List.map_cons, PyData.depthAll, PyData.depth]
    omega
theorem cr_minO {X : Cx} (hc : X.calm = true) (hu : X.A.units + 64 < cLine) : CallRK X (.builtin "min") [Str.ofString "default"] (rMinO X.K) := by
  intro pins s σ H vs zs us ws Q I r rz h
  obtain ⟨a, ns, rfl, rfl, hs, q⟩ := h
  obtain ⟨its, rv, hl, _⟩ := I.list hs
  obtain ⟨as, hr⟩ := Dp.readsAll I _ _ its (tpa_dpa (tpa_of_ints (K := X.K) (H := H) (ns := ns))) rv
  obtain ⟨u, rfl, ru⟩ := vals1 r
  cases ru
  obtain ⟨w1, rfl, rw1⟩ := vals1 rz
  obtain rfl : w1 = Value.none := rw1
  have hz := depth_ints ns
  have hA : AlikeAll (ns.map PyData.int) := by
    refine ⟨fun x hx y hy => ?_, fun x hx => ?_⟩
    · obtain ⟨p1, _, rfl⟩ := List.mem_map.mp hx
      obtain ⟨p2, _, rfl⟩ := List.mem_map.mp hy
      simp [alike]
    · obtain ⟨p1, _, rfl⟩ := List.mem_map.mp hx
      exact fun z => nomatch z
  refine min_list_default (d := .none) (I.ok.hd hc) hl.isList (by simpa using hr) hA (by omega) (fun e h' tk hk => ?_) fun y ys i v h' tk bs e hv hrd hk => ?_
  · have e1 : ns = [] := List.map_eq_nil_iff.mp e
    subst e1
    exact ⟨.non, H, I.kept (t' := tk) hk, rfl, q⟩
  · cases ns with
    | nil => cases e
    | cons n ns =>
      injection e with e1 e2
      subst e1 e2
      rw [minD_ints] at hrd
      cases hrd with
      | int k t => exact ⟨.int _, H, I.kept (t' := tk) hk, ⟨t, rfl⟩, q⟩
/-! ### o.m(e, ..) -/
section
variable {X : Cx} {k k' : Nat} {f C : Addr} {ps : List Str} {sp : Sp} {x m : Str} {p pos apos : Pos} {e o : Expr} {es : List Expr} {t : TA} {ta : TE} {pl : Sem Bool}
theorem pe_calM (c : Cal X.prog X.w X.K X.mg X.base k f ps sp) (he : PE X o ta) (cl : Cls X.K C) (hm : Meth X.K C m f) (hr : Room k' X.A) (ha : PA X (e :: es) t) (hk : k ≤ k' := by decide)
    (hst : starEach (e :: es) X.env = (false, eval e X.env) :: starEach es X.env := by rfl) (hpl : (backTo pos (starEach es X.env)).any (·.1) = false := by rfl)
    (ht : eval (.Call (.Attribute o m apos) (e :: es) [] pos) X.env = (do
      let ov ← eval o X.env
      standAt apos.atName
      let (f, first) ← holding [ov] (getMethod ov m pl)
      callWith pos f first (backTo pos (starEach (e :: es) X.env)) (backToKw pos (keywordEach [] X.env))) := by rfl) :
    PE X (.Call (.Attribute o m apos) (e :: es) [] pos) (tMeth C m sp [] E0 ta t) := by
  obtain ⟨fd, F, b, kp⟩ := c.ok
  exact pe_meth he cl hm F (hr.mono hk) b .nil pass0 ha hst hpl ht
end
/-! ### readings, one lemma a form -/
section
variable {K : PySem.W.Frag} {σ : L2.St} {H : Hp} {Q : VK} {QB : Bool → Hp → Prop} {QA : List V → Hp → Prop} {v x y : V} {ta tb tc te tv : TE} {t u : TT} {D : Ends} {g : TG} {tu tw tz : TS} {r r' : R2} {i : Nat}
theorem r_var (h : σ[i]? = some (some v)) (q : Q v H) : tVar i σ H Q := ⟨v, h, q⟩
theorem r_c (q : Q v H) : tC v σ H Q := q
theorem r_op (q : ta σ H fun x H1 => tb σ H1 fun y H2 => r x y H2 Q) : tOp r ta tb σ H Q := q
theorem r_I0 {f : Int → Int → V} {a b : Int} (q : Q (f a b) H) : rI0 f (.int a) (.int b) H Q := ⟨a, b, rfl, rfl, q⟩
theorem r_I {C : Int → Int → Prop} {f : Int → Int → V} {a b : Int} (c : C a b) (q : Q (f a b) H) : rI C f (.int a) (.int b) H Q := ⟨a, b, rfl, rfl, c, q⟩
theorem r_un {r : V → Hp → VK → Prop} (q : ta σ H fun x H1 => r x H1 Q) : tUn r ta σ H Q := q
theorem r_U {f : Int → V} {a : Int} (q : Q (f a) H) : rU f (.int a) H Q := ⟨a, rfl, q⟩
theorem r_test (q : te σ H fun x H' => ∃ k, x = .bl k ∧ QB k H') : tTest te σ H QB := q
theorem r_tB (q : te σ H fun x H' => ∃ k, x = .bl k ∧ QB k H') : tB te σ H QB := q
theorem r_bl {b : Bool} {P : Bool → Prop} (q : P b) : ∃ k, V.bl b = .bl k ∧ P k := ⟨b, rfl, q⟩
theorem r_int {a : Int} {P : Int → Prop} (q : P a) : ∃ k, V.int a = .int k ∧ P k := ⟨a, rfl, q⟩
theorem r_not (q : t σ H fun c H1 => QB (!c) H1) : tNot t σ H QB := q
theorem r_and (q : t σ H fun c H1 => if c = true then u σ H1 QB else QB false H1) : tAnd t u σ H QB := q
theorem r_or (q : t σ H fun c H1 => if c = true then QB true H1 else u σ H1 QB) : tOr t u σ H QB := q
theorem r_ifE (q : t σ H fun c H1 => if c = true then ta σ H1 Q else tb σ H1 Q) : tIf t ta tb σ H Q := q
theorem r_andV (q : ta σ H fun x H1 => ∃ c, x = .bl c ∧ if c = true then tb σ H1 Q else Q (.bl false) H1) : tAndV ta tb σ H Q := q
theorem r_seq (q : tu { D with nx := tw D } σ H) : tSeq tu tw D σ H := q
theorem r_asg (q : te σ H fun x H1 => g x σ H1 D.nx) : tAsg te g D σ H := q
theorem r_name {QS : L2.St → Hp → Prop} (q : QS (σ.set i (some v)) H) : gName i v σ H QS := q
theorem r_ret (q : te σ H D.rt) : tRet te D σ H := q
theorem r_ifS (q : t σ H fun b H1 => if b = true then tu D σ H1 else tw D σ H1) : tIfS t tu tw D σ H := q
theorem r_next (q : D.nx σ H) : tNext D σ H := q
theorem r_drop (q : te σ H fun _ H1 => D.nx σ H1) : tDrop te D σ H := q
theorem r_cb {rr : List V → Hp → VK → Prop} {tA : TA} (q : tA σ H fun vs H1 => rr vs H1 Q) : tCB rr tA σ H Q := q
theorem r_nil (q : QA [] H) : tNil σ H QA := q
theorem r_cons {tA : TA} (q : te σ H fun x H1 => tA σ H1 fun xs H2 => QA (x :: xs) H2) : tCons te tA σ H QA := q
theorem r_call {sp : Sp} {tA : TA} (q : tA σ H fun vs H1 => sp (vs ++ []) H1 Q E0) : tCall sp [] E0 tA σ H Q := q
theorem r_ixT {p : Addr} {xs : List V} {a : Int} (h : SqT K H p xs) (e : atI xs a = some v) (q : Q v H) : rIxT K (.ref p) (.int a) H Q := ⟨p, xs, a, v, rfl, rfl, h, e, q⟩
theorem r_ixL {p : Addr} {xs : List V} {a : Int} (h : SqL K H p xs) (e : atI xs a = some v) (q : Q v H) : rIxL K (.ref p) (.int a) H Q := ⟨p, xs, a, v, rfl, rfl, h, e, q⟩
theorem r_eq (h : scal x y = true) (q : Q (.bl (decide (x = y))) H) : rEq x y H Q := ⟨h, q⟩
theorem r_ne (h : scal x y = true) (q : Q (.bl (!decide (x = y))) H) : rNe x y H Q := ⟨h, q⟩
theorem r_tup {tA : TA} (q : tA σ H fun xs H1 => xs.length ≤ sizeLine ∧ ∀ p, H1 p = none → Q (.ref p) (upd H1 p (.tup xs))) : tTup tA σ H Q := q
theorem r_lst {tA : TA} (q : tA σ H fun xs H1 => xs.length ≤ sizeLine ∧ ∀ p, H1 p = none → Q (.ref p) (upd H1 p (.lst xs))) : tLst tA σ H Q := q
theorem r_gtup {p : Addr} {xs : List V} {n : Nat} {tg : TGs} {QS : L2.St → Hp → Prop} (h : SqT K H p xs) (e : xs.length = n) (q : tg xs σ H QS) : gTup K n tg (.ref p) σ H QS := ⟨p, xs, rfl, h, e, q⟩
theorem r_gcons {gs : TGs} {xs : List V} {QS : L2.St → Hp → Prop} (q : g x σ H fun σ' H' => gs xs σ' H' QS) : gCons g gs (x :: xs) σ H QS := ⟨x, xs, rfl, q⟩
theorem r_gnil {QS : L2.St → Hp → Prop} (q : QS σ H) : gNil [] σ H QS := ⟨rfl, q⟩
end
end EF
end
section
set_option maxHeartbeats 4000000
namespace EF
open PySem PySem.Spec PyProof.Rows PySem.W L2 Evl RZ
/-! ### built-ins by named readings -/
def rLen (K : PySem.W.Frag) : List V → Hp → VK → Prop := fun xs H Q => ∃ p ys, xs = [.ref p] ∧ (SqL K H p ys ∨ SqT K H p ys) ∧ Q (.int ys.length) H
def rLenZ : List V → Hp → VK → Prop := fun xs H Q => ∃ z, xs = [.str z] ∧ z.length ≤ sizeLine ∧ Q (.int z.length) H
def rInt1 : List V → Hp → VK → Prop := fun xs H Q => (∃ i, xs = [.int i] ∧ Q (.int i) H) ∨ ∃ k, xs = [.bl k] ∧ Q (.int (if k then 1 else 0)) H
def rAbs : List V → Hp → VK → Prop := fun xs H Q => ∃ i, xs = [.int i] ∧ Q (.int (if i < 0 then -i else i)) H
def rMin2 : List V → Hp → VK → Prop := fun xs H Q => ∃ i j, xs = [.int i, .int j] ∧ Q (.int (if j < i then j else i)) H
def rMx2 : List V → Hp → VK → Prop := fun xs H Q => ∃ i j, xs = [.int i, .int j] ∧ Q (.int (if j > i then j else i)) H
def rLstOf (K : PySem.W.Frag) : List V → Hp → VK → Prop := fun xs H Q => ∃ p ys, xs = [.ref p] ∧ (SqL K H p ys ∨ SqT K H p ys) ∧ ∀ l, H l = none → Q (.ref l) (upd H l (.lst ys))
def rTupOf (K : PySem.W.Frag) : List V → Hp → VK → Prop := fun xs H Q => ∃ p ys, xs = [.ref p] ∧ ((SqL K H p ys ∧ ∀ l, H l = none → Q (.ref l) (upd H l (.tup ys))) ∨ (SqT K H p ys ∧ Q (.ref p) H))
def rTupF (K : PySem.W.Frag) : List V → Hp → VK → Prop := fun xs H Q => ∃ p ys, xs = [.ref p] ∧ SqL K H p ys ∧ ∀ (l : Addr) (ob : Obj), H l = none → ob.dict = none → Q (.ref l) (upd H l (.frz ob (.tup ys)))
def tBMF (r : V → List V → Hp → VK → Prop) (to : TE) (t : TA) : TE := fun σ H Q => to σ H fun x H1 => (∃ (p : Addr) (ob : Obj) (ys : List V), x = .ref p ∧ H1 p = some (.frz ob (.tup ys)) ∧ ob.dict = none) ∧ t σ H1 fun xs H2 => r x xs H2 Q
def rAddZ : R2 := fun x y H Q => ∃ i j, x = .str i ∧ y = .str j ∧ i.length + j.length ≤ sizeLine ∧ Q (.str (i ++ j)) H
section
variable {X : Cx}
theorem c_len : CallR X (.builtin "len") (rLen X.K) := call_len_seq
theorem c_lenZ : CallR X (.builtin "len") rLenZ := call_len_str
theorem c_int : CallR X (.type "int") rInt1 := call_int1
theorem c_abs : CallR X (.builtin "abs") rAbs := call_abs
theorem c_min2 (hc : X.calm = true) : CallR X (.builtin "min") rMin2 := call_min2 hc
theorem c_max2 (hc : X.calm = true) : CallR X (.builtin "max") rMx2 := call_max2 hc
theorem c_list : CallR X (.type "list") (rLstOf X.K) := call_list_of
theorem c_tuple : CallR X (.type "tuple") (rTupOf X.K) := call_tuple_of
theorem o_addZ : OpR X (binaryOp .Add) rAddZ := op_add_str
/-- tuple(list) of which the record is kept -/
theorem c_tupleF : CallR X (.type "tuple") (rTupF X.K) := by
  intro pins s σ H xs us Q I r h
  obtain ⟨p, ys, rfl, hq, q⟩ := h
  obtain ⟨u, rfl, rx⟩ := vals1 r
  cases rx
  obtain ⟨its, r', pl, hz⟩ := I.list hq
  have hlen := r'.length
  refine call_tuple_list pl.isList (fun h' kp => ?_) (by simp only [List.size_toArray] <;> omega)
  have I1 : Inv X pins σ H { s with heap := h' } := I.kept (t' := s.toks) kp
  have I2 : Inv X pins σ (upd H h'.objs.size (.frz { cls := .type "tuple", data := .seq its.toArray } (.tup ys))) { s with heap := h'.push { cls := .type "tuple", data := .seq its.toArray } } :=
    I1.laid (t' := s.toks) (fun b o e => Heap.get?_push_of_some _ e) (Nat.le_refl _) (show ObjOk X.prog X.w _ _ _ (.frz _ (.tup ys)) from ⟨Heap.get?_push_size _ rfl, hz, its, r', IsTup.new _ _⟩)
  exact ⟨.ref h'.objs.size, _, I2, rfl, q _ _ (I1.hok.fresh (Nat.le_refl _)) rfl⟩
/-- t.m(..) of a tuple whose record is kept -/
theorem pe_bmF {o e : Expr} {es : List Expr} {to : TE} {t : TA} {name : Str} {apos cpos : Pos} {id : String} {r : V → List V → Hp → VK → Prop} (pa : PlainAttrs "tuple") (slot : Slot "tuple" name id) (hty : typeOf (.builtin id) = pure (.type "method_descriptor")) (hm : MtR X id r) (ho : PE X o to) (ha : PA X (e :: es) t)
    (hbase : attributeBase o name X.env (eval o X.env) = eval o X.env := by rfl)
    (hfew : ((backTo cpos (starEach (e :: es) X.env)).all (fun x => !x.1) && (backToKw cpos (keywordEach [] X.env)).all (fun x => x.1.isSome)
      && decide ((e :: es).length + ([] : List Keyword).length + (if ([] : List Keyword).isEmpty then 0 else 1) < 30)) = true := by rfl)
    (hline : (apos.endLine == cpos.line) = true := by rfl) (hs : starEach (e :: es) X.env = (false, eval e X.env) :: starEach es X.env := by rfl) (hplain : (backTo cpos (starEach es X.env)).any (·.1) = false := by rfl) :
    PE X (.Call (.Attribute o name apos) (e :: es) [] cpos) (tBMF r to t) := by
  refine ⟨fun pins s σ H Q I h => ?_⟩
  refine wpAny_Call_method_late hbase hfew hline rfl (thn (ho.run pins s σ H _ I h) fun v s1 ⟨x, H1, I1, r1, ty, q1⟩ => ?_)
  obtain ⟨p, ob, ys, rfl, hp, hd⟩ := ty
  cases r1
  obtain ⟨h3, h4, its, h5, h6⟩ := I1.hok p _ hp
  refine ⟨"tuple", id, pa, slot, hty, ?_, fun a e => ?_, ?_⟩
  · obtain ⟨o2, e2, c2, _⟩ := h6
    exact ⟨o2, e2, c2⟩
  · cases e
    exact ⟨ob, h3, hd⟩
  have hA := ha.run cpos pins s1 σ H1 _ I1 q1
  rw [hs] at hA ⊢
  refine Calls.callWith_builtin (by show (false || (backTo cpos (starEach es X.env)).any (·.1)) = false; rw [hplain] <;> rfl) (Calls.evalArgs_plain ?_)
  exact thn hA fun us s2 ⟨vs, H2, I2, r2, q2⟩ => hm pins s2 σ H2 (.ref p) vs _ us Q I2 (show RelV (.ref p) (.ref p) from rfl) r2 q2
end
section
variable {K : PySem.W.Frag} {H : Hp} {Q : VK} {p : Addr} {ys : List V} {i j : Int} {z z' : Str}
theorem r_lenL (h : SqL K H p ys) (q : Q (.int ys.length) H) : rLen K [.ref p] H Q := ⟨p, ys, rfl, .inl h, q⟩
theorem r_lenT (h : SqT K H p ys) (q : Q (.int ys.length) H) : rLen K [.ref p] H Q := ⟨p, ys, rfl, .inr h, q⟩
theorem r_lenZ (h : z.length ≤ sizeLine) (q : Q (.int z.length) H) : rLenZ [.str z] H Q := ⟨z, rfl, h, q⟩
theorem r_int1 (q : Q (.int i) H) : rInt1 [.int i] H Q := .inl ⟨i, rfl, q⟩
theorem r_abs (q : Q (.int (if i < 0 then -i else i)) H) : rAbs [.int i] H Q := ⟨i, rfl, q⟩
theorem r_min2 (q : Q (.int (if j < i then j else i)) H) : rMin2 [.int i, .int j] H Q := ⟨i, j, rfl, q⟩
theorem r_mx2 (q : Q (.int (if j > i then j else i)) H) : rMx2 [.int i, .int j] H Q := ⟨i, j, rfl, q⟩
theorem r_listT (h : SqT K H p ys) (q : ∀ l, H l = none → Q (.ref l) (upd H l (.lst ys))) : rLstOf K [.ref p] H Q := ⟨p, ys, rfl, .inr h, q⟩
theorem r_listL (h : SqL K H p ys) (q : ∀ l, H l = none → Q (.ref l) (upd H l (.lst ys))) : rLstOf K [.ref p] H Q := ⟨p, ys, rfl, .inl h, q⟩
theorem r_tupL (h : SqL K H p ys) (q : ∀ l, H l = none → Q (.ref l) (upd H l (.tup ys))) : rTupOf K [.ref p] H Q := ⟨p, ys, rfl, .inl ⟨h, q⟩⟩
theorem r_tupT (h : SqT K H p ys) (q : Q (.ref p) H) : rTupOf K [.ref p] H Q := ⟨p, ys, rfl, .inr ⟨h, q⟩⟩
theorem r_addZ (h : z.length + z'.length ≤ sizeLine) (q : Q (.str (z ++ z')) H) : rAddZ (.str z) (.str z') H Q := ⟨z, z', rfl, rfl, h, q⟩
theorem r_isN {x : V} (q : Q (.bl (decide (x = .non))) H) : rIsN x .non H Q := ⟨rfl, q⟩
theorem r_notN {x : V} (q : Q (.bl (!decide (x = .non))) H) : rNotN x .non H Q := ⟨rfl, q⟩
theorem r_inT {x : V} {neg : Bool} (h : SqT K H p ys) (hx : flatV x = true) (hy : ys.all flatV = true) (q : Q (.bl (if neg then !inV x ys else inV x ys)) H) : rIn K neg x (.ref p) H Q := ⟨p, ys, rfl, .inr h, hx, hy, q⟩
theorem r_inL {x : V} {neg : Bool} (h : SqL K H p ys) (hx : flatV x = true) (hy : ys.all flatV = true) (q : Q (.bl (if neg then !inV x ys else inV x ys)) H) : rIn K neg x (.ref p) H Q := ⟨p, ys, rfl, .inl h, hx, hy, q⟩
end
/-! ### dicts: texts to numbers -/
def kv (p : Str × Int) : Key × V := (.inr p.1, .int p.2)
def lk (l : List (Str × Int)) (s : Str) : Option Int := (l.find? fun p => decide (p.1 = s)).map (·.2)
def pt (l : List (Str × Int)) (s : Str) (m : Int) : List (Str × Int) := if (l.any fun p => decide (p.1 = s)) = true then l.map (fun p => if p.1 = s then (p.1, m) else p) else l ++ [(s, m)]
def dr (l : List (Str × Int)) (s : Str) : List (Str × Int) := l.filter fun p => decide (p.1 ≠ s)
theorem kv_eq (p : Str × Int) (s : Str) : decide ((kv p).1 = Sum.inr s) = decide (p.1 = s) := by
  by_cases h : p.1 = s
  · rw [decide_eq_true h]
    exact decide_eq_true (congrArg Sum.inr h)
  · rw [decide_eq_false h]
    exact decide_eq_false fun z => h (Sum.inr.inj z)
theorem val_kv (s : Str) : ∀ l : List (Str × Int), valV (l.map kv) (.inr s) = (lk l s).map V.int
  | [] => rfl
  | p :: l => by
    by_cases h : p.1 = s
    · rw [List.map_cons, valV_pos (show (kv p).1 = Sum.inr s from congrArg Sum.inr h)]
      unfold lk
      rw [List.find?_cons, decide_eq_true h]
      rfl
    · rw [List.map_cons, valV_neg (show ¬ (kv p).1 = Sum.inr s from fun z => h (Sum.inr.inj z)), val_kv s l]
      unfold lk
      rw [List.find?_cons, decide_eq_false h]
theorem put_kv (l : List (Str × Int)) (s : Str) (m : Int) : putK (l.map kv) (.inr s) (.int m) = (pt l s m).map kv := by
  unfold putK pt
  have e : ((l.map kv).any fun p => decide (p.1 = (Sum.inr s : Key))) = l.any fun p => decide (p.1 = s) := by
    rw [List.any_map]
    congr 1
    funext p
    exact kv_eq p s
  rw [e]
  split
  · rw [List.map_map, List.map_map]
    refine List.map_congr_left fun p _ => ?_
    show (if (Sum.inr p.1 : Key) = Sum.inr s then ((Sum.inr p.1 : Key), V.int m) else kv p) = kv (if p.1 = s then (p.1, m) else p)
    by_cases h : p.1 = s
    · rw [if_pos h, if_pos (congrArg Sum.inr h)]
      rfl
    · rw [if_neg h, if_neg fun z => h (Sum.inr.inj z)]
  · rw [List.map_append]
    rfl
theorem drop_kv (l : List (Str × Int)) (s : Str) : dropK (l.map kv) (.inr s) = (dr l s).map kv := by
  unfold dropK dr
  rw [List.filter_map]
  congr 1
  refine List.filter_congr fun p _ => ?_
  show decide ((kv p).1 ≠ Sum.inr s) = decide (p.1 ≠ s)
  rw [decide_not, decide_not, kv_eq]
theorem lk_pt (l : List (Str × Int)) (s t : Str) (m : Int) : lk (pt l s m) t = if t = s then some m else lk l t := by
  have h := valV_put (l.map kv) (Sum.inr s : Key) (Sum.inr t) (.int m)
  rw [put_kv, val_kv, val_kv] at h
  by_cases e : t = s
  · rw [if_pos (congrArg Sum.inr e)] at h
    rw [if_pos e]
    cases q : lk (pt l s m) t with
    | none => rw [q] at h; cases h
    | some x => rw [q] at h; cases h; rfl
  · rw [if_neg fun z => e (Sum.inr.inj z)] at h
    rw [if_neg e]
    cases q : lk (pt l s m) t with
    | none =>
      rw [q] at h
      cases q2 : lk l t with
      | none => rfl
      | some x => rw [q2] at h; cases h
    | some x =>
      rw [q] at h
      cases q2 : lk l t with
      | none => rw [q2] at h; cases h
      | some y => rw [q2] at h; cases h; rfl
theorem lk_dr (s t : Str) : ∀ l : List (Str × Int), lk (dr l s) t = if t = s then none else lk l t
  | [] => by
    by_cases e : t = s
    · rw [if_pos e]; rfl
    · rw [if_neg e]; rfl
  | p :: l => by
    have ih := lk_dr s t l
    unfold lk dr at *
    by_cases h : p.1 = s
    · rw [List.filter_cons_of_neg (by simp [h]), ih]
      by_cases e : t = s
      · rw [if_pos e, if_pos e]
      · rw [if_neg e, if_neg e, List.find?_cons, decide_eq_false (show ¬ p.1 = t from fun z => e (z.symm.trans h))]
    · rw [List.filter_cons_of_pos (by simp [h]), List.find?_cons]
      by_cases e2 : p.1 = t
      · rw [decide_eq_true e2, if_neg (show ¬ t = s from fun z => h (e2.trans z)), List.find?_cons, decide_eq_true e2]
      · rw [decide_eq_false e2]
        show (List.find? _ _).map _ = _
        rw [ih, List.find?_cons, decide_eq_false e2]
theorem lk_mem {l : List (Str × Int)} {s : Str} {m : Int} (h : lk l s = some m) : (s, m) ∈ l := by
  unfold lk at h
  obtain ⟨p, h1, h2⟩ := Option.map_eq_some_iff.mp h
  have h3 := List.find?_some h1
  have h4 := List.mem_of_find?_eq_some h1
  have e : p.1 = s := of_decide_eq_true h3
  obtain ⟨a, b⟩ := p
  cases e
  cases h2
  exact h4
theorem lk_of_mem {l : List (Str × Int)} {s : Str} {m : Int} (h : (s, m) ∈ l) : ∃ m', lk l s = some m' := by
  unfold lk
  cases q : l.find? fun p => decide (p.1 = s) with
  | none => exact absurd (decide_eq_true rfl) (List.find?_eq_none.mp q _ h)
  | some p => exact ⟨_, rfl⟩
theorem pt_keys (l : List (Str × Int)) (s : Str) (m : Int) : (pt l s m).map (·.1) = if s ∈ l.map (·.1) then l.map (·.1) else l.map (·.1) ++ [s] := by
  have e : (l.any fun p => decide (p.1 = s)) = true ↔ s ∈ l.map (·.1) := by
    rw [List.any_eq_true, List.mem_map]
    constructor
    · rintro ⟨p, h1, h2⟩
      exact ⟨p, h1, of_decide_eq_true h2⟩
    · rintro ⟨p, h1, h2⟩
      exact ⟨p, h1, decide_eq_true h2⟩
  unfold pt
  split
  · rename_i h
    rw [if_pos (e.mp h), List.map_map]
    refine List.map_congr_left fun p _ => ?_
    show (if p.1 = s then (p.1, m) else p).1 = p.1
    split <;> rfl
  · rename_i h
    rw [if_neg (fun z => h (e.mpr z)), List.map_append]
    rfl
theorem pt_nd {l : List (Str × Int)} (s : Str) (m : Int) (h : (l.map (·.1)).Nodup) : ((pt l s m).map (·.1)).Nodup := by
  rw [pt_keys]
  split
  · exact h
  · rename_i hn
    exact nd_snoc h hn
theorem pt_sub {l : List (Str × Int)} {s : Str} {m : Int} {ps : List Str} (h : ∀ x ∈ l.map (·.1), x ∈ ps) (hs : s ∈ ps) : ∀ x ∈ (pt l s m).map (·.1), x ∈ ps := by
  rw [pt_keys]
  split
  · exact h
  · intro x hx
    rcases List.mem_append.mp hx with z | z
    · exact h x z
    · rw [List.mem_singleton.mp z]
      exact hs
theorem pt_len (l : List (Str × Int)) (s : Str) (m : Int) : (pt l s m).length ≤ l.length + 1 := by
  unfold pt
  split
  · rw [List.length_map]; omega
  · rw [List.length_append]; exact Nat.le_refl _
theorem pt_new {l : List (Str × Int)} {s : Str} {m : Int} (h : lk l s = none) : (pt l s m).length = l.length + 1 := by
  have hn : ¬ (l.any fun p => decide (p.1 = s)) = true := fun z => by
    obtain ⟨p, h1, h2⟩ := List.any_eq_true.mp z
    have e : p.1 = s := of_decide_eq_true h2
    obtain ⟨m', q⟩ := lk_of_mem (l := l) (s := s) (m := p.2) (by rw [← e]; exact h1)
    rw [h] at q
    cases q
  unfold pt
  rw [if_neg hn, List.length_append]
  rfl
theorem dr_nd {l : List (Str × Int)} (s : Str) (h : (l.map (·.1)).Nodup) : ((dr l s).map (·.1)).Nodup := (List.filter_sublist.map _).nodup h
theorem dr_sub {l : List (Str × Int)} {s : Str} {ps : List Str} (h : ∀ x ∈ l.map (·.1), x ∈ ps) : ∀ x ∈ (dr l s).map (·.1), x ∈ ps := fun x hx => h x ((List.filter_sublist.map _).subset hx)
/-- readings over a dict of texts to numbers -/
def DS (H : Hp) (d : Addr) (l : List (Str × Int)) : Prop := H d = some (.dK (l.map kv))
section
variable {K : PySem.W.Frag} {H : Hp} {Q : VK} {d : Addr} {l : List (Str × Int)} {s : Str} {m : Int}
theorem DS.get (h : DS H d l) (s : Str) : DGet H d (.str s) ((lk l s).map V.int) := by
  have g := DGet.k (k := (.inr s : Key)) h
  rw [val_kv] at g
  exact g
theorem DS.put (h : DS H d l) (hl : l.length < 100000) (s : Str) (m : Int) : DPut H d (.str s) (.int m) (upd H d (.dK ((pt l s m).map kv))) := by
  have g := DPut.k (k := (.inr s : Key)) (v := .int m) h (by rw [List.length_map]; exact sz_lt hl)
  rw [put_kv] at g
  exact g
theorem DS.isd (h : DS H d l) : IsD H d := .inl ⟨_, .inl h⟩
end
/-! ### comprehensions whose items are data -/
/-- what is left of [e for t in it if c] when the iterator J has come -/
def LcEnd (g : TG) (tt : TT) (te : TE) (vs : List Nat) (σ : L2.St) (Q : VK) (J : It) (H1 : Hp) : Prop := ∀ D, H1 D = none → ∃ W : Nat → Nat → Hp → Prop, (∃ m, W 0 m (upd H1 D (.lst []))) ∧ ∀ i m H, W i m H →
  (J.stop i H ∧ Q (.ref D) H) ∨ (J.go i H ∧ ∃ Nx : Hp → Prop, (∀ H', Nx H' → ∃ m', m' < m ∧ W (i + 1) m' H') ∧ ∀ x H', J.yld i H x H' → g x (wipe σ vs) H' fun σ2 H2 => wipe σ2 vs = wipe σ vs ∧ tt σ2 H2 fun b H3 =>
    if b = true then te σ2 H3 fun y H4 => ∃ acc, H4 D = some (.lst acc) ∧ acc.length < sizeLine ∧ Nx (upd H4 D (.lst (acc ++ [y]))) else Nx H3)
theorem r_lc {wi : TI} {g : TG} {tt : TT} {te : TE} {vs : List Nat} {σ : L2.St} {H : Hp} {Q : VK} (q : wi σ H (LcEnd g tt te vs σ Q)) : tLc wi g tt te vs σ H Q := q
section
variable {K : PySem.W.Frag} {J : It} {n : Nat} {G : Hp → Prop} {Y : Nat → Hp → V → Hp → Prop} {g : TG} {tt : TT} {te : TE} {vs : List Nat} {σ : L2.St} {H1 : Hp} {Q : VK} {α : Type}
theorem lc_tp (w : Walk J n G Y) (l : List α) (hl : l.length = n) (hz : n ≤ 50000) (hG : ∀ H, Ex H1 H → G H) (p : α → Bool) (f : α → PyData)
    (turn : ∀ i a x H H' (Ky : VK) (Kn : Hp → Prop), l[i]? = some a → Ex H1 H → Y i H x H' → (∀ y H4, p a = true → Ex H H4 → Tp K H4 y (f a) → Ky y H4) → (∀ H3, p a = false → Ex H H3 → Kn H3) →
      g x (wipe σ vs) H' fun σ2 H2 => wipe σ2 vs = wipe σ vs ∧ tt σ2 H2 fun b H3 => if b = true then te σ2 H3 Ky else Kn H3)
    (done : ∀ D H xs, H1 D = none → Ex H1 H → H D = some (.lst xs) → TpAll K H xs ((l.filter p).map f) → Q (.ref D) H) : LcEnd g tt te vs σ Q J H1 := fun D hD => by
  refine lc_it w (Qd := fun H => Q (.ref D) H) (fun i H => ∃ acc, Ex H1 H ∧ H D = some (.lst acc) ∧ TpAll K H acc (((l.take i).filter p).map f)) ⟨[], Ex.new hD, upd_same, .nil⟩ (fun i H _ ⟨_, e, _⟩ => hG H e) (fun i x H H' hi ⟨acc, e, hd, ha⟩ y => ?_) fun H ⟨acc, e, hd, ha⟩ => ?_
  · have hi2 : i < l.length := by omega
    have hx : l[i]? = some l[i] := List.getElem?_eq_getElem hi2
    have et : l.take (i + 1) = l.take i ++ [l[i]] := by rw [List.take_add_one, hx]; rfl
    have hlen : acc.length ≤ i := by
      rw [tpa_len ha, List.length_map]
      exact Nat.le_trans (List.length_filter_le _ _) (by rw [List.length_take]; exact Nat.min_le_left _ _)
    refine turn i l[i] x H H' _ _ hx e y (fun y H4 hb e4 ty => ?_) fun H3 hb z => ?_
    · refine ⟨acc, e4 D _ hd, sz_lt (by omega), acc ++ [y], Ex.mut (e.trans e4) hD, upd_same, ?_⟩
      rw [et, List.filter_append, List.map_append, List.filter_cons_of_pos hb]
      exact tpa_app (tpa_tk (tk_lst (e4 D _ hd)) (tpa_ex e4 ha)) (tpa_one (tp_tk (tk_lst (e4 D _ hd)) ty))
    · refine ⟨acc, e.trans z, z D _ hd, ?_⟩
      rw [et, List.filter_append, List.filter_cons_of_neg (by rw [hb]; exact Bool.false_ne_true)]
      show TpAll K H3 acc (((l.take i).filter p ++ []).map f)
      rw [List.append_nil]
      exact tpa_ex z ha
  · rw [← hl, List.take_length] at ha
    exact done D H acc hD e hd ha
variable {a : Addr} {xs : List V} {l : List α} {enc : α → PyData}
/-- over a list of data -/
theorem lc_l1 (hS : SqL K H1 a xs) (hT : TpAll K H1 xs (l.map enc)) (hz : l.length ≤ 50000) (p : α → Bool) (f : α → PyData)
    (turn : ∀ a x H (Ky : VK) (Kn : Hp → Prop), a ∈ l → Ex H1 H → Tp K H x (enc a) → (∀ y H4, p a = true → Ex H H4 → Tp K H4 y (f a) → Ky y H4) → (∀ H3, p a = false → Ex H H3 → Kn H3) →
      g x (wipe σ vs) H fun σ2 H2 => wipe σ2 vs = wipe σ vs ∧ tt σ2 H2 fun b H3 => if b = true then te σ2 H3 Ky else Kn H3)
    (done : ∀ D H xs, H1 D = none → Ex H1 H → H D = some (.lst xs) → TpAll K H xs ((l.filter p).map f) → Q (.ref D) H) : LcEnd g tt te vs σ Q (Itl K a) H1 :=
  lc_tp walk_list l (tpa_maplen hT).symm (by rw [tpa_maplen hT]; exact hz) (fun H e => ex_l e hS) p f (fun i b x H H' Ky Kn hb e y hy hn => by
    obtain ⟨rfl, hx⟩ := y
    obtain ⟨b', hb', ht⟩ := tpa_item hT hx
    obtain rfl : b = b' := Option.some.inj (hb.symm.trans hb')
    exact turn b x _ Ky Kn (List.mem_of_getElem? hb) e (tp_ex e ht) hy hn) done
/-- over a tuple of data -/
theorem lc_t1 (hS : SqT K H1 a xs) (hT : TpAll K H1 xs (l.map enc)) (hz : l.length ≤ 50000) (p : α → Bool) (f : α → PyData)
    (turn : ∀ a x H (Ky : VK) (Kn : Hp → Prop), a ∈ l → Ex H1 H → Tp K H x (enc a) → (∀ y H4, p a = true → Ex H H4 → Tp K H4 y (f a) → Ky y H4) → (∀ H3, p a = false → Ex H H3 → Kn H3) →
      g x (wipe σ vs) H fun σ2 H2 => wipe σ2 vs = wipe σ vs ∧ tt σ2 H2 fun b H3 => if b = true then te σ2 H3 Ky else Kn H3)
    (done : ∀ D H xs, H1 D = none → Ex H1 H → H D = some (.lst xs) → TpAll K H xs ((l.filter p).map f) → Q (.ref D) H) : LcEnd g tt te vs σ Q (Itt K a) H1 :=
  lc_tp walk_tup l (tpa_maplen hT).symm (by rw [tpa_maplen hT]; exact hz) (fun H e => ex_t e hS) p f (fun i b x H H' Ky Kn hb e y hy hn => by
    obtain ⟨rfl, hx⟩ := y
    obtain ⟨b', hb', ht⟩ := tpa_item hT hx
    obtain rfl : b = b' := Option.some.inj (hb.symm.trans hb')
    exact turn b x _ Ky Kn (List.mem_of_getElem? hb) e (tp_ex e ht) hy hn) done
/-- range(n) -/
theorem lc_r1 {n : Nat} (hz : n ≤ 50000) (f : Nat → PyData)
    (turn : ∀ i H (Ky : VK) (Kn : Hp → Prop), i < n → Ex H1 H → (∀ y H4, Ex H H4 → Tp K H4 y (f i) → Ky y H4) → g (.int (i : Nat)) (wipe σ vs) H fun σ2 H2 => wipe σ2 vs = wipe σ vs ∧ tt σ2 H2 fun b H3 => if b = true then te σ2 H3 Ky else Kn H3)
    (done : ∀ D H xs, H1 D = none → Ex H1 H → H D = some (.lst xs) → TpAll K H xs ((List.range n).map f) → Q (.ref D) H) : LcEnd g tt te vs σ Q (Itr 0 n) H1 :=
  lc_tp (walk_range (lo := 0)) (List.range n) List.length_range hz (fun _ _ => trivial) (fun _ => true) f (fun i b x H H' Ky Kn hb e y hy hn => by
    obtain ⟨rfl, rfl⟩ := y
    have hi := (List.getElem?_eq_some_iff.mp hb).1
    rw [List.length_range] at hi
    rw [List.getElem?_range hi] at hb
    cases hb
    show g (.int (0 + (i : Int))) (wipe σ vs) _ _
    rw [Int.zero_add]
    exact turn i _ Ky Kn hi e (fun y H4 e4 t => hy y H4 rfl e4 t)) (fun D H xs h1 h2 h3 h4 => done D H xs h1 h2 h3 (by rw [List.filter_eq_self.mpr fun _ _ => rfl] at h4; exact h4))
end
/-! ### what is walked -/
section
variable {K : PySem.W.Frag} {σ : L2.St} {H : Hp} {R : It → Hp → Prop} {a : Addr} {xs : List V} {i : Nat}
theorem r_iL (h : σ[i]? = some (some (.ref a))) (hS : SqL K H a xs) (q : R (Itl K a) H) : iList K (tVar i) σ H R := ⟨_, h, a, rfl, ⟨_, hS⟩, q⟩
theorem r_iT (h : σ[i]? = some (some (.ref a))) (hS : SqT K H a xs) (q : R (Itt K a) H) : iTup K (tVar i) σ H R := ⟨_, h, a, rfl, ⟨_, hS⟩, q⟩
theorem r_iL0 {tl : TE} (q : tl σ H fun x H1 => ∃ a, x = .ref a ∧ (∃ xs, SqL K H1 a xs) ∧ R (Itl K a) H1) : iList K tl σ H R := q
theorem r_iT0 {tl : TE} (q : tl σ H fun x H1 => ∃ a, x = .ref a ∧ (∃ xs, SqT K H1 a xs) ∧ R (Itt K a) H1) : iTup K tl σ H R := q
theorem r_iZ0 {ta : TA} (q : ta σ H fun vs H1 => ∃ a b xs ys, vs = [.ref a, .ref b] ∧ ((SqL K H1 a xs ∧ SqL K H1 b ys ∧ R (Itz K a b) H1) ∨ (SqT K H1 a xs ∧ SqT K H1 b ys ∧ R (ItzT K a b) H1))) : iZipA K ta σ H R := q
theorem r_iR0 {ta : TA} (q : ta σ H fun vs H1 => ∃ j : Int, vs = [.int j] ∧ -(2 ^ 62) ≤ j ∧ j < 2 ^ 62 ∧ R (Itr 0 j.toNat) H1) : iRng1 ta σ H R := q
theorem r_iS {z : Str} (h : σ[i]? = some (some (.str z))) (q : R (Its z) H) : iStr (tVar i) σ H R := ⟨_, h, z, rfl, q⟩
end
/-! ### tests whose answer is known -/
theorem ite_t {c : Bool} {A B : Prop} (h : c = true) (x : A) : if c = true then A else B := by
  rw [if_pos h]
  exact x
theorem ite_f {c : Bool} {A B : Prop} (h : c = false) (x : B) : if c = true then A else B := by
  rw [h]
  exact iteF x
theorem ite_c {c : Bool} {A B : Prop} (h1 : c = true → A) (h2 : c = false → B) : if c = true then A else B := by
  cases c with
  | true => exact iteT (h1 rfl)
  | false => exact iteF (h2 rfl)
theorem r_sfld {K : PySem.W.Frag} {ta tv : TE} {f : Str} {D : Ends} {σ : L2.St} {H : Hp} (q : tv σ H fun y H1 => ta σ H1 fun x H2 => ∃ a C dx fs, x = .ref a ∧ H2 a = some (.ins C dx fs) ∧ Cls K C ∧ NoAttr K C f ∧ fs.length < 1000 ∧ D.nx σ (upd H2 a (.ins C dx (putF f y fs)))) : sFld K ta tv f D σ H := q
theorem r_yes {σ : L2.St} {H : Hp} {QB : Bool → Hp → Prop} (q : QB true H) : tYes σ H QB := q
theorem r_wipe {σ σ2 : L2.St} {vs : List Nat} {A : Prop} (h : wipe σ2 vs = wipe σ vs) (q : A) : wipe σ2 vs = wipe σ vs ∧ A := ⟨h, q⟩
theorem r_chain {r r' : R2} {ta tb tc : TE} {σ : L2.St} {H : Hp} {Q : VK} (q : ta σ H fun x H1 => tb σ H1 fun y H2 => r x y H2 fun z H3 => ∃ k, z = .bl k ∧ (if k = true then tc σ H3 fun w' H4 => r' y w' H4 Q else Q (.bl false) H3)) : tChain r r' ta tb tc σ H Q := q
section
variable {H : Hp} {Q : VK} {a b : Int} {f : Int → Int → V}
theorem r_mod (c : 0 < b) (q : Q (f a b) H) : rI (fun _ j => 0 < j) f (.int a) (.int b) H Q := ⟨a, b, rfl, rfl, c, q⟩
theorem r_fdiv (c : CDiv a b) (q : Q (f a b) H) : rI CDiv f (.int a) (.int b) H Q := ⟨a, b, rfl, rfl, c, q⟩
theorem r_mul (c : CMul a b) (q : Q (f a b) H) : rI CMul f (.int a) (.int b) H Q := ⟨a, b, rfl, rfl, c, q⟩
theorem r_pow (c : CPow a b) (q : Q (f a b) H) : rI CPow f (.int a) (.int b) H Q := ⟨a, b, rfl, rfl, c, q⟩
end
theorem r_dput {td ty tv : TE} {D : Ends} {σ : L2.St} {H : Hp} (q : tv σ H fun v H1 => td σ H1 fun x H2 => ty σ H2 fun y H3 => ∃ a H4, x = .ref a ∧ DPut H3 a y v H4 ∧ D.nx σ H4) : sDPut td ty tv D σ H := q
theorem r_din {td ty : TE} {σ : L2.St} {H : Hp} {Q : VK} (q : ty σ H fun y H1 => td σ H1 fun x H2 => ∃ a o, x = .ref a ∧ DGet H2 a y o ∧ Q (.bl o.isSome) H2) : tDIn ty td σ H Q := q
theorem r_dnin {td ty : TE} {σ : L2.St} {H : Hp} {Q : VK} (q : ty σ H fun y H1 => td σ H1 fun x H2 => ∃ a o, x = .ref a ∧ DGet H2 a y o ∧ Q (.bl (!o.isSome)) H2) : tDNotIn ty td σ H Q := q
theorem r_dget {td ty : TE} {σ : L2.St} {H : Hp} {Q : VK} (q : td σ H fun x H1 => ty σ H1 fun y H2 => ∃ a v, x = .ref a ∧ DGet H2 a y (some v) ∧ Q v H2) : tDGet td ty σ H Q := q
theorem r_dget2 {td ty tx : TE} {σ : L2.St} {H : Hp} {Q : VK} (q : td σ H fun x H1 => ∃ a, x = .ref a ∧ IsD H1 a ∧ ty σ H1 fun y H2 => tx σ H2 fun z H3 => ∃ o, DGet H3 a y o ∧ Q (o.getD z) H3) : tDGet2 td ty tx σ H Q := q
theorem r_chain3 {r r' r2 : R2} {ta tb tc td : TE} {σ : L2.St} {H : Hp} {Q : VK} (q : ta σ H fun x H1 => tb σ H1 fun y H2 => r x y H2 fun z H3 => ∃ k, z = .bl k ∧
  (if k = true then tc σ H3 fun w' H4 => r' y w' H4 fun z2 H5 => ∃ k2, z2 = .bl k2 ∧ (if k2 = true then td σ H5 fun w2 H6 => r2 w' w2 H6 Q else Q (.bl false) H5) else Q (.bl false) H3)) : tChain3 r r' r2 ta tb tc td σ H Q := q
/-! ### the rules with the written part named (within a comprehension's block) -/
section
variable {X : Cx} (K : PySem.W.Frag)
theorem ixT (h : X.K = K := by rfl) : IxR X (rIxT K) := h ▸ ix_tup
theorem ixL (h : X.K = K := by rfl) : IxR X (rIxL K) := h ▸ ix_list
theorem lenK (h : X.K = K := by rfl) : CallR X (.builtin "len") (rLen K) := h ▸ c_len
theorem listK (h : X.K = K := by rfl) : CallR X (.type "list") (rLstOf K) := h ▸ c_list
theorem tupleK (h : X.K = K := by rfl) : CallR X (.type "tuple") (rTupOf K) := h ▸ c_tuple
theorem tupleFK (h : X.K = K := by rfl) : CallR X (.type "tuple") (rTupF K) := h ▸ c_tupleF
theorem anyK (hc : X.calm = true) (h : X.K = K := by rfl) : CallR X (.builtin "any") (rAny K) := h ▸ cr_any hc
theorem allK (hc : X.calm = true) (h : X.K = K := by rfl) : CallR X (.builtin "all") (rAll K) := h ▸ cr_all hc
theorem minK (hc : X.calm = true) (hu : X.A.units + 64 < cLine) (h : X.K = K := by rfl) : CallR X (.builtin "min") (rMinMP K) := h ▸ cr_minMP hc hu
theorem minOK (hc : X.calm = true) (hu : X.A.units + 64 < cLine) (h : X.K = K := by rfl) : CallRK X (.builtin "min") [Str.ofString "default"] (rMinO K) := h ▸ cr_minO hc hu
theorem inK (h : X.K = K := by rfl) : OpR X (compareOp .In) (rIn K false) := h ▸ op_in_seq
theorem ninK (h : X.K = K := by rfl) : OpR X (compareOp .NotIn) (rIn K true) := h ▸ op_notIn_seq
theorem slL (h : X.K = K := by rfl) : SlR X (rSlL K) := h ▸ sl_list
theorem slT (h : X.K = K := by rfl) : SlR X (rSlT K) := h ▸ sl_tup
theorem fldK {e : Expr} {ta : TE} {f : Str} {pos : Pos} (he : PE X e ta) (hb : attributeBase e f X.env (eval e X.env) = eval e X.env) (h : X.K = K := by rfl) : PE X (.Attribute e f pos) (tFld K ta f) := h ▸ pe_fld he hb
theorem pgT {es : List Expr} {k : Nat} {t : TGs} {n : Nat} {pos : Pos} (hc : X.calm = true) (h : PGs X es t) (hn : (assignEach es X.env).length = n := by rfl) (hst : (assignEach es X.env).findIdx? (·.1) = none := by rfl) (hK : X.K = K := by rfl) : PG X (.Tuple es k pos) (gTup K n t) := hK ▸ pg_tup hc h hn hst
theorem piL {tg l : Expr} {tl : TE} (hl : PE X l tl) (h : X.K = K := by rfl) : PI X tg l (iList K tl) := h ▸ pi_list hl
theorem piT {tg l : Expr} {tl : TE} (hl : PE X l tl) (h : X.K = K := by rfl) : PI X tg l (iTup K tl) := h ▸ pi_tup hl
theorem piZ {e e2 : Expr} {ta : TA} {p pos tpos : Pos} {elts : List Expr} {kk : Nat} (hg : Gl X "zip") (hm : X.mg "zip" = none) (ha : PA X [e, e2] ta)
    (hs : starEach [e, e2] X.env = (false, eval e X.env) :: starEach [e2] X.env := by rfl) (hpl : (backTo pos (starEach [e2] X.env)).any (·.1) = false := by rfl) (h : X.K = K := by rfl) : PI X (.Tuple elts kk tpos) (.Call (.Name "zip" p) [e, e2] [] pos) (iZipA K ta) := h ▸ pi_zipA hg hm ha hs hpl
end
end EF
end
local macro_rules | `(tactic| walk_at "rd") => `(tactic| first
  | ((with_reducible refine' EF.r_var ?hv ?_); (case hv => exact rfl))
  | (with_reducible refine' EF.r_c ?_)
  | (with_reducible refine' EF.r_op ?_)
  | (with_reducible refine' EF.r_I0 ?_)
  | (with_reducible refine' EF.r_test ?_)
  | (with_reducible refine' EF.r_tB ?_)
  | (with_reducible refine' EF.r_bl ?_)
  | (with_reducible refine' EF.r_un ?_)
  | (with_reducible refine' EF.r_U ?_)
  | (with_reducible refine' EF.r_not ?_)
  | (with_reducible refine' EF.r_and ?_)
  | (with_reducible refine' EF.r_or ?_)
  | (with_reducible refine' EF.r_ifE ?_)
  | (with_reducible refine' EF.r_andV ?_)
  | (with_reducible refine' EF.r_seq ?_)
  | (with_reducible refine' EF.r_asg ?_)
  | (with_reducible refine' EF.r_name ?_)
  | (with_reducible refine' EF.r_ret ?_)
  | (with_reducible refine' EF.r_ifS ?_)
  | (with_reducible refine' EF.r_next ?_)
  | (with_reducible refine' EF.r_drop ?_)
  | (with_reducible refine' EF.r_cb ?_)
  | (with_reducible refine' EF.r_nil ?_)
  | (with_reducible refine' EF.r_cons ?_)
  | (with_reducible refine' EF.r_call ?_)
  | (with_reducible refine' EF.r_int1 ?_)
  | (with_reducible refine' EF.r_isN ?_)
  | (with_reducible refine' EF.r_notN ?_)
  | (with_reducible refine' EF.r_min2 ?_)
  | (with_reducible refine' EF.r_mx2 ?_)
  | ((with_reducible refine' EF.r_eq ?hs ?_); (case hs => exact rfl))
  | ((with_reducible refine' EF.r_ne ?hs ?_); (case hs => exact rfl))
  | (with_reducible refine' EF.r_tup ?_)
  | (with_reducible refine' EF.r_lst ?_)
  | (with_reducible refine' EF.r_gcons ?_)
  | (with_reducible refine' EF.r_gnil ?_)
  | (with_reducible refine' EF.r_chain ?_)
  | (with_reducible refine' EF.r_chain3 ?_)
  | ((with_reducible refine' EF.r_ixT ?hS ?hat ?_); (case hS => assumption); (case hat => exact rfl))
  | ((with_reducible refine' EF.r_ixL ?hS ?hat ?_); (case hS => assumption); (case hat => exact rfl))
  | ((with_reducible refine' EF.ite_t ?hc ?_); (case hc => exact rfl))
  | ((with_reducible refine' EF.ite_f ?hc ?_); (case hc => exact rfl))
  | (with_reducible refine' EF.r_lc ?_)
  | (with_reducible refine' EF.r_yes ?_)
  | ((with_reducible refine' EF.r_wipe ?hw ?_); (case hw => exact rfl))
  | (with_reducible refine' EF.r_sfld ?_)
  | (with_reducible refine' EF.r_dput ?_)
  | (with_reducible refine' EF.r_din ?_)
  | (with_reducible refine' EF.r_dnin ?_)
  | (with_reducible refine' EF.r_dget ?_)
  | (with_reducible refine' EF.r_dget2 ?_)
  | ((with_reducible refine' EF.r_mod ?c ?_); (case c => decide))
  | ((with_reducible refine' EF.r_fdiv ?c ?_); (case c => exact ⟨by decide, by decide⟩))
  | ((with_reducible refine' EF.r_mul ?c ?_); (case c => first | exact Or.inr ⟨by decide, by decide⟩ | exact Or.inl ⟨by decide, by decide⟩))
  | ((with_reducible refine' EF.r_pow ?c ?_); (case c => exact ⟨by decide, by decide, by decide⟩)))
section
set_option maxHeartbeats 4000000
namespace EF
open PySem PySem.Spec PyProof.Rows PySem.W L2 Evl RZ
section
variable {P : Program} {w : World} {K : PySem.W.Frag} {mg : Str → Option Value} {base : Heap}
/-! ### word_of -/
abbrev N_word_of : List Str := ["first", "last"]
theorem sc_word_of : FnScope N_word_of ["first", "last"] (defScope s_word_of) := ⟨rfl, rfl, rfl, by decide +kernel, rfl, by decide +kernel, by decide +kernel⟩
def wordOf (a b : Option Int) : Str := match a with
  | none => "never"
  | some _ => match b with
    | none => "maybe"
    | some _ => "surely"
def sp_word_of : Sp := fun vs H Q _ => ∃ v1 v2, vs = [v1, v2] ∧ ∃ a b, v1 = vO a ∧ v2 = vO b ∧ Q (.str (wordOf a b)) H
theorem ok_word_of (T : Tx K mg) : Cal P w K mg base 1 (He.ga K "word_of") ["first", "last"] sp_word_of := by
  obtain ⟨fd, F⟩ := T.s.c.def_ 17 (d := d_word_of) rfl
  refine ⟨fd, F.ok sc_word_of (fun vs H Q E h => ?_) (fun cdv A outer s H vs Q E hr h => ?_), F.bindsN (fun _ _ _ _ _ _ us hl => match us, hl with | [_, _], _ => rfl), F.kp⟩
  · obtain ⟨v1, v2, rfl, _⟩ := h
    rfl
  · obtain ⟨v1, v2, rfl, a, b, rfl, rfl, q⟩ := h
    refine ⟨_, PSs.nox (pss_cons (ps_if (pt_cmpR op_isN1 (pv 0) pe_non (nomark _)) (pss_one (ps_ret pe_str)) pss_nil) (pss_one (ps_ret (pe_ifExp (pt_cmpR op_isN1 (pv 1) pe_non (nomark _)) pe_str pe_str)))), ?_⟩
    repeat (walk_at "rd")
    cases a with
    | none =>
      refine ite_t rfl ?_
      repeat (walk_at "rd")
      exact q
    | some i =>
      refine ite_f rfl ?_
      repeat (walk_at "rd")
      cases b with
      | none =>
        refine ite_t rfl ?_
        repeat (walk_at "rd")
        exact q
      | some j =>
        refine ite_f rfl ?_
        repeat (walk_at "rd")
        exact q
end
end EF
end
section
set_option maxHeartbeats 4000000
namespace EF
open PySem PySem.Spec PyProof.Rows PySem.W L2 Evl RZ
section
variable {P : Program} {w : World} {K : PySem.W.Frag} {mg : Str → Option Value} {base : Heap}
/-! ### loops over data -/
theorem f_l1 {α : Type} {a : Addr} {xs : List V} {l : List α} {enc : α → PyData} {g : TG} {tb : TS} {D : Ends} {σ : L2.St} {H : Hp} (hS : SqL K H a xs) (hT : TpAll K H xs (l.map enc)) (Pv : Nat → L2.St → Hp → Prop) (h0 : Pv 0 σ H) (hx : ∀ i σ' H', Pv i σ' H' → Ex H H')
    (hs : ∀ i b x σ' H', l[i]? = some b → Tp K H' x (enc b) → Pv i σ' H' → g x σ' H' fun σ2 H2 => tb { D with nx := Pv (i + 1), ct := Pv (i + 1), bk := D.nx } σ2 H2) (hd : ∀ σ' H', Pv l.length σ' H' → D.nx σ' H') :
    ∃ W : Nat → Nat → L2.St → Hp → Prop, (∃ m, W 0 m σ H) ∧ ∀ i m σ H, W i m σ H →
      ((Itl K a).stop i H ∧ D.nx σ H) ∨ ((Itl K a).go i H ∧ ∃ N : L2.St → Hp → Prop, (∀ σ' H', N σ' H' → ∃ m', m' < m ∧ W (i + 1) m' σ' H') ∧ ∀ x H', (Itl K a).yld i H x H' → g x σ H' fun σ2 H2 => tb { D with nx := N, ct := N, bk := D.nx } σ2 H2) :=
  for_it (walk_list (xs := xs)) Pv h0 (fun i σ' H' _ p => ex_l (hx i σ' H' p) hS) (fun i x σ' H' H'' _ p y => by
    obtain ⟨rfl, h⟩ := y
    obtain ⟨b, hb, t⟩ := tpa_item hT h
    exact hs i b x σ' _ hb (tp_ex (hx i σ' _ p) t) p) (fun σ' H' p => hd σ' H' (by rw [← tpa_maplen hT]; exact p))
theorem f_t1 {α : Type} {a : Addr} {xs : List V} {l : List α} {enc : α → PyData} {g : TG} {tb : TS} {D : Ends} {σ : L2.St} {H : Hp} (hS : SqT K H a xs) (hT : TpAll K H xs (l.map enc)) (Pv : Nat → L2.St → Hp → Prop) (h0 : Pv 0 σ H) (hx : ∀ i σ' H', Pv i σ' H' → Ex H H')
    (hs : ∀ i b x σ' H', l[i]? = some b → Tp K H' x (enc b) → Pv i σ' H' → g x σ' H' fun σ2 H2 => tb { D with nx := Pv (i + 1), ct := Pv (i + 1), bk := D.nx } σ2 H2) (hd : ∀ σ' H', Pv l.length σ' H' → D.nx σ' H') :
    ∃ W : Nat → Nat → L2.St → Hp → Prop, (∃ m, W 0 m σ H) ∧ ∀ i m σ H, W i m σ H →
      ((Itt K a).stop i H ∧ D.nx σ H) ∨ ((Itt K a).go i H ∧ ∃ N : L2.St → Hp → Prop, (∀ σ' H', N σ' H' → ∃ m', m' < m ∧ W (i + 1) m' σ' H') ∧ ∀ x H', (Itt K a).yld i H x H' → g x σ H' fun σ2 H2 => tb { D with nx := N, ct := N, bk := D.nx } σ2 H2) :=
  for_it (walk_tup (xs := xs)) Pv h0 (fun i σ' H' _ p => ex_t (hx i σ' H' p) hS) (fun i x σ' H' H'' _ p y => by
    obtain ⟨rfl, h⟩ := y
    obtain ⟨b, hb, t⟩ := tpa_item hT h
    exact hs i b x σ' _ hb (tp_ex (hx i σ' _ p) t) p) (fun σ' H' p => hd σ' H' (by rw [← tpa_maplen hT]; exact p))
/-! ### texts in lists -/
theorem inV_strs (s : Str) : ∀ l : List Str, inV (.str s) (l.map V.str) = decide (s ∈ l)
  | [] => rfl
  | x :: l => by
    show (eqV (.str x) (.str s) || inV (.str s) (l.map V.str)) = decide (s ∈ x :: l)
    rw [inV_strs s l]
    show ((x == s) || decide (s ∈ l)) = decide (s ∈ x :: l)
    by_cases h : x = s
    · rw [beq_iff_eq.mpr h, decide_eq_true (show s ∈ x :: l from h ▸ List.mem_cons_self)]
      rfl
    · rw [beq_eq_false_iff_ne.mpr h, Bool.false_or]
      by_cases h2 : s ∈ l
      · rw [decide_eq_true h2, decide_eq_true (List.mem_cons_of_mem _ h2)]
      · rw [decide_eq_false h2, decide_eq_false fun z => (List.mem_cons.mp z).elim (fun e => h e.symm) h2]
theorem flat_strs : ∀ l : List Str, (l.map V.str).all flatV = true
  | [] => rfl
  | _ :: l => flat_strs l
/-! ### the land in the heap -/
abbrev CL (K : PySem.W.Frag) : Addr := He.ga K "Land"
structure LandD where
  winds : List Str
  places : List Str
  links : List Lk
structure LandAt (K : PySem.W.Frag) (H : Hp) (p : Addr) (L : LandD) : Prop where
  at_ : ∃ (dx : Addr) (fs : List (Str × V)) (aw ap al : Addr), H p = some (.ins (CL K) dx fs) ∧ fs.lookup ("winds" : Str) = some (.ref aw) ∧ fs.lookup ("places" : Str) = some (.ref ap) ∧ fs.lookup ("links" : Str) = some (.ref al) ∧ fs.lookup ("check_wind" : Str) = none ∧ fs.lookup ("check_place" : Str) = none ∧
    SqT K H aw (L.winds.map V.str) ∧ SqT K H ap (L.places.map V.str) ∧ ∃ xs, SqT K H al xs ∧ TpAll K H xs (L.links.map eLk)
  fz : ∃ (dx : Addr) (fs : List (Str × V)) (aw : Addr) (ob : Obj), H p = some (.ins (CL K) dx fs) ∧ fs.lookup ("winds" : Str) = some (.ref aw) ∧ H aw = some (.frz ob (.tup (L.winds.map V.str))) ∧ ob.dict = none
theorem land_ex {H H' : Hp} {p : Addr} {L : LandD} (e : Ex H H') (h : LandAt K H p L) : LandAt K H' p L := by
  obtain ⟨dx, fs, aw, ap, al, h1, h2, h3, h4, h5, h6, h7, h8, xs, h9, h10⟩ := h.at_
  refine ⟨⟨dx, fs, aw, ap, al, e _ _ h1, h2, h3, h4, h5, h6, ex_t e h7, ex_t e h8, xs, ex_t e h9, tpa_ex e h10⟩, ?_⟩
  obtain ⟨dx, fs, aw, ob, f1, f2, f3, f4⟩ := h.fz
  exact ⟨dx, fs, aw, ob, e _ _ f1, f2, e _ _ f3, f4⟩
/-! ### readings of fields and methods -/
theorem r_fld {C a dx : Addr} {fs : List (Str × V)} {f : Str} {i : Nat} {v : V} {σ : L2.St} {H : Hp} {Q : VK} (h : σ[i]? = some (some (.ref a))) (hp : H a = some (.ins C dx fs)) (hc : Cls K C) (hn : NoAttr K C f) (hl : fs.lookup f = some v) (q : Q v H) : tFld K (tVar i) f σ H Q :=
  ⟨_, h, a, C, dx, fs, v, rfl, hp, hc, hn, hl, q⟩
theorem r_meth {C a dx : Addr} {fs : List (Str × V)} {m : Str} {i : Nat} {sp : Sp} {tA : TA} {σ : L2.St} {H : Hp} {Q : VK} (h : σ[i]? = some (some (.ref a))) (hp : H a = some (.ins C dx fs)) (hl : fs.lookup m = none)
    (q : tA σ H fun vs H2 => sp (.ref a :: (vs ++ [])) H2 Q E0) : tMeth C m sp [] E0 (tVar i) tA σ H Q := ⟨_, h, a, dx, fs, rfl, hp, hl, q⟩
/-! ### check_place, check_wind -/
def sp_check_place (K : PySem.W.Frag) : Sp := fun vs H Q _ => ∃ v1 v2, vs = [v1, v2] ∧ ∃ p L s, v1 = .ref p ∧ v2 = .str s ∧ LandAt K H p L ∧ s ∈ L.places ∧ Q .non H
def sp_check_wind (K : PySem.W.Frag) : Sp := fun vs H Q _ => ∃ v1 v2, vs = [v1, v2] ∧ ∃ p L s, v1 = .ref p ∧ v2 = .str s ∧ LandAt K H p L ∧ s ∈ L.winds ∧ Q .non H
abbrev N_L_check_place : List Str := ["self", "place"]
theorem sc_L_check_place : FnScope N_L_check_place ["self", "place"] (defScope s_L_check_place) := ⟨rfl, rfl, rfl, by decide +kernel, rfl, by decide +kernel, by decide +kernel⟩
abbrev N_L_check_wind : List Str := ["self", "wind"]
theorem sc_L_check_wind : FnScope N_L_check_wind ["self", "wind"] (defScope s_L_check_wind) := ⟨rfl, rfl, rfl, by decide +kernel, rfl, by decide +kernel, by decide +kernel⟩
theorem ok_L_check_place (T : Tx K mg) : Cal P w K mg base 1 (He.ma K (CL K) "check_place") ["self", "place"] (sp_check_place K) := by
  obtain ⟨fd, F⟩ := T.s.c.def_ 38 (d := d_L_check_place) rfl
  refine ⟨fd, F.ok sc_L_check_place (fun vs H Q E h => ?_) (fun cdv A outer s H vs Q E hr h => ?_), F.bindsN (fun _ _ _ _ _ _ us hl => match us, hl with | [_, _], _ => rfl), F.kp⟩
  · obtain ⟨v1, v2, rfl, _⟩ := h
    rfl
  · obtain ⟨v1, v2, rfl, p, L, s, rfl, rfl, hL, hs, q⟩ := h
    obtain ⟨dx, fs, aw, ap, al, h1, h2, h3, h4, h5, h6, h7, h8, _⟩ := hL.at_
    refine ⟨_, PSs.nox (pss_one (ps_if (pt_cmpR op_notIn_seq (pv 1) (pe_fld (pv 0) rfl) (by rfl)) (pss_one ps_never) pss_nil)), ?_⟩
    repeat (walk_at "rd")
    refine r_fld rfl h1 T.cls T.n_places h3 ?_
    refine r_inT h8 rfl (flat_strs _) ?_
    rw [if_pos rfl, inV_strs, decide_eq_true hs]
    repeat (walk_at "rd")
    repeat (walk_at "rd")
    exact q
theorem ok_L_check_wind (T : Tx K mg) : Cal P w K mg base 1 (He.ma K (CL K) "check_wind") ["self", "wind"] (sp_check_wind K) := by
  obtain ⟨fd, F⟩ := T.s.c.def_ 39 (d := d_L_check_wind) rfl
  refine ⟨fd, F.ok sc_L_check_wind (fun vs H Q E h => ?_) (fun cdv A outer s H vs Q E hr h => ?_), F.bindsN (fun _ _ _ _ _ _ us hl => match us, hl with | [_, _], _ => rfl), F.kp⟩
  · obtain ⟨v1, v2, rfl, _⟩ := h
    rfl
  · obtain ⟨v1, v2, rfl, p, L, s, rfl, rfl, hL, hs, q⟩ := h
    obtain ⟨dx, fs, aw, ap, al, h1, h2, h3, h4, h5, h6, h7, h8, _⟩ := hL.at_
    refine ⟨_, PSs.nox (pss_one (ps_if (pt_cmpR op_notIn_seq (pv 1) (pe_fld (pv 0) rfl) (by rfl)) (pss_one ps_never) pss_nil)), ?_⟩
    repeat (walk_at "rd")
    refine r_fld rfl h1 T.cls T.n_winds h2 ?_
    refine r_inT h7 rfl (flat_strs _) ?_
    rw [if_pos rfl, inV_strs, decide_eq_true hs]
    repeat (walk_at "rd")
    repeat (walk_at "rd")
    exact q
/-! ### check_winds, check_rows -/
def sp_check_winds (K : PySem.W.Frag) : Sp := fun vs H Q _ => ∃ v1 v2, vs = [v1, v2] ∧ ∃ p L, ∃ we : List (Int × Str), v1 = .ref p ∧ LandAt K H p L ∧ Ls K H v2 (we.map eMP) ∧ (∀ q ∈ we, q.2 ∈ L.winds) ∧ ∀ H', Ex H H' → Q .non H'
def sp_check_rows (K : PySem.W.Frag) : Sp := fun vs H Q _ => ∃ v1 v2, vs = [v1, v2] ∧ ∃ p L, ∃ rs : List (Str × Int), v1 = .ref p ∧ LandAt K H p L ∧ Ls K H v2 (rs.map ePM) ∧ (∀ q ∈ rs, q.1 ∈ L.places) ∧ ∀ H', Ex H H' → Q .non H'
abbrev N_check_winds : List Str := ["land", "weather", "_", "wind"]
theorem sc_check_winds : FnScope N_check_winds ["land", "weather"] (defScope s_check_winds) := ⟨rfl, rfl, rfl, by decide +kernel, rfl, by decide +kernel, by decide +kernel⟩
abbrev N_check_rows : List Str := ["land", "rows", "place", "_"]
theorem sc_check_rows : FnScope N_check_rows ["land", "rows"] (defScope s_check_rows) := ⟨rfl, rfl, rfl, by decide +kernel, rfl, by decide +kernel, by decide +kernel⟩
theorem ok_check_winds (T : Tx K mg) : Cal P w K mg base 2 (He.ga K "check_winds") ["land", "weather"] (sp_check_winds K) := by
  obtain ⟨fd, F⟩ := T.s.c.def_ 0 (d := d_check_winds) rfl
  refine ⟨fd, F.ok sc_check_winds (fun vs H Q E h => ?_) (fun cdv A outer s H vs Q E hr h => ?_), F.bindsN (fun _ _ _ _ _ _ us hl => match us, hl with | [_, _], _ => rfl), F.kp⟩
  · obtain ⟨v1, v2, rfl, _⟩ := h
    rfl
  · obtain ⟨v1, v2, rfl, p, L, we, rfl, hL, ⟨a, xs, rfl, hS, hT⟩, hw, q⟩ := h
    refine ⟨_, PSs.nox (pss_one (ps_for PassesOwn.never rfl (pi_list (pv 1)) (pg_tup rfl (pgs_cons (pg_name (i := 2) sc_check_winds.nd rfl (Or.inl rfl)) (pgs_cons (pg_name (i := 3) sc_check_winds.nd rfl (Or.inl rfl)) pgs_nil)))
      (pss_one (ps_expr (pe_calM (ok_L_check_wind T) (pv 0) T.cls T.m_check_wind hr (pa_cons (pv 3) pa_nil)))))), ?_⟩
    refine ⟨_, rfl, a, rfl, ⟨_, hS⟩, f_l1 hS hT (fun _ σ' H' => (∃ x y, σ' = [some (.ref p), some (.ref a), x, y]) ∧ Ex H H') ⟨⟨none, none, rfl⟩, Ex.refl H⟩ (fun _ _ _ h => h.2) ?_ fun σ' H' h => q H' h.2⟩
    rintro i b x σ' H' hb tx ⟨⟨y1, y2, rfl⟩, e⟩
    obtain ⟨t, u1, u2, rfl, ht, t1, t2⟩ := tp_tup2 tx
    cases tp_int t1
    cases tp_str t2
    refine r_gtup ht rfl ?_
    repeat (walk_at "rd")
    have hL' := land_ex e hL
    obtain ⟨dx, fs, aw, ap, al, h1, h2, h3, h4, h5, h6, _⟩ := hL'.at_
    refine r_meth rfl h1 h5 ?_
    repeat (walk_at "rd")
    exact ⟨_, _, rfl, p, L, _, rfl, rfl, hL', hw b (List.mem_of_getElem? hb), ⟨_, _, rfl⟩, e⟩
theorem ok_check_rows (T : Tx K mg) : Cal P w K mg base 2 (He.ga K "check_rows") ["land", "rows"] (sp_check_rows K) := by
  obtain ⟨fd, F⟩ := T.s.c.def_ 8 (d := d_check_rows) rfl
  refine ⟨fd, F.ok sc_check_rows (fun vs H Q E h => ?_) (fun cdv A outer s H vs Q E hr h => ?_), F.bindsN (fun _ _ _ _ _ _ us hl => match us, hl with | [_, _], _ => rfl), F.kp⟩
  · obtain ⟨v1, v2, rfl, _⟩ := h
    rfl
  · obtain ⟨v1, v2, rfl, p, L, we, rfl, hL, ⟨a, xs, rfl, hS, hT⟩, hw, q⟩ := h
    refine ⟨_, PSs.nox (pss_one (ps_for PassesOwn.never rfl (pi_list (pv 1)) (pg_tup rfl (pgs_cons (pg_name (i := 2) sc_check_rows.nd rfl (Or.inl rfl)) (pgs_cons (pg_name (i := 3) sc_check_rows.nd rfl (Or.inl rfl)) pgs_nil)))
      (pss_one (ps_expr (pe_calM (ok_L_check_place T) (pv 0) T.cls T.m_check_place hr (pa_cons (pv 2) pa_nil)))))), ?_⟩
    refine ⟨_, rfl, a, rfl, ⟨_, hS⟩, f_l1 hS hT (fun _ σ' H' => (∃ x y, σ' = [some (.ref p), some (.ref a), x, y]) ∧ Ex H H') ⟨⟨none, none, rfl⟩, Ex.refl H⟩ (fun _ _ _ h => h.2) ?_ fun σ' H' h => q H' h.2⟩
    rintro i b x σ' H' hb tx ⟨⟨y1, y2, rfl⟩, e⟩
    obtain ⟨t, u1, u2, rfl, ht, t1, t2⟩ := tp_tup2 tx
    cases tp_str t1
    cases tp_int t2
    refine r_gtup ht rfl ?_
    repeat (walk_at "rd")
    have hL' := land_ex e hL
    obtain ⟨dx, fs, aw, ap, al, h1, h2, h3, h4, h5, h6, _⟩ := hL'.at_
    refine r_meth rfl h1 h6 ?_
    repeat (walk_at "rd")
    exact ⟨_, _, rfl, p, L, _, rfl, rfl, hL', hw b (List.mem_of_getElem? hb), ⟨_, _, rfl⟩, e⟩
end
end EF
end
section
set_option maxHeartbeats 4000000
namespace EF
open PySem PySem.Spec PyProof.Rows PySem.W L2 Evl RZ
section
variable {P : Program} {w : World} {K : PySem.W.Frag} {mg : Str → Option Value} {base : Heap}
/-! ### require, is_number, are_ends -/
def sp_require (K : PySem.W.Frag) : Sp := fun vs H Q _ => ∃ v1, vs = [v1] ∧ v1 = .bl true ∧ Q .non H
abbrev N_require : List Str := ["holds"]
-- slots 0=holds; cells []
theorem sc_require : FnScope N_require ["holds"] (defScope s_require) := ⟨rfl, rfl, rfl, by decide +kernel, rfl, by decide +kernel, by decide +kernel⟩
theorem ok_require (T : Tx K mg) : Cal P w K mg base 1 (He.ga K "require") ["holds"] (sp_require K) := by
  obtain ⟨fd, F⟩ := T.s.c.def_ 21 (d := d_require) rfl
  refine ⟨fd, F.ok sc_require (fun vs H Q E h => ?_) (fun cdv A outer s H vs Q E hr h => ?_), F.bindsN (fun _ _ _ _ _ _ us hl => match us, hl with | [_], _ => rfl), F.kp⟩
  · obtain ⟨v1, rfl, _⟩ := h
    rfl
  · have hu := hu_of hr
    obtain ⟨v1, rfl, rfl, q⟩ := h
    refine ⟨_, PSs.nox (pss_one (ps_if (pt_not (pt_val (pv 0)))
          (pss_one ps_never)
          pss_nil)), ?_⟩
    repeat (walk_at "rd")
    exact q
def NumOk : Option Int → Option (Int × Int) → Prop
  | none, none => True
  | some n, some p => p.1 ≤ n ∧ n ≤ p.2
  | _, _ => False
def sp_is_number (K : PySem.W.Frag) : Sp := fun vs H Q _ => ∃ v1 v2, vs = [v1, v2] ∧ ∃ o p, v1 = vO o ∧ Tp K H v2 (ePr p) ∧ NumOk o p ∧ Q (.bl true) H
abbrev N_is_number : List Str := ["number", "pair"]
-- slots 0=number 1=pair; cells []
theorem sc_is_number : FnScope N_is_number ["number", "pair"] (defScope s_is_number) := ⟨rfl, rfl, rfl, by decide +kernel, rfl, by decide +kernel, by decide +kernel⟩
theorem ok_is_number (T : Tx K mg) : Cal P w K mg base 1 (He.ga K "is_number") ["number", "pair"] (sp_is_number K) := by
  obtain ⟨fd, F⟩ := T.s.c.def_ 6 (d := d_is_number) rfl
  refine ⟨fd, F.ok sc_is_number (fun vs H Q E h => ?_) (fun cdv A outer s H vs Q E hr h => ?_), F.bindsN (fun _ _ _ _ _ _ us hl => match us, hl with | [_, _], _ => rfl), F.kp⟩
  · obtain ⟨v1, v2, rfl, _⟩ := h
    rfl
  · have hu := hu_of hr
    obtain ⟨v1, v2, rfl, o, p, rfl, tp, hn, q⟩ := h
    refine ⟨_, PSs.nox (pss_cons (ps_if (PW.pt (pw_or (pt_cmpR op_isN1 (pv 0) pe_non (nomark _)) (pw_or1 (pt_cmpR op_isN1 (pv 1) pe_non (nomark _)))))
          (pss_one (ps_ret (pe_and (pe_cmpR op_isN1 (pv 0) pe_non (nomark _)) (pe_one (pe_cmpR op_isN1 (pv 1) pe_non (nomark _))))))
          pss_nil)
        (pss_one (ps_ret (pe_chain op_le op_le (pe_ix (ixT K) (pv 1) pe_int (fun _ _ => rfl)) (pv 0) (pe_ix (ixT K) (pv 1) pe_int (fun _ _ => rfl)))))), ?_⟩
    cases o with
    | none =>
      cases p with
      | some p => exact hn.elim
      | none =>
        cases tp_non tp
        repeat (walk_at "rd")
        exact q
    | some n =>
      cases p with
      | none => exact hn.elim
      | some p =>
        obtain ⟨a, x, y, rfl, hs, t1, t2⟩ := tp_tup2 tp
        cases tp_int t1
        cases tp_int t2
        dsimp only [vO]
        repeat (walk_at "rd")
        rw [decide_eq_true hn.1]
        refine ite_t rfl ?_
        repeat (walk_at "rd")
        rw [decide_eq_true hn.2]
        exact q
def sp_L_are_ends (K : PySem.W.Frag) : Sp := fun vs H Q _ => ∃ v1 v2 v3, vs = [v1, v2, v3] ∧ ∃ (p dx ap : Addr) (fs : List (Str × V)) (ps : List Str) (x y : Str), v1 = .ref p ∧ v2 = .str x ∧ v3 = .str y ∧ H p = some (.ins (CL K) dx fs) ∧ fs.lookup ("places" : Str) = some (.ref ap) ∧ SqT K H ap (ps.map V.str) ∧
  x ∈ ps ∧ y ∈ ps ∧ x ≠ y ∧ Q (.bl true) H
abbrev N_L_are_ends : List Str := ["self", "one", "other"]
-- slots 0=self 1=one 2=other; cells []
theorem sc_L_are_ends : FnScope N_L_are_ends ["self", "one", "other"] (defScope s_L_are_ends) := ⟨rfl, rfl, rfl, by decide +kernel, rfl, by decide +kernel, by decide +kernel⟩
theorem ok_L_are_ends (T : Tx K mg) : Cal P w K mg base 1 (He.ma K (CL K) "are_ends") ["self", "one", "other"] (sp_L_are_ends K) := by
  obtain ⟨fd, F⟩ := T.s.c.def_ 35 (d := d_L_are_ends) rfl
  refine ⟨fd, F.ok sc_L_are_ends (fun vs H Q E h => ?_) (fun cdv A outer s H vs Q E hr h => ?_), F.bindsN (fun _ _ _ _ _ _ us hl => match us, hl with | [_, _, _], _ => rfl), F.kp⟩
  · obtain ⟨v1, v2, v3, rfl, _⟩ := h
    rfl
  · have hu := hu_of hr
    obtain ⟨v1, v2, v3, rfl, p, dx, ap, fs, ps, x, y, rfl, rfl, rfl, hp, hf, hs, hx, hy, hne, q⟩ := h
    refine ⟨_, PSs.nox (pss_one (ps_ret (pe_and (pe_cmpR (inK K) (pv 1) (fldK K (pv 0) rfl) (by rfl)) (pe_and (pe_cmpR (inK K) (pv 2) (fldK K (pv 0) rfl) (by rfl)) (pe_one (pe_cmpR op_ne (pv 1) (pv 2) (nomark _))))))), ?_⟩
    repeat (walk_at "rd")
    refine r_fld rfl hp T.cls T.n_places hf (r_inT hs rfl (flat_strs _) ?_)
    rw [if_neg Bool.false_ne_true, inV_strs, decide_eq_true hx]
    refine ⟨_, rfl, ite_t rfl ?_⟩
    repeat (walk_at "rd")
    refine r_fld rfl hp T.cls T.n_places hf (r_inT hs rfl (flat_strs _) ?_)
    rw [if_neg Bool.false_ne_true, inV_strs, decide_eq_true hy]
    refine ⟨_, rfl, ite_t rfl ?_⟩
    repeat (walk_at "rd")
    rw [decide_eq_false fun z => hne (V.str.inj z)]
    exact q
/-! ### slices from an end -/
theorem cut_to (xs : List V) (i : Nat) : cutV xs none (some (i : Int)) = xs.take i := by
  unfold cutV
  rw [show HT.sIx xs.length xs.length (some (i : Int)) = min i xs.length from HT.sIx_nat xs.length xs.length i, HT.sIx_none, Nat.sub_zero, List.drop_zero]
  by_cases h : i ≤ xs.length
  · rw [Nat.min_eq_left h]
  · rw [Nat.min_eq_right (by omega), List.take_length, List.take_of_length_le (by omega)]
theorem cut_from (xs : List V) (i : Nat) : cutV xs (some (i : Int)) none = xs.drop i := by
  unfold cutV
  rw [show HT.sIx xs.length 0 (some (i : Int)) = min i xs.length from HT.sIx_nat xs.length 0 i, HT.sIx_none]
  by_cases h : i ≤ xs.length
  · rw [Nat.min_eq_left h, List.take_of_length_le (by rw [List.length_drop]; exact Nat.le_refl _)]
  · rw [Nat.min_eq_right (by omega), Nat.sub_self, List.take_zero, List.drop_of_length_le (by omega)]
/-! ### are_different -/
def Sq (K : PySem.W.Frag) (H : Hp) (a : Addr) (xs : List V) : Prop := SqL K H a xs ∨ SqT K H a xs
def sp_are_different (K : PySem.W.Frag) : Sp := fun vs H Q _ => ∃ v1, vs = [v1] ∧ ∃ (a : Addr) (l : List Str), v1 = .ref a ∧ Sq K H a (l.map V.str) ∧ l.Nodup ∧ ∀ H', Ex H H' → Q (.bl true) H'
theorem nd_take {l : List Str} (h : l.Nodup) {i : Nat} {s : Str} (e : l[i]? = some s) : ¬ s ∈ l.take i := fun hm => by
  obtain ⟨j, hj, ej⟩ := List.getElem_of_mem hm
  rw [List.length_take] at hj
  rw [List.getElem_take] at ej
  have e2 : l[j]? = some s := by rw [List.getElem?_eq_getElem (by omega), ej]
  have := nd_ix h e e2
  omega
theorem strs_get {l : List Str} {i : Nat} {x : V} (e : (l.map V.str)[i]? = some x) : ∃ s, l[i]? = some s ∧ x = .str s := by
  rw [List.getElem?_map] at e
  cases q : l[i]? with
  | none => rw [q] at e; cases e
  | some s => rw [q] at e; exact ⟨s, rfl, (Option.some.inj e).symm⟩
abbrev N_are_different : List Str := ["parts", "number", "part"]
-- slots 0=parts 1=number 2=part; cells []
theorem sc_are_different : FnScope N_are_different ["parts"] (defScope s_are_different) := ⟨rfl, rfl, rfl, by decide +kernel, rfl, by decide +kernel, by decide +kernel⟩
theorem ok_are_different (T : Tx K mg) : Cal P w K mg base 1 (He.ga K "are_different") ["parts"] (sp_are_different K) := by
  obtain ⟨fd, F⟩ := T.s.c.def_ 20 (d := d_are_different) rfl
  refine ⟨fd, F.ok sc_are_different (fun vs H Q E h => ?_) (fun cdv A outer s H vs Q E hr h => ?_), F.bindsN (fun _ _ _ _ _ _ us hl => match us, hl with | [_], _ => rfl), F.kp⟩
  · obtain ⟨v1, rfl, _⟩ := h
    rfl
  · have hu := hu_of hr
    obtain ⟨v1, rfl, a, l, rfl, hS, hn, q⟩ := h
    refine ⟨_, PSs.nox (pss_cons (ps_for PassesOwn.never rfl (pi_enumA rfl T.f_enumerate (pa_cons (pv 0) pa_nil)) (pgT K (n := 2) rfl (pgs_cons (pg_name (i := 1) sc_are_different.nd rfl (Or.inl rfl)) (pgs_cons (pg_name (i := 2) sc_are_different.nd rfl (Or.inl rfl)) pgs_nil)))
          (pss_one (ps_if (pt_cmpR (inK K) (pv 2) (pe_slice (SlR.or (slL K) (slT K)) (pv 0) po_none (po_some (pv 1))) (by rfl))
            (pss_one (ps_ret pe_bl))
            pss_nil)))
        (pss_one (ps_ret pe_bl))), ?_⟩
    -- one turn
    have turn : ∀ (i : Nat) (x : V) (T' : Addr) (σ' : L2.St) (H' : Hp) (y1 y2 : Option V) (D : Ends), σ' = [some (.ref a), y1, y2] → Ex H H' → H' T' = none → (l.map V.str)[i]? = some x → (∀ H2, Ex H H2 → D.nx [some (.ref a), some (.int (i : Nat)), some x] H2) →
        gTup K 2 (gCons (gName 1) (gCons (gName 2) gNil)) (.ref T') σ' (upd H' T' (.tup [.int (i : Nat), x])) fun σ2 H2 =>
          tIfS (tTest (tOp (rIn K false) (tVar 2) (tSl (fun x lo hi H Q => rSlL K x lo hi H Q ∨ rSlT K x lo hi H Q) (tVar 0) (fun _ H Q => Q none H) (fun σ H Q => tVar 1 σ H fun v H1 => ∃ i, v = .int i ∧ Q (some i) H1)))) (tRet (tC (.bl false))) tNext D σ2 H2 := by
      intro i x T' σ' H' y1 y2 D hσ e hT hx hD
      subst hσ
      obtain ⟨s, hs, rfl⟩ := strs_get hx
      have e1 : Ex H (upd H' T' (.tup [.int (i : Nat), .str s])) := e.trans (Ex.new hT)
      refine r_gtup (st_of upd_same) rfl ?_
      repeat (walk_at "rd")
      refine ⟨_, rfl, _, rfl, _, rfl, ?_⟩
      have hin : ∀ p H2, H2 p = none → Ex H H2 → ∀ o, (SqL K (upd H2 p o) p ((l.take i).map V.str) ∨ SqT K (upd H2 p o) p ((l.take i).map V.str)) → rIn K false (.str s) (.ref p) (upd H2 p o) fun v H3 => ∃ k, v = .bl k ∧ if k = true then tRet (tC (.bl false)) D [some (.ref a), some (.int (i : Nat)), some (.str s)] H3 else tNext D [some (.ref a), some (.int (i : Nat)), some (.str s)] H3 := by
        intro p H2 hp e2 o hq
        refine ⟨p, _, rfl, hq, rfl, flat_strs _, ?_⟩
        rw [if_neg Bool.false_ne_true, inV_strs, decide_eq_false (nd_take hn hs)]
        exact ⟨_, rfl, ite_f rfl (hD _ (e2.trans (Ex.new hp)))⟩
      rcases hS with hS | hS
      · refine .inl ⟨a, _, rfl, ex_l e1 hS, fun p np => ?_⟩
        rw [cut_to, ← List.map_take]
        exact hin p _ np e1 _ (.inl (sq_of upd_same))
      · have hi : i < l.length := (List.getElem?_eq_some_iff.mp hs).1
        refine .inr ⟨a, _, rfl, ex_t e1 hS, fun z => ?_, fun p np => ?_⟩
        · have z2 := z.2
          rw [show HT.sIx (l.map V.str).length (l.map V.str).length (some (i : Int)) = min i (l.map V.str).length from HT.sIx_nat _ _ i, List.length_map] at z2
          omega
        · rw [cut_to, ← List.map_take]
          exact hin p _ np e1 _ (.inr (st_of upd_same))
    have fin : ∀ σ' H', Ex H H' → tRet (tC (.bl true)) { nx := fun _ H' => Q .non H', rt := Q } σ' H' := fun σ' H' e => q H' e
    rcases hS with hS | hS
    · refine ⟨_, rfl, a, rfl, .inl ⟨⟨_, hS⟩, for_it (walk_enum (xs := l.map V.str)) (fun _ σ' H' => (∃ y1 y2, σ' = [some (.ref a), y1, y2]) ∧ Ex H H') ⟨⟨none, none, rfl⟩, Ex.refl H⟩ (fun _ _ H' _ h => ex_l h.2 hS) ?_ (fun σ' H' h => fin σ' H' h.2)⟩⟩
      rintro i x σ' H' H2 hi ⟨⟨y1, y2, rfl⟩, e⟩ ⟨T', u1, u2, rfl, hT, rfl, h1, h2⟩
      cases Option.some.inj h1
      exact turn i u2 T' _ H' y1 y2 _ rfl e hT h2 fun H2 e2 => ⟨⟨_, _, rfl⟩, e2⟩
    · refine ⟨_, rfl, a, rfl, .inr ⟨⟨_, hS⟩, for_it (walk_enumT (xs := l.map V.str)) (fun _ σ' H' => (∃ y1 y2, σ' = [some (.ref a), y1, y2]) ∧ Ex H H') ⟨⟨none, none, rfl⟩, Ex.refl H⟩ (fun _ _ H' _ h => ex_t h.2 hS) ?_ (fun σ' H' h => fin σ' H' h.2)⟩⟩
      rintro i x σ' H' H2 hi ⟨⟨y1, y2, rfl⟩, e⟩ ⟨T', u1, u2, rfl, hT, rfl, h1, h2⟩
      cases Option.some.inj h1
      exact turn i u2 T' _ H' y1 y2 _ rfl e hT h2 fun H2 e2 => ⟨⟨_, _, rfl⟩, e2⟩
end
end EF
end
section
set_option maxHeartbeats 4000000
namespace EF
open PySem PySem.Spec PyProof.Rows PySem.W L2 Evl RZ
section
variable {P : Program} {w : World} {K : PySem.W.Frag} {mg : Str → Option Value} {base : Heap}
theorem r_ixS {z : Str} {i : Int} {c : Nat} {H : Hp} {Q : VK} (h : z.length ≤ sizeLine) (e : atI z.cps.toList i = some c) (q : Q (.str ⟨#[c]⟩) H) : rIxS (.str z) (.int i) H Q := ⟨z, i, c, rfl, rfl, h, e, q⟩
theorem r_inS {z : Str} {c : Nat} {H : Hp} {Q : VK} (q : Q (.bl (decide (c ∈ z.cps.toList))) H) : rInS (.str ⟨#[c]⟩) (.str z) H Q := ⟨c, z, rfl, rfl, q⟩
theorem tpa_bools {H : Hp} : ∀ {vs : List V} {bs : List Bool}, TpAll K H vs (bs.map PyData.bool) → vs = bs.map V.bl
  | _, [], h => tpa_nil h
  | _, n :: ns, h => by
    obtain ⟨x, xs, rfl, r, t⟩ := tpa_cons h
    cases r
    rw [tpa_bools t]
    rfl
theorem filter_tt {α : Type} (l : List α) : l.filter (fun _ => true) = l := List.filter_eq_self.mpr fun _ _ => rfl
/-! ### is_name -/
def signs : Str := "abcdefghijklmnopqrstuvwxyz0123456789"
def figures : Str := "0123456789"
structure NameOk (z : Str) : Prop where
  lo : 1 ≤ z.length
  hi : z.length ≤ 12
  hd : ∃ c, z.cps.toList[0]? = some c ∧ c ∉ figures.cps.toList
  all : ∀ c ∈ z.cps.toList, c ∈ signs.cps.toList
def sp_is_name (K : PySem.W.Frag) : Sp := fun vs H Q _ => ∃ v1, vs = [v1] ∧ ∃ z, v1 = .str z ∧ NameOk z ∧ ∀ H', Ex H H' → Q (.bl true) H'
abbrev N_is_name : List Str := ["text", "char"]
-- slots 0=text 1=char; cells []
theorem sc_is_name : FnScope N_is_name ["text"] (defScope s_is_name) := ⟨rfl, rfl, rfl, by decide +kernel, rfl, by decide +kernel, by decide +kernel⟩
theorem ok_is_name (T : Tx K mg) : Cal P w K mg base 1 (He.ga K "is_name") ["text"] (sp_is_name K) := by
  obtain ⟨fd, F⟩ := T.s.c.def_ 19 (d := d_is_name) rfl
  refine ⟨fd, F.ok sc_is_name (fun vs H Q E h => ?_) (fun cdv A outer s H vs Q E hr h => ?_), F.bindsN (fun _ _ _ _ _ _ us hl => match us, hl with | [_], _ => rfl), F.kp⟩
  · obtain ⟨v1, rfl, _⟩ := h
    rfl
  · have hu := hu_of hr
    obtain ⟨v1, rfl, z, rfl, hz, q⟩ := h
    have l1 := hz.lo
    have l2 := hz.hi
    obtain ⟨c, hc, hcf⟩ := hz.hd
    obtain ⟨_, h_MOST_NAME_CHARS⟩ := T.c_MOST_NAME_CHARS
    obtain ⟨_, h_NAME_CHARS⟩ := T.c_NAME_CHARS
    refine ⟨_, PSs.nox (pss_cons (ps_if (PW.pt (pw_or (pt_not (pt_chain op_le op_le pe_int (pe_callB c_lenZ (by rfl) T.f_len (by decide +kernel) (pa_cons (pv 0) pa_nil)) (pe_glob (v := .int 12) rfl h_MOST_NAME_CHARS ⟨_, rfl⟩))) (pw_or1 (pt_cmpR op_inS (pe_ix ix_str (pv 0) pe_int (fun _ _ => rfl)) pe_str (by rfl)))))
          (pss_one (ps_ret pe_bl))
          pss_nil)
        (pss_one (ps_ret (pe_callB (allK K rfl) (by rfl) T.f_all (by decide +kernel) (pa_cons (pe_lc (own := [("char", 1)]) rfl sc_is_name.nd (pi_str (pv 0)) (blkOk_by (own := [("char", 1)]) (N := N_is_name) (sc := defScope s_is_name) (by decide +kernel)) (fun _ _ _ _ _ => (pg_name (i := 1) sc_is_name.nd rfl (Or.inl rfl))) (fun _ _ _ _ _ => pts_nil) (fun _ _ _ _ _ => (pe_cmpR op_inS (pv 1) (pe_glob (v := .str "abcdefghijklmnopqrstuvwxyz0123456789") rfl h_NAME_CHARS ⟨_, rfl⟩) (by rfl)))) pa_nil))))), ?_⟩
    repeat (walk_at "rd")
    refine r_lenZ (sz_of (by omega)) ?_
    repeat (walk_at "rd")
    rw [decide_eq_true (show (1 : Int) ≤ (z.length : Int) by omega)]
    repeat (walk_at "rd")
    rw [decide_eq_true (show (z.length : Int) ≤ 12 by omega)]
    repeat (walk_at "rd")
    refine r_ixS (sz_of (by omega)) (atI_nat (j := 0) hc) ?_
    repeat (walk_at "rd")
    refine r_inS ?_
    rw [show decide (c ∈ (Str.ofString "0123456789").cps.toList) = false from decide_eq_false hcf]
    repeat (walk_at "rd")
    refine r_iS rfl (lc_tp (K := K) (walk_str (z := z)) z.cps.toList (Array.length_toList ..) (by show z.length ≤ 50000; omega) (fun _ _ => trivial) (fun _ => true) (fun _ => .bool true) ?_ ?_)
    · rintro i a x H1 H2 Ky Kn ha e ⟨rfl, c', hc', rfl⟩ hy _
      repeat (walk_at "rd")
      have hm : c' ∈ z.cps.toList := List.mem_of_getElem? (i := i) (by simpa using hc')
      refine r_inS ?_
      rw [show decide (c' ∈ (Str.ofString "abcdefghijklmnopqrstuvwxyz0123456789").cps.toList) = true from decide_eq_true (hz.all c' hm)]
      exact hy _ _ rfl (Ex.refl _) (.bl true)
    · intro D H1 xs _ e hd ht
      repeat (walk_at "rd")
      rw [filter_tt, show z.cps.toList.map (fun _ => PyData.bool true) = (z.cps.toList.map fun _ => true).map PyData.bool by rw [List.map_map]; rfl] at ht
      have ex := tpa_bools ht
      subst ex
      refine ⟨D, _, rfl, sq_of hd, ?_⟩
      rw [show ((z.cps.toList.map fun _ => true).all id) = true by rw [List.all_map]; exact List.all_eq_true.mpr fun _ _ => rfl]
      exact q _ e
/-! ### checked_times -/
def TmOk : Option (Int × Int) → Prop
  | none => True
  | some p => 1 ≤ p.1 ∧ p.1 ≤ p.2 ∧ p.2 ≤ 1000
def sp_checked_times (K : PySem.W.Frag) : Sp := fun vs H Q _ => ∃ v1 v2, vs = [v1, v2] ∧ ∃ tm : List (Option (Int × Int)), Tp K H v1 (.tuple (tm.map ePr)) ∧ v2 = .int (tm.length : Int) ∧ tm.length ≤ 1000 ∧ (∀ o ∈ tm, TmOk o) ∧ ∀ v H', Ex H H' → Tp K H' v (.tuple (tm.map ePr)) → Q v H'
abbrev N_checked_times : List Str := ["times", "many", "found", "pair"]
-- slots 0=times 1=many 2=found 3=pair; cells []
theorem sc_checked_times : FnScope N_checked_times ["times", "many"] (defScope s_checked_times) := ⟨rfl, rfl, rfl, by decide +kernel, rfl, by decide +kernel, by decide +kernel⟩
theorem ok_checked_times (T : Tx K mg) : Cal P w K mg base 2 (He.ga K "checked_times") ["times", "many"] (sp_checked_times K) := by
  obtain ⟨fd, F⟩ := T.s.c.def_ 22 (d := d_checked_times) rfl
  refine ⟨fd, F.ok sc_checked_times (fun vs H Q E h => ?_) (fun cdv A outer s H vs Q E hr h => ?_), F.bindsN (fun _ _ _ _ _ _ us hl => match us, hl with | [_, _], _ => rfl), F.kp⟩
  · obtain ⟨v1, v2, rfl, _⟩ := h
    rfl
  · have hu := hu_of hr
    obtain ⟨v1, v2, rfl, tm, ht, rfl, hl, ho, q⟩ := h
    obtain ⟨a, xs, rfl, hS, hT⟩ := tp_tup ht
    obtain ⟨_, h_MOST_MINUTES⟩ := T.c_MOST_MINUTES
    refine ⟨_, PSs.nox (pss_cons (ps_expr (pe_cal (ok_require T) hr T.g_require (pa_cons (pe_cmpR op_eq (pe_callB (lenK K) (by rfl) T.f_len (by decide +kernel) (pa_cons (pv 0) pa_nil)) (pv 1) (nomark _)) pa_nil)))
        (pss_cons (ps_set (i := 2) sc_checked_times.nd rfl (Or.inl rfl) (pe_lst pa_nil))
        (pss_cons (ps_for PassesOwn.never rfl (piT K (pv 0)) (pg_name (i := 3) sc_checked_times.nd rfl (Or.inl rfl))
          (pss_cons (ps_if (pt_cmpR op_notN1 (pv 3) pe_non (nomark _))
            (pss_cons (ps_expr (pe_cal (ok_require T) hr T.g_require (pa_cons (pe_and (pe_cmpR op_eq (pe_callB (lenK K) (by rfl) T.f_len (by decide +kernel) (pa_cons (pv 3) pa_nil)) pe_int (nomark _)) (pe_one (pe_chain3 op_le op_le op_le pe_int (pe_ix (ixT K) (pv 3) pe_int (fun _ _ => rfl)) (pe_ix (ixT K) (pv 3) pe_int (fun _ _ => rfl)) (pe_glob (v := .int 1000) rfl h_MOST_MINUTES ⟨_, rfl⟩)))) pa_nil)))
            (pss_one (ps_set (i := 3) sc_checked_times.nd rfl (Or.inl rfl) (pe_callTy (tupleK K) (by rfl) T.f_tuple (by decide +kernel) (pa_cons (pv 3) pa_nil)))))
            pss_nil)
          (pss_one (ps_expr (pe_bm PySem.F.plainAttrs_list PySem.F.slot_list_append PySem.F.type_list_append mt_append (pv 2) (pa_cons (pv 3) pa_nil))))))
        (pss_one (ps_ret (pe_callTy (tupleK K) (by rfl) T.f_tuple (by decide +kernel) (pa_cons (pv 2) pa_nil))))))), ?_⟩
    repeat (walk_at "rd")
    refine r_lenT hS ?_
    repeat (walk_at "rd")
    refine ⟨_, rfl, congrArg V.bl (decide_eq_true (by rw [tpa_maplen hT])), ?_⟩
    repeat (walk_at "rd")
    refine ⟨Nat.zero_le _, fun o no => ?_⟩
    repeat (walk_at "rd")
    have e1 : Ex H (upd H o (.lst [])) := Ex.new no
    refine ⟨_, rfl, a, rfl, ⟨_, ex_t e1 hS⟩, for_it (walk_tup (xs := xs)) (fun i σ' H' => ∃ y acc, σ' = [some (.ref a), some (.int (tm.length : Int)), some (.ref o), y] ∧ Ex H H' ∧ H' o = some (.lst acc) ∧ acc = xs.take i) ⟨none, [], rfl, e1, upd_same, rfl⟩ (fun i σ' H' _ ⟨_, _, _, e, _⟩ => ex_t e hS) ?_ ?_⟩
    · rintro i x σ' H0 H' hi ⟨y, acc, rfl, e, hacc, rfl⟩ ⟨rfl, hx⟩
      obtain ⟨b, hb, tx⟩ := tpa_item hT hx
      have tx' := tp_ex e tx
      have hok := ho b (List.mem_of_getElem? hb)
      have et : xs.take (i + 1) = xs.take i ++ [x] := by rw [List.take_add_one, hx]; rfl
      have hil := (List.getElem?_eq_some_iff.mp hb).1
      have app : ∀ σ2 : L2.St, σ2 = [some (.ref a), some (.int (tm.length : Int)), some (.ref o), some x] → tDrop (tBM K "list" rAppend (tVar 2) (tCons (tVar 3) tNil)) { nx := fun σ' H' => ∃ y acc, σ' = [some (.ref a), some (.int (tm.length : Int)), some (.ref o), y] ∧ Ex H H' ∧ H' o = some (.lst acc) ∧ acc = xs.take (i + 1), rt := Q } σ2 H' := by
        rintro σ2 rfl
        repeat (walk_at "rd")
        refine ⟨_, rfl, .inl ⟨rfl, _, sq_of hacc⟩, _, rfl, o, _, _, rfl, rfl, hacc, sz_lt (by rw [List.length_take]; omega), ?_⟩
        exact ⟨_, _, rfl, e.mut no, upd_same, et.symm⟩
      cases b with
      | none =>
        cases tp_non tx
        repeat (walk_at "rd")
        exact app _ rfl
      | some p =>
        obtain ⟨c, x1, x2, rfl, hc, t1, t2⟩ := tp_tup2 tx'
        cases tp_int t1
        cases tp_int t2
        obtain ⟨k1, k2, k3⟩ := hok
        repeat (walk_at "rd")
        refine r_lenT hc ?_
        repeat (walk_at "rd")
        rw [decide_eq_true k1]
        repeat (walk_at "rd")
        rw [decide_eq_true k2]
        repeat (walk_at "rd")
        rw [decide_eq_true k3]
        refine ⟨_, rfl, rfl, ?_⟩
        repeat (walk_at "rd")
        refine r_tupT hc ?_
        repeat (walk_at "rd")
        exact app _ rfl
    · rintro σ' H' ⟨y, acc, rfl, e, hacc, rfl⟩
      repeat (walk_at "rd")
      refine r_tupL (sq_of hacc) fun l hl' => ?_
      refine q _ _ (e.trans (Ex.new hl')) (.tup (st_of upd_same) ?_)
      rw [List.take_length]
      exact tpa_ex (e.trans (Ex.new hl')) hT
end
end EF
end
section
set_option maxHeartbeats 4000000
namespace EF
open PySem PySem.Spec PyProof.Rows PySem.W L2 Evl RZ
section
variable {P : Program} {w : World} {K : PySem.W.Frag} {mg : Str → Option Value} {base : Heap}
/-- an expression that the proof never comes to -/
theorem pe_never {X : Cx} {e : Expr} : PE X e (fun _ _ _ => False) := ⟨fun _ _ _ _ _ _ h => h.elim⟩
/-! ### the property link_names -/
def sp_L_link_names (K : PySem.W.Frag) : Sp := fun vs H Q _ => ∃ v1, vs = [v1] ∧ ∃ (p dx al : Addr) (fs : List (Str × V)) (ls : List Lk) (xs : List V), v1 = .ref p ∧ H p = some (.ins (CL K) dx fs) ∧ fs.lookup ("links" : Str) = some (.ref al) ∧ SqT K H al xs ∧ TpAll K H xs (ls.map eLk) ∧ ls.length ≤ 50000 ∧
  ∀ a H', Ex H H' → SqT K H' a ((ls.map Lk.nm).map V.str) → Q (.ref a) H'
abbrev N_L_link_names : List Str := ["self", "link"]
theorem sc_L_link_names : FnScope N_L_link_names ["self"] (defScope s_L_link_names) := ⟨rfl, rfl, rfl, by decide +kernel, rfl, by decide +kernel, by decide +kernel⟩
theorem prop_at (T : Tx K mg) : PropOf K (CL K) "link_names" (prA K) (prG K) := by
  have h := T.s.ex
  unfold exB at h
  obtain ⟨_, h⟩ := He.ba h
  obtain ⟨_, h⟩ := He.ba h
  obtain ⟨h1, h⟩ := He.ba h
  obtain ⟨h2, h⟩ := He.ba h
  obtain ⟨h3, h⟩ := He.ba h
  obtain ⟨h4, _⟩ := He.ba h
  refine ⟨He.eqO_ok h1, He.eqO_ok h2, of_decide_eq_true h3, ?_⟩
  split at h4
  · rename_i g rest e
    have eg := of_decide_eq_true h4
    exact ⟨rest, by rw [e, eg]⟩
  · cases h4
theorem prop_fn (T : Tx K mg) : ∃ oc od osl kV doc pm an cdv ct, K.lookup (prG K) = some ⟨oc, od, .func (PySem.W.fnOf "link_names" "Land.link_names" (defArgs s_L_link_names) (defBody s_L_link_names) (defScope s_L_link_names) .none kV doc pm an cdv ct), osl⟩ ∧ PySem.W.codeIn K cdv "Land.link_names" = true := by
  have h := T.s.ex
  have e := T.s.pr
  unfold exB at h
  obtain ⟨_, h⟩ := He.ba h
  obtain ⟨_, h⟩ := He.ba h
  obtain ⟨_, h⟩ := He.ba h
  obtain ⟨_, h⟩ := He.ba h
  obtain ⟨_, h⟩ := He.ba h
  obtain ⟨_, c2⟩ := He.ba h
  unfold fnA at e
  cases q : K.lookup (prG K) with
  | none =>
    rw [q] at c2
    cases c2
  | some o =>
    obtain ⟨oc, od, dt, osl⟩ := o
    rw [q] at c2 e
    cases dt with
    | func fd =>
      obtain ⟨n1, n2, n3, n4, n5, n6, n7, n8, n9, n10, n11, n12, n13, n14, n15⟩ := fd
      have e2 : (some (n1, n2, n3, n4, n5, n6, n7, n15) : He.FnW) = some (("link_names" : Str), ("Land.link_names" : Str), defArgs s_L_link_names, .stmts (defBody s_L_link_names), defScope s_L_link_names, mainGlobals, [], builtinsNs) := e
      simp only [Option.some.injEq, Prod.mk.injEq] at e2
      obtain ⟨h1, h2, h3, h4, h5, h6, h7, h8⟩ := e2
      subst h1 h2 h3 h4 h5 h6 h7 h8
      have c3 : (PySem.W.codeIn K n13 "Land.link_names" && (He.dflB K n8 [] && He.kwdB K n9 [])) = true := c2
      obtain ⟨k1, k2⟩ := He.ba c3
      obtain ⟨k3, _⟩ := He.ba k2
      have k4 : n8 = Value.none := by
        cases n8 with
        | none => rfl
        | _ => cases k3
      subst k4
      exact ⟨oc, od, osl, n9, n10, n11, n12, n13, n14, rfl, k1⟩
    | _ => cases c2
theorem ok_L_link_names (T : Tx K mg) : ∃ fd, FnOk P w K mg base CX0 1 (prG K) fd ["self"] (sp_L_link_names K) ∧ Binds K fd ["self"] [] := by
  obtain ⟨oc, od, osl, kV, doc, pm, an, cdv, ct, lk, hcd⟩ := prop_fn T
  refine ⟨_, fn_of lk hcd sc_L_link_names (fun vs H Q E h => ?_) (fun A outer s H vs Q E hr h => ?_), .all fun us hl => match us, hl with | [_], _ => rfl⟩
  · obtain ⟨v1, rfl, _⟩ := h
    rfl
  · obtain ⟨v1, rfl, p, dx, al, fs, ls, xs, rfl, hp, hf, hS, hT, hl, q⟩ := h
    refine ⟨_, PSs.nox (pss_one (ps_ret (pe_callTy (tupleK K) (by rfl) T.f_tuple (by decide +kernel) (pa_cons (pe_lc (own := [("link", 1)]) rfl sc_L_link_names.nd (piT K (fldK K (pv 0) rfl)) (blkOk_by (own := [("link", 1)]) (N := N_L_link_names) (sc := defScope s_L_link_names) (by decide +kernel)) (fun _ _ _ _ _ => (pg_name (i := 1) sc_L_link_names.nd rfl (Or.inl rfl))) (fun _ _ _ _ _ => pts_nil) (fun _ _ _ _ _ => (pe_ix (ixT K) (pv 1) pe_int (fun _ _ => rfl)))) pa_nil)))), ?_⟩
    repeat (walk_at "rd")
    refine r_fld rfl hp T.cls T.n_links hf ⟨al, rfl, ⟨_, hS⟩, lc_t1 hS hT hl (fun _ => true) (fun l => .str l.nm) ?_ ?_⟩
    · intro a x H1 Ky Kn ha e tx hy _
      obtain ⟨t, x1, x2, x3, x4, rfl, ht, t1, _⟩ := tp_tup4 tx
      cases tp_str t1
      repeat (walk_at "rd")
      exact hy _ _ rfl (Ex.refl _) (.str _)
    · intro D H1 ys _ e hd ht
      rw [filter_tt, show ls.map (fun l => PyData.str l.nm) = (ls.map Lk.nm).map PyData.str by rw [List.map_map]; rfl] at ht
      have ex := tpa_strs ht
      subst ex
      repeat (walk_at "rd")
      exact r_tupL (sq_of hd) fun l hl' => q l _ (e.trans (Ex.new hl')) (st_of upd_same)
theorem pe_names {X : Cx} {e : Expr} {ta : TE} {pos : Pos} {k : Nat} (T : Tx X.K X.mg) (hr : Room k X.A) (he : PE X e ta) (hk : 2 ≤ k := by decide) (hab : attributeBase e "link_names" X.env (eval e X.env) = eval e X.env := by rfl) : PE X (.Attribute e "link_names" pos) (tProp (CL X.K) (sp_L_link_names X.K) [] E0 ta) := by
  obtain ⟨fd, F, b⟩ := ok_L_link_names (P := X.prog) (w := X.w) (base := X.base) T
  exact pe_prop he T.cls (prop_at T) F (hr.mono hk) b .nil pass0 hab
/-! ### checked_link -/
structure LkOk (ps : List Str) (n : Nat) (l : Lk) : Prop where
  nm : NameOk l.nm
  one : l.one ∈ ps
  oth : l.oth ∈ ps
  ne : l.one ≠ l.oth
  len : l.tm.length = n
  tm : ∀ o ∈ l.tm, TmOk o
def sp_L_checked_link (K : PySem.W.Frag) : Sp := fun vs H Q _ => ∃ v1 v2, vs = [v1, v2] ∧ ∃ (p dx aw ap : Addr) (fs : List (Str × V)) (ws ps : List Str) (l : Lk), v1 = .ref p ∧ H p = some (.ins (CL K) dx fs) ∧ fs.lookup ("winds" : Str) = some (.ref aw) ∧ fs.lookup ("places" : Str) = some (.ref ap) ∧ fs.lookup ("are_ends" : Str) = none ∧
  SqT K H aw (ws.map V.str) ∧ SqT K H ap (ps.map V.str) ∧ Tp K H v2 (eLk l) ∧ LkOk ps ws.length l ∧ ws.length ≤ 1000 ∧ ∀ v H', Ex H H' → Tp K H' v (eLk l) → Q v H'
abbrev N_L_checked_link : List Str := ["self", "link", "name", "one", "other", "times"]
-- slots 0=self 1=link 2=name 3=one 4=other 5=times; cells []
theorem sc_L_checked_link : FnScope N_L_checked_link ["self", "link"] (defScope s_L_checked_link) := ⟨rfl, rfl, rfl, by decide +kernel, rfl, by decide +kernel, by decide +kernel⟩
theorem ok_L_checked_link (T : Tx K mg) : Cal P w K mg base 3 (He.ma K (CL K) "checked_link") ["self", "link"] (sp_L_checked_link K) := by
  obtain ⟨fd, F⟩ := T.s.c.def_ 36 (d := d_L_checked_link) rfl
  refine ⟨fd, F.ok sc_L_checked_link (fun vs H Q E h => ?_) (fun cdv A outer s H vs Q E hr h => ?_), F.bindsN (fun _ _ _ _ _ _ us hl => match us, hl with | [_, _], _ => rfl), F.kp⟩
  · obtain ⟨v1, v2, rfl, _⟩ := h
    rfl
  · have hu := hu_of hr
    obtain ⟨v1, v2, rfl, p, dx, aw, ap, fs, ws, ps, l, rfl, hp, hfw, hfp, hfe, hw, hps, tl, ok, hwl, q⟩ := h
    obtain ⟨a, x1, x2, x3, x4, rfl, hS, t1, t2, t3, t4⟩ := tp_tup4 tl
    cases tp_str t1
    cases tp_str t2
    cases tp_str t3
    refine ⟨_, PSs.nox (pss_cons (ps_expr (pe_cal (ok_require T) hr T.g_require (pa_cons (pe_cmpR op_eq (pe_callB (lenK K) (by rfl) T.f_len (by decide +kernel) (pa_cons (pv 1) pa_nil)) pe_int (nomark _)) pa_nil)))
        (pss_cons (ps_asg (pv 1) (pgT K (n := 4) rfl (pgs_cons (pg_name (i := 2) sc_L_checked_link.nd rfl (Or.inl rfl)) (pgs_cons (pg_name (i := 3) sc_L_checked_link.nd rfl (Or.inl rfl)) (pgs_cons (pg_name (i := 4) sc_L_checked_link.nd rfl (Or.inl rfl)) (pgs_cons (pg_name (i := 5) sc_L_checked_link.nd rfl (Or.inl rfl)) pgs_nil))))))
        (pss_cons (ps_expr (pe_cal (ok_require T) hr T.g_require (pa_cons (pe_and (pe_cal (ok_is_name T) hr T.g_is_name (pa_cons (pv 2) pa_nil)) (pe_one (pe_calM (ok_L_are_ends T) (pv 0) T.cls T.m_are_ends hr (pa_cons (pv 3) (pa_cons (pv 4) pa_nil))))) pa_nil)))
        (pss_one (ps_ret (pe_tup (pa_cons (pv 2) (pa_cons (pv 3) (pa_cons (pv 4) (pa_cons (pe_cal (ok_checked_times T) hr T.g_checked_times (pa_cons (pv 5) (pa_cons (pe_callB (lenK K) (by rfl) T.f_len (by decide +kernel) (pa_cons (fldK K (pv 0) rfl) pa_nil)) pa_nil))) pa_nil)))))))))), ?_⟩
    repeat (walk_at "rd")
    refine r_lenT hS ?_
    repeat (walk_at "rd")
    refine ⟨_, rfl, rfl, ?_⟩
    repeat (walk_at "rd")
    refine r_gtup hS rfl ?_
    repeat (walk_at "rd")
    refine ⟨_, rfl, _, rfl, ok.nm, fun H1 e1 => ?_⟩
    repeat (walk_at "rd")
    refine r_meth rfl (e1 _ _ hp) hfe ?_
    repeat (walk_at "rd")
    refine ⟨_, _, _, rfl, p, dx, ap, fs, ps, _, _, rfl, rfl, rfl, e1 _ _ hp, hfp, ex_t e1 hps, ok.one, ok.oth, ok.ne, ?_⟩
    refine ⟨_, rfl, rfl, ?_⟩
    repeat (walk_at "rd")
    refine r_fld rfl (e1 _ _ hp) T.cls T.n_winds hfw ?_
    repeat (walk_at "rd")
    refine r_lenT (ex_t e1 hw) ?_
    repeat (walk_at "rd")
    refine ⟨_, _, rfl, l.tm, tp_ex e1 t4, ?_, by rw [ok.len]; exact hwl, ok.tm, fun v H2 e2 tv => ?_⟩
    · rw [List.length_map, ok.len]
    repeat (walk_at "rd")
    refine ⟨sz_of (by show 4 ≤ 100000; decide), fun t nt => ?_⟩
    have e3 := (e1.trans e2).trans (Ex.new (o := .tup [.str l.nm, .str l.one, .str l.oth, v]) nt)
    exact q _ _ e3 (.tup (st_of upd_same) (.cons (.str _) (.cons (.str _) (.cons (.str _) (.cons (tp_ex (Ex.new nt) tv) .nil)))))
end
end EF
end
section
set_option maxHeartbeats 4000000
namespace EF
open PySem PySem.Spec PyProof.Rows PySem.W L2 Evl RZ
section
variable {P : Program} {w : World} {K : PySem.W.Frag} {mg : Str → Option Value} {base : Heap}
/-! ### an object apart -/
def er (p : Addr) (H : Hp) : Hp := fun b => if b = p then none else H b
theorem er_self {p : Addr} {H : Hp} : er p H p = none := if_pos rfl
theorem er_ne {p b : Addr} {H : Hp} (h : b ≠ p) : er p H b = H b := if_neg h
theorem ex_er {p : Addr} {H : Hp} : Ex (er p H) H := fun b o e => by
  by_cases h : b = p
  · rw [h, er_self] at e; cases e
  · rw [er_ne h] at e; exact e
theorem er_l {p a C dx : Addr} {H : Hp} {fs : List (Str × V)} {xs : List V} (hp : H p = some (.ins C dx fs)) (h : SqL K H a xs) : SqL K (er p H) a xs := by
  rcases h with (h | ⟨o, h⟩) | h
  · exact .inl (.inl (by rw [er_ne fun z => by rw [z, hp] at h; cases h]; exact h))
  · exact .inl (.inr ⟨o, by rw [er_ne fun z => by rw [z, hp] at h; cases h]; exact h⟩)
  · exact .inr h
theorem er_tk {p C dx : Addr} {H : Hp} {fs : List (Str × V)} (hp : H p = some (.ins C dx fs)) : Tk H (er p H) := by
  refine ⟨fun a xs h => ?_, fun a ob xs h => ?_⟩
  · rcases h with h | ⟨o, h⟩
    · exact .inl (by rw [er_ne fun z => by rw [z, hp] at h; cases h]; exact h)
    · exact .inr ⟨o, by rw [er_ne fun z => by rw [z, hp] at h; cases h]; exact h⟩
  · rw [er_ne fun z => by rw [z, hp] at h; cases h]
    exact h
/-- a field of the object p is stored: nothing else -/
theorem st_fld' {B H : Hp} {p C dx : Addr} {fs : List (Str × V)} {f : Str} {y : V} {D : Ends} {σ : L2.St} {i : Nat} (hi : σ[i]? = some (some (.ref p))) (e : Ex B H) (hB : B p = none) (hp : H p = some (.ins C dx fs)) (hc : Cls K C) (hn : NoAttr K C f) (hl : fs.length < 1000)
    (q : ∀ H', Ex B H' → H' p = some (.ins C dx (putF f y fs)) → Tk H H' → D.nx σ H') : tVar i σ H fun x H2 => ∃ a C dx fs, x = .ref a ∧ H2 a = some (.ins C dx fs) ∧ Cls K C ∧ NoAttr K C f ∧ fs.length < 1000 ∧ D.nx σ (upd H2 a (.ins C dx (putF f y fs))) :=
  ⟨_, hi, p, C, dx, fs, rfl, hp, hc, hn, hl, q _ (e.mut hB) upd_same (tk_ins hp)⟩
structure LandOk (L : LandD) : Prop where
  w1 : 1 ≤ L.winds.length
  w2 : L.winds.length ≤ 4
  wn : ∀ x ∈ L.winds, NameOk x
  wd : L.winds.Nodup
  p1 : 1 ≤ L.places.length
  p2 : L.places.length ≤ 24
  pn : ∀ x ∈ L.places, NameOk x
  pd : L.places.Nodup
  l2 : L.links.length ≤ 60
  lk : ∀ l ∈ L.links, LkOk L.places L.winds.length l
  ld : (L.links.map Lk.nm).Nodup
def sp_L_init (K : PySem.W.Frag) : Sp := fun vs H Q _ => ∃ v1 v2 v3 v4 v5, vs = [v1, v2, v3, v4, v5] ∧ ∃ (p dx aw ap al at_ : Addr) (L : LandD) (xs : List V), v1 = .ref p ∧ v2 = .ref aw ∧ v3 = .ref ap ∧ v4 = .ref al ∧ v5 = .ref at_ ∧ H p = some (.ins (CL K) dx []) ∧
  SqL K H aw (L.winds.map V.str) ∧ SqL K H ap (L.places.map V.str) ∧ SqL K H al xs ∧ TpAll K H xs (L.links.map eLk) ∧ SqT K H at_ [] ∧ LandOk L ∧ ∀ H', Ex (er p H) H' → LandAt K H' p L → Q .non H'
theorem all_tt {α : Type} (l : List α) : ((l.map fun _ => true).all id) = true := by rw [List.all_map]; exact List.all_eq_true.mpr fun _ _ => rfl
/-- all([f(x) for x in xs]) where each is True -/
theorem tpa_alltt {H : Hp} {vs : List V} {α : Type} {l : List α} (h : TpAll K H vs ((l.filter fun _ => true).map fun _ => PyData.bool true)) : vs = (l.map fun _ => true).map V.bl := by
  rw [filter_tt, show l.map (fun _ => PyData.bool true) = (l.map fun _ => true).map PyData.bool by rw [List.map_map]; rfl] at h
  exact tpa_bools h
theorem kw1 : ¬ (("winds" : Str) = "places") := by decide +kernel
theorem kw2 : ¬ (("winds" : Str) = "links") := by decide +kernel
theorem kw3 : ¬ (("winds" : Str) = "paths") := by decide +kernel
theorem kp1 : ¬ (("places" : Str) = "links") := by decide +kernel
theorem kp2 : ¬ (("places" : Str) = "paths") := by decide +kernel
theorem kl1 : ¬ (("links" : Str) = "paths") := by decide +kernel
theorem no_fld {m : Str} (h1 : ¬ m = ("winds" : Str)) (h2 : ¬ m = ("places" : Str)) (h3 : ¬ m = ("links" : Str)) (h4 : ¬ m = ("paths" : Str)) (a b c d : V) : (putF "paths" d (putF "links" c (putF "places" b (putF "winds" a [])))).lookup m = none := by
  rw [lookup_putF, if_neg h4, lookup_putF, if_neg h3, lookup_putF, if_neg h2, lookup_putF, if_neg h1]
  rfl
theorem putF_le (f : Str) (v : V) : ∀ fs : List (Str × V), (putF f v fs).length ≤ fs.length + 1
  | [] => Nat.le_refl _
  | q :: fs => by
    have ih := putF_le f v fs
    unfold putF
    split
    · exact Nat.le_succ _
    · exact Nat.succ_le_succ ih
theorem putF_lt {f : Str} {v : V} {fs : List (Str × V)} {n : Nat} (h : fs.length ≤ n) : (putF f v fs).length ≤ n + 1 := Nat.le_trans (putF_le f v fs) (Nat.succ_le_succ h)
abbrev N_L_init : List Str := ["self", "winds", "places", "links", "paths", "wind", "place", "link", "path"]
-- slots 0=self 1=winds 2=places 3=links 4=paths 5=wind 6=place 7=link 8=path; cells ['self']
theorem sc_L_init : FnScope N_L_init ["self", "winds", "places", "links", "paths"] (defScope s_L_init) := ⟨rfl, rfl, rfl, by decide +kernel, rfl, by decide +kernel, by decide +kernel⟩
theorem ok_L_init (T : Tx K mg) : ∃ fd, FnOk P w K mg base CX0 4 (He.ma K (CL K) "__init__") fd ["self", "winds", "places", "links", "paths"] (sp_L_init K) ∧ FunD K d_L_init.name d_L_init.qual d_L_init.params d_L_init.body d_L_init.scope (d_L_init.dvs K) (d_L_init.kws K) (He.fAd K d_L_init.at_) fd := by
  obtain ⟨fd, F⟩ := T.s.c.def_ 34 (d := d_L_init) rfl
  refine ⟨fd, F.ok sc_L_init (fun vs H Q E h => ?_) (fun cdv A outer s H vs Q E hr h => ?_), F⟩
  · obtain ⟨v1, v2, v3, v4, v5, rfl, _⟩ := h
    rfl
  · have hu := hu_of hr
    obtain ⟨v1, v2, v3, v4, v5, rfl, p, dx, aw, ap, al, at_, L, xs, rfl, rfl, rfl, rfl, rfl, hp, hw, hps, hl, hT, ht, ok, q⟩ := h
    have hB : er p H p = none := er_self
    have w1 := ok.w1
    have w2 := ok.w2
    have p1 := ok.p1
    have p2 := ok.p2
    have l2 := ok.l2
    obtain ⟨_, h_MOST_LINKS⟩ := T.c_MOST_LINKS
    obtain ⟨_, h_MOST_PATHS⟩ := T.c_MOST_PATHS
    obtain ⟨_, h_MOST_PLACES⟩ := T.c_MOST_PLACES
    obtain ⟨_, h_MOST_WINDS⟩ := T.c_MOST_WINDS
    refine ⟨_, PSs.nox (pss_cons (ps_expr (pe_cal (ok_require T) hr T.g_require (pa_cons (pe_and (pe_chain op_le op_le pe_int (pe_callB (lenK K) (by rfl) T.f_len (by decide +kernel) (pa_cons (pv 1) pa_nil)) (pe_glob (v := .int 4) rfl h_MOST_WINDS ⟨_, rfl⟩)) (pe_and (pe_callB (allK K rfl) (by rfl) T.f_all (by decide +kernel) (pa_cons (pe_lc (own := [("wind", 5)]) rfl sc_L_init.nd (piL K (pv 1)) (blkOk_by (own := [("wind", 5)]) (N := N_L_init) (sc := defScope s_L_init) (by decide +kernel)) (fun _ _ _ _ _ => (pg_name (i := 5) sc_L_init.nd rfl (Or.inl rfl))) (fun _ _ _ _ _ => pts_nil) (fun _ _ _ _ _ => (pe_cal (ok_is_name T) hr T.g_is_name (pa_cons (pv 5) pa_nil)))) pa_nil)) (pe_one (pe_cal (ok_are_different T) hr T.g_are_different (pa_cons (pv 1) pa_nil))))) pa_nil)))
        (pss_cons (ps_expr (pe_cal (ok_require T) hr T.g_require (pa_cons (pe_and (pe_chain op_le op_le pe_int (pe_callB (lenK K) (by rfl) T.f_len (by decide +kernel) (pa_cons (pv 2) pa_nil)) (pe_glob (v := .int 24) rfl h_MOST_PLACES ⟨_, rfl⟩)) (pe_one (pe_callB (allK K rfl) (by rfl) T.f_all (by decide +kernel) (pa_cons (pe_lc (own := [("place", 6)]) rfl sc_L_init.nd (piL K (pv 2)) (blkOk_by (own := [("place", 6)]) (N := N_L_init) (sc := defScope s_L_init) (by decide +kernel)) (fun _ _ _ _ _ => (pg_name (i := 6) sc_L_init.nd rfl (Or.inl rfl))) (fun _ _ _ _ _ => pts_nil) (fun _ _ _ _ _ => (pe_cal (ok_is_name T) hr T.g_is_name (pa_cons (pv 6) pa_nil)))) pa_nil)))) pa_nil)))
        (pss_cons (ps_expr (pe_cal (ok_require T) hr T.g_require (pa_cons (pe_cal (ok_are_different T) hr T.g_are_different (pa_cons (pv 2) pa_nil)) pa_nil)))
        (pss_cons (ps_fld (pv 0) (pe_callTy (tupleFK K) (by rfl) T.f_tuple (by decide +kernel) (pa_cons (pv 1) pa_nil)) rfl)
        (pss_cons (ps_fld (pv 0) (pe_callTy (tupleK K) (by rfl) T.f_tuple (by decide +kernel) (pa_cons (pv 2) pa_nil)) rfl)
        (pss_cons (ps_expr (pe_cal (ok_require T) hr T.g_require (pa_cons (pe_cmpR op_le (pe_callB (lenK K) (by rfl) T.f_len (by decide +kernel) (pa_cons (pv 3) pa_nil)) (pe_glob (v := .int 60) rfl h_MOST_LINKS ⟨_, rfl⟩) (nomark _)) pa_nil)))
        (pss_cons (ps_fld (pv 0) (pe_callTy (tupleK K) (by rfl) T.f_tuple (by decide +kernel) (pa_cons (pe_lc (own := [("link", 7)]) rfl sc_L_init.nd (piL K (pv 3)) (blkOk_by (own := [("link", 7)]) (N := N_L_init) (sc := defScope s_L_init) (by decide +kernel)) (fun _ _ _ _ _ => (pg_name (i := 7) sc_L_init.nd rfl (Or.inl rfl))) (fun _ _ _ _ _ => pts_nil) (fun _ _ _ _ _ => (pe_calM (ok_L_checked_link T) (pv 0) T.cls T.m_checked_link hr (pa_cons (pv 7) pa_nil)))) pa_nil)) rfl)
        (pss_cons (ps_expr (pe_cal (ok_require T) hr T.g_require (pa_cons (pe_cal (ok_are_different T) hr T.g_are_different (pa_cons (pe_names T hr (pv 0)) pa_nil)) pa_nil)))
        (pss_cons (ps_expr (pe_cal (ok_require T) hr T.g_require (pa_cons (pe_cmpR op_le (pe_callB (lenK K) (by rfl) T.f_len (by decide +kernel) (pa_cons (pv 4) pa_nil)) (pe_glob (v := .int 60) rfl h_MOST_PATHS ⟨_, rfl⟩) (nomark _)) pa_nil)))
        (pss_cons (ps_fld (pv 0) (pe_callTy (tupleK K) (by rfl) T.f_tuple (by decide +kernel) (pa_cons (pe_lc (own := [("path", 8)]) rfl sc_L_init.nd (piT K (pv 4)) (blkOk_by (own := [("path", 8)]) (N := N_L_init) (sc := defScope s_L_init) (by decide +kernel)) (fun _ _ _ _ _ => (pg_name (i := 8) sc_L_init.nd rfl (Or.inl rfl))) (fun _ _ _ _ _ => pts_nil) (fun _ _ _ _ _ => pe_never)) pa_nil)) rfl)
        (pss_one (ps_expr (pe_cal (ok_require T) hr T.g_require (pa_cons (pe_cal (ok_are_different T) hr T.g_are_different (pa_cons (pe_lc (own := [("path", 8)]) rfl sc_L_init.nd (piT K (fldK K (pv 0) rfl)) (blkOk_by (own := [("path", 8)]) (N := N_L_init) (sc := defScope s_L_init) (by decide +kernel)) (fun _ _ _ _ _ => (pg_name (i := 8) sc_L_init.nd rfl (Or.inl rfl))) (fun _ _ _ _ _ => pts_nil) (fun _ _ _ _ _ => pe_never)) pa_nil)) pa_nil)))))))))))))), ?_⟩
    -- require(1 <= len(winds) <= MOST_WINDS and all(..) and are_different(winds))
    repeat (walk_at "rd")
    refine r_lenL hw ?_
    rw [List.length_map]
    repeat (walk_at "rd")
    rw [decide_eq_true (show (1 : Int) ≤ (L.winds.length : Int) by omega)]
    repeat (walk_at "rd")
    rw [decide_eq_true (show (L.winds.length : Int) ≤ 4 by omega)]
    repeat (walk_at "rd")
    refine r_iL rfl hw (lc_l1 (enc := PyData.str) hw tpa_of_strs (by omega) (fun _ => true) (fun _ => .bool true) ?_ ?_)
    · intro a x H1 Ky Kn ha e tx hy _
      cases tp_str tx
      repeat (walk_at "rd")
      exact ⟨_, rfl, _, rfl, ok.wn a ha, fun H2 e2 => hy _ _ rfl e2 (.bl true)⟩
    intro D1 H1 ys1 _ e1 hd1 ht1
    have ey1 := tpa_alltt ht1
    subst ey1
    repeat (walk_at "rd")
    refine ⟨D1, _, rfl, sq_of hd1, ?_⟩
    rw [all_tt]
    repeat (walk_at "rd")
    refine ⟨_, rfl, aw, L.winds, rfl, .inl (ex_l e1 hw), ok.wd, fun H2 e2 => ?_⟩
    refine ⟨_, rfl, rfl, ?_⟩
    have e3 := e1.trans e2
    -- places
    repeat (walk_at "rd")
    refine r_lenL (ex_l e3 hps) ?_
    rw [List.length_map]
    repeat (walk_at "rd")
    rw [decide_eq_true (show (1 : Int) ≤ (L.places.length : Int) by omega)]
    repeat (walk_at "rd")
    rw [decide_eq_true (show (L.places.length : Int) ≤ 24 by omega)]
    repeat (walk_at "rd")
    refine r_iL rfl (ex_l e3 hps) (lc_l1 (enc := PyData.str) (ex_l e3 hps) tpa_of_strs (by omega) (fun _ => true) (fun _ => .bool true) ?_ ?_)
    · intro a x H1 Ky Kn ha e tx hy _
      cases tp_str tx
      repeat (walk_at "rd")
      exact ⟨_, rfl, _, rfl, ok.pn a ha, fun H2 e2 => hy _ _ rfl e2 (.bl true)⟩
    intro D2 H3 ys2 _ e4 hd2 ht2
    have ey2 := tpa_alltt ht2
    subst ey2
    repeat (walk_at "rd")
    refine ⟨D2, _, rfl, sq_of hd2, ?_⟩
    rw [all_tt]
    refine ⟨_, rfl, rfl, ?_⟩
    have e5 := e3.trans e4
    -- require(are_different(places))
    repeat (walk_at "rd")
    refine ⟨_, rfl, ap, L.places, rfl, .inl (ex_l e5 hps), ok.pd, fun H4 e6 => ?_⟩
    refine ⟨_, rfl, rfl, ?_⟩
    have e7 := e5.trans e6
    have hp4 := e7 _ _ hp
    have eB4 : Ex (er p H) H4 := ex_er.trans e7
    -- self.winds = tuple(winds)
    repeat (walk_at "rd")
    refine ⟨aw, _, rfl, ex_l e7 hw, fun tw ob ntw obd => ?_⟩
    have eB5 := eB4.trans (Ex.new (o := .frz ob (.tup (L.winds.map V.str))) ntw)
    refine st_fld' rfl eB5 hB (Ex.new ntw _ _ hp4) T.cls T.n_winds (by decide) fun H5 eB6 hp5 tk5 => ?_
    have hfz5 : H5 tw = some (.frz ob (.tup (L.winds.map V.str))) := tk5.fz _ _ _ upd_same
    have htw5 : SqT K H5 tw (L.winds.map V.str) := .inl (.inr ⟨ob, hfz5⟩)
    -- self.places = tuple(places)
    repeat (walk_at "rd")
    refine r_tupL (ex_l eB6 (er_l hp hps)) fun tp ntp => ?_
    have eB7 := eB6.trans (Ex.new (o := .tup (L.places.map V.str)) ntp)
    refine st_fld' rfl eB7 hB (Ex.new ntp _ _ hp5) T.cls T.n_places (Nat.lt_of_le_of_lt (putF_lt (Nat.zero_le 0)) (by decide)) fun H6 eB8 hp6 tk6 => ?_
    have htp6 : SqT K H6 tp (L.places.map V.str) := tk_t tk6 (st_of upd_same)
    have htw6 : SqT K H6 tw (L.winds.map V.str) := tk_t tk6 (tk_t (tk_new ntp) htw5)
    have hfz6 : H6 tw = some (.frz ob (.tup (L.winds.map V.str))) := tk6.fz _ _ _ ((tk_new ntp).fz _ _ _ hfz5)
    -- require(len(links) <= MOST_LINKS)
    have hl6 : SqL K H6 al xs := ex_l eB8 (er_l hp hl)
    have hT6 : TpAll K H6 xs (L.links.map eLk) := tpa_ex eB8 (tpa_tk (er_tk hp) hT)
    repeat (walk_at "rd")
    refine r_lenL hl6 ?_
    rw [tpa_maplen hT6]
    repeat (walk_at "rd")
    refine ⟨_, rfl, congrArg V.bl (decide_eq_true (show (L.links.length : Int) ≤ 60 by omega)), ?_⟩
    -- self.links = tuple([self.checked_link(link) for link in links])
    repeat (walk_at "rd")
    refine r_iL rfl hl6 (lc_l1 hl6 hT6 (by omega) (fun _ => true) eLk ?_ ?_)
    · intro a x H1 Ky Kn ha e tx hy _
      repeat (walk_at "rd")
      refine r_meth rfl (e _ _ hp6) (by rw [lookup_putF, if_neg (by decide +kernel), lookup_putF, if_neg (by decide +kernel)]; rfl) ?_
      repeat (walk_at "rd")
      refine ⟨_, _, rfl, p, dx, tw, tp, _, L.winds, L.places, a, rfl, e _ _ hp6, ?_, ?_, ?_, ex_t e htw6, ex_t e htp6, tx, ok.lk a ha, by omega, fun v H' e' tv => hy _ _ rfl e' tv⟩
      · rw [lookup_putF, if_neg kw1, lookup_putF, if_pos rfl]
      · rw [lookup_putF, if_pos rfl]
      · rw [lookup_putF, if_neg (by decide +kernel), lookup_putF, if_neg (by decide +kernel)]
        rfl
    intro D3 H7 ys3 _ e8 hd3 ht3
    rw [filter_tt] at ht3
    repeat (walk_at "rd")
    refine r_tupL (sq_of hd3) fun tl ntl => ?_
    have eB9 := (eB8.trans e8).trans (Ex.new (o := .tup ys3) ntl)
    refine st_fld' rfl eB9 hB (Ex.new ntl _ _ (e8 _ _ hp6)) T.cls T.n_links (Nat.lt_of_le_of_lt (putF_lt (putF_lt (Nat.zero_le 0))) (by decide)) fun H8 eB10 hp8 tk8 => ?_
    have k8 : Tk H6 H8 := ((ex_tk e8).trans (tk_new ntl)).trans tk8
    have htl8 : SqT K H8 tl ys3 := tk_t tk8 (st_of upd_same)
    have hT8 : TpAll K H8 ys3 (L.links.map eLk) := tpa_tk tk8 (tpa_tk (tk_new ntl) ht3)
    -- require(are_different(self.link_names))
    repeat (walk_at "rd")
    refine ⟨_, rfl, p, dx, _, rfl, hp8, ?_⟩
    refine ⟨_, rfl, p, dx, tl, _, L.links, ys3, rfl, hp8, by rw [lookup_putF, if_pos rfl], htl8, hT8, by omega, fun an H9 e9 hn9 => ?_⟩
    repeat (walk_at "rd")
    refine ⟨_, rfl, an, _, rfl, .inr hn9, ok.ld, fun H10 e10 => ?_⟩
    refine ⟨_, rfl, rfl, ?_⟩
    have e11 := e9.trans e10
    have eB11 := eB10.trans e11
    have ht11 : SqT K H10 at_ [] := ex_t eB11 (tk_t (er_tk hp) ht)
    -- require(len(paths) <= MOST_PATHS)
    repeat (walk_at "rd")
    refine r_lenT ht11 ?_
    repeat (walk_at "rd")
    refine ⟨_, rfl, rfl, ?_⟩
    -- self.paths = tuple([..])
    repeat (walk_at "rd")
    refine r_iT rfl ht11 (lc_t1 (α := Str) (l := []) (enc := PyData.str) ht11 .nil (Nat.zero_le _) (fun _ => true) (fun _ => .none) ?_ ?_)
    · intro a x H1 Ky Kn ha
      cases ha
    intro D4 H11 ys4 _ e12 hd4 ht4
    cases tpa_nil ht4
    repeat (walk_at "rd")
    refine r_tupL (sq_of hd4) fun ta nta => ?_
    have eB12 := (eB11.trans e12).trans (Ex.new (o := .tup []) nta)
    refine st_fld' rfl eB12 hB (Ex.new nta _ _ (e12 _ _ (e11 _ _ hp8))) T.cls T.n_paths (Nat.lt_of_le_of_lt (putF_lt (putF_lt (putF_lt (Nat.zero_le 0)))) (by decide)) fun H12 eB13 hp12 tk12 => ?_
    have k12 : Tk H8 H12 := (((ex_tk e11).trans (ex_tk e12)).trans (tk_new nta)).trans tk12
    -- require(are_different([..]))
    repeat (walk_at "rd")
    refine r_fld rfl hp12 T.cls T.n_paths (by rw [lookup_putF, if_pos rfl]) ⟨ta, rfl, ⟨_, tk_t tk12 (st_of upd_same)⟩, lc_t1 (α := Str) (l := []) (enc := PyData.str) (tk_t tk12 (st_of upd_same)) .nil (Nat.zero_le _) (fun _ => true) (fun _ => .none) ?_ ?_⟩
    · intro a x H1 Ky Kn ha
      cases ha
    intro D5 H13 ys5 _ e13 hd5 ht5
    cases tpa_nil ht5
    repeat (walk_at "rd")
    refine ⟨_, rfl, D5, [], rfl, .inl (sq_of hd5), List.nodup_nil, fun H14 e14 => ?_⟩
    refine ⟨_, rfl, rfl, ?_⟩
    have e15 := e13.trans e14
    have k15 : Tk H8 H14 := k12.trans (ex_tk e15)
    have k16 : Tk H6 H14 := k8.trans k15
    refine q H14 (eB13.trans e15) ⟨⟨dx, _, tw, tp, tl, e15 _ _ hp12, ?_, ?_, ?_, no_fld (by decide +kernel) (by decide +kernel) (by decide +kernel) (by decide +kernel) _ _ _ _, no_fld (by decide +kernel) (by decide +kernel) (by decide +kernel) (by decide +kernel) _ _ _ _, tk_t k16 htw6, tk_t k16 htp6, ys3, tk_t k15 htl8, tpa_tk k15 hT8⟩, ⟨dx, _, tw, ob, e15 _ _ hp12, ?_, k16.fz _ _ _ hfz6, obd⟩⟩
    · rw [lookup_putF, if_neg kw3, lookup_putF, if_neg kw2, lookup_putF, if_neg kw1, lookup_putF, if_pos rfl]
    · rw [lookup_putF, if_neg kp2, lookup_putF, if_neg kp1, lookup_putF, if_pos rfl]
    · rw [lookup_putF, if_neg kl1, lookup_putF, if_pos rfl]
    · rw [lookup_putF, if_neg kw3, lookup_putF, if_neg kw2, lookup_putF, if_neg kw1, lookup_putF, if_pos rfl]
end
end EF
end
section
set_option maxHeartbeats 4000000
namespace EF
open PySem PySem.Spec PyProof.Rows PySem.W L2 Evl RZ
section
variable {P : Program} {w : World} {K : PySem.W.Frag} {mg : Str → Option Value} {base : Heap}
/-! ### weathers -/
structure WOk (we : List (Int × Str)) : Prop where
  ne : 1 ≤ we.length
  le : we.length ≤ 40
  zero : (we.map (·.1))[0]? = some 0
  bound : ∀ q ∈ we, q.1 ≤ 100000
  asc : (we.map (·.1)).Pairwise (· < ·)
theorem last_of {α : Type} {l : List α} (h : 1 ≤ l.length) : ∃ i x, l = i ++ [x] := by
  cases l with
  | nil => exact absurd h (Nat.not_succ_le_zero 0)
  | cons a r => exact ⟨_, _, (List.dropLast_concat_getLast (List.cons_ne_nil a r)).symm⟩
theorem atI_last' {α β : Type} {f : α → β} {l : List α} {x : α} (h : l.getLast? = some x) : atI (l.map f) (-1) = some (f x) := by
  obtain ⟨i, y, rfl⟩ := last_of (l := l) (by cases l with
    | nil => cases h
    | cons a r => exact Nat.succ_le_succ (Nat.zero_le _))
  rw [List.getLast?_concat] at h
  cases h
  rw [List.map_append]
  exact atI_last _ _
/-- the wind at a minute -/
def blow (we : List (Int × Str)) (m : Int) : Str := (((we.filter fun q => decide (q.1 ≤ m)).map (·.2)).getLast?).getD default
def sp_blowing (K : PySem.W.Frag) : Sp := fun vs H Q _ => ∃ v1 v2, vs = [v1, v2] ∧ ∃ (we : List (Int × Str)) (m : Int), Ls K H v1 (we.map eMP) ∧ v2 = .int m ∧ we.length ≤ 40 ∧ (∃ q ∈ we, q.1 ≤ m) ∧ ∀ H', Ex H H' → Q (.str (blow we m)) H'
abbrev N_blowing : List Str := ["weather", "minute", "start", "wind"]
-- slots 0=weather 1=minute 2=start 3=wind; cells ['minute']
theorem sc_blowing : FnScope N_blowing ["weather", "minute"] (defScope s_blowing) := ⟨rfl, rfl, rfl, by decide +kernel, rfl, by decide +kernel, by decide +kernel⟩
theorem ok_blowing (T : Tx K mg) : Cal P w K mg base 1 (He.ga K "blowing") ["weather", "minute"] (sp_blowing K) := by
  obtain ⟨fd, F⟩ := T.s.c.def_ 2 (d := d_blowing) rfl
  refine ⟨fd, F.ok sc_blowing (fun vs H Q E h => ?_) (fun cdv A outer s H vs Q E hr h => ?_), F.bindsN (fun _ _ _ _ _ _ us hl => match us, hl with | [_, _], _ => rfl), F.kp⟩
  · obtain ⟨v1, v2, rfl, _⟩ := h
    rfl
  · have hu := hu_of hr
    obtain ⟨v1, v2, rfl, we, m, ⟨a, xs, rfl, hS, hT⟩, rfl, hl, ⟨q0, hq1, hq2⟩, q⟩ := h
    refine ⟨_, PSs.nox (pss_one (ps_ret (pe_ix (ixL K) (pe_lc (own := [("start", 2), ("wind", 3)]) rfl sc_blowing.nd (piL K (pv 0)) (blkOk_by (own := [("start", 2), ("wind", 3)]) (N := N_blowing) (sc := defScope s_blowing) (by decide +kernel)) (fun _ _ _ _ _ => (pgT K (n := 2) rfl (pgs_cons (pg_name (i := 2) sc_blowing.nd rfl (Or.inl rfl)) (pgs_cons (pg_name (i := 3) sc_blowing.nd rfl (Or.inl rfl)) pgs_nil)))) (fun _ _ _ _ _ => (pts_one (pt_cmpR op_le (pv 2) (pv 1) (nomark _)))) (fun _ _ _ _ _ => (pv 3))) (pe_un un_neg pe_int) (fun _ _ => rfl)))), ?_⟩
    repeat (walk_at "rd")
    refine r_iL rfl hS (lc_l1 hS hT (by omega) (fun q => decide (q.1 ≤ m)) (fun q => .str q.2) ?_ ?_)
    · intro b x H1 Ky Kn ha e tx hy hn
      obtain ⟨t, x1, x2, rfl, ht, t1, t2⟩ := tp_tup2 tx
      cases tp_int t1
      cases tp_str t2
      refine r_gtup ht rfl ?_
      repeat (walk_at "rd")
      refine ite_c (fun hb => ?_) fun hb => ?_
      · repeat (walk_at "rd")
        exact hy _ _ hb (Ex.refl _) (.str _)
      · exact hn _ hb (Ex.refl _)
    intro D1 H1 ys _ e1 hd ht
    rw [show (we.filter fun q => decide (q.1 ≤ m)).map (fun q => PyData.str q.2) = ((we.filter fun q => decide (q.1 ≤ m)).map (·.2)).map PyData.str by rw [List.map_map]; rfl] at ht
    have ey := tpa_strs ht
    subst ey
    repeat (walk_at "rd")
    have hne : 1 ≤ ((we.filter fun q => decide (q.1 ≤ m)).map (·.2)).length := by
      rw [List.length_map]
      exact List.length_pos_of_mem (List.mem_filter.mpr ⟨hq1, decide_eq_true hq2⟩)
    obtain ⟨i0, x0, e0⟩ := last_of hne
    have hb : blow we m = x0 := by
      unfold blow
      rw [e0, List.getLast?_concat]
      rfl
    refine r_ixL (sq_of hd) (atI_last' (x := x0) (by rw [e0, List.getLast?_concat])) ?_
    rw [← hb]
    exact q _ e1
/-- the minutes of setting out -/
def chs (we : List (Int × Str)) (m : Int) : List Int := m :: (we.filter fun q => decide (m < q.1)).map (·.1)
def sp_chances (K : PySem.W.Frag) : Sp := fun vs H Q _ => ∃ v1 v2, vs = [v1, v2] ∧ ∃ (we : List (Int × Str)) (m : Int), Ls K H v1 (we.map eMP) ∧ v2 = .int m ∧ we.length ≤ 40 ∧ ∀ a H', H a = none → Ex H H' → H' a = some (.lst ((chs we m).map V.int)) → Q (.ref a) H'
abbrev N_chances : List Str := ["weather", "minute", "start", "_"]
-- slots 0=weather 1=minute 2=start 3=_; cells ['minute']
theorem sc_chances : FnScope N_chances ["weather", "minute"] (defScope s_chances) := ⟨rfl, rfl, rfl, by decide +kernel, rfl, by decide +kernel, by decide +kernel⟩
theorem ok_chances (T : Tx K mg) : Cal P w K mg base 1 (He.ga K "chances") ["weather", "minute"] (sp_chances K) := by
  obtain ⟨fd, F⟩ := T.s.c.def_ 3 (d := d_chances) rfl
  refine ⟨fd, F.ok sc_chances (fun vs H Q E h => ?_) (fun cdv A outer s H vs Q E hr h => ?_), F.bindsN (fun _ _ _ _ _ _ us hl => match us, hl with | [_, _], _ => rfl), F.kp⟩
  · obtain ⟨v1, v2, rfl, _⟩ := h
    rfl
  · have hu := hu_of hr
    obtain ⟨v1, v2, rfl, we, m, ⟨a, xs, rfl, hS, hT⟩, rfl, hl, q⟩ := h
    refine ⟨_, PSs.nox (pss_one (ps_ret (pe_op op_cat (pe_lst (pa_cons (pv 1) pa_nil)) (pe_lc (own := [("start", 2), ("_", 3)]) rfl sc_chances.nd (piL K (pv 0)) (blkOk_by (own := [("start", 2), ("_", 3)]) (N := N_chances) (sc := defScope s_chances) (by decide +kernel)) (fun _ _ _ _ _ => (pgT K (n := 2) rfl (pgs_cons (pg_name (i := 2) sc_chances.nd rfl (Or.inl rfl)) (pgs_cons (pg_name (i := 3) sc_chances.nd rfl (Or.inl rfl)) pgs_nil)))) (fun _ _ _ _ _ => (pts_one (pt_cmpR op_gt (pv 2) (pv 1) (nomark _)))) (fun _ _ _ _ _ => (pv 2)))))), ?_⟩
    repeat (walk_at "rd")
    refine ⟨sz_of (by show 1 ≤ 100000; decide), fun l1 n1 => ?_⟩
    have e0 : Ex H (upd H l1 (.lst [.int m])) := Ex.new n1
    repeat (walk_at "rd")
    refine r_iL rfl (ex_l e0 hS) (lc_l1 (ex_l e0 hS) (tpa_ex e0 hT) (by omega) (fun q => decide (m < q.1)) (fun q => .int q.1) ?_ ?_)
    · intro b x H1 Ky Kn ha e tx hy hn
      obtain ⟨t, x1, x2, rfl, ht, t1, t2⟩ := tp_tup2 tx
      cases tp_int t1
      cases tp_str t2
      refine r_gtup ht rfl ?_
      repeat (walk_at "rd")
      refine ite_c (fun hb => ?_) fun hb => ?_
      · repeat (walk_at "rd")
        exact hy _ _ hb (Ex.refl _) (.int _)
      · exact hn _ hb (Ex.refl _)
    intro D1 H1 ys hD1 e1 hd ht
    rw [show (we.filter fun q => decide (m < q.1)).map (fun q => PyData.int q.1) = ((we.filter fun q => decide (m < q.1)).map (·.1)).map PyData.int by rw [List.map_map]; rfl] at ht
    have ey := tpa_ints ht
    subst ey
    have hfl := List.length_filter_le (fun q : Int × Str => decide (m < q.1)) we
    refine ⟨l1, D1, _, _, rfl, rfl, e1 _ _ upd_same, hd, sz_of (by rw [List.length_map, List.length_map]; show 1 + _ ≤ 100000; omega), fun r nr => ?_⟩
    refine q r _ (fresh_back (e0.trans e1) nr) ((e0.trans e1).trans (Ex.new nr)) ?_
    rw [upd_same]
    rfl
/-! ### check_changes -/
def sp_check_changes (K : PySem.W.Frag) : Sp := fun vs H Q _ => ∃ v1, vs = [v1] ∧ ∃ we : List (Int × Str), Ls K H v1 (we.map eMP) ∧ WOk we ∧ ∀ H', Ex H H' → Q .non H'
theorem asc_zip : ∀ {ms : List Int}, ms.Pairwise (· < ·) → ∀ p ∈ ms.zip (ms.drop 1), ¬ p.2 ≤ p.1
  | [], _, p, hp => by cases hp
  | [_], _, p, hp => by cases hp
  | a :: b :: r, h, p, hp => by
    rcases List.mem_cons.mp (show p ∈ (a, b) :: (b :: r).zip r from hp) with z | z
    · rw [z]
      have := List.rel_of_pairwise_cons h (List.mem_cons_self (a := b) (l := r))
      show ¬ b ≤ a
      omega
    · exact asc_zip (List.Pairwise.of_cons h) p z
abbrev N_check_changes : List Str := ["weather", "minutes", "minute", "_", "later"]
-- slots 0=weather 1=minutes 2=minute 3=_ 4=later; cells []
theorem sc_check_changes : FnScope N_check_changes ["weather"] (defScope s_check_changes) := ⟨rfl, rfl, rfl, by decide +kernel, rfl, by decide +kernel, by decide +kernel⟩
theorem ok_check_changes (T : Tx K mg) : Cal P w K mg base 1 (He.ga K "check_changes") ["weather"] (sp_check_changes K) := by
  obtain ⟨fd, F⟩ := T.s.c.def_ 1 (d := d_check_changes) rfl
  refine ⟨fd, F.ok sc_check_changes (fun vs H Q E h => ?_) (fun cdv A outer s H vs Q E hr h => ?_), F.bindsN (fun _ _ _ _ _ _ us hl => match us, hl with | [_], _ => rfl), F.kp⟩
  · obtain ⟨v1, rfl, _⟩ := h
    rfl
  · have hu := hu_of hr
    obtain ⟨v1, rfl, we, ⟨a, xs, rfl, hS, hT⟩, ok, q⟩ := h
    have n1 := ok.ne
    have n2 := ok.le
    obtain ⟨_, h_MOST_CHANGES⟩ := T.c_MOST_CHANGES
    obtain ⟨_, h_MOST_MINUTE⟩ := T.c_MOST_MINUTE
    refine ⟨_, PSs.nox (pss_cons (ps_setLc (i := 1) (own := [("minute", 2), ("_", 3)]) rfl sc_check_changes.nd rfl rfl (sw_true rfl rfl rfl (by decide +kernel)) (piL K (pv 0)) (blkOk_by (own := [("minute", 2), ("_", 3)]) (N := N_check_changes) (sc := defScope s_check_changes) (by decide +kernel)) (fun _ _ _ _ _ => (pgT K (n := 2) rfl (pgs_cons (pg_name (i := 2) sc_check_changes.nd rfl (Or.inl rfl)) (pgs_cons (pg_name (i := 3) sc_check_changes.nd rfl (Or.inl rfl)) pgs_nil)))) (fun _ _ _ _ _ => pts_nil) (fun _ _ _ _ _ => (pv 2)))
        (pss_cons (ps_if (PW.pt (pw_or (pt_not (pt_chain op_le op_le pe_int (pe_callB (lenK K) (by rfl) T.f_len (by decide +kernel) (pa_cons (pv 1) pa_nil)) (pe_glob (v := .int 40) rfl h_MOST_CHANGES ⟨_, rfl⟩))) (pw_or (pt_cmpR op_ne (pe_ix (ixL K) (pv 1) pe_int (fun _ _ => rfl)) pe_int (nomark _)) (pw_or1 (pt_cmpR op_gt (pe_ix (ixL K) (pv 1) (pe_un un_neg pe_int) (fun _ _ => rfl)) (pe_glob (v := .int 100000) rfl h_MOST_MINUTE ⟨_, rfl⟩) (nomark _))))))
          (pss_one ps_never)
          pss_nil)
        (pss_one (ps_if (pt_val (pe_callB (anyK K rfl) (by rfl) T.f_any (by decide +kernel) (pa_cons (pe_lc (own := [("minute", 2), ("later", 4)]) rfl sc_check_changes.nd (piZ K rfl T.f_zip (pa_cons (pv 1) (pa_cons (pe_slice (slL K) (pv 1) (po_some pe_int) po_none) pa_nil))) (blkOk_by (own := [("minute", 2), ("later", 4)]) (N := N_check_changes) (sc := defScope s_check_changes) (by decide +kernel)) (fun _ _ _ _ _ => (pgT K (n := 2) rfl (pgs_cons (pg_name (i := 2) sc_check_changes.nd rfl (Or.inl rfl)) (pgs_cons (pg_name (i := 4) sc_check_changes.nd rfl (Or.inl rfl)) pgs_nil)))) (fun _ _ _ _ _ => pts_nil) (fun _ _ _ _ _ => (pe_cmpR op_le (pv 4) (pv 2) (nomark _)))) pa_nil)))
          (pss_one ps_never)
          pss_nil)))), ?_⟩
    repeat (walk_at "rd")
    refine r_iL rfl hS (lc_l1 hS hT (by omega) (fun _ => true) (fun q => .int q.1) ?_ ?_)
    · intro b x H1 Ky Kn ha e tx hy hn
      obtain ⟨t, x1, x2, rfl, ht, t1, t2⟩ := tp_tup2 tx
      cases tp_int t1
      cases tp_str t2
      refine r_gtup ht rfl ?_
      repeat (walk_at "rd")
      exact hy _ _ rfl (Ex.refl _) (.int _)
    intro D1 H1 ys _ e1 hd ht
    rw [filter_tt, show we.map (fun q => PyData.int q.1) = (we.map (·.1)).map PyData.int by rw [List.map_map]; rfl] at ht
    have ey := tpa_ints ht
    subst ey
    obtain ⟨i0, x0, e0⟩ := last_of (l := we.map (·.1)) (by rw [List.length_map]; exact n1)
    have hlast : (we.map (·.1)).getLast? = some x0 := by rw [e0, List.getLast?_concat]
    have hx0 : x0 ≤ 100000 := by
      have hm : x0 ∈ we.map (·.1) := List.mem_of_getLast? hlast
      obtain ⟨q', hq', rfl⟩ := List.mem_map.mp hm
      exact ok.bound _ hq'
    repeat (walk_at "rd")
    refine r_lenL (sq_of hd) ?_
    rw [List.length_map, List.length_map]
    repeat (walk_at "rd")
    rw [decide_eq_true (show (1 : Int) ≤ (we.length : Int) by omega)]
    repeat (walk_at "rd")
    rw [decide_eq_true (show (we.length : Int) ≤ 40 by omega)]
    repeat (walk_at "rd")
    refine r_ixL (sq_of hd) (atI_nat (j := 0) (by rw [List.getElem?_map, ok.zero]; rfl)) ?_
    repeat (walk_at "rd")
    refine r_ixL (sq_of hd) (atI_last' hlast) ?_
    repeat (walk_at "rd")
    rw [decide_eq_false (show ¬ (100000 : Int) < x0 by omega)]
    repeat (walk_at "rd")
    refine ⟨_, rfl, _, rfl, 1, rfl, _, _, rfl, sq_of hd, fun c nc => ?_⟩
    have hc1 : cutV ((we.map (·.1)).map V.int) (some 1) none = ((we.map (·.1)).drop 1).map V.int := by
      rw [show (1 : Int) = ((1 : Nat) : Int) from rfl, cut_from, List.map_drop]
    rw [hc1]
    have e2 : Ex H1 (upd H1 c (.lst (((we.map (·.1)).drop 1).map V.int))) := Ex.new nc
    refine ⟨D1, c, _, _, rfl, .inl ⟨ex_l e2 (sq_of hd), sq_of upd_same, lc_tp (K := K) (walk_zip rfl) ((we.map (·.1)).zip ((we.map (·.1)).drop 1)) ?_ ?_ (fun H2 e3 => ⟨ex_l (e2.trans e3) (sq_of hd), ex_l e3 (sq_of upd_same)⟩) (fun _ => true) (fun p => .bool false) ?_ ?_⟩⟩
    · simp only [List.length_zip, List.length_map, List.length_drop]
    · simp only [List.length_map, List.length_drop]
      omega
    · rintro i p x H2 H3 Ky Kn hp e3 ⟨T', u1, u2, rfl, hT', rfl, h1, h2⟩ hy hn
      obtain ⟨g1, g2⟩ := List.getElem?_zip_eq_some.mp hp
      have h1 : ((we.map (·.1)).map V.int)[i]? = some u1 := h1
      have h2 : (((we.map (·.1)).drop 1).map V.int)[i]? = some u2 := h2
      rw [List.getElem?_map, g1] at h1
      rw [List.getElem?_map, g2] at h2
      cases Option.some.inj h1
      cases Option.some.inj h2
      refine r_gtup (st_of upd_same) rfl ?_
      repeat (walk_at "rd")
      rw [decide_eq_false (asc_zip ok.asc p (List.mem_of_getElem? hp))]
      exact hy _ _ rfl (Ex.new hT') (.bl false)
    intro D2 H2 ys2 _ e3 hd2 ht2
    rw [filter_tt, show ((we.map (·.1)).zip ((we.map (·.1)).drop 1)).map (fun p => PyData.bool false) = (((we.map (·.1)).zip ((we.map (·.1)).drop 1)).map fun _ => false).map PyData.bool by rw [List.map_map]; rfl] at ht2
    have ey2 := tpa_bools ht2
    subst ey2
    repeat (walk_at "rd")
    refine ⟨D2, _, rfl, sq_of hd2, ?_⟩
    rw [show (((we.map (·.1)).zip ((we.map (·.1)).drop 1)).map fun _ => false).any id = false by rw [List.any_map]; exact List.any_eq_false.mpr fun _ _ => Bool.false_ne_true]
    repeat (walk_at "rd")
    exact q _ ((e1.trans e2).trans e3)
end
end EF
end
section
set_option maxHeartbeats 4000000
namespace EF
open PySem PySem.Spec PyProof.Rows PySem.W L2 Evl RZ
section
variable {P : Program} {w : World} {K : PySem.W.Frag} {mg : Str → Option Value} {base : Heap}
/-- a comprehension's block that captures nothing -/
theorem blkOk_nf {N : List Str} {sc scope : Scope} {own : List (Str × Nat)} (h : blkC N { kind := .function, names := [], isGenerator := false, isCoroutine := false, more := [] } scope own = true) : BlkOk N sc scope own := by
  have b := blkOk_by h
  exact ⟨b.kind, b.uniq, b.ix, fun y hy e => (b.free y hy e).elim (fun z => nomatch z) (fun z => nomatch z), b.own⟩
/-! ### least_numbers, most_numbers -/
def loRow (l : Lk) : List (Option Int) := l.tm.map fun o => o.map (·.1)
def hiRow (l : Lk) : List (Option Int) := l.tm.map fun o => o.map (·.2)
def sp_numbers (K : PySem.W.Frag) (row : Lk → List (Option Int)) : Sp := fun vs H Q _ => ∃ v1, vs = [v1] ∧ ∃ p L, v1 = .ref p ∧ LandAt K H p L ∧ L.links.length ≤ 1000 ∧ (∀ l ∈ L.links, l.tm.length ≤ 1000) ∧ ∀ v H', Ex H H' → Tp K H' v (.tuple (L.links.map fun l => eRw (row l))) → Q v H'
abbrev sp_least_numbers (K : PySem.W.Frag) : Sp := sp_numbers K loRow
abbrev sp_most_numbers (K : PySem.W.Frag) : Sp := sp_numbers K hiRow
abbrev N_least_numbers : List Str := ["land", "link", "pair"]
-- slots 0=land 1=link 2=pair; cells []
theorem sc_least_numbers : FnScope N_least_numbers ["land"] (defScope s_least_numbers) := ⟨rfl, rfl, rfl, by decide +kernel, rfl, by decide +kernel, by decide +kernel⟩
theorem ok_least_numbers (T : Tx K mg) : Cal P w K mg base 1 (He.ga K "least_numbers") ["land"] (sp_least_numbers K) := by
  obtain ⟨fd, F⟩ := T.s.c.def_ 4 (d := d_least_numbers) rfl
  refine ⟨fd, F.ok sc_least_numbers (fun vs H Q E h => ?_) (fun cdv A outer s H vs Q E hr h => ?_), F.bindsN (fun _ _ _ _ _ _ us hl => match us, hl with | [_], _ => rfl), F.kp⟩
  · obtain ⟨v1, rfl, _⟩ := h
    rfl
  · have hu := hu_of hr
    obtain ⟨v1, rfl, p, L, rfl, hL, l1, l2, q⟩ := h
    obtain ⟨dx, fs, aw, ap, al, h1, h2, h3, h4, h5, h6, h7, h8, xs, h9, h10⟩ := hL.at_
    refine ⟨_, PSs.nox (pss_one (ps_ret (pe_callTy (tupleK K) (by rfl) T.f_tuple (by decide +kernel) (pa_cons (pe_lc (own := [("link", 1)]) rfl sc_least_numbers.nd (piT K (fldK K (pv 0) rfl)) (blkOk_by (own := [("link", 1)]) (N := N_least_numbers) (sc := defScope s_least_numbers) (by decide +kernel)) (fun _ _ _ _ _ => (pg_name (i := 1) sc_least_numbers.nd rfl (Or.inl rfl))) (fun _ _ _ _ _ => pts_nil) (fun _ _ _ _ _ => (pe_callTy (tupleK K) (by rfl) T.f_tuple (by decide +kernel) (pa_cons (pe_lc (own := [("pair", 2)]) rfl sc_least_numbers.nd (piT K (pe_ix (ixT K) (pv 1) pe_int (fun _ _ => rfl))) (blkOk_nf (own := [("pair", 2)]) (N := N_least_numbers) (by decide +kernel)) (fun _ _ _ _ _ => (pg_name (i := 2) sc_least_numbers.nd rfl (Or.inl rfl))) (fun _ _ _ _ _ => pts_nil) (fun _ _ _ _ _ => (pe_ifExp (pt_cmpR op_isN1 (pv 2) pe_non (nomark _)) pe_non (pe_ix (ixT K) (pv 2) pe_int (fun _ _ => rfl))))) pa_nil)))) pa_nil)))), ?_⟩
    repeat (walk_at "rd")
    refine r_fld rfl h1 T.cls T.n_links h4 ⟨al, rfl, ⟨_, h9⟩, lc_t1 h9 h10 (by omega) (fun _ => true) (fun l => eRw (loRow l)) ?_ ?_⟩
    · intro l x H1 Ky Kn ha e tx hy _
      obtain ⟨t, x1, x2, x3, x4, rfl, ht, t1, t2, t3, t4⟩ := tp_tup4 tx
      obtain ⟨a4, xs4, rfl, hS4, hT4⟩ := tp_tup t4
      have lz := l2 l ha
      repeat (walk_at "rd")
      refine r_iT0 ?_
      repeat (walk_at "rd")
      refine ⟨a4, rfl, ⟨_, hS4⟩, lc_t1 hS4 hT4 (by omega) (fun _ => true) (fun o => eO (o.map (·.1))) ?_ ?_⟩
      · intro o x H2 Ky2 Kn2 ha2 e2 tx2 hy2 _
        cases o with
        | none =>
          cases tp_non tx2
          repeat (walk_at "rd")
          exact hy2 _ _ rfl (Ex.refl _) .non
        | some p2 =>
          obtain ⟨t5, y1, y2, rfl, ht5, t6, t7⟩ := tp_tup2 tx2
          cases tp_int t6
          repeat (walk_at "rd")
          exact hy2 _ _ rfl (Ex.refl _) (.int _)
      · intro D2 H3 ys2 _ e3 hd2 ht2
        rw [filter_tt, show l.tm.map (fun o => eO (o.map (·.1))) = (loRow l).map eO by unfold loRow; rw [List.map_map]; rfl] at ht2
        repeat (walk_at "rd")
        refine r_tupL (sq_of hd2) fun l' hl' => ?_
        exact hy _ _ rfl (e3.trans (Ex.new hl')) (.tup (st_of upd_same) (tpa_ex (Ex.new hl') ht2))
    · intro D1 H1 ys _ e hd ht
      rw [filter_tt] at ht
      repeat (walk_at "rd")
      refine r_tupL (sq_of hd) fun l' hl' => ?_
      exact q _ _ (e.trans (Ex.new hl')) (.tup (st_of upd_same) (tpa_ex (Ex.new hl') ht))
abbrev N_most_numbers : List Str := ["land", "link", "pair"]
-- slots 0=land 1=link 2=pair; cells []
theorem sc_most_numbers : FnScope N_most_numbers ["land"] (defScope s_most_numbers) := ⟨rfl, rfl, rfl, by decide +kernel, rfl, by decide +kernel, by decide +kernel⟩
theorem ok_most_numbers (T : Tx K mg) : Cal P w K mg base 1 (He.ga K "most_numbers") ["land"] (sp_most_numbers K) := by
  obtain ⟨fd, F⟩ := T.s.c.def_ 5 (d := d_most_numbers) rfl
  refine ⟨fd, F.ok sc_most_numbers (fun vs H Q E h => ?_) (fun cdv A outer s H vs Q E hr h => ?_), F.bindsN (fun _ _ _ _ _ _ us hl => match us, hl with | [_], _ => rfl), F.kp⟩
  · obtain ⟨v1, rfl, _⟩ := h
    rfl
  · have hu := hu_of hr
    obtain ⟨v1, rfl, p, L, rfl, hL, l1, l2, q⟩ := h
    obtain ⟨dx, fs, aw, ap, al, h1, h2, h3, h4, h5, h6, h7, h8, xs, h9, h10⟩ := hL.at_
    refine ⟨_, PSs.nox (pss_one (ps_ret (pe_callTy (tupleK K) (by rfl) T.f_tuple (by decide +kernel) (pa_cons (pe_lc (own := [("link", 1)]) rfl sc_most_numbers.nd (piT K (fldK K (pv 0) rfl)) (blkOk_by (own := [("link", 1)]) (N := N_most_numbers) (sc := defScope s_most_numbers) (by decide +kernel)) (fun _ _ _ _ _ => (pg_name (i := 1) sc_most_numbers.nd rfl (Or.inl rfl))) (fun _ _ _ _ _ => pts_nil) (fun _ _ _ _ _ => (pe_callTy (tupleK K) (by rfl) T.f_tuple (by decide +kernel) (pa_cons (pe_lc (own := [("pair", 2)]) rfl sc_most_numbers.nd (piT K (pe_ix (ixT K) (pv 1) pe_int (fun _ _ => rfl))) (blkOk_nf (own := [("pair", 2)]) (N := N_most_numbers) (by decide +kernel)) (fun _ _ _ _ _ => (pg_name (i := 2) sc_most_numbers.nd rfl (Or.inl rfl))) (fun _ _ _ _ _ => pts_nil) (fun _ _ _ _ _ => (pe_ifExp (pt_cmpR op_isN1 (pv 2) pe_non (nomark _)) pe_non (pe_ix (ixT K) (pv 2) pe_int (fun _ _ => rfl))))) pa_nil)))) pa_nil)))), ?_⟩
    repeat (walk_at "rd")
    refine r_fld rfl h1 T.cls T.n_links h4 ⟨al, rfl, ⟨_, h9⟩, lc_t1 h9 h10 (by omega) (fun _ => true) (fun l => eRw (hiRow l)) ?_ ?_⟩
    · intro l x H1 Ky Kn ha e tx hy _
      obtain ⟨t, x1, x2, x3, x4, rfl, ht, t1, t2, t3, t4⟩ := tp_tup4 tx
      obtain ⟨a4, xs4, rfl, hS4, hT4⟩ := tp_tup t4
      have lz := l2 l ha
      repeat (walk_at "rd")
      refine r_iT0 ?_
      repeat (walk_at "rd")
      refine ⟨a4, rfl, ⟨_, hS4⟩, lc_t1 hS4 hT4 (by omega) (fun _ => true) (fun o => eO (o.map (·.2))) ?_ ?_⟩
      · intro o x H2 Ky2 Kn2 ha2 e2 tx2 hy2 _
        cases o with
        | none =>
          cases tp_non tx2
          repeat (walk_at "rd")
          exact hy2 _ _ rfl (Ex.refl _) .non
        | some p2 =>
          obtain ⟨t5, y1, y2, rfl, ht5, t6, t7⟩ := tp_tup2 tx2
          cases tp_int t7
          repeat (walk_at "rd")
          exact hy2 _ _ rfl (Ex.refl _) (.int _)
      · intro D2 H3 ys2 _ e3 hd2 ht2
        rw [filter_tt, show l.tm.map (fun o => eO (o.map (·.2))) = (hiRow l).map eO by unfold hiRow; rw [List.map_map]; rfl] at ht2
        repeat (walk_at "rd")
        refine r_tupL (sq_of hd2) fun l' hl' => ?_
        exact hy _ _ rfl (e3.trans (Ex.new hl')) (.tup (st_of upd_same) (tpa_ex (Ex.new hl') ht2))
    · intro D1 H1 ys _ e hd ht
      rw [filter_tt] at ht
      repeat (walk_at "rd")
      refine r_tupL (sq_of hd) fun l' hl' => ?_
      exact q _ _ (e.trans (Ex.new hl')) (.tup (st_of upd_same) (tpa_ex (Ex.new hl') ht))
/-! ### check_numbers -/
structure RowOk (r : List (Option Int)) (l : Lk) : Prop where
  len : r.length = l.tm.length
  le : l.tm.length ≤ 1000
  ok : ∀ (j : Nat) o p, r[j]? = some o → l.tm[j]? = some p → NumOk o p
structure RowsOk (rs : List (List (Option Int))) (ls : List Lk) : Prop where
  len : rs.length = ls.length
  le : ls.length ≤ 1000
  ok : ∀ (i : Nat) r l, rs[i]? = some r → ls[i]? = some l → RowOk r l
def sp_check_numbers (K : PySem.W.Frag) : Sp := fun vs H Q _ => ∃ v1 v2, vs = [v1, v2] ∧ ∃ p L rs, v1 = .ref p ∧ LandAt K H p L ∧ Tp K H v2 (.tuple (rs.map eRw)) ∧ RowsOk rs L.links ∧ ∀ H', Ex H H' → Q .non H'
abbrev N_check_numbers : List Str := ["land", "numbers", "row", "link", "number", "pair"]
-- slots 0=land 1=numbers 2=row 3=link 4=number 5=pair; cells []
theorem sc_check_numbers : FnScope N_check_numbers ["land", "numbers"] (defScope s_check_numbers) := ⟨rfl, rfl, rfl, by decide +kernel, rfl, by decide +kernel, by decide +kernel⟩
theorem ok_check_numbers (T : Tx K mg) : Cal P w K mg base 2 (He.ga K "check_numbers") ["land", "numbers"] (sp_check_numbers K) := by
  obtain ⟨fd, F⟩ := T.s.c.def_ 7 (d := d_check_numbers) rfl
  refine ⟨fd, F.ok sc_check_numbers (fun vs H Q E h => ?_) (fun cdv A outer s H vs Q E hr h => ?_), F.bindsN (fun _ _ _ _ _ _ us hl => match us, hl with | [_, _], _ => rfl), F.kp⟩
  · obtain ⟨v1, v2, rfl, _⟩ := h
    rfl
  · have hu := hu_of hr
    obtain ⟨v1, v2, rfl, p, L, rs, rfl, hL, tn, ok, q⟩ := h
    obtain ⟨dx, fs, aw, ap, al, h1, h2, h3, h4, h5, h6, h7, h8, xs, h9, h10⟩ := hL.at_
    obtain ⟨an, ns, rfl, hSn, hTn⟩ := tp_tup tn
    have hlen := ok.len
    have hle := ok.le
    have el : ns.length = xs.length := by rw [tpa_maplen hTn, tpa_maplen h10, hlen]
    refine ⟨_, PSs.nox (pss_cons (ps_if (pt_cmpR op_ne (pe_callB (lenK K) (by rfl) T.f_len (by decide +kernel) (pa_cons (pv 1) pa_nil)) (pe_callB (lenK K) (by rfl) T.f_len (by decide +kernel) (pa_cons (fldK K (pv 0) rfl) pa_nil)) (nomark _))
          (pss_one ps_never)
          pss_nil)
        (pss_one (ps_for PassesOwn.never rfl (piZ K rfl T.f_zip (pa_cons (pv 1) (pa_cons (fldK K (pv 0) rfl) pa_nil))) (pgT K (n := 2) rfl (pgs_cons (pg_name (i := 2) sc_check_numbers.nd rfl (Or.inl rfl)) (pgs_cons (pg_name (i := 3) sc_check_numbers.nd rfl (Or.inl rfl)) pgs_nil)))
          (pss_one (ps_if (PW.pt (pw_or (pt_cmpR op_ne (pe_callB (lenK K) (by rfl) T.f_len (by decide +kernel) (pa_cons (pv 2) pa_nil)) (pe_callB (lenK K) (by rfl) T.f_len (by decide +kernel) (pa_cons (pe_ix (ixT K) (pv 3) pe_int (fun _ _ => rfl)) pa_nil)) (nomark _)) (pw_or1 (pt_not (pt_val (pe_callB (allK K rfl) (by rfl) T.f_all (by decide +kernel) (pa_cons (pe_lc (own := [("number", 4), ("pair", 5)]) rfl sc_check_numbers.nd (piZ K rfl T.f_zip (pa_cons (pv 2) (pa_cons (pe_ix (ixT K) (pv 3) pe_int (fun _ _ => rfl)) pa_nil))) (blkOk_by (own := [("number", 4), ("pair", 5)]) (N := N_check_numbers) (sc := defScope s_check_numbers) (by decide +kernel)) (fun _ _ _ _ _ => (pgT K (n := 2) rfl (pgs_cons (pg_name (i := 4) sc_check_numbers.nd rfl (Or.inl rfl)) (pgs_cons (pg_name (i := 5) sc_check_numbers.nd rfl (Or.inl rfl)) pgs_nil)))) (fun _ _ _ _ _ => pts_nil) (fun _ _ _ _ _ => (pe_cal (ok_is_number T) hr T.g_is_number (pa_cons (pv 4) (pa_cons (pv 5) pa_nil))))) pa_nil)))))))
            (pss_one ps_never)
            pss_nil))))), ?_⟩
    repeat (walk_at "rd")
    refine r_lenT hSn ?_
    repeat (walk_at "rd")
    refine r_fld rfl h1 T.cls T.n_links h4 ?_
    repeat (walk_at "rd")
    refine r_lenT h9 ?_
    refine r_ne rfl ?_
    rw [el, decide_eq_true rfl]
    repeat (walk_at "rd")
    refine ⟨_, rfl, _, rfl, p, _, dx, fs, _, rfl, h1, T.cls, T.n_links, h4, an, al, ns, xs, rfl, .inr ⟨hSn, h9, for_it (walk_zipT (n := xs.length) (by rw [el, Nat.min_self])) (fun _ σ' H' => (∃ y1 y2, σ' = [some (.ref p), some (.ref an), y1, y2, none, none]) ∧ Ex H H') ⟨⟨none, none, rfl⟩, Ex.refl H⟩ (fun _ _ H' _ h => ⟨ex_t h.2 hSn, ex_t h.2 h9⟩) ?_ (fun σ' H' h => q H' h.2)⟩⟩
    rintro i x σ' H' H2 hi ⟨⟨y1, y2, rfl⟩, e⟩ ⟨T', u1, u2, rfl, hT', rfl, g1, g2⟩
    obtain ⟨r, hr1, tr⟩ := tpa_item hTn g1
    obtain ⟨l, hl1, tl⟩ := tpa_item h10 g2
    have okr := ok.ok i r l hr1 hl1
    have e1 : Ex H (upd H' T' (.tup [u1, u2])) := e.trans (Ex.new hT')
    have hrlen := okr.len
    have hrle := okr.le
    obtain ⟨ar, rs', rfl, hSr, hTr⟩ := tp_tup (tp_ex e1 tr)
    obtain ⟨t, x1, x2, x3, x4, rfl, ht, t1, t2, t3, t4⟩ := tp_tup4 (tp_ex e1 tl)
    obtain ⟨a4, xs4, rfl, hS4, hT4⟩ := tp_tup t4
    refine r_gtup (st_of upd_same) rfl ?_
    repeat (walk_at "rd")
    refine r_lenT hSr ?_
    repeat (walk_at "rd")
    refine r_lenT hS4 ?_
    refine r_ne rfl ?_
    rw [tpa_maplen hTr, tpa_maplen hT4, hrlen, decide_eq_true rfl]
    repeat (walk_at "rd")
    refine r_iZ0 ?_
    repeat (walk_at "rd")
    refine ⟨ar, a4, rs', xs4, rfl, .inr ⟨hSr, hS4, lc_tp (K := K) (walk_zipT (n := xs4.length) (by rw [tpa_maplen hTr, tpa_maplen hT4, hrlen, Nat.min_self])) (r.zip l.tm) (by rw [List.length_zip, tpa_maplen hT4, hrlen, Nat.min_self]) (by rw [tpa_maplen hT4]; omega) (fun H3 e3 => ⟨ex_t e3 hSr, ex_t e3 hS4⟩) (fun _ => true) (fun _ => .bool true) ?_ ?_⟩⟩
    · rintro j pr x H3 H4 Ky Kn hp e3 ⟨T2, w1, w2, rfl, hT2, rfl, k1, k2⟩ hy hn
      obtain ⟨m1, m2⟩ := List.getElem?_zip_eq_some.mp hp
      obtain ⟨o, ho, to⟩ := tpa_item hTr k1
      obtain ⟨pp, hpp, tpp⟩ := tpa_item hT4 k2
      cases tp_o to
      refine r_gtup (st_of upd_same) rfl ?_
      repeat (walk_at "rd")
      exact ⟨_, _, rfl, o, pp, rfl, tp_ex (e3.trans (Ex.new hT2)) tpp, okr.ok j o pp ho hpp, hy _ _ rfl (Ex.new hT2) (.bl true)⟩
    intro D2 H3 ys2 _ e3 hd2 ht2
    have ey2 := tpa_alltt ht2
    subst ey2
    repeat (walk_at "rd")
    refine ⟨D2, _, rfl, sq_of hd2, ?_⟩
    rw [all_tt]
    repeat (walk_at "rd")
    exact ⟨⟨_, _, rfl⟩, e1.trans e3⟩
/-! ### told -/
def sp_told (K : PySem.W.Frag) : Sp := fun vs H Q _ => ∃ v1 v2, vs = [v1, v2] ∧ ∃ p L d F, v1 = .ref p ∧ v2 = .ref d ∧ LandAt K H p L ∧ DS H d F ∧ L.places.length ≤ 1000 ∧ ∀ v H', Ex H H' → Ls K H' v (L.places.map fun s => ePO (s, lk F s)) → Q v H'
abbrev N_told : List Str := ["land", "found", "place"]
-- slots 0=land 1=found 2=place; cells ['found']
theorem sc_told : FnScope N_told ["land", "found"] (defScope s_told) := ⟨rfl, rfl, rfl, by decide +kernel, rfl, by decide +kernel, by decide +kernel⟩
theorem ok_told (T : Tx K mg) : Cal P w K mg base 1 (He.ga K "told") ["land", "found"] (sp_told K) := by
  obtain ⟨fd, F⟩ := T.s.c.def_ 13 (d := d_told) rfl
  refine ⟨fd, F.ok sc_told (fun vs H Q E h => ?_) (fun cdv A outer s H vs Q E hr h => ?_), F.bindsN (fun _ _ _ _ _ _ us hl => match us, hl with | [_, _], _ => rfl), F.kp⟩
  · obtain ⟨v1, v2, rfl, _⟩ := h
    rfl
  · have hu := hu_of hr
    obtain ⟨v1, v2, rfl, p, L, d, F0, rfl, rfl, hL, hF, hl, q⟩ := h
    obtain ⟨dx, fs, aw, ap, al, h1, h2, h3, h4, h5, h6, h7, h8, xs, h9, h10⟩ := hL.at_
    refine ⟨_, PSs.nox (pss_one (ps_ret (pe_lc (own := [("place", 2)]) rfl sc_told.nd (piT K (fldK K (pv 0) rfl)) (blkOk_by (own := [("place", 2)]) (N := N_told) (sc := defScope s_told) (by decide +kernel)) (fun _ _ _ _ _ => (pg_name (i := 2) sc_told.nd rfl (Or.inl rfl))) (fun _ _ _ _ _ => pts_nil) (fun _ _ _ _ _ => (pe_tup (pa_cons (pv 2) (pa_cons (pe_dget1 hu (pv 1) (pv 2) ⟨rfl, rfl, rfl, rfl⟩) pa_nil))))))), ?_⟩
    repeat (walk_at "rd")
    refine r_fld rfl h1 T.cls T.n_places h3 ⟨ap, rfl, ⟨_, h8⟩, lc_t1 (enc := PyData.str) h8 tpa_of_strs (by omega) (fun _ => true) (fun s => ePO (s, lk F0 s)) ?_ ?_⟩
    · intro s' x H1 Ky Kn ha e tx hy _
      cases tp_str tx
      repeat (walk_at "rd")
      have hF1 : DS H1 d F0 := e _ _ hF
      refine ⟨_, rfl, d, rfl, hF1.isd, _, rfl, _, hF1.get s', ?_⟩
      rw [show ((lk F0 s').map V.int).getD .non = vO (lk F0 s') by cases lk F0 s' <;> rfl]
      repeat (walk_at "rd")
      refine ⟨sz_of (by show 2 ≤ 100000; decide), fun t nt => ?_⟩
      exact hy _ _ rfl (Ex.new nt) (.tup (st_of upd_same) (.cons (.str _) (.cons (tp_vO _) .nil)))
    · intro D1 H1 ys _ e hd ht
      rw [filter_tt] at ht
      exact q _ _ e ⟨D1, ys, rfl, sq_of hd, ht⟩
end
end EF
end
section
set_option maxHeartbeats 4000000
namespace EF
open PySem PySem.Spec PyProof.Rows PySem.W L2 Evl RZ
section
variable {P : Program} {w : World} {K : PySem.W.Frag} {mg : Str → Option Value} {base : Heap}
/-! ### least_minutes -/
structure MinOf (rs l : List (Str × Int)) : Prop where
  nd : (l.map (·.1)).Nodup
  mem : ∀ p ∈ l, p ∈ rs
  le : ∀ p ∈ rs, ∃ m, lk l p.1 = some m ∧ m ≤ p.2
  len : l.length ≤ rs.length
theorem pt_mem {l : List (Str × Int)} {s : Str} {m : Int} {p : Str × Int} (h : p ∈ pt l s m) : p = (s, m) ∨ p ∈ l := by
  unfold pt at h
  split at h
  · obtain ⟨q, hq, e⟩ := List.mem_map.mp h
    split at e
    · rename_i hs
      left
      rw [← e, hs]
    · rw [← e]
      exact .inr hq
  · rcases List.mem_append.mp h with z | z
    · exact .inr z
    · exact .inl (List.mem_singleton.mp z)
theorem min_of_step {rs l : List (Str × Int)} {s : Str} {m k : Int} (h : MinOf rs l) (hk : k = m ∨ lk l s = some k) (hm : k ≤ m) (ho : ∀ o, lk l s = some o → k ≤ o) : MinOf (rs ++ [(s, m)]) (pt l s k) := by
  refine ⟨pt_nd _ _ h.nd, fun p hp => ?_, fun p hp => ?_, ?_⟩
  · rcases pt_mem hp with z | z
    · rcases hk with y | y
      · rw [z, y]
        exact List.mem_append_right _ (List.mem_singleton.mpr rfl)
      · rw [z]
        exact List.mem_append_left _ (h.mem _ (lk_mem y))
    · exact List.mem_append_left _ (h.mem _ z)
  · rw [lk_pt]
    by_cases e : p.1 = s
    · rw [if_pos e]
      refine ⟨k, rfl, ?_⟩
      rcases List.mem_append.mp hp with z | z
      · obtain ⟨m', h1, h2⟩ := h.le p z
        rw [e] at h1
        exact Int.le_trans (ho _ h1) h2
      · rw [List.mem_singleton.mp z]
        exact hm
    · rw [if_neg e]
      rcases List.mem_append.mp hp with z | z
      · exact h.le p z
      · rw [List.mem_singleton.mp z] at e
        exact absurd rfl e
  · have := pt_len l s k
    have := h.len
    rw [List.length_append]
    show _ ≤ _ + 1
    omega
theorem f_lB {α : Type} {a : Addr} {xs : List V} {l : List α} {enc : α → PyData} {g : TG} {tb : TS} {D : Ends} {σ : L2.St} {H : Hp} {B : Hp} (hS : SqL K B a xs) (hT : TpAll K B xs (l.map enc)) (Pv : Nat → L2.St → Hp → Prop) (h0 : Pv 0 σ H) (hx : ∀ i σ' H', Pv i σ' H' → Ex B H')
    (hs : ∀ i b x σ' H', l[i]? = some b → Tp K H' x (enc b) → Pv i σ' H' → g x σ' H' fun σ2 H2 => tb { D with nx := Pv (i + 1), ct := Pv (i + 1), bk := D.nx } σ2 H2) (hd : ∀ σ' H', Pv l.length σ' H' → D.nx σ' H') :
    ∃ W : Nat → Nat → L2.St → Hp → Prop, (∃ m, W 0 m σ H) ∧ ∀ i m σ H, W i m σ H →
      ((Itl K a).stop i H ∧ D.nx σ H) ∨ ((Itl K a).go i H ∧ ∃ N : L2.St → Hp → Prop, (∀ σ' H', N σ' H' → ∃ m', m' < m ∧ W (i + 1) m' σ' H') ∧ ∀ x H', (Itl K a).yld i H x H' → g x σ H' fun σ2 H2 => tb { D with nx := N, ct := N, bk := D.nx } σ2 H2) :=
  for_it (walk_list (xs := xs)) Pv h0 (fun i σ' H' _ p => ex_l (hx i σ' H' p) hS) (fun i x σ' H' H'' _ p y => by
    obtain ⟨rfl, h⟩ := y
    obtain ⟨b, hb, t⟩ := tpa_item hT h
    exact hs i b x σ' _ hb (tp_ex (hx i σ' _ p) t) p) (fun σ' H' p => hd σ' H' (by rw [← tpa_maplen hT]; exact p))
theorem ds_none {H H' : Hp} {d : Addr} {l : List (Str × Int)} (e : Ex H H') (h : DS H' d l) (hn : H d = none) (l2 : List (Str × Int)) : Ex H (upd H' d (.dK (l2.map kv))) := Ex.mut e hn
theorem take_snoc {α : Type} {l : List α} {i : Nat} {x : α} (h : l[i]? = some x) : l.take (i + 1) = l.take i ++ [x] := by
  rw [List.take_add_one, h]
  rfl
def sp_least_minutes (K : PySem.W.Frag) : Sp := fun vs H Q _ => ∃ v1, vs = [v1] ∧ ∃ rs : List (Str × Int), Ls K H v1 (rs.map ePM) ∧ rs.length ≤ 1000 ∧ ∀ d l H', H d = none → Ex H H' → DS H' d l → MinOf rs l → Q (.ref d) H'
abbrev N_least_minutes : List Str := ["rows", "found", "place", "minute"]
-- slots 0=rows 1=found 2=place 3=minute; cells []
theorem sc_least_minutes : FnScope N_least_minutes ["rows"] (defScope s_least_minutes) := ⟨rfl, rfl, rfl, by decide +kernel, rfl, by decide +kernel, by decide +kernel⟩
theorem ok_least_minutes (T : Tx K mg) : Cal P w K mg base 1 (He.ga K "least_minutes") ["rows"] (sp_least_minutes K) := by
  obtain ⟨fd, F⟩ := T.s.c.def_ 9 (d := d_least_minutes) rfl
  refine ⟨fd, F.ok sc_least_minutes (fun vs H Q E h => ?_) (fun cdv A outer s H vs Q E hr h => ?_), F.bindsN (fun _ _ _ _ _ _ us hl => match us, hl with | [_], _ => rfl), F.kp⟩
  · obtain ⟨v1, rfl, _⟩ := h
    rfl
  · have hu := hu_of hr
    obtain ⟨v1, rfl, rs, ⟨a, xs, rfl, hS, hT⟩, hz, q⟩ := h
    refine ⟨_, PSs.nox (pss_cons (ps_set (i := 1) sc_least_minutes.nd rfl (Or.inl rfl) pe_dnewK)
        (pss_cons (ps_for PassesOwn.never rfl (piL K (pv 0)) (pgT K (n := 2) rfl (pgs_cons (pg_name (i := 2) sc_least_minutes.nd rfl (Or.inl rfl)) (pgs_cons (pg_name (i := 3) sc_least_minutes.nd rfl (Or.inl rfl)) pgs_nil)))
          (pss_one (ps_dput hu (pv 1) (pv 2) (pe_callB (c_min2 rfl) (by rfl) T.f_min (by decide +kernel) (pa_cons (pv 3) (pa_cons (pe_dget2 hu (pv 1) (pv 2) (pv 3) ⟨rfl, rfl, rfl, rfl⟩) pa_nil))) rfl)))
        (pss_one (ps_ret (pv 1))))), ?_⟩
    repeat (walk_at "rd")
    refine fun d nd => ?_
    repeat (walk_at "rd")
    have e0 : Ex H (upd H d (.dK [])) := Ex.new nd
    refine r_iL rfl (ex_l e0 hS) ?_
    refine f_lB (B := H) hS hT (fun i σ' H' => (∃ y1 y2, σ' = [some (.ref a), some (.ref d), y1, y2]) ∧ Ex H H' ∧ ∃ l, DS H' d l ∧ MinOf (rs.take i) l) ?_ ?_ ?_ ?_
    · exact ⟨⟨none, none, rfl⟩, e0, [], upd_same, ⟨List.nodup_nil, fun _ h => (nomatch h), fun _ h => (by rw [List.take_zero] at h; cases h), Nat.zero_le _⟩⟩
    · exact fun i σ' H' h => h.2.1
    · rintro i b x σ' H' hb tx ⟨⟨y1, y2, rfl⟩, e, l, hd, hm⟩
      obtain ⟨t, x1, x2, rfl, ht, t1, t2⟩ := tp_tup2 tx
      cases tp_str t1
      cases tp_int t2
      obtain ⟨s', m⟩ := b
      refine r_gtup ht rfl ?_
      repeat (walk_at "rd")
      refine ⟨d, rfl, hd.isd, ?_⟩
      repeat (walk_at "rd")
      refine ⟨_, hd.get s', ?_⟩
      have hlen : l.length < 100000 := by
        have := hm.len
        rw [List.length_take] at this
        omega
      cases ho : lk l s' with
      | none =>
        refine r_nil (r_min2 (i := m) (j := m) ?_)
        repeat (walk_at "rd")
        refine ⟨d, _, rfl, hd.put hlen s' _, ⟨_, _, rfl⟩, ds_none e hd nd _, _, upd_same, ?_⟩
        rw [take_snoc hb]
        exact min_of_step hm (.inl (by rw [if_neg (by omega)])) (by rw [if_neg (by omega)]; exact Int.le_refl _) (fun o h => by rw [ho] at h; cases h)
      | some o =>
        refine r_nil (r_min2 (i := m) (j := o) ?_)
        repeat (walk_at "rd")
        refine ⟨d, _, rfl, hd.put hlen s' _, ⟨_, _, rfl⟩, ds_none e hd nd _, _, upd_same, ?_⟩
        rw [take_snoc hb]
        refine min_of_step hm ?_ (by split <;> omega) (fun o' h => by rw [ho] at h; cases h; split <;> omega)
        split
        · exact .inr ho
        · exact .inl rfl
    · rintro σ' H' ⟨⟨y1, y2, rfl⟩, e, l, hd, hm⟩
      repeat (walk_at "rd")
      rw [List.take_length] at hm
      exact q d l H' nd e hd hm
/-! ### caught -/
theorem idx_first (z : Str) : ∀ l : List Str, z ∈ l → l[l.idxOf z]? = some z ∧ ∀ m, m < l.idxOf z → l[m]? ≠ some z
  | x :: l, h => by
    rw [List.idxOf_cons]
    by_cases e : x = z
    · rw [beq_iff_eq.mpr e]
      exact ⟨by rw [e]; rfl, fun m hm => absurd hm (Nat.not_lt_zero m)⟩
    · rw [beq_eq_false_iff_ne.mpr e]
      obtain ⟨h1, h2⟩ := idx_first z l ((List.mem_cons.mp h).resolve_left fun y => e y.symm)
      refine ⟨h1, fun m hm => ?_⟩
      cases m with
      | zero => exact fun y => e (Option.some.inj y)
      | succ m => exact h2 m (Nat.lt_of_succ_lt_succ hm)
def numAt (ws : List Str) (row : List (Option Int)) (s : Str) : Option Int := (row[ws.idxOf s]?).getD none
def endAt (we : List (Int × Str)) (ws : List Str) (row : List (Option Int)) (s : Int) : Option Int := (numAt ws row (blow we s)).map fun n => s + n
def endsOf (we : List (Int × Str)) (ws : List Str) (row : List (Option Int)) (m : Int) : List Int := (chs we m).filterMap (endAt we ws row)
def caughtV (we : List (Int × Str)) (ws : List Str) (row : List (Option Int)) (m : Int) : Option Int := (endsOf we ws row m).min?
theorem blow_mem {we : List (Int × Str)} {m : Int} (h : ∃ q ∈ we, q.1 ≤ m) : ∃ q ∈ we, q.2 = blow we m := by
  obtain ⟨q0, h1, h2⟩ := h
  have hne : 1 ≤ ((we.filter fun q => decide (q.1 ≤ m)).map (·.2)).length := by
    rw [List.length_map]
    exact List.length_pos_of_mem (List.mem_filter.mpr ⟨h1, decide_eq_true h2⟩)
  obtain ⟨i, x, e⟩ := last_of hne
  have hm : x ∈ (we.filter fun q => decide (q.1 ≤ m)).map (·.2) := by rw [e]; exact List.mem_append_right _ (List.mem_singleton.mpr rfl)
  obtain ⟨q, hq, e2⟩ := List.mem_map.mp hm
  refine ⟨q, (List.mem_filter.mp hq).1, ?_⟩
  unfold blow
  rw [e, List.getLast?_concat]
  exact e2
theorem WOk.has {we : List (Int × Str)} (ok : WOk we) {s : Int} (h : 0 ≤ s) : ∃ q ∈ we, q.1 ≤ s := by
  have z := ok.zero
  rw [List.getElem?_map] at z
  cases q : we[0]? with
  | none => rw [q] at z; cases z
  | some p =>
    rw [q] at z
    have e : p.1 = 0 := Option.some.inj z
    exact ⟨p, List.mem_of_getElem? q, by omega⟩
theorem chs_ge {we : List (Int × Str)} {m s : Int} (h : s ∈ chs we m) : m ≤ s := by
  rcases List.mem_cons.mp h with z | z
  · rw [z]; exact Int.le_refl _
  · obtain ⟨q, hq, rfl⟩ := List.mem_map.mp z
    have := of_decide_eq_true (List.mem_filter.mp hq).2
    omega
theorem chs_len {we : List (Int × Str)} {m : Int} : (chs we m).length ≤ we.length + 1 := by
  have := List.length_filter_le (fun q : Int × Str => decide (m < q.1)) we
  show _ + 1 ≤ _ + 1
  rw [List.length_map]
  omega
theorem r_ckw {r : List V → List V → Hp → VK → Prop} {t tk : TA} {σ : L2.St} {H : Hp} {Q : VK} (q : t σ H fun vs H1 => tk σ H1 fun zs H2 => r vs zs H2 Q) : tCKw r t tk σ H Q := q
def sp_caught (K : PySem.W.Frag) : Sp := fun vs H Q _ => ∃ v1 v2 v3 v4, vs = [v1, v2, v3, v4] ∧ ∃ p L we row m, v1 = .ref p ∧ v4 = .int m ∧ LandAt K H p L ∧ Ls K H v2 (we.map eMP) ∧ WOk we ∧ (∀ q ∈ we, q.2 ∈ L.winds) ∧ Tp K H v3 (eRw row) ∧ row.length = L.winds.length ∧ 0 ≤ m ∧
  ∀ H', Ex H H' → Q (vO (caughtV we L.winds row m)) H'
abbrev N_caught : List Str := ["land", "weather", "row", "minute", "ends", "start", "number"]
-- slots 0=land 1=weather 2=row 3=minute 4=ends 5=start 6=number; cells []
theorem sc_caught : FnScope N_caught ["land", "weather", "row", "minute"] (defScope s_caught) := ⟨rfl, rfl, rfl, by decide +kernel, rfl, by decide +kernel, by decide +kernel⟩
theorem ok_caught (T : Tx K mg) : Cal P w K mg base 2 (He.ga K "caught") ["land", "weather", "row", "minute"] (sp_caught K) := by
  obtain ⟨fd, F⟩ := T.s.c.def_ 10 (d := d_caught) rfl
  refine ⟨fd, F.ok sc_caught (fun vs H Q E h => ?_) (fun cdv A outer s H vs Q E hr h => ?_), F.bindsN (fun _ _ _ _ _ _ us hl => match us, hl with | [_, _, _, _], _ => rfl), F.kp⟩
  · obtain ⟨v1, v2, v3, v4, rfl, _⟩ := h
    rfl
  · have hu := hu_of hr
    obtain ⟨v1, v2, v3, v4, rfl, p, L, we, row, m, rfl, rfl, hL, hwe, wok, hin, trow, hlen, hm, q⟩ := h
    obtain ⟨aw, wxs, rfl, hwS, hwT⟩ := hwe
    obtain ⟨ar, rxs, rfl, hrS, hrT⟩ := tp_tup trow
    have wle := wok.le
    refine ⟨_, PSs.nox (pss_cons (ps_set (i := 4) sc_caught.nd rfl (Or.inl rfl) (pe_lst pa_nil))
        (pss_cons (ps_for PassesOwn.never rfl (piL K (pe_cal (ok_chances T) hr T.g_chances (pa_cons (pv 1) (pa_cons (pv 3) pa_nil)))) (pg_name (i := 5) sc_caught.nd rfl (Or.inl rfl))
          (pss_cons (ps_set (i := 6) sc_caught.nd rfl (Or.inl rfl) (pe_ix (ixT K) (pv 2) (pe_bmF PySem.F.plainAttrs_tuple PySem.F.slot_tuple_index PySem.F.type_tuple_index mt_tup_index (fldK K (pv 0) rfl) (pa_cons (pe_cal (ok_blowing T) hr T.g_blowing (pa_cons (pv 1) (pa_cons (pv 5) pa_nil))) pa_nil)) (fun _ _ => rfl)))
          (pss_one (ps_if (pt_cmpR op_notN1 (pv 6) pe_non (nomark _))
            (pss_one (ps_expr (pe_bm PySem.F.plainAttrs_list PySem.F.slot_list_append PySem.F.type_list_append mt_append (pv 4) (pa_cons (pe_op op_add (pv 5) (pv 6)) pa_nil))))
            pss_nil))))
        (pss_one (ps_ret (pe_callBK (minOK K rfl hr.units) (by rfl) T.f_min (by decide +kernel) (pa_cons (pv 4) pa_nil) (pk_cons pe_non pk_nil)))))), ?_⟩
    repeat (walk_at "rd")
    refine ⟨Nat.zero_le _, fun el nel => ?_⟩
    have e0 : Ex H (upd H el (.lst [])) := Ex.new nel
    repeat (walk_at "rd")
    refine r_iL0 ?_
    repeat (walk_at "rd")
    refine ⟨_, _, rfl, we, m, ⟨aw, wxs, rfl, ex_l e0 hwS, tpa_ex e0 hwT⟩, rfl, wle, fun cl H1 ncl e1 hcl => ?_⟩
    have hel1 : H1 el = some (.lst []) := e1 _ _ upd_same
    have hne : cl ≠ el := fun z => by rw [z, upd_same] at ncl; cases ncl
    refine ⟨cl, rfl, ⟨_, sq_of hcl⟩, ?_⟩
    refine f_lB (B := er el H1) (enc := PyData.int) (l := chs we m) (xs := (chs we m).map V.int) (sq_of (by rw [er_ne hne]; exact hcl)) tpa_of_ints (fun i σ' H' => (∃ y1 y2, σ' = [some (.ref p), some (.ref aw), some (.ref ar), some (.int m), some (.ref el), y1, y2]) ∧ Ex (er el H1) H' ∧ Ex H H' ∧ H' el = some (.lst ((((chs we m).take i).filterMap (endAt we L.winds row)).map V.int))) ?_ ?_ ?_ ?_
    · exact ⟨⟨none, none, rfl⟩, ex_er, e0.trans e1, hel1⟩
    · exact fun i σ' H' h => h.2.1
    · rintro i b x σ' H' hb tx ⟨⟨y1, y2, rfl⟩, eB, e, hel⟩
      cases tp_int tx
      have hbm : b ∈ chs we m := List.mem_of_getElem? hb
      have hb0 : 0 ≤ b := Int.le_trans hm (chs_ge hbm)
      have hhas := wok.has hb0
      obtain ⟨dx, fs, awi, ob, f1, f2, f3, f4⟩ := (land_ex e hL).fz
      repeat (walk_at "rd")
      refine r_fld rfl f1 T.cls T.n_winds f2 ⟨⟨awi, ob, _, rfl, f3, f4⟩, ?_⟩
      repeat (walk_at "rd")
      refine ⟨_, _, rfl, we, b, ⟨aw, wxs, rfl, ex_l e hwS, tpa_ex e hwT⟩, rfl, wle, hhas, fun H2 e2 => ?_⟩
      obtain ⟨qw, hqw, hqe⟩ := blow_mem hhas
      have hbin : blow we b ∈ L.winds := by rw [← hqe]; exact hin _ hqw
      obtain ⟨ix1, ix2⟩ := idx_first _ _ hbin
      refine ⟨awi, L.winds, blow we b, L.winds.idxOf (blow we b), rfl, rfl, .inl (.inr ⟨ob, e2 _ _ f3⟩), ix1, ix2, ?_⟩
      have hj : L.winds.idxOf (blow we b) < row.length := by rw [hlen]; exact (List.getElem?_eq_some_iff.mp ix1).1
      have hnum : row[L.winds.idxOf (blow we b)]? = some (numAt L.winds row (blow we b)) := by
        unfold numAt
        rw [List.getElem?_eq_getElem hj]
        rfl
      obtain ⟨v, hv, tv⟩ := tpa_item' hrT hnum
      cases tp_o tv
      refine r_ixT (ex_t (e.trans e2) hrS) (atI_nat hv) ?_
      have hel2 := e2 _ _ hel
      have eB2 := eB.trans e2
      have ee2 := e.trans e2
      cases hn : numAt L.winds row (blow we b) with
      | none =>
        repeat (walk_at "rd")
        refine ⟨⟨_, _, rfl⟩, eB2, ee2, ?_⟩
        rw [take_snoc hb, List.filterMap_append, List.filterMap_cons_none (by unfold endAt; rw [hn]; rfl), List.filterMap_nil, List.append_nil]
        exact hel2
      | some n =>
        repeat (walk_at "rd")
        refine ⟨_, rfl, .inl ⟨rfl, _, sq_of hel2⟩, ?_⟩
        repeat (walk_at "rd")
        refine r_I0 (a := b) (b := n) ?_
        repeat (walk_at "rd")
        have hl1 := List.length_filterMap_le (endAt we L.winds row) ((chs we m).take i)
        have hl2 : ((chs we m).take i).length ≤ (chs we m).length := List.length_take_le' _ _
        have hl3 := chs_len (we := we) (m := m)
        refine ⟨el, _, _, rfl, rfl, hel2, sz_lt (by rw [List.length_map]; omega), ?_⟩
        refine ⟨⟨_, _, rfl⟩, Ex.mut eB2 er_self, Ex.mut ee2 nel, ?_⟩
        rw [upd_same, take_snoc hb, List.filterMap_append, List.filterMap_cons_some (by unfold endAt; rw [hn]; rfl), List.filterMap_nil, List.map_append]
        rfl
    · rintro σ' H' ⟨⟨y1, y2, rfl⟩, eB, e, hel⟩
      rw [List.take_length] at hel
      repeat (walk_at "rd")
      refine r_ckw ?_
      repeat (walk_at "rd")
      refine ⟨el, _, rfl, rfl, sq_of hel, ?_⟩
      exact q H' e
/-! ### what is caught when -/
theorem caughtV_le {we : List (Int × Str)} {ws : List Str} {row : List (Option Int)} {m s n e : Int} (h : caughtV we ws row m = some e) (hs : s ∈ chs we m) (hn : numAt ws row (blow we s) = some n) : e ≤ s + n := by
  unfold caughtV at h
  have hm : s + n ∈ endsOf we ws row m := List.mem_filterMap.mpr ⟨s, hs, by unfold endAt; rw [hn]; rfl⟩
  exact (List.min?_eq_some_iff.mp h).2 _ hm
theorem caughtV_some {we : List (Int × Str)} {ws : List Str} {row : List (Option Int)} {m s n : Int} (hs : s ∈ chs we m) (hn : numAt ws row (blow we s) = some n) : ∃ e, caughtV we ws row m = some e := by
  have hm : s + n ∈ endsOf we ws row m := List.mem_filterMap.mpr ⟨s, hs, by unfold endAt; rw [hn]; rfl⟩
  unfold caughtV
  cases q : (endsOf we ws row m).min? with
  | none => rw [List.min?_eq_none_iff.mp q] at hm; cases hm
  | some e => exact ⟨e, rfl⟩
theorem caughtV_ge {we : List (Int × Str)} {ws : List Str} {row : List (Option Int)} {m e : Int} (h : caughtV we ws row m = some e) (hp : ∀ n, some n ∈ row → 0 ≤ n) : m ≤ e := by
  unfold caughtV at h
  obtain ⟨s, hs, h2⟩ := List.mem_filterMap.mp (List.min?_eq_some_iff.mp h).1
  have := chs_ge hs
  unfold endAt at h2
  cases q : numAt ws row (blow we s) with
  | none => rw [q] at h2; cases h2
  | some n =>
    rw [q] at h2
    have h3 : s + n = e := Option.some.inj h2
    unfold numAt at q
    cases q2 : row[ws.idxOf (blow we s)]? with
    | none => rw [q2] at q; cases q
    | some o =>
      rw [q2] at q
      have q : o = some n := q
      rw [q] at q2
      have := hp n (List.mem_of_getElem? q2)
      omega
end
end EF
end
section
set_option maxHeartbeats 4000000
namespace EF
open PySem PySem.Spec PyProof.Rows PySem.W L2 Evl RZ
section
variable {P : Program} {w : World} {K : PySem.W.Frag} {mg : Str → Option Value} {base : Heap}
/-! ### the fire's rule, in plain words -/
def Stop (bs : List (Str × Int)) (p : Str) (t : Int) : Prop := ∃ q ∈ bs, q.1 = p ∧ q.2 ≤ t
structure Fire where
  we : List (Int × Str)
  ws : List Str
  ps : List Str
  links : List Lk
  rows : List (List (Option Int))
  ss : List (Str × Int)
  bs : List (Str × Int)
structure Closed (X : Fire) (F : List (Str × Int)) : Prop where
  st : ∀ q ∈ X.ss, ¬ Stop X.bs q.1 q.2 → ∃ t, lk F q.1 = some t ∧ t ≤ q.2
  ln : ∀ (i : Nat) l row t e, X.links[i]? = some l → X.rows[i]? = some row → lk F l.one = some t → caughtV X.we X.ws row t = some e → ¬ Stop X.bs l.oth e → ∃ t', lk F l.oth = some t' ∧ t' ≤ e
def At (F W : List (Str × Int)) (x : Str) (t : Int) : Prop := (∃ u, lk F x = some u ∧ u ≤ t) ∨ ∃ u, lk W x = some u ∧ u ≤ t
structure WInv (X : Fire) (W F : List (Str × Int)) : Prop where
  wn : (W.map (·.1)).Nodup
  fn : (F.map (·.1)).Nodup
  wp : ∀ x ∈ W.map (·.1), x ∈ X.ps
  fp : ∀ x ∈ F.map (·.1), x ∈ X.ps
  w0 : ∀ x m, lk W x = some m → 0 ≤ m
  dj : ∀ x t, lk F x = some t → lk W x = none
  le : ∀ x t y m, lk F x = some t → lk W y = some m → t ≤ m
  st : ∀ q ∈ X.ss, ¬ Stop X.bs q.1 q.2 → At F W q.1 q.2
  ln : ∀ (i : Nat) l row t e, X.links[i]? = some l → X.rows[i]? = some row → lk F l.one = some t → caughtV X.we X.ws row t = some e → ¬ Stop X.bs l.oth e → At F W l.oth e
structure IInv (X : Fire) (p : Str) (m : Int) (F : List (Str × Int)) (k : Nat) (W : List (Str × Int)) : Prop where
  wn : (W.map (·.1)).Nodup
  wp : ∀ x ∈ W.map (·.1), x ∈ X.ps
  m0 : 0 ≤ m
  dj : ∀ x t, lk F x = some t → lk W x = none
  wl : ∀ y t, lk W y = some t → m ≤ t
  fl : ∀ x t, lk F x = some t → t ≤ m
  fm : lk F p = some m
  st : ∀ q ∈ X.ss, ¬ Stop X.bs q.1 q.2 → At F W q.1 q.2
  ln : ∀ (i : Nat) l row t e, X.links[i]? = some l → X.rows[i]? = some row → lk F l.one = some t → caughtV X.we X.ws row t = some e → ¬ Stop X.bs l.oth e → (i < k ∨ l.one ≠ p) → At F W l.oth e
theorem lk_nd : ∀ {l : List (Str × Int)} {s : Str} {m : Int}, (l.map (·.1)).Nodup → (s, m) ∈ l → lk l s = some m
  | q :: l, s, m, h, hm => by
    have hn := List.nodup_cons.mp h
    unfold lk
    rw [List.find?_cons]
    rcases List.mem_cons.mp hm with z | z
    · rw [← z, decide_eq_true rfl]
      rfl
    · have hne : ¬ q.1 = s := fun e => hn.1 (List.mem_map.mpr ⟨(s, m), z, e.symm⟩)
      rw [decide_eq_false hne]
      exact lk_nd hn.2 z
theorem lk_key {l : List (Str × Int)} {s : Str} {m : Int} (h : lk l s = some m) : s ∈ l.map (·.1) := List.mem_map.mpr ⟨_, lk_mem h, rfl⟩
theorem nd_le : ∀ {l ps : List Str}, l.Nodup → (∀ x ∈ l, x ∈ ps) → l.length ≤ ps.length
  | [], _, _, _ => Nat.zero_le _
  | x :: l, ps, h, hs => by
    have hn := List.nodup_cons.mp h
    have hx := hs x List.mem_cons_self
    have ih := nd_le (ps := ps.erase x) hn.2 fun y hy => (List.mem_erase_of_ne (fun e : y = x => hn.1 (by rw [← e]; exact hy))).mpr (hs y (List.mem_cons_of_mem _ hy))
    rw [List.length_erase_of_mem hx] at ih
    have := List.length_pos_of_mem hx
    show l.length + 1 ≤ ps.length
    omega
theorem IInv.start {X : Fire} {W F : List (Str × Int)} {p : Str} {m : Int} (h : WInv X W F) (hm : (p, m) ∈ W) (hl : ∀ r ∈ W, m ≤ r.2) : IInv X p m (pt F p m) 0 (dr W p) := by
  have hp : lk W p = some m := lk_nd h.wn hm
  have hf : lk F p = none := by
    cases q : lk F p with
    | none => rfl
    | some t =>
      have := h.dj p t q
      rw [hp] at this
      cases this
  have at_ : ∀ x t, At F W x t → At (pt F p m) (dr W p) x t := fun x t a => by
    by_cases e : x = p
    · subst e
      rcases a with ⟨u, h1, h2⟩ | ⟨u, h1, h2⟩
      · rw [hf] at h1; cases h1
      · rw [hp] at h1
        cases h1
        exact .inl ⟨m, by rw [lk_pt, if_pos rfl], h2⟩
    · rcases a with ⟨u, h1, h2⟩ | ⟨u, h1, h2⟩
      · exact .inl ⟨u, by rw [lk_pt, if_neg e]; exact h1, h2⟩
      · exact .inr ⟨u, by rw [lk_dr, if_neg e]; exact h1, h2⟩
  refine ⟨dr_nd p h.wn, dr_sub h.wp, h.w0 _ _ hp, fun x t hx => ?_, fun y t hy => ?_, fun x t hx => ?_, by rw [lk_pt, if_pos rfl], fun q hq hs => at_ _ _ (h.st q hq hs), ?_⟩
  · rw [lk_dr]
    by_cases e : x = p
    · rw [if_pos e]
    · rw [if_neg e]
      rw [lk_pt, if_neg e] at hx
      exact h.dj x t hx
  · rw [lk_dr] at hy
    by_cases e : y = p
    · rw [if_pos e] at hy; cases hy
    · rw [if_neg e] at hy
      exact hl _ (lk_mem hy)
  · rw [lk_pt] at hx
    by_cases e : x = p
    · rw [if_pos e] at hx
      cases hx
      exact Int.le_refl _
    · rw [if_neg e] at hx
      exact h.le _ _ _ _ hx hp
  · intro i l row t e h1 h2 h3 h4 h5 h6
    rcases h6 with h6 | h6
    · exact absurd h6 (Nat.not_lt_zero i)
    · rw [lk_pt, if_neg h6] at h3
      exact at_ _ _ (h.ln i l row t e h1 h2 h3 h4 h5)
/-- nothing is laid at link k -/
theorem IInv.skip {X : Fire} {p : Str} {m : Int} {F W : List (Str × Int)} {k : Nat} (h : IInv X p m F k W) {l : Lk} {row : List (Option Int)} (h1 : X.links[k]? = some l) (h2 : X.rows[k]? = some row)
    (hs : l.one = p → ∀ e, caughtV X.we X.ws row m = some e → ¬ Stop X.bs l.oth e → At F W l.oth e) : IInv X p m F (k + 1) W := by
  refine ⟨h.wn, h.wp, h.m0, h.dj, h.wl, h.fl, h.fm, h.st, ?_⟩
  intro i l' row' t e g1 g2 g3 g4 g5 g6
  by_cases hi : i = k
  · subst hi
    rw [h1] at g1
    rw [h2] at g2
    cases g1
    cases g2
    by_cases ho : l.one = p
    · rw [ho, h.fm] at g3
      cases g3
      exact hs ho e g4 g5
    · exact h.ln i l row t e h1 h2 g3 g4 g5 (.inr ho)
  · refine h.ln i l' row' t e g1 g2 g3 g4 g5 ?_
    rcases g6 with g6 | g6
    · exact .inl (by omega)
    · exact .inr g6
/-- link k sets its other end -/
theorem IInv.lay {X : Fire} {p : Str} {m : Int} {F W : List (Str × Int)} {k : Nat} (h : IInv X p m F k W) {l : Lk} {row : List (Option Int)} {e v : Int} (h1 : X.links[k]? = some l) (h2 : X.rows[k]? = some row)
    (ho : l.oth ∈ X.ps) (hf : lk F l.oth = none) (hc : caughtV X.we X.ws row m = some e) (hm : m ≤ v) (hv : v ≤ e) (hold : ∀ o, lk W l.oth = some o → v ≤ o) : IInv X p m F (k + 1) (pt W l.oth v) := by
  have at_ : ∀ x t, At F W x t → At F (pt W l.oth v) x t := fun x t a => by
    rcases a with a | ⟨u, g1, g2⟩
    · exact .inl a
    · right
      by_cases e : x = l.oth
      · refine ⟨v, by rw [lk_pt, if_pos e], ?_⟩
        rw [e] at g1
        exact Int.le_trans (hold _ g1) g2
      · exact ⟨u, by rw [lk_pt, if_neg e]; exact g1, g2⟩
  refine ⟨pt_nd _ _ h.wn, pt_sub h.wp ho, h.m0, fun x t hx => ?_, fun y t hy => ?_, h.fl, h.fm, fun q hq hs => at_ _ _ (h.st q hq hs), ?_⟩
  · rw [lk_pt]
    by_cases e : x = l.oth
    · rw [e, hf] at hx; cases hx
    · rw [if_neg e]
      exact h.dj x t hx
  · rw [lk_pt] at hy
    by_cases e : y = l.oth
    · rw [if_pos e] at hy
      cases hy
      exact hm
    · rw [if_neg e] at hy
      exact h.wl y t hy
  · intro i l' row' t e' g1 g2 g3 g4 g5 g6
    by_cases hi : i = k
    · subst hi
      rw [h1] at g1
      rw [h2] at g2
      cases g1
      cases g2
      by_cases ho : l.one = p
      · rw [ho, h.fm] at g3
        cases g3
        rw [hc] at g4
        cases g4
        exact .inr ⟨v, by rw [lk_pt, if_pos rfl], hv⟩
      · exact at_ _ _ (h.ln i l row t e' h1 h2 g3 g4 g5 (.inr ho))
    · refine at_ _ _ (h.ln i l' row' t e' g1 g2 g3 g4 g5 ?_)
      rcases g6 with g6 | g6
      · exact .inl (by omega)
      · exact .inr g6
theorem IInv.done {X : Fire} {p : Str} {m : Int} {F W : List (Str × Int)} {k : Nat} (h : IInv X p m F k W) (hk : X.links.length ≤ k) (fn : (F.map (·.1)).Nodup) (fp : ∀ x ∈ F.map (·.1), x ∈ X.ps) : WInv X W F := by
  refine ⟨h.wn, fn, h.wp, fp, fun x t hx => Int.le_trans h.m0 (h.wl x t hx), h.dj, fun x t y m' hx hy => Int.le_trans (h.fl x t hx) (h.wl y m' hy), h.st, ?_⟩
  intro i l row t e g1 g2 g3 g4 g5
  have := (List.getElem?_eq_some_iff.mp g1).1
  exact h.ln i l row t e g1 g2 g3 g4 g5 (.inl (by omega))
theorem WInv.closed {X : Fire} {F : List (Str × Int)} (h : WInv X [] F) : Closed X F := by
  have at_ : ∀ x t, At F [] x t → ∃ u, lk F x = some u ∧ u ≤ t := fun x t a => by
    rcases a with a | ⟨u, g1, _⟩
    · exact a
    · cases g1
  exact ⟨fun q hq hs => at_ _ _ (h.st q hq hs), fun i l row t e g1 g2 g3 g4 g5 => at_ _ _ (h.ln i l row t e g1 g2 g3 g4 g5)⟩
/-! ### the least minutes of breaks and starts -/
theorem MinOf.stop {bs l : List (Str × Int)} (h : MinOf bs l) (p : Str) (t : Int) : Stop bs p t ↔ ∃ b, lk l p = some b ∧ b ≤ t := by
  constructor
  · rintro ⟨q, h1, h2, h3⟩
    obtain ⟨m, g1, g2⟩ := h.le q h1
    rw [h2] at g1
    exact ⟨m, g1, Int.le_trans g2 h3⟩
  · rintro ⟨b, h1, h2⟩
    exact ⟨(p, b), h.mem _ (lk_mem h1), rfl, h2⟩
/-- the waiting places as they are laid from the least minutes of the starts -/
structure SInv (ss bs : List (Str × Int)) (l : List (Str × Int)) (W : List (Str × Int)) : Prop where
  wn : (W.map (·.1)).Nodup
  mem : ∀ p ∈ W, p ∈ l
  all : ∀ p ∈ l, ¬ Stop bs p.1 p.2 → lk W p.1 = some p.2
  len : W.length ≤ l.length
theorem SInv.skip {ss bs l W : List (Str × Int)} {p : Str × Int} (h : SInv ss bs l W) (hs : Stop bs p.1 p.2) : SInv ss bs (l ++ [p]) W := by
  refine ⟨h.wn, fun q hq => List.mem_append_left _ (h.mem q hq), fun q hq hq2 => ?_, ?_⟩
  · rcases List.mem_append.mp hq with z | z
    · exact h.all q z hq2
    · rw [List.mem_singleton.mp z] at hq2
      exact absurd hs hq2
  · have := h.len
    rw [List.length_append]
    omega
theorem SInv.lay {ss bs l W : List (Str × Int)} {p : Str × Int} (h : SInv ss bs l W) (hn : ∀ q ∈ l, q.1 ≠ p.1) : SInv ss bs (l ++ [p]) (pt W p.1 p.2) := by
  refine ⟨pt_nd _ _ h.wn, fun q hq => ?_, fun q hq hq2 => ?_, ?_⟩
  · rcases pt_mem hq with z | z
    · rw [z]
      exact List.mem_append_right _ (List.mem_singleton.mpr rfl)
    · exact List.mem_append_left _ (h.mem q z)
  · rw [lk_pt]
    rcases List.mem_append.mp hq with z | z
    · rw [if_neg (hn q z)]
      exact h.all q z hq2
    · rw [List.mem_singleton.mp z, if_pos rfl]
  · have := h.len
    have := pt_len W p.1 p.2
    rw [List.length_append]
    show _ ≤ _ + 1
    omega
theorem SInv.start {X : Fire} {l W : List (Str × Int)} (h : SInv X.ss X.bs l W) (hm : MinOf X.ss l) (hp : ∀ q ∈ X.ss, q.1 ∈ X.ps) (h0 : ∀ q ∈ X.ss, 0 ≤ q.2) : WInv X W [] := by
  refine ⟨h.wn, List.nodup_nil, fun x hx => ?_, fun _ hx => (nomatch hx), fun x m hx => h0 _ (hm.mem _ (h.mem _ (lk_mem hx))), fun _ _ z => (nomatch z), fun _ _ _ _ z => (nomatch z), fun q hq hs => ?_, fun _ _ _ _ _ _ _ z => (nomatch z)⟩
  · obtain ⟨q, hq, rfl⟩ := List.mem_map.mp hx
    exact hp _ (hm.mem _ (h.mem _ hq))
  · obtain ⟨m, h1, h2⟩ := hm.le q hq
    refine .inr ⟨m, ?_, h2⟩
    exact h.all (q.1, m) (lk_mem h1) fun ⟨b, g1, g2, g3⟩ => hs ⟨b, g1, g2, Int.le_trans g3 h2⟩
end
end EF
end
section
set_option maxHeartbeats 4000000
namespace EF
open PySem PySem.Spec PyProof.Rows PySem.W L2 Evl RZ
section
variable {P : Program} {w : World} {K : PySem.W.Frag} {mg : Str → Option Value} {base : Heap}
/-! ### spread -/
structure FireOk (X : Fire) : Prop where
  wok : WOk X.we
  win : ∀ q ∈ X.we, q.2 ∈ X.ws
  sp : ∀ q ∈ X.ss, q.1 ∈ X.ps
  bp : ∀ q ∈ X.bs, q.1 ∈ X.ps
  s0 : ∀ q ∈ X.ss, 0 ≤ q.2
  sl : X.ss.length ≤ 1000
  bl : X.bs.length ≤ 1000
  pl : X.ps.length ≤ 1000
  rl : X.rows.length = X.links.length
  oth : ∀ l ∈ X.links, l.oth ∈ X.ps
  row : ∀ r ∈ X.rows, r.length = X.ws.length ∧ ∀ n, some n ∈ r → 0 ≤ n
theorem r_frz {t : TE} {σ : L2.St} {H : Hp} {Q : VK} (q : t σ H fun v H1 => ∃ d u, v = .ref d ∧ H1 d = some u ∧ Mut (some u) ∧ ∀ od, Q v (upd H1 d (.frz od u))) : tFrz t σ H Q := q
theorem r_items {td : TE} {σ : L2.St} {H : Hp} {R : It → Hp → Prop} (q : td σ H fun x H1 => ∃ d o kvs, x = .ref d ∧ H1 d = some (.frz o (.dK kvs)) ∧ R (Iti d o kvs) H1) : iItems td σ H R := q
theorem item_kv {sl : List (Str × Int)} {i : Nat} {u1 u2 : V} (g1 : (fun i => Option.map (fun kv => kV kv.fst) (List.map kv sl)[i]?) i = some u1) (g2 : (fun i => Option.map Prod.snd (List.map kv sl)[i]?) i = some u2) : ∃ b, sl[i]? = some b ∧ u1 = .str b.1 ∧ u2 = .int b.2 := by
  have g1 : Option.map (fun kv => kV kv.fst) (List.map kv sl)[i]? = some u1 := g1
  have g2 : Option.map Prod.snd (List.map kv sl)[i]? = some u2 := g2
  rw [List.getElem?_map] at g1 g2
  cases q : sl[i]? with
  | none => rw [q] at g1; cases g1
  | some b =>
    rw [q] at g1 g2
    exact ⟨b, rfl, (Option.some.inj g1).symm, (Option.some.inj g2).symm⟩
theorem nd_earlier {l : List (Str × Int)} {i : Nat} {b : Str × Int} (h : (l.map (·.1)).Nodup) (hb : l[i]? = some b) : ∀ q ∈ l.take i, q.1 ≠ b.1 := fun q hq e => by
  refine nd_take h (i := i) (s := b.1) (by rw [List.getElem?_map, hb]; rfl) ?_
  rw [← List.map_take]
  exact List.mem_map.mpr ⟨q, hq, e⟩
theorem r_lock {t : TE} {σ : L2.St} {H : Hp} {Q : VK} (q : ∃ d u, H d = some u ∧ Mut (some u) ∧ ∀ od, t σ (upd H d (.frz od u)) fun v H' => H' d = some (.frz od u) ∧ Q v (upd H' d u)) : tLockE t σ H Q := q
theorem r_dpop {td ty : TE} {σ : L2.St} {H : Hp} {Q : VK} (q : td σ H fun x H1 => ∃ a, x = .ref a ∧ IsD H1 a ∧ ty σ H1 fun y H2 => ∃ kvs k v, H2 a = some (.dK kvs) ∧ y = kV k ∧ valV kvs k = some v ∧ Q v (upd H2 a (.dK (dropK kvs k)))) : tDPop1 td ty σ H Q := q
theorem FireOk.ge {X : Fire} (ok : FireOk X) {k : Nat} {row : List (Option Int)} {m e : Int} (h : X.rows[k]? = some row) (hc : caughtV X.we X.ws row m = some e) : m ≤ e :=
  caughtV_ge hc (ok.row row (List.mem_of_getElem? h)).2
def sp_spread (K : PySem.W.Frag) : Sp := fun vs H Q _ => ∃ v1 v2 v3 v4 v5, vs = [v1, v2, v3, v4, v5] ∧ ∃ (p : Addr) (X : Fire), v1 = .ref p ∧ LandAt K H p ⟨X.ws, X.ps, X.links⟩ ∧ Ls K H v2 (X.we.map eMP) ∧ Ls K H v3 (X.ss.map ePM) ∧ Ls K H v4 (X.bs.map ePM) ∧ Tp K H v5 (.tuple (X.rows.map eRw)) ∧ FireOk X ∧
  ∀ d F H', Ex H H' → DS H' d F → Closed X F → Q (.ref d) H'
abbrev N_spread : List Str := ["land", "weather", "starts", "breaks", "numbers", "broken", "waiting", "place", "minute", "found", "link", "row", "end"]
-- slots 0=land 1=weather 2=starts 3=breaks 4=numbers 5=broken 6=waiting 7=place 8=minute 9=found 10=link 11=row 12=end; cells []
theorem sc_spread : FnScope N_spread ["land", "weather", "starts", "breaks", "numbers"] (defScope s_spread) := ⟨rfl, rfl, rfl, by decide +kernel, rfl, by decide +kernel, by decide +kernel⟩
theorem ok_spread (T : Tx K mg) : Cal P w K mg base 3 (He.ga K "spread") ["land", "weather", "starts", "breaks", "numbers"] (sp_spread K) := by
  obtain ⟨fd, F⟩ := T.s.c.def_ 11 (d := d_spread) rfl
  refine ⟨fd, F.ok sc_spread (fun vs H Q E h => ?_) (fun cdv A outer s H vs Q E hr h => ?_), F.bindsN (fun _ _ _ _ _ _ us hl => match us, hl with | [_, _, _, _, _], _ => rfl), F.kp⟩
  · obtain ⟨v1, v2, v3, v4, v5, rfl, _⟩ := h
    rfl
  · have hu := hu_of hr
    obtain ⟨v1, v2, v3, v4, v5, rfl, p, X, rfl, hL, hwe, hss, hbs, hrows, ok, q⟩ := h
    obtain ⟨aw, wxs, rfl, hwS, hwT⟩ := hwe
    obtain ⟨as, sxs, rfl, hsS, hsT⟩ := hss
    obtain ⟨ab, bxs, rfl, hbS, hbT⟩ := hbs
    obtain ⟨ar, rxs, rfl, hrS, hrT⟩ := tp_tup hrows
    refine ⟨_, PSs.nox (pss_cons (ps_set (i := 5) sc_spread.nd rfl (Or.inl rfl) (pe_cal (ok_least_minutes T) hr T.g_least_minutes (pa_cons (pv 3) pa_nil)))
        (pss_cons (ps_set (i := 6) sc_spread.nd rfl (Or.inl rfl) pe_dnewK)
        (pss_cons (ps_for PassesOwn.never rfl (pi_items (pe_frz (pe_cal (ok_least_minutes T) hr T.g_least_minutes (pa_cons (pv 2) pa_nil)))) (pgT K (n := 2) rfl (pgs_cons (pg_name (i := 7) sc_spread.nd rfl (Or.inl rfl)) (pgs_cons (pg_name (i := 8) sc_spread.nd rfl (Or.inl rfl)) pgs_nil)))
          (pss_one (ps_if (PW.pt (pw_or (pt_cmp (pc_dnotin hu (pv 7) (pv 5))) (pw_or1 (pt_cmpR op_lt (pv 8) (pe_dget hu (pv 5) (pv 7) (fun _ _ => rfl)) (nomark _)))))
            (pss_one (ps_dput hu (pv 6) (pv 7) (pv 8) rfl))
            pss_nil)))
        (pss_cons (ps_set (i := 9) sc_spread.nd rfl (Or.inl rfl) pe_dnewK)
        (pss_cons (ps_while PassesOwn.never (pt_truth (pv 6) (fun _ => rfl))
          (pss_cons (ps_asg (pe_callB (minK K rfl hr.units) (by rfl) T.f_min (by decide +kernel) (pa_cons (pe_lock (pe_lc (own := [("place", 7), ("minute", 8)]) rfl sc_spread.nd (pi_items (pv 6)) (blkOk_by (own := [("place", 7), ("minute", 8)]) (N := N_spread) (sc := defScope s_spread) (by decide +kernel)) (fun _ _ _ _ _ => (pgT K (n := 2) rfl (pgs_cons (pg_name (i := 7) sc_spread.nd rfl (Or.inl rfl)) (pgs_cons (pg_name (i := 8) sc_spread.nd rfl (Or.inl rfl)) pgs_nil)))) (fun _ _ _ _ _ => pts_nil) (fun _ _ _ _ _ => (pe_tup (pa_cons (pv 8) (pa_cons (pv 7) pa_nil)))))) pa_nil)) (pgT K (n := 2) rfl (pgs_cons (pg_name (i := 8) sc_spread.nd rfl (Or.inl rfl)) (pgs_cons (pg_name (i := 7) sc_spread.nd rfl (Or.inl rfl)) pgs_nil))))
          (pss_cons (ps_expr (pe_dpop1 (pv 6) (pv 7) ⟨rfl, rfl, rfl, rfl⟩))
          (pss_cons (ps_dput hu (pv 9) (pv 7) (pv 8) rfl)
          (pss_one (ps_for PassesOwn.never rfl (piZ K rfl T.f_zip (pa_cons (fldK K (pv 0) rfl) (pa_cons (pv 4) pa_nil))) (pgT K (n := 2) rfl (pgs_cons (pg_name (i := 10) sc_spread.nd rfl (Or.inl rfl)) (pgs_cons (pg_name (i := 11) sc_spread.nd rfl (Or.inl rfl)) pgs_nil)))
            (pss_cons (ps_set (i := 12) sc_spread.nd rfl (Or.inl rfl) (pe_ifExp (PW.pt (pw_and (pt_cmpR op_eq (pe_ix (ixT K) (pv 10) pe_int (fun _ _ => rfl)) (pv 7) (nomark _)) (pw_and1 (pt_cmp (pc_dnotin hu (pe_ix (ixT K) (pv 10) pe_int (fun _ _ => rfl)) (pv 9)))))) (pe_cal (ok_caught T) hr T.g_caught (pa_cons (pv 0) (pa_cons (pv 1) (pa_cons (pv 11) (pa_cons (pv 8) pa_nil))))) pe_non))
            (pss_one (ps_if (PW.pt (pw_and (pt_cmpR op_notN1 (pv 12) pe_non (nomark _)) (pw_and1 (PW.pt (pw_or (pt_cmp (pc_dnotin hu (pe_ix (ixT K) (pv 10) pe_int (fun _ _ => rfl)) (pv 5))) (pw_or1 (pt_cmpR op_lt (pv 12) (pe_dget hu (pv 5) (pe_ix (ixT K) (pv 10) pe_int (fun _ _ => rfl)) (fun _ _ => rfl)) (nomark _))))))))
              (pss_one (ps_dput hu (pv 6) (pe_ix (ixT K) (pv 10) pe_int (fun _ _ => rfl)) (pe_callB (c_min2 rfl) (by rfl) T.f_min (by decide +kernel) (pa_cons (pv 12) (pa_cons (pe_dget2 hu (pv 6) (pe_ix (ixT K) (pv 10) pe_int (fun _ _ => rfl)) (pv 12) ⟨rfl, rfl, rfl, rfl⟩) pa_nil))) rfl))
              pss_nil)))))))))
        (pss_one (ps_ret (pv 9)))))))), ?_⟩
    repeat (walk_at "rd")
    refine ⟨_, rfl, X.bs, ⟨ab, bxs, rfl, hbS, hbT⟩, ok.bl, fun bd bl B nbd eB hbd hbm => ?_⟩
    repeat (walk_at "rd")
    refine fun wd nwd => ?_
    repeat (walk_at "rd")
    have e1 : Ex B (upd B wd (.dK [])) := Ex.new nwd
    have E1 := eB.trans e1
    refine r_items ?_
    refine r_frz ?_
    repeat (walk_at "rd")
    refine ⟨_, rfl, X.ss, ⟨as, sxs, rfl, ex_l E1 hsS, tpa_ex E1 hsT⟩, ok.sl, fun sd sl H2 nsd e2 hsd hsm => ?_⟩
    refine ⟨sd, _, rfl, hsd, trivial, fun od => ⟨sd, od, _, rfl, upd_same, ?_⟩⟩
    have hwd2 : H2 wd = some (.dK []) := e2 _ _ upd_same
    have hsw : wd ≠ sd := fun z => by rw [← z, upd_same] at nsd; cases nsd
    have nsdB : B sd = none := by rw [upd_ne hsw.symm] at nsd; exact nsd
    have e3 : Ex B (upd H2 sd (.frz od (.dK (sl.map kv)))) := Ex.mut (e1.trans e2) nsdB
    refine for_it (walk_items (kvs := sl.map kv)) (fun i σ' H' => (∃ y1 y2, σ' = [some (.ref p), some (.ref aw), some (.ref as), some (.ref ab), some (.ref ar), some (.ref bd), some (.ref wd), y1, y2, none, none, none, none]) ∧ Ex B H' ∧ H' sd = some (.frz od (.dK (sl.map kv))) ∧ ∃ W, DS H' wd W ∧ SInv X.ss X.bs (sl.take i) W) ?_ ?_ ?_ ?_
    · refine ⟨⟨none, none, rfl⟩, e3, upd_same, [], ?_, ⟨List.nodup_nil, fun _ h => (nomatch h), fun _ h => (by rw [List.take_zero] at h; cases h), Nat.zero_le _⟩⟩
      show upd H2 sd _ wd = _
      rw [upd_ne hsw]
      exact hwd2
    · exact fun i σ' H' _ h => h.2.2.1
    · rintro i x σ' H' H3 hi ⟨⟨y1, y2, rfl⟩, e, hfz, W, hW, hI⟩ ⟨T', u1, u2, rfl, hT', rfl, g1, g2⟩
      obtain ⟨⟨s', m⟩, hb, rfl, rfl⟩ := item_kv g1 g2
      have hTw : wd ≠ T' := fun z => by have : H' wd = _ := hW; rw [z, hT'] at this; cases this
      have hTs : sd ≠ T' := fun z => by rw [z, hT'] at hfz; cases hfz
      have eT : Ex H' (upd H' T' (.tup [.str s', .int m])) := Ex.new hT'
      have hW3 : DS (upd H' T' (.tup [.str s', .int m])) wd W := eT _ _ hW
      have hbd3 : DS (upd H' T' (.tup [.str s', .int m])) bd bl := (e.trans eT) _ _ hbd
      refine r_gtup (st_of upd_same) rfl ?_
      repeat (walk_at "rd")
      refine ⟨bd, _, rfl, hbd3.get s', ?_⟩
      have hlen : W.length < 100000 := by
        have h1 := hI.len
        have h2 := hsm.len
        have h3 := ok.sl
        rw [List.length_take] at h1
        omega
      have fin : Ex B (upd (upd H' T' (.tup [.str s', .int m])) wd (.dK ((pt W s' m).map kv))) ∧ (upd (upd H' T' (.tup [.str s', .int m])) wd (.dK ((pt W s' m).map kv))) sd = some (.frz od (.dK (sl.map kv))) ∧ ∃ W2, DS (upd (upd H' T' (.tup [.str s', .int m])) wd (.dK ((pt W s' m).map kv))) wd W2 ∧ SInv X.ss X.bs (sl.take (i + 1)) W2 := by
        refine ⟨Ex.mut (e.trans eT) nwd, ?_, _, upd_same, ?_⟩
        · rw [upd_ne hsw.symm]
          exact eT _ _ hfz
        · rw [take_snoc hb]
          exact hI.lay (p := (s', m)) (nd_earlier hsm.nd hb)
      cases hbk : lk bl s' with
      | none =>
        repeat (walk_at "rd")
        exact ⟨wd, _, rfl, hW3.put hlen s' m, ⟨_, _, rfl⟩, fin⟩
      | some bk =>
        repeat (walk_at "rd")
        refine ⟨bd, .int bk, rfl, ?_, ?_⟩
        · have := hbd3.get s'
          rw [hbk] at this
          exact this
        repeat (walk_at "rd")
        refine ite_c (fun hlt => ?_) fun hlt => ?_
        · repeat (walk_at "rd")
          exact ⟨wd, _, rfl, hW3.put hlen s' m, ⟨_, _, rfl⟩, fin⟩
        · repeat (walk_at "rd")
          refine ⟨⟨_, _, rfl⟩, e.trans eT, eT _ _ hfz, W, hW3, ?_⟩
          rw [take_snoc hb]
          exact hI.skip ((hbm.stop s' m).mpr ⟨bk, hbk, by have := of_decide_eq_false hlt; omega⟩)
    rintro σ' H' ⟨⟨y1, y2, rfl⟩, e, _, W, hW, hI⟩
    rw [List.length_map, List.take_length] at hI
    repeat (walk_at "rd")
    refine fun fd nfd => ?_
    have nfdB : B fd = none := fresh_back e nfd
    have hfw : fd ≠ wd := fun z => by have : H' wd = _ := hW; rw [← z, nfd] at this; cases this
    repeat (walk_at "rd")
    refine ⟨fun n σ' H' => ∃ W F, (∃ y7 y8 y10 y11 y12, σ' = [some (.ref p), some (.ref aw), some (.ref as), some (.ref ab), some (.ref ar), some (.ref bd), some (.ref wd), y7, y8, some (.ref fd), y10, y11, y12]) ∧ Ex B H' ∧ DS H' wd W ∧ DS H' fd F ∧ WInv X W F ∧ n = X.ps.length - F.length, ?_, ?_⟩
    · refine ⟨_, W, [], ⟨_, _, _, _, _, rfl⟩, e.trans (Ex.new nfd), ?_, upd_same, hI.start hsm ok.sp ok.s0, rfl⟩
      exact Ex.new nfd _ _ hW
    clear hI hW e
    rintro n σ' H' ⟨W, F, ⟨y7, y8, y10, y11, y12, rfl⟩, e, hW, hF, hI, rfl⟩
    refine ⟨_, rfl, _, .inr (.inr ⟨W.map kv, hW, rfl⟩), ?_⟩
    cases W with
    | nil =>
      refine ite_f rfl ?_
      repeat (walk_at "rd")
      exact q fd F H' (eB.trans e) hF hI.closed
    | cons w0 Wr =>
    refine ite_t rfl ⟨fun σ' H' => ∃ W2 F2, (∃ y7 y8 y10 y11 y12, σ' = [some (.ref p), some (.ref aw), some (.ref as), some (.ref ab), some (.ref ar), some (.ref bd), some (.ref wd), y7, y8, some (.ref fd), y10, y11, y12]) ∧ Ex B H' ∧ DS H' wd W2 ∧ DS H' fd F2 ∧ WInv X W2 F2 ∧ F2.length = F.length + 1, ?_, ?_⟩
    · rintro σ' H' ⟨W2, F2, h1, h2, h3, h4, h5, h6⟩
      refine ⟨_, ?_, W2, F2, h1, h2, h3, h4, h5, rfl⟩
      have := nd_le h5.fn h5.fp
      rw [List.length_map] at this
      omega
    generalize hWd : w0 :: Wr = W at hW hI
    have hWne : W ≠ [] := by rw [← hWd]; exact List.cons_ne_nil _ _
    clear hWd w0 Wr
    have hWlen : W.length ≤ X.ps.length := by
      have := nd_le hI.wn hI.wp
      rw [List.length_map] at this
      exact this
    have hFlen : F.length ≤ X.ps.length := by
      have := nd_le hI.fn hI.fp
      rw [List.length_map] at this
      exact this
    have hpl := ok.pl
    repeat (walk_at "rd")
    refine r_lock ?_
    refine ⟨wd, _, hW, trivial, fun od2 => ?_⟩
    repeat (walk_at "rd")
    refine r_items ?_
    repeat (walk_at "rd")
    have e2 : Ex B (upd H' wd (.frz od2 (.dK (W.map kv)))) := Ex.mut e nwd
    refine ⟨wd, od2, _, rfl, upd_same, lc_tp (K := K) (walk_items (kvs := W.map kv)) W (by rw [List.length_map]) (by rw [List.length_map]; omega) (fun H2 e3 => e3 _ _ upd_same) (fun _ => true) (fun q => eMP (q.2, q.1)) ?_ ?_⟩
    · rintro i b x H2 H3 Ky Kn hb e3 ⟨T', u1, u2, rfl, hT', rfl, g1, g2⟩ hy hn
      obtain ⟨b', hb', rfl, rfl⟩ := item_kv g1 g2
      obtain rfl : b = b' := Option.some.inj (hb.symm.trans hb')
      refine r_gtup (st_of upd_same) rfl ?_
      repeat (walk_at "rd")
      refine ⟨sz_of (by show 2 ≤ 100000; decide), fun t nt => ?_⟩
      exact hy _ _ rfl ((Ex.new hT').trans (Ex.new nt)) (.tup (st_of upd_same) (.cons (.int _) (.cons (.str _) .nil)))
    intro D1 H4 ys hD1 e4 hd4 ht4
    rw [filter_tt, show W.map (fun q => eMP (q.2, q.1)) = (W.map fun q => (q.2, q.1)).map eMP by rw [List.map_map]; rfl] at ht4
    have hw4 := e4 _ _ upd_same
    refine ⟨hw4, ?_⟩
    have hDw : D1 ≠ wd := fun z => by rw [z, upd_same] at hD1; cases hD1
    have e5 : Ex B (upd H4 wd (.dK (W.map kv))) := Ex.mut (e2.trans e4) nwd
    have hF5 : DS (upd H4 wd (.dK (W.map kv))) fd F := by
      show upd H4 wd _ fd = _
      rw [upd_ne hfw]
      refine e4 _ _ ?_
      rw [upd_ne hfw]
      exact hF
    repeat (walk_at "rd")
    refine ⟨D1, ys, _, rfl, sq_of (by rw [upd_ne hDw]; exact hd4), tpa_tk (tk_frz hw4) ht4, fun z => hWne (List.map_eq_nil_iff.mp z), fun v pm hpm hle tv => ?_⟩
    obtain ⟨wm, hwm, rfl⟩ := List.mem_map.mp hpm
    obtain ⟨pl, m⟩ := wm
    have tv : Tp K _ v (.tuple [.int m, .str pl]) := tv
    obtain ⟨t, x1, x2, rfl, ht, t1, t2⟩ := tp_tup2 tv
    cases tp_int t1
    cases tp_str t2
    refine r_gtup ht rfl ?_
    repeat (walk_at "rd")
    refine r_dpop ?_
    repeat (walk_at "rd")
    refine ⟨wd, rfl, .inl ⟨_, .inl upd_same⟩, ?_⟩
    repeat (walk_at "rd")
    refine ⟨W.map kv, .inr pl, .int m, upd_same, rfl, by rw [val_kv, lk_nd hI.wn hwm]; rfl, ?_⟩
    rw [drop_kv]
    have hI0 := IInv.start hI hwm (fun r hr => hle (r.2, r.1) (List.mem_map.mpr ⟨r, hr, rfl⟩))
    have hpW : lk W pl = some m := lk_nd hI.wn hwm
    have hpF : lk F pl = none := by
      cases qq : lk F pl with
      | none => rfl
      | some tt =>
        have := hI.dj pl tt qq
        rw [hpW] at this
        cases this
    have hplp : pl ∈ X.ps := hI.wp _ (lk_key hpW)
    have hfn : ((pt F pl m).map (·.1)).Nodup := pt_nd _ _ hI.fn
    have hfp : ∀ x ∈ (pt F pl m).map (·.1), x ∈ X.ps := pt_sub hI.fp hplp
    have hfl : (pt F pl m).length = F.length + 1 := pt_new hpF
    repeat (walk_at "rd")
    have e6 : Ex B (upd (upd H4 wd (.dK (W.map kv))) wd (.dK ((dr W pl).map kv))) := Ex.mut e5 nwd
    have hF6 : DS (upd (upd H4 wd (.dK (W.map kv))) wd (.dK ((dr W pl).map kv))) fd F := by
      show upd _ wd _ fd = _
      rw [upd_ne hfw]
      exact hF5
    have hW6 : DS (upd (upd H4 wd (.dK (W.map kv))) wd (.dK ((dr W pl).map kv))) wd (dr W pl) := upd_same
    generalize upd (upd H4 wd (.dK (W.map kv))) wd (.dK ((dr W pl).map kv)) = H6 at e6 hF6 hW6
    refine ⟨fd, _, rfl, hF6.put (by omega) pl m, ?_⟩
    have e7 : Ex B (upd H6 fd (.dK ((pt F pl m).map kv))) := Ex.mut e6 nfdB
    have hW7 : DS (upd H6 fd (.dK ((pt F pl m).map kv))) wd (dr W pl) := by
      show upd _ fd _ wd = _
      rw [upd_ne hfw.symm]
      exact hW6
    have hF7 : DS (upd H6 fd (.dK ((pt F pl m).map kv))) fd (pt F pl m) := upd_same
    generalize upd H6 fd (.dK ((pt F pl m).map kv)) = H7 at e7 hF7 hW7
    generalize pt F pl m = F2 at hI0 hfn hfp hfl hF7
    obtain ⟨dx, fs, aw', ap', al, f1, f2, f3, f4, f5, f6, f7, f8, lxs, f9, f10⟩ := (land_ex eB hL).at_
    have hll : lxs.length = X.links.length := tpa_maplen f10
    have hrl : rxs.length = X.links.length := by rw [tpa_maplen hrT, ok.rl]
    dsimp only
    refine r_iZ0 ?_
    repeat (walk_at "rd")
    refine r_fld rfl (e7 _ _ f1) T.cls T.n_links f4 ?_
    repeat (walk_at "rd")
    have f10 : TpAll K B lxs (X.links.map eLk) := f10
    have hrB : SqT K B ar rxs := ex_t eB hrS
    have hrTB : TpAll K B rxs (X.rows.map eRw) := tpa_ex eB hrT
    have hLB : LandAt K B p ⟨X.ws, X.ps, X.links⟩ := land_ex eB hL
    refine ⟨al, ar, lxs, rxs, rfl, .inr ⟨ex_t e7 f9, ex_t e7 hrB, for_it (walk_zipT (K := K) (a := al) (b := ar) (xs := lxs) (ys := rxs) (n := X.links.length) (by rw [hll, hrl, Nat.min_self])) (fun i σ' H' => ∃ W', (∃ y10 y11 y12, σ' = [some (.ref p), some (.ref aw), some (.ref as), some (.ref ab), some (.ref ar), some (.ref bd), some (.ref wd), some (.str pl), some (.int m), some (.ref fd), y10, y11, y12]) ∧ Ex B H' ∧ DS H' wd W' ∧ DS H' fd F2 ∧ IInv X pl m F2 i W') ?_ ?_ ?_ ?_⟩⟩
    · exact ⟨_, ⟨_, _, _, rfl⟩, e7, hW7, hF7, hI0⟩
    · rintro i σ' H' _ ⟨W', _, e', _⟩
      exact ⟨ex_t e' f9, ex_t e' hrB⟩
    rotate_left
    · rintro σ' H' ⟨W', ⟨_, _, _, rfl⟩, e', hW', hF', hI'⟩
      exact ⟨W', F2, ⟨_, _, _, _, _, rfl⟩, e', hW', hF', hI'.done (Nat.le_refl _) hfn hfp, hfl⟩
    clear hI0 hW7 hF7 e7 hW6 hF6 e6 hF5 e5
    rintro i x σ' H8 H9 hi ⟨W', ⟨z10, z11, z12, rfl⟩, e8, hW8, hF8, hI8⟩ ⟨T', u1, u2, rfl, hT', rfl, g1, g2⟩
    obtain ⟨l, hl, tl⟩ := tpa_item f10 g1
    obtain ⟨row, hrow, trow⟩ := tpa_item hrTB g2
    have eT : Ex H8 (upd H8 T' (.tup [u1, u2])) := Ex.new hT'
    have hT9 : SqT K (upd H8 T' (.tup [u1, u2])) T' [u1, u2] := st_of upd_same
    have e9 := e8.trans eT
    have hW9 : DS (upd H8 T' (.tup [u1, u2])) wd W' := eT _ _ hW8
    have hF9 : DS (upd H8 T' (.tup [u1, u2])) fd F2 := eT _ _ hF8
    generalize upd H8 T' (.tup [u1, u2]) = H9 at hT9 e9 hW9 hF9
    clear eT hT' hW8 hF8 e8 H8
    obtain ⟨t4, x1, x2, x3, x4, rfl, ht4, tx1, tx2, tx3, tx4⟩ := tp_tup4 (tp_ex e9 tl)
    cases tp_str tx1
    cases tp_str tx2
    cases tp_str tx3
    refine r_gtup hT9 rfl ?_
    repeat (walk_at "rd")
    have hge : ∀ e, caughtV X.we X.ws row m = some e → m ≤ e := fun e hc => ok.ge hrow hc
    have hoth : l.oth ∈ X.ps := ok.oth l (List.mem_of_getElem? hl)
    have hwl : W'.length < 100000 := by
      have := nd_le hI8.wn hI8.wp
      rw [List.length_map] at this
      omega
    by_cases ho : l.one = pl
    · rw [decide_eq_true (show V.str l.one = V.str pl by rw [ho])]
      repeat (walk_at "rd")
      refine ⟨fd, _, rfl, hF9.get l.oth, ?_⟩
      cases hfo : lk F2 l.oth with
      | some u =>
        repeat (walk_at "rd")
        exact ⟨W', ⟨_, _, _, rfl⟩, e9, hW9, hF9, hI8.skip hl hrow fun _ e hc _ => .inl ⟨u, hfo, Int.le_trans (hI8.fl _ _ hfo) (hge e hc)⟩⟩
      | none =>
        repeat (walk_at "rd")
        refine ⟨_, _, _, _, rfl, p, ⟨X.ws, X.ps, X.links⟩, X.we, row, m, rfl, rfl, land_ex e9 hLB, ⟨aw, wxs, rfl, ex_l (eB.trans e9) hwS, tpa_ex (eB.trans e9) hwT⟩, ok.wok, ok.win, tp_ex e9 trow, (ok.row row (List.mem_of_getElem? hrow)).1, hI8.m0, fun H2 e2 => ?_⟩
        have hW2 : DS H2 wd W' := e2 _ _ hW9
        have hF2 : DS H2 fd F2 := e2 _ _ hF9
        have hbd2 : DS H2 bd bl := (e9.trans e2) _ _ hbd
        have ht2 := ex_t e2 ht4
        have eB2 := e9.trans e2
        show gName 12 (vO (caughtV X.we X.ws row m)) _ _ _
        cases hc : caughtV X.we X.ws row m with
        | none =>
          repeat (walk_at "rd")
          exact ⟨W', ⟨_, _, _, rfl⟩, eB2, hW2, hF2, hI8.skip hl hrow fun _ e hc' _ => by rw [hc] at hc'; cases hc'⟩
        | some e =>
          have lay : ∀ H3, H3 = H2 → ∃ H4 v, DPut H2 wd (.str l.oth) (.int v) H4 ∧ (v = (match lk W' l.oth with | none => e | some o => if o < e then o else e)) ∧ Ex B H4 ∧ DS H4 fd F2 ∧ ∃ W2, DS H4 wd W2 ∧ IInv X pl m F2 (i + 1) W2 := by
            rintro H3 rfl
            refine ⟨_, _, hW2.put hwl l.oth _, rfl, Ex.mut eB2 nwd, ?_, _, upd_same, ?_⟩
            · show upd _ wd _ fd = _
              rw [upd_ne hfw]
              exact hF2
            · have := hge e hc
              refine hI8.lay hl hrow hoth hfo hc ?_ ?_ ?_
              · cases hwo : lk W' l.oth with
                | none => exact this
                | some o =>
                  have := hI8.wl _ _ hwo
                  show m ≤ if o < e then o else e
                  split <;> omega
              · cases hwo : lk W' l.oth with
                | none => exact Int.le_refl _
                | some o =>
                  show (if o < e then o else e) ≤ e
                  split <;> omega
              · intro o hwo
                rw [hwo]
                show (if o < e then o else e) ≤ o
                split <;> omega
          obtain ⟨H4, v, hput, hv, eB4, hF4, W2, hW4, hI4⟩ := lay H2 rfl
          clear lay
          repeat (walk_at "rd")
          refine ⟨bd, _, rfl, hbd2.get l.oth, ?_⟩
          cases hbk : lk bl l.oth with
          | none =>
            repeat (walk_at "rd")
            refine ⟨wd, rfl, hW2.isd, ?_⟩
            repeat (walk_at "rd")
            refine ⟨_, hW2.get l.oth, ?_⟩
            cases hwo : lk W' l.oth with
            | none =>
              rw [hwo] at hv
              refine r_nil (r_min2 (i := e) (j := e) ?_)
              repeat (walk_at "rd")
              refine ⟨wd, H4, rfl, ?_, W2, ⟨_, _, _, rfl⟩, eB4, hW4, hF4, hI4⟩
              rw [show (if e < e then e else e) = v by rw [if_neg (by omega), hv]]
              exact hput
            | some o =>
              rw [hwo] at hv
              refine r_nil (r_min2 (i := e) (j := o) ?_)
              repeat (walk_at "rd")
              refine ⟨wd, H4, rfl, ?_, W2, ⟨_, _, _, rfl⟩, eB4, hW4, hF4, hI4⟩
              rw [show (if o < e then o else e) = v from hv.symm]
              exact hput
          | some bk =>
            repeat (walk_at "rd")
            refine ⟨bd, .int bk, rfl, ?_, ?_⟩
            · have := hbd2.get l.oth
              rw [hbk] at this
              exact this
            refine r_I0 (a := e) (b := bk) ?_
            repeat (walk_at "rd")
            refine ite_c (fun hlt => ?_) fun hlt => ?_
            · repeat (walk_at "rd")
              refine ⟨wd, rfl, hW2.isd, ?_⟩
              repeat (walk_at "rd")
              refine ⟨_, hW2.get l.oth, ?_⟩
              cases hwo : lk W' l.oth with
              | none =>
                rw [hwo] at hv
                refine r_nil (r_min2 (i := e) (j := e) ?_)
                repeat (walk_at "rd")
                refine ⟨wd, H4, rfl, ?_, W2, ⟨_, _, _, rfl⟩, eB4, hW4, hF4, hI4⟩
                rw [show (if e < e then e else e) = v by rw [if_neg (by omega), hv]]
                exact hput
              | some o =>
                rw [hwo] at hv
                refine r_nil (r_min2 (i := e) (j := o) ?_)
                repeat (walk_at "rd")
                refine ⟨wd, H4, rfl, ?_, W2, ⟨_, _, _, rfl⟩, eB4, hW4, hF4, hI4⟩
                rw [show (if o < e then o else e) = v from hv.symm]
                exact hput
            · repeat (walk_at "rd")
              refine ⟨W', ⟨_, _, _, rfl⟩, eB2, hW2, hF2, hI8.skip hl hrow fun _ e' hc' hs => absurd ((hbm.stop _ _).mpr ⟨bk, hbk, ?_⟩) hs⟩
              have := of_decide_eq_false hlt
              rw [hc] at hc'
              have := Option.some.inj hc'
              omega
    · rw [decide_eq_false (show ¬ V.str l.one = V.str pl from fun z => ho (V.str.inj z))]
      repeat (walk_at "rd")
      exact ⟨W', ⟨_, _, _, rfl⟩, e9, hW9, hF9, hI8.skip hl hrow fun h => absurd h ho⟩
end
end EF
end
section
set_option maxHeartbeats 4000000
namespace EF
open PySem PySem.Spec PyProof.Rows PySem.W L2 Evl RZ
section
variable {P : Program} {w : World} {K : PySem.W.Frag} {mg : Str → Option Value} {base : Heap}
/-! ### check_fire, burning -/
abbrev landOf (X : Fire) : LandD := ⟨X.ws, X.ps, X.links⟩
def sp_check_fire (K : PySem.W.Frag) : Sp := fun vs H Q _ => ∃ v1 v2 v3 v4, vs = [v1, v2, v3, v4] ∧ ∃ (p : Addr) (X : Fire), v1 = .ref p ∧ LandAt K H p (landOf X) ∧ Ls K H v2 (X.we.map eMP) ∧ Ls K H v3 (X.ss.map ePM) ∧ Ls K H v4 (X.bs.map ePM) ∧ FireOk X ∧ ∀ H', Ex H H' → Q .non H'
abbrev N_check_fire : List Str := ["land", "weather", "starts", "breaks"]
-- slots 0=land 1=weather 2=starts 3=breaks; cells []
theorem sc_check_fire : FnScope N_check_fire ["land", "weather", "starts", "breaks"] (defScope s_check_fire) := ⟨rfl, rfl, rfl, by decide +kernel, rfl, by decide +kernel, by decide +kernel⟩
theorem ok_check_fire (T : Tx K mg) : Cal P w K mg base 3 (He.ga K "check_fire") ["land", "weather", "starts", "breaks"] (sp_check_fire K) := by
  obtain ⟨fd, F⟩ := T.s.c.def_ 12 (d := d_check_fire) rfl
  refine ⟨fd, F.ok sc_check_fire (fun vs H Q E h => ?_) (fun cdv A outer s H vs Q E hr h => ?_), F.bindsN (fun _ _ _ _ _ _ us hl => match us, hl with | [_, _, _, _], _ => rfl), F.kp⟩
  · obtain ⟨v1, v2, v3, v4, rfl, _⟩ := h
    rfl
  · have hu := hu_of hr
    obtain ⟨v1, v2, v3, v4, rfl, p, X, rfl, hL, hwe, hss, hbs, ok, q⟩ := h
    refine ⟨_, PSs.nox (pss_cons (ps_expr (pe_cal (ok_check_winds T) hr T.g_check_winds (pa_cons (pv 0) (pa_cons (pv 1) pa_nil))))
        (pss_cons (ps_expr (pe_cal (ok_check_rows T) hr T.g_check_rows (pa_cons (pv 0) (pa_cons (pv 2) pa_nil))))
        (pss_cons (ps_expr (pe_cal (ok_check_rows T) hr T.g_check_rows (pa_cons (pv 0) (pa_cons (pv 3) pa_nil))))
        (pss_one (ps_expr (pe_cal (ok_check_changes T) hr T.g_check_changes (pa_cons (pv 1) pa_nil))))))), ?_⟩
    repeat (walk_at "rd")
    refine ⟨_, _, rfl, p, _, X.we, rfl, hL, hwe, ok.win, fun H1 e1 => ?_⟩
    repeat (walk_at "rd")
    refine ⟨_, _, rfl, p, _, X.ss, rfl, land_ex e1 hL, ls_ex e1 hss, ok.sp, fun H2 e2 => ?_⟩
    have E2 := e1.trans e2
    repeat (walk_at "rd")
    refine ⟨_, _, rfl, p, _, X.bs, rfl, land_ex E2 hL, ls_ex E2 hbs, ok.bp, fun H3 e3 => ?_⟩
    have E3 := E2.trans e3
    repeat (walk_at "rd")
    refine ⟨_, rfl, X.we, ls_ex E3 hwe, ok.wok, fun H4 e4 => ?_⟩
    repeat (walk_at "rd")
    exact q _ (E3.trans e4)
def sp_burning (K : PySem.W.Frag) : Sp := fun vs H Q _ => ∃ v1 v2 v3 v4 v5, vs = [v1, v2, v3, v4, v5] ∧ ∃ (p : Addr) (X : Fire), v1 = .ref p ∧ LandAt K H p (landOf X) ∧ Ls K H v2 (X.we.map eMP) ∧ Ls K H v3 (X.ss.map ePM) ∧ Ls K H v4 (X.bs.map ePM) ∧ Tp K H v5 (.tuple (X.rows.map eRw)) ∧ FireOk X ∧ RowsOk X.rows X.links ∧
  ∀ v F H', Ex H H' → Ls K H' v (X.ps.map fun s => ePO (s, lk F s)) → Closed X F → Q v H'
abbrev N_burning : List Str := ["land", "weather", "starts", "breaks", "numbers"]
-- slots 0=land 1=weather 2=starts 3=breaks 4=numbers; cells []
theorem sc_burning : FnScope N_burning ["land", "weather", "starts", "breaks", "numbers"] (defScope s_burning) := ⟨rfl, rfl, rfl, by decide +kernel, rfl, by decide +kernel, by decide +kernel⟩
theorem ok_burning (T : Tx K mg) : Cal P w K mg base 4 (He.ga K "burning") ["land", "weather", "starts", "breaks", "numbers"] (sp_burning K) := by
  obtain ⟨fd, F⟩ := T.s.c.def_ 14 (d := d_burning) rfl
  refine ⟨fd, F.ok sc_burning (fun vs H Q E h => ?_) (fun cdv A outer s H vs Q E hr h => ?_), F.bindsN (fun _ _ _ _ _ _ us hl => match us, hl with | [_, _, _, _, _], _ => rfl), F.kp⟩
  · obtain ⟨v1, v2, v3, v4, v5, rfl, _⟩ := h
    rfl
  · have hu := hu_of hr
    obtain ⟨v1, v2, v3, v4, v5, rfl, p, X, rfl, hL, hwe, hss, hbs, hrows, ok, rok, q⟩ := h
    refine ⟨_, PSs.nox (pss_cons (ps_expr (pe_cal (ok_check_fire T) hr T.g_check_fire (pa_cons (pv 0) (pa_cons (pv 1) (pa_cons (pv 2) (pa_cons (pv 3) pa_nil))))))
        (pss_cons (ps_expr (pe_cal (ok_check_numbers T) hr T.g_check_numbers (pa_cons (pv 0) (pa_cons (pv 4) pa_nil))))
        (pss_one (ps_ret (pe_cal (ok_told T) hr T.g_told (pa_cons (pv 0) (pa_cons (pe_cal (ok_spread T) hr T.g_spread (pa_cons (pv 0) (pa_cons (pv 1) (pa_cons (pv 2) (pa_cons (pv 3) (pa_cons (pv 4) pa_nil)))))) pa_nil))))))), ?_⟩
    repeat (walk_at "rd")
    refine ⟨_, _, _, _, rfl, p, X, rfl, hL, hwe, hss, hbs, ok, fun H1 e1 => ?_⟩
    repeat (walk_at "rd")
    refine ⟨_, _, rfl, p, landOf X, X.rows, rfl, land_ex e1 hL, tp_ex e1 hrows, rok, fun H2 e2 => ?_⟩
    have E2 := e1.trans e2
    repeat (walk_at "rd")
    refine ⟨_, _, _, _, _, rfl, p, X, rfl, land_ex E2 hL, ls_ex E2 hwe, ls_ex E2 hss, ls_ex E2 hbs, tp_ex E2 hrows, ok, fun d F H3 e3 hd hc => ?_⟩
    have E3 := E2.trans e3
    repeat (walk_at "rd")
    refine ⟨_, _, rfl, p, landOf X, d, F, rfl, rfl, land_ex E3 hL, hd, ok.pl, fun v H4 e4 hv => ?_⟩
    exact q v F H4 (E3.trans e4) hv hc
/-! ### fastest, slowest -/
structure AskOk (L : LandD) (we : List (Int × Str)) (ss bs : List (Str × Int)) : Prop where
  land : LandOk L
  wok : WOk we
  win : ∀ q ∈ we, q.2 ∈ L.winds
  sp : ∀ q ∈ ss, q.1 ∈ L.places
  bp : ∀ q ∈ bs, q.1 ∈ L.places
  s0 : ∀ q ∈ ss, 0 ≤ q.2
  sl : ss.length ≤ 1000
  bl : bs.length ≤ 1000
abbrev fire (L : LandD) (we : List (Int × Str)) (ss bs : List (Str × Int)) (rw' : Lk → List (Option Int)) : Fire := ⟨we, L.winds, L.places, L.links, L.links.map rw', ss, bs⟩
theorem tm_pos {o : Option (Int × Int)} (h : TmOk o) : NumOk (o.map (·.1)) o ∧ NumOk (o.map (·.2)) o ∧ (∀ n, o.map (·.1) = some n → 0 ≤ n) ∧ ∀ n, o.map (·.2) = some n → 0 ≤ n := by
  cases o with
  | none => exact ⟨trivial, trivial, fun _ h => (nomatch h), fun _ h => (nomatch h)⟩
  | some p =>
    obtain ⟨h1, h2, h3⟩ := h
    refine ⟨⟨Int.le_refl _, h2⟩, ⟨h2, Int.le_refl _⟩, fun n e => ?_, fun n e => ?_⟩
    · have : p.1 = n := Option.some.inj e
      omega
    · have : p.2 = n := Option.some.inj e
      omega
theorem ask_fire {L : LandD} {we : List (Int × Str)} {ss bs : List (Str × Int)} (a : AskOk L we ss bs) {f : Option (Int × Int) → Option Int} (h : ∀ o, TmOk o → NumOk (f o) o ∧ ∀ n, f o = some n → 0 ≤ n) :
    FireOk (fire L we ss bs fun l => l.tm.map f) ∧ RowsOk (L.links.map fun l => l.tm.map f) L.links := by
  have l2 := a.land.l2
  have p2 := a.land.p2
  have w2 := a.land.w2
  refine ⟨⟨a.wok, a.win, a.sp, a.bp, a.s0, a.sl, a.bl, by show L.places.length ≤ 1000; omega, by show (L.links.map _).length = _; rw [List.length_map], fun l hl => (a.land.lk l hl).oth, fun r hr => ?_⟩, ?_⟩
  · obtain ⟨l, hl, rfl⟩ := List.mem_map.mp hr
    have ok := a.land.lk l hl
    refine ⟨by rw [List.length_map, ok.len], fun n hn => ?_⟩
    obtain ⟨o, ho, e⟩ := List.mem_map.mp hn
    exact (h o (ok.tm o ho)).2 n e
  · refine ⟨by rw [List.length_map], by omega, fun i r l hr hl => ?_⟩
    rw [List.getElem?_map, hl] at hr
    cases hr
    have ok := a.land.lk l (List.mem_of_getElem? hl)
    refine ⟨by rw [List.length_map], by rw [ok.len]; omega, fun j o p ho hp => ?_⟩
    rw [List.getElem?_map, hp] at ho
    cases ho
    exact (h p (ok.tm p (List.mem_of_getElem? hp))).1
def sp_asked (K : PySem.W.Frag) (rw' : Lk → List (Option Int)) : Sp := fun vs H Q _ => ∃ v1 v2 v3 v4, vs = [v1, v2, v3, v4] ∧ ∃ (p : Addr) (L : LandD) (we : List (Int × Str)) (ss bs : List (Str × Int)), v1 = .ref p ∧ LandAt K H p L ∧ Ls K H v2 (we.map eMP) ∧ Ls K H v3 (ss.map ePM) ∧ Ls K H v4 (bs.map ePM) ∧ AskOk L we ss bs ∧
  ∀ v F H', Ex H H' → Ls K H' v (L.places.map fun s => ePO (s, lk F s)) → Closed (fire L we ss bs rw') F → Q v H'
abbrev sp_fastest (K : PySem.W.Frag) : Sp := sp_asked K loRow
abbrev sp_slowest (K : PySem.W.Frag) : Sp := sp_asked K hiRow
abbrev N_fastest : List Str := ["land", "weather", "starts", "breaks"]
-- slots 0=land 1=weather 2=starts 3=breaks; cells []
theorem sc_fastest : FnScope N_fastest ["land", "weather", "starts", "breaks"] (defScope s_fastest) := ⟨rfl, rfl, rfl, by decide +kernel, rfl, by decide +kernel, by decide +kernel⟩
theorem ok_fastest (T : Tx K mg) : Cal P w K mg base 5 (He.ga K "fastest") ["land", "weather", "starts", "breaks"] (sp_fastest K) := by
  obtain ⟨fd, F⟩ := T.s.c.def_ 15 (d := d_fastest) rfl
  refine ⟨fd, F.ok sc_fastest (fun vs H Q E h => ?_) (fun cdv A outer s H vs Q E hr h => ?_), F.bindsN (fun _ _ _ _ _ _ us hl => match us, hl with | [_, _, _, _], _ => rfl), F.kp⟩
  · obtain ⟨v1, v2, v3, v4, rfl, _⟩ := h
    rfl
  · have hu := hu_of hr
    obtain ⟨v1, v2, v3, v4, rfl, p, L, we, ss, bs, rfl, hL, hwe, hss, hbs, ok, q⟩ := h
    obtain ⟨fok, rok⟩ := ask_fire ok (f := fun o => o.map (·.1)) fun o h => ⟨(tm_pos h).1, (tm_pos h).2.2.1⟩
    have l2 := ok.land.l2
    have w2 := ok.land.w2
    refine ⟨_, PSs.nox (pss_one (ps_ret (pe_cal (ok_burning T) hr T.g_burning (pa_cons (pv 0) (pa_cons (pv 1) (pa_cons (pv 2) (pa_cons (pv 3) (pa_cons (pe_cal (ok_least_numbers T) hr T.g_least_numbers (pa_cons (pv 0) pa_nil)) pa_nil)))))))), ?_⟩
    repeat (walk_at "rd")
    refine ⟨_, rfl, p, L, rfl, hL, by omega, fun l hl => by rw [(ok.land.lk l hl).len]; omega, fun v H1 e1 tv => ?_⟩
    repeat (walk_at "rd")
    refine ⟨_, _, _, _, _, rfl, p, fire L we ss bs loRow, rfl, land_ex e1 hL, ls_ex e1 hwe, ls_ex e1 hss, ls_ex e1 hbs, ?_, fok, rok, fun v F H2 e2 hv hc => q v F H2 (e1.trans e2) hv hc⟩
    show Tp K H1 v (.tuple ((L.links.map loRow).map eRw))
    rw [List.map_map]
    exact tv
abbrev N_slowest : List Str := ["land", "weather", "starts", "breaks"]
-- slots 0=land 1=weather 2=starts 3=breaks; cells []
theorem sc_slowest : FnScope N_slowest ["land", "weather", "starts", "breaks"] (defScope s_slowest) := ⟨rfl, rfl, rfl, by decide +kernel, rfl, by decide +kernel, by decide +kernel⟩
theorem ok_slowest (T : Tx K mg) : Cal P w K mg base 5 (He.ga K "slowest") ["land", "weather", "starts", "breaks"] (sp_slowest K) := by
  obtain ⟨fd, F⟩ := T.s.c.def_ 16 (d := d_slowest) rfl
  refine ⟨fd, F.ok sc_slowest (fun vs H Q E h => ?_) (fun cdv A outer s H vs Q E hr h => ?_), F.bindsN (fun _ _ _ _ _ _ us hl => match us, hl with | [_, _, _, _], _ => rfl), F.kp⟩
  · obtain ⟨v1, v2, v3, v4, rfl, _⟩ := h
    rfl
  · have hu := hu_of hr
    obtain ⟨v1, v2, v3, v4, rfl, p, L, we, ss, bs, rfl, hL, hwe, hss, hbs, ok, q⟩ := h
    obtain ⟨fok, rok⟩ := ask_fire ok (f := fun o => o.map (·.2)) fun o h => ⟨(tm_pos h).2.1, (tm_pos h).2.2.2⟩
    have l2 := ok.land.l2
    have w2 := ok.land.w2
    refine ⟨_, PSs.nox (pss_one (ps_ret (pe_cal (ok_burning T) hr T.g_burning (pa_cons (pv 0) (pa_cons (pv 1) (pa_cons (pv 2) (pa_cons (pv 3) (pa_cons (pe_cal (ok_most_numbers T) hr T.g_most_numbers (pa_cons (pv 0) pa_nil)) pa_nil)))))))), ?_⟩
    repeat (walk_at "rd")
    refine ⟨_, rfl, p, L, rfl, hL, by omega, fun l hl => by rw [(ok.land.lk l hl).len]; omega, fun v H1 e1 tv => ?_⟩
    repeat (walk_at "rd")
    refine ⟨_, _, _, _, _, rfl, p, fire L we ss bs hiRow, rfl, land_ex e1 hL, ls_ex e1 hwe, ls_ex e1 hss, ls_ex e1 hbs, ?_, fok, rok, fun v F H2 e2 hv hc => q v F H2 (e1.trans e2) hv hc⟩
    show Tp K H1 v (.tuple ((L.links.map hiRow).map eRw))
    rw [List.map_map]
    exact tv
/-! ### states -/
def sp_states (K : PySem.W.Frag) : Sp := fun vs H Q _ => ∃ v1 v2 v3 v4, vs = [v1, v2, v3, v4] ∧ ∃ (p : Addr) (L : LandD) (we : List (Int × Str)) (ss bs : List (Str × Int)), v1 = .ref p ∧ LandAt K H p L ∧ Ls K H v2 (we.map eMP) ∧ Ls K H v3 (ss.map ePM) ∧ Ls K H v4 (bs.map ePM) ∧ AskOk L we ss bs ∧
  ∀ v F F2 H', Ex H H' → Ls K H' v (L.places.map fun s => .tuple [.str s, .str (wordOf (lk F s) (lk F2 s))]) → Closed (fire L we ss bs loRow) F → Q v H'
abbrev N_states : List Str := ["land", "weather", "starts", "breaks", "first", "last", "place", "minute", "other"]
-- slots 0=land 1=weather 2=starts 3=breaks 4=first 5=last 6=place 7=minute 8=other; cells []
theorem sc_states : FnScope N_states ["land", "weather", "starts", "breaks"] (defScope s_states) := ⟨rfl, rfl, rfl, by decide +kernel, rfl, by decide +kernel, by decide +kernel⟩
theorem ok_states (T : Tx K mg) : Cal P w K mg base 6 (He.ga K "states") ["land", "weather", "starts", "breaks"] (sp_states K) := by
  obtain ⟨fd, F⟩ := T.s.c.def_ 18 (d := d_states) rfl
  refine ⟨fd, F.ok sc_states (fun vs H Q E h => ?_) (fun cdv A outer s H vs Q E hr h => ?_), F.bindsN (fun _ _ _ _ _ _ us hl => match us, hl with | [_, _, _, _], _ => rfl), F.kp⟩
  · obtain ⟨v1, v2, v3, v4, rfl, _⟩ := h
    rfl
  · have hu := hu_of hr
    obtain ⟨v1, v2, v3, v4, rfl, p, L, we, ss, bs, rfl, hL, hwe, hss, hbs, ok, q⟩ := h
    have p2 := ok.land.p2
    refine ⟨_, PSs.nox (pss_cons (ps_set (i := 4) sc_states.nd rfl (Or.inl rfl) (pe_cal (ok_fastest T) hr T.g_fastest (pa_cons (pv 0) (pa_cons (pv 1) (pa_cons (pv 2) (pa_cons (pv 3) pa_nil))))))
        (pss_cons (ps_set (i := 5) sc_states.nd rfl (Or.inl rfl) (pe_cal (ok_slowest T) hr T.g_slowest (pa_cons (pv 0) (pa_cons (pv 1) (pa_cons (pv 2) (pa_cons (pv 3) pa_nil))))))
        (pss_one (ps_ret (pe_lc (own := [("place", 6), ("minute", 7), ("other", 8)]) rfl sc_states.nd (piZ K rfl T.f_zip (pa_cons (pv 4) (pa_cons (pv 5) pa_nil))) (blkOk_by (own := [("place", 6), ("minute", 7), ("other", 8)]) (N := N_states) (sc := defScope s_states) (by decide +kernel)) (fun _ _ _ _ _ => (pgT K (n := 2) rfl (pgs_cons (pgT K (n := 2) rfl (pgs_cons (pg_name (i := 6) sc_states.nd rfl (Or.inl rfl)) (pgs_cons (pg_name (i := 7) sc_states.nd rfl (Or.inl rfl)) pgs_nil))) (pgs_cons (pg_name (i := 8) sc_states.nd rfl (Or.inl rfl)) pgs_nil)))) (fun _ _ _ _ _ => pts_nil) (fun _ _ _ _ _ => (pe_tup (pa_cons (pv 6) (pa_cons (pe_cal (ok_word_of T) hr T.g_word_of (pa_cons (pv 7) (pa_cons (pe_ix (ixT K) (pv 8) pe_int (fun _ _ => rfl)) pa_nil))) pa_nil))))))))), ?_⟩
    repeat (walk_at "rd")
    refine ⟨_, _, _, _, rfl, p, L, we, ss, bs, rfl, hL, hwe, hss, hbs, ok, fun v F H1 e1 hv hc => ?_⟩
    repeat (walk_at "rd")
    refine ⟨_, _, _, _, rfl, p, L, we, ss, bs, rfl, land_ex e1 hL, ls_ex e1 hwe, ls_ex e1 hss, ls_ex e1 hbs, ok, fun w' F2 H2 e2 hw hc2 => ?_⟩
    obtain ⟨a1, xs1, rfl, hS1, hT1⟩ := ls_ex e2 hv
    obtain ⟨a2, xs2, rfl, hS2, hT2⟩ := hw
    repeat (walk_at "rd")
    refine r_iZ0 ?_
    repeat (walk_at "rd")
    refine ⟨a1, a2, xs1, xs2, rfl, .inl ⟨hS1, hS2, lc_tp (K := K) (walk_zip (n := L.places.length) (by rw [tpa_maplen hT1, tpa_maplen hT2, Nat.min_self])) L.places rfl (by omega) (fun H3 e3 => ⟨ex_l e3 hS1, ex_l e3 hS2⟩) (fun _ => true) (fun s => .tuple [.str s, .str (wordOf (lk F s) (lk F2 s))]) ?_ ?_⟩⟩
    · rintro i s' x H3 H4 Ky Kn hs e3 ⟨T', u1, u2, rfl, hT', rfl, g1, g2⟩ hy _
      obtain ⟨s1, hs1, t1⟩ := tpa_item hT1 g1
      obtain ⟨s2, hs2, t2⟩ := tpa_item hT2 g2
      cases Option.some.inj (hs.symm.trans hs1)
      cases Option.some.inj (hs.symm.trans hs2)
      have e4 := e3.trans (Ex.new (o := .tup [u1, u2]) hT')
      obtain ⟨b1, y1, y2, rfl, hb1, ty1, ty2⟩ := tp_tup2 (tp_ex e4 t1)
      obtain ⟨b2, z1, z2, rfl, hb2, tz1, tz2⟩ := tp_tup2 (tp_ex e4 t2)
      cases tp_str ty1
      cases tp_o ty2
      cases tp_o tz2
      refine r_gtup (st_of upd_same) rfl ?_
      repeat (walk_at "rd")
      refine r_gtup hb1 rfl ?_
      repeat (walk_at "rd")
      refine ⟨_, _, rfl, lk F s', lk F2 s', rfl, rfl, ?_⟩
      repeat (walk_at "rd")
      refine ⟨sz_of (by show 2 ≤ 100000; decide), fun t nt => ?_⟩
      exact hy _ _ rfl ((Ex.new hT').trans (Ex.new nt)) (.tup (st_of upd_same) (.cons (.str _) (.cons (.str _) .nil)))
    · intro D1 H3 ys _ e3 hd ht
      rw [filter_tt] at ht
      exact q _ F F2 _ ((e1.trans e2).trans e3) ⟨D1, ys, rfl, sq_of hd, ht⟩ hc
end
end EF
end
section
set_option maxHeartbeats 4000000
namespace EF
open PySem PySem.Spec PyProof.Rows PySem.W L2 Evl RZ
section
variable {P : Program} {w : World} {K : PySem.W.Frag} {mg : Str → Option Value} {base : Heap}
/-! ### the plain law: a course never comes ahead of the least minutes -/
theorem last_change (t m : Int) (h : t ≤ m) : ∀ we : List (Int × Str), ∃ s, (s = t ∨ (t < s ∧ ∃ q ∈ we, q.1 = s)) ∧ s ≤ m ∧ t ≤ s ∧ ∀ q ∈ we, q.1 ≤ m → q.1 ≤ s
  | [] => ⟨t, .inl rfl, h, Int.le_refl _, fun _ hq => (nomatch hq)⟩
  | p :: we => by
    obtain ⟨s, h1, h2, h3, h4⟩ := last_change t m h we
    by_cases e : s < p.1 ∧ p.1 ≤ m
    · refine ⟨p.1, .inr ⟨by omega, p, List.mem_cons_self, rfl⟩, e.2, by omega, fun q hq hm => ?_⟩
      rcases List.mem_cons.mp hq with z | z
      · rw [z]; exact Int.le_refl _
      · have := h4 q z hm
        omega
    · refine ⟨s, ?_, h2, h3, fun q hq hm => ?_⟩
      · rcases h1 with z | ⟨z, q, hq, hs⟩
        · exact .inl z
        · exact .inr ⟨z, q, List.mem_cons_of_mem _ hq, hs⟩
      · rcases List.mem_cons.mp hq with z | z
        · rw [z] at hm ⊢
          omega
        · exact h4 q z hm
theorem chs_at {we : List (Int × Str)} {t m : Int} (h : t ≤ m) : ∃ s ∈ chs we t, s ≤ m ∧ blow we s = blow we m := by
  obtain ⟨s, h1, h2, h3, h4⟩ := last_change t m h we
  refine ⟨s, ?_, h2, ?_⟩
  · rcases h1 with z | ⟨z, q, hq, hs⟩
    · rw [z]; exact List.mem_cons_self
    · exact List.mem_cons_of_mem _ (List.mem_map.mpr ⟨q, List.mem_filter.mpr ⟨hq, decide_eq_true (by omega)⟩, hs⟩)
  · unfold blow
    have e : we.filter (fun q => decide (q.1 ≤ s)) = we.filter fun q => decide (q.1 ≤ m) := List.filter_congr fun q hq => by
      have := h4 q hq
      by_cases z : q.1 ≤ s
      · rw [decide_eq_true z, decide_eq_true (by omega)]
      · rw [decide_eq_false z, decide_eq_false (fun y => z (this y))]
    rw [e]
/-- the fire has the place by then -/
def Had (F : List (Str × Int)) (p : Str) (m : Int) : Prop := ∃ t, lk F p = some t ∧ t ≤ m
theorem Had.mono {F : List (Str × Int)} {p : Str} {m m' : Int} (h : Had F p m) (hm : m ≤ m') : Had F p m' := by
  obtain ⟨t, h1, h2⟩ := h
  exact ⟨t, h1, Int.le_trans h2 hm⟩
theorem Had.step {L : LandD} {we : List (Int × Str)} {ss bs F : List (Str × Int)} (hc : Closed (fire L we ss bs loRow) F) {l : Lk} {m e lo hi : Int} (hl : l ∈ L.links) (h : Had F l.one m)
    (ht : l.tm[L.winds.idxOf (blow we m)]? = some (some (lo, hi))) (he : m + lo ≤ e) (hs : ¬ Stop bs l.oth e) : Had F l.oth e := by
  obtain ⟨t, h1, h2⟩ := h
  obtain ⟨i, hi1, hi2⟩ := List.getElem_of_mem hl
  have hli : L.links[i]? = some l := by rw [List.getElem?_eq_getElem hi1, hi2]
  obtain ⟨s, s1, s2, s3⟩ := chs_at (we := we) h2
  have hn : numAt L.winds (loRow l) (blow we s) = some lo := by
    unfold numAt loRow
    rw [s3, List.getElem?_map, ht]
    rfl
  obtain ⟨c, hcv⟩ := caughtV_some s1 hn
  have hle := caughtV_le hcv s1 hn
  have hce : c ≤ e := by omega
  obtain ⟨t', g1, g2⟩ := hc.ln i l (loRow l) t c hli (by show (L.links.map loRow)[i]? = _; rw [List.getElem?_map, hli]; rfl) h1 hcv fun ⟨q, q1, q2, q3⟩ => hs ⟨q, q1, q2, Int.le_trans q3 hce⟩
  exact ⟨t', g1, Int.le_trans g2 hce⟩
end
end EF
end
section
set_option maxHeartbeats 4000000
namespace EF
open PySem PySem.Spec PyProof.Rows PySem.W L2 Evl RZ
section
variable {P : Program} {w : World} {K : PySem.W.Frag} {mg : Str → Option Value} {base : Heap}
/-! ### the law's numbers -/
structure NsOk (ns : List Int) : Prop where
  len : ns.length = 110
  ok : ∀ z ∈ ns, 0 ≤ z ∧ z < 1009
theorem r_app {K : PySem.W.Frag} {i : Nat} {a : Addr} {xs : List V} {te : TE} {σ : L2.St} {H : Hp} {Q : VK} (hv : σ[i]? = some (some (.ref a))) (h : H a = some (.lst xs))
    (q : te σ H fun x H1 => rAppend (.ref a) [x] H1 Q) : tBM K "list" rAppend (tVar i) (tCons te tNil) σ H Q := ⟨_, hv, .inl ⟨rfl, _, sq_of h⟩, q⟩
theorem r_appd {a : Addr} {xs : List V} {x : V} {H : Hp} {Q : VK} (h : H a = some (.lst xs)) (hz : xs.length < 100000) (q : Q .non (upd H a (.lst (xs ++ [x])))) : rAppend (.ref a) [x] H Q := ⟨a, xs, x, rfl, rfl, h, sz_lt hz, q⟩
theorem r_appi {a : Addr} {ns : List Int} {z : Int} {H : Hp} {Q : VK} (h : H a = some (.lst (ns.map V.int))) (hz : ns.length < 100000) (q : ∀ H', H' = upd H a (.lst ((ns ++ [z]).map V.int)) → Q .non H') : rAppend (.ref a) [.int z] H Q :=
  r_appd h (by rw [List.length_map]; exact hz) (q _ (by rw [List.map_append]; rfl))
theorem bits_abs (c : Int) : Builtin.Int.intBits (if c < 0 then -c else c) = Builtin.Int.intBits c := by
  by_cases h : c < 0
  · rw [if_pos h]
    unfold Builtin.Int.intBits
    rw [Int.natAbs_neg]
    have h1 : (c == 0) = false := beq_eq_false_iff_ne.mpr (by omega)
    have h2 : (-c == 0) = false := beq_eq_false_iff_ne.mpr (by omega)
    rw [h1, h2]
  · rw [if_neg h]
theorem all_snoc {ns : List Int} {z : Int} (h : ∀ z ∈ ns, 0 ≤ z ∧ z < 1009) (hz : 0 ≤ z ∧ z < 1009) : ∀ y ∈ ns ++ [z], 0 ≤ y ∧ y < 1009 := fun y hy => by
  rcases List.mem_append.mp hy with w | w
  · exact h y w
  · rw [List.mem_singleton.mp w]; exact hz
def sp_law_row (K : PySem.W.Frag) : Sp := fun vs H Q _ => ∃ v1 v2, vs = [v1, v2] ∧ ∃ (c : Int) (n : Nat), v1 = .int c ∧ v2 = .int n ∧ n ≤ 200 ∧ Builtin.Int.intBits c ≤ 1048576 ∧
  ∀ (a : Addr) (ns : List Int) (H' : Hp), H a = none → Ex H H' → H' a = some (.lst (ns.map V.int)) → ns.length = n → (∀ z ∈ ns, 0 ≤ z ∧ z < 1009) → Q (.ref a) H'
abbrev N_law_row : List Str := ["_law_cell", "_law_many", "_law_row_here", "_law_rest", "_law_mixed", "_law_k"]
-- slots 0=_law_cell 1=_law_many 2=_law_row_here 3=_law_rest 4=_law_mixed 5=_law_k; cells []
theorem sc_law_row : FnScope N_law_row ["_law_cell", "_law_many"] (defScope s_law_row) := ⟨rfl, rfl, rfl, by decide +kernel, rfl, by decide +kernel, by decide +kernel⟩
theorem ok_law_row (T : Tx K mg) : Cal P w K mg base 1 (He.ga K "_law_row") ["_law_cell", "_law_many"] (sp_law_row K) := by
  obtain ⟨fd, F⟩ := T.s.c.def_ 23 (d := d_law_row) rfl
  refine ⟨fd, F.ok sc_law_row (fun vs H Q E h => ?_) (fun cdv A outer s H vs Q E hr h => ?_), F.bindsN (fun _ _ _ _ _ _ us hl => match us, hl with | [_, _], _ => rfl), F.kp⟩
  · obtain ⟨v1, v2, rfl, _⟩ := h
    rfl
  · have hu := hu_of hr
    obtain ⟨v1, v2, rfl, c, n, rfl, rfl, hn, hb, q⟩ := h
    refine ⟨_, PSs.nox (pss_cons (ps_set (i := 2) sc_law_row.nd rfl (Or.inl rfl) (pe_lst pa_nil))
        (pss_cons (ps_set (i := 3) sc_law_row.nd rfl (Or.inl rfl) (pe_callB c_abs (by rfl) T.f_abs (by decide +kernel) (pa_cons (pv 0) pa_nil)))
        (pss_cons (ps_set (i := 4) sc_law_row.nd rfl (Or.inl rfl) (pe_op op_mod (pe_callTy c_int (by rfl) T.f_int (by decide +kernel) (pa_cons (pe_op op_add (pe_op op_mulX (pv 3) pe_int) pe_int) pa_nil)) pe_int))
        (pss_cons (ps_for PassesOwn.never rfl (pi_range1 rfl T.f_range (pa_cons (pv 1) pa_nil)) (pg_name (i := 5) sc_law_row.nd rfl (Or.inl rfl))
          (pss_cons (ps_set (i := 4) sc_law_row.nd rfl (Or.inl rfl) (pe_op op_mod (pe_callTy c_int (by rfl) T.f_int (by decide +kernel) (pa_cons (pe_op op_add (pe_op op_mul (pv 4) pe_int) (pe_op op_mul pe_int (pe_op op_add (pv 5) pe_int))) pa_nil)) pe_int))
          (pss_one (ps_if (pt_cmpR op_ge (pe_callB c_abs (by rfl) T.f_abs (by decide +kernel) (pa_cons (pv 0) pa_nil)) (pe_op op_pow pe_int pe_int) (nomark _))
            (pss_cons (ps_expr (pe_bm PySem.F.plainAttrs_list PySem.F.slot_list_append PySem.F.type_list_append mt_append (pv 2) (pa_cons (pe_op op_mod (pe_callTy c_int (by rfl) T.f_int (by decide +kernel) (pa_cons (pv 3) pa_nil)) pe_int) pa_nil)))
            (pss_one (ps_set (i := 3) sc_law_row.nd rfl (Or.inl rfl) (pe_op op_fdiv (pv 3) pe_int))))
            (pss_one (ps_expr (pe_bm PySem.F.plainAttrs_list PySem.F.slot_list_append PySem.F.type_list_append mt_append (pv 2) (pa_cons (pe_op op_mod (pe_callTy c_int (by rfl) T.f_int (by decide +kernel) (pa_cons (pe_op op_fdiv (pv 4) pe_int) pa_nil)) pe_int) pa_nil))))))))
        (pss_one (ps_ret (pv 2))))))), ?_⟩
    repeat (walk_at "rd")
    refine ⟨Nat.zero_le _, fun L nL => ?_⟩
    have e0 : Ex H (upd H L (.lst [])) := Ex.new nL
    repeat (walk_at "rd")
    refine r_abs ?_
    repeat (walk_at "rd")
    refine r_I (show CMulX _ _ from ?_) ?_
    · unfold CMulX
      rw [bits_abs]
      have : Builtin.Int.intBits 48271 = 16 := by decide
      rw [this]
      omega
    repeat (walk_at "rd")
    generalize (if c < 0 then -c else c) = r
    generalize (r * 48271 + 69621) % 2147483647 = mx
    refine r_iR0 ?_
    repeat (walk_at "rd")
    refine ⟨n, rfl, by omega, by omega, for_it (walk_range (lo := 0) (n := n)) (fun i σ' H' => ∃ (r m : Int) (y : Option V) (ns : List Int), σ' = [some (.int c), some (.int n), some (.ref L), some (.int r), some (.int m), y] ∧ Ex H H' ∧ H' L = some (.lst (ns.map V.int)) ∧ ns.length = i ∧ ∀ z ∈ ns, 0 ≤ z ∧ z < 1009) ?_ (fun _ _ _ _ _ => trivial) ?_ ?_⟩
    · exact ⟨r, mx, none, [], rfl, e0, upd_same, rfl, fun _ h => (nomatch h)⟩
    · rintro i x σ' H' _ hi ⟨r, m, y, ns, rfl, e, hL, hlen, hall⟩ ⟨rfl, rfl⟩
      repeat (walk_at "rd")
      generalize (m * 16807 + 271 * (0 + (i : Int) + 3)) % 2147483629 = m2
      refine r_abs ?_
      repeat (walk_at "rd")
      refine ite_c (fun hc => ?_) fun hc => ?_
      · repeat (walk_at "rd")
        refine r_app rfl hL ?_
        repeat (walk_at "rd")
        refine r_appi hL (by omega) fun H2 e2 => ?_
        subst e2
        repeat (walk_at "rd")
        refine ⟨_, _, _, _, rfl, Ex.mut e nL, upd_same, by rw [List.length_append, hlen]; rfl, all_snoc hall (by omega)⟩
      · repeat (walk_at "rd")
        refine r_app rfl hL ?_
        repeat (walk_at "rd")
        refine r_appi hL (by omega) fun H2 e2 => ?_
        subst e2
        repeat (walk_at "rd")
        refine ⟨_, _, _, _, rfl, Ex.mut e nL, upd_same, by rw [List.length_append, hlen]; rfl, all_snoc hall (by omega)⟩
    · rintro σ' H' ⟨r, m, y, ns, rfl, e, hL, hlen, hall⟩
      repeat (walk_at "rd")
      exact q L ns H' nL e hL hlen hall
end
end EF
end
section
set_option maxHeartbeats 4000000
namespace EF
open PySem PySem.Spec PyProof.Rows PySem.W L2 Evl RZ
section
variable {P : Program} {w : World} {K : PySem.W.Frag} {mg : Str → Option Value} {base : Heap}
def sp_law_numbers (K : PySem.W.Frag) : Sp := fun vs H Q _ => ∃ v1 v2, vs = [v1, v2] ∧ ∃ (a : Addr) (ns : List Int), v1 = .ref a ∧ SqL K H a (ns.map V.int) ∧ ns.length ≤ 63 ∧ (∀ z ∈ ns, Builtin.Int.intBits z ≤ 1048576) ∧ v2 = .int 110 ∧
  ∀ (b : Addr) (ms : List Int) (H' : Hp), Ex H H' → SqL K H' b (ms.map V.int) → NsOk ms → Q (.ref b) H'
abbrev N_law_numbers : List Str := ["_law_script", "_law_many", "_law_cells", "_law_each", "_law_numbers_here", "_law_cell", "_law_number"]
-- slots 0=_law_script 1=_law_many 2=_law_cells 3=_law_each 4=_law_numbers_here 5=_law_cell 6=_law_number; cells []
theorem sc_law_numbers : FnScope N_law_numbers ["_law_script", "_law_many"] (defScope s_law_numbers) := ⟨rfl, rfl, rfl, by decide +kernel, rfl, by decide +kernel, by decide +kernel⟩
theorem ok_law_numbers (T : Tx K mg) : Cal P w K mg base 2 (He.ga K "_law_numbers") ["_law_script", "_law_many"] (sp_law_numbers K) := by
  obtain ⟨fd, F⟩ := T.s.c.def_ 24 (d := d_law_numbers) rfl
  refine ⟨fd, F.ok sc_law_numbers (fun vs H Q E h => ?_) (fun cdv A outer s H vs Q E hr h => ?_), F.bindsN (fun _ _ _ _ _ _ us hl => match us, hl with | [_, _], _ => rfl), F.kp⟩
  · obtain ⟨v1, v2, rfl, _⟩ := h
    rfl
  · have hu := hu_of hr
    obtain ⟨v1, v2, rfl, a, ns, rfl, hS, hn, hb, rfl, q⟩ := h
    refine ⟨_, PSs.nox (pss_cons (ps_set (i := 2) sc_law_numbers.nd rfl (Or.inl rfl) (pe_slice (slL K) (pv 0) po_none (po_some pe_int)))
        (pss_cons (ps_set (i := 3) sc_law_numbers.nd rfl (Or.inl rfl) (pe_op op_add pe_int (pe_op op_fdiv (pv 1) (pe_callB (c_max2 rfl) (by rfl) T.f_max (by decide +kernel) (pa_cons pe_int (pa_cons (pe_callB (lenK K) (by rfl) T.f_len (by decide +kernel) (pa_cons (pv 2) pa_nil)) pa_nil))))))
        (pss_cons (ps_set (i := 4) sc_law_numbers.nd rfl (Or.inl rfl) (pe_lst pa_nil))
        (pss_cons (ps_for PassesOwn.never rfl (piL K (pv 2)) (pg_name (i := 5) sc_law_numbers.nd rfl (Or.inl rfl))
          (pss_one (ps_for PassesOwn.never rfl (piL K (pe_cal (ok_law_row T) hr T.g_law_row (pa_cons (pv 5) (pa_cons (pv 3) pa_nil)))) (pg_name (i := 6) sc_law_numbers.nd rfl (Or.inl rfl))
            (pss_one (ps_expr (pe_bm PySem.F.plainAttrs_list PySem.F.slot_list_append PySem.F.type_list_append mt_append (pv 4) (pa_cons (pv 6) pa_nil)))))))
        (pss_cons (ps_while PassesOwn.never (pt_cmpR op_lt (pe_callB (lenK K) (by rfl) T.f_len (by decide +kernel) (pa_cons (pv 4) pa_nil)) (pv 1) (nomark _))
          (pss_one (ps_expr (pe_bm PySem.F.plainAttrs_list PySem.F.slot_list_append PySem.F.type_list_append mt_append (pv 4) (pa_cons pe_int pa_nil)))))
        (pss_one (ps_ret (pe_slice (slL K) (pv 4) po_none (po_some (pv 1)))))))))), ?_⟩
    repeat (walk_at "rd")
    refine ⟨_, rfl, 63, rfl, a, _, rfl, hS, fun c nc => ?_⟩
    rw [show cutV (ns.map V.int) none (some 63) = ns.map V.int by rw [show (63 : Int) = ((63 : Nat) : Int) from rfl, cut_to, List.take_of_length_le (by rw [List.length_map]; exact hn)]]
    have e1 : Ex H (upd H c (.lst (ns.map V.int))) := Ex.new nc
    have hc1 : upd H c (.lst (ns.map V.int)) c = some (.lst (ns.map V.int)) := upd_same
    generalize upd H c (.lst (ns.map V.int)) = H1 at e1 hc1
    repeat (walk_at "rd")
    refine r_lenL (sq_of hc1) ?_
    repeat (walk_at "rd")
    rw [List.length_map]
    refine r_fdiv ⟨by split <;> omega, by split <;> omega⟩ ?_
    repeat (walk_at "rd")
    have hea : ∃ n : Nat, 1 + 110 / (if (ns.length : Int) > 1 then (ns.length : Int) else 1) = n ∧ n ≤ 111 := by
      have h1 : 0 ≤ 110 / (if (ns.length : Int) > 1 then (ns.length : Int) else 1) := Int.ediv_nonneg (by omega) (by split <;> omega)
      have h2 : 110 / (if (ns.length : Int) > 1 then (ns.length : Int) else 1) ≤ 110 := Int.ediv_le_self _ (by omega)
      exact ⟨(1 + 110 / (if (ns.length : Int) > 1 then (ns.length : Int) else 1)).toNat, by omega, by omega⟩
    obtain ⟨n, hea, hn2⟩ := hea
    rw [hea]
    refine ⟨Nat.zero_le _, fun L nL => ?_⟩
    have hcL : c ≠ L := fun z => by rw [z, nL] at hc1; cases hc1
    repeat (walk_at "rd")
    refine r_iL rfl (sq_of (show upd H1 L (.lst []) c = some (.lst (ns.map V.int)) by rw [upd_ne hcL]; exact hc1)) ?_
    refine f_lB (B := H1) (enc := PyData.int) (l := ns) (sq_of hc1) tpa_of_ints (fun i σ' H' => ∃ (y5 y6 : Option V) (ms : List Int), σ' = [some (.ref a), some (.int 110), some (.ref c), some (.int n), some (.ref L), y5, y6] ∧ Ex H1 H' ∧ H' L = some (.lst (ms.map V.int)) ∧ ms.length ≤ i * 111 ∧ ∀ z ∈ ms, 0 ≤ z ∧ z < 1009) ?_ ?_ ?_ ?_
    · exact ⟨none, none, [], rfl, Ex.new nL, upd_same, Nat.zero_le _, fun _ h => (nomatch h)⟩
    · rintro i σ' H' ⟨_, _, _, _, e, _⟩
      exact e
    · rintro i z x σ' H' hz tx ⟨y5, y6, ms, rfl, e, hL, hml, hall⟩
      have hi : i < 63 := Nat.lt_of_lt_of_le (List.getElem?_eq_some_iff.mp hz).1 hn
      cases tp_int tx
      repeat (walk_at "rd")
      refine r_iL0 ?_
      repeat (walk_at "rd")
      refine ⟨_, _, rfl, z, n, rfl, rfl, by omega, hb z (List.mem_of_getElem? hz), fun r rs H3 nr e3 hr hrl hrall => ?_⟩
      have hrL : r ≠ L := fun y => by rw [y, hL] at nr; cases nr
      refine ⟨r, rfl, ⟨_, sq_of hr⟩, f_lB (B := er L H3) (enc := PyData.int) (l := rs) (xs := rs.map V.int) (sq_of (by rw [er_ne hrL]; exact hr)) tpa_of_ints (fun j σ' H' => ∃ (y6 : Option V) (ms2 : List Int), σ' = [some (.ref a), some (.int 110), some (.ref c), some (.int n), some (.ref L), some (.int z), y6] ∧ Ex (er L H3) H' ∧ Ex H1 H' ∧ H' L = some (.lst (ms2.map V.int)) ∧ ms2.length = ms.length + j ∧ ∀ z ∈ ms2, 0 ≤ z ∧ z < 1009) ?_ ?_ ?_ ?_⟩
      · exact ⟨_, ms, rfl, ex_er, e.trans e3, e3 _ _ hL, rfl, hall⟩
      · rintro j σ' H' ⟨_, _, _, e', _⟩
        exact e'
      · rintro j z2 x σ' H' hz2 tx ⟨y6', ms2, rfl, eB, e', hL', hml', hall'⟩
        cases tp_int tx
        have hj : j < n := by rw [← hrl]; exact (List.getElem?_eq_some_iff.mp hz2).1
        repeat (walk_at "rd")
        refine r_app rfl hL' ?_
        repeat (walk_at "rd")
        refine r_appi hL' (by omega) fun H4 e4 => ?_
        subst e4
        repeat (walk_at "rd")
        exact ⟨_, _, rfl, Ex.mut eB er_self, Ex.mut e' nL, upd_same, by rw [List.length_append, hml']; rfl, all_snoc hall' (hrall z2 (List.mem_of_getElem? hz2))⟩
      · rintro σ' H' ⟨y6', ms2, rfl, eB, e', hL', hml', hall'⟩
        refine ⟨_, _, ms2, rfl, e', hL', ?_, hall'⟩
        rw [hml', hrl]
        have : (i + 1) * 111 = i * 111 + 111 := Nat.succ_mul i 111
        omega
    · rintro σ' H' ⟨y5, y6, ms, rfl, e, hL, hml, hall⟩
      repeat (walk_at "rd")
      refine ⟨fun m σ' H' => ∃ (y5 y6 : Option V) (ms : List Int), σ' = [some (.ref a), some (.int 110), some (.ref c), some (.int n), some (.ref L), y5, y6] ∧ Ex H1 H' ∧ H' L = some (.lst (ms.map V.int)) ∧ (∀ z ∈ ms, 0 ≤ z ∧ z < 1009) ∧ m = 110 - ms.length, ⟨_, _, _, ms, rfl, e, hL, hall, rfl⟩, ?_⟩
      rintro m σ' H' ⟨y5, y6, ms, rfl, e, hL, hall, rfl⟩
      repeat (walk_at "rd")
      refine r_lenL (sq_of hL) ?_
      rw [List.length_map]
      repeat (walk_at "rd")
      refine ite_c (fun hlt => ?_) fun hlt => ?_
      · have hlt := of_decide_eq_true hlt
        refine ⟨fun σ' H' => ∃ (y5 y6 : Option V) (ms2 : List Int), σ' = [some (.ref a), some (.int 110), some (.ref c), some (.int n), some (.ref L), y5, y6] ∧ Ex H1 H' ∧ H' L = some (.lst (ms2.map V.int)) ∧ (∀ z ∈ ms2, 0 ≤ z ∧ z < 1009) ∧ ms2.length = ms.length + 1, ?_, ?_⟩
        · rintro σ' H' ⟨y5, y6, ms2, h1, h2, h3, h4, h5⟩
          exact ⟨_, by omega, _, _, ms2, h1, h2, h3, h4, rfl⟩
        · repeat (walk_at "rd")
          refine r_app rfl hL ?_
          repeat (walk_at "rd")
          refine r_appi hL (by omega) fun H4 e4 => ?_
          subst e4
          repeat (walk_at "rd")
          exact ⟨_, _, _, rfl, Ex.mut e nL, upd_same, all_snoc hall (by decide), by rw [List.length_append]; rfl⟩
      · have hlt := of_decide_eq_false hlt
        repeat (walk_at "rd")
        refine ⟨_, rfl, _, rfl, 110, rfl, L, _, rfl, sq_of hL, fun b nb => ?_⟩
        rw [show cutV (ms.map V.int) none (some 110) = (ms.take 110).map V.int by rw [show (110 : Int) = ((110 : Nat) : Int) from rfl, cut_to, List.map_take]]
        exact q b _ _ ((e1.trans e).trans (Ex.new nb)) (sq_of upd_same) ⟨by rw [List.length_take]; omega, fun z hz => hall z (List.mem_of_mem_take hz)⟩
end
end EF
end
section
set_option maxHeartbeats 4000000
namespace EF
open PySem PySem.Spec PyProof.Rows PySem.W L2 Evl RZ
section
variable {P : Program} {w : World} {K : PySem.W.Frag} {mg : Str → Option Value} {base : Heap}
/-! ### texts as lists of signs -/
def tls (z : Str) : List Nat := z.cps.toList
theorem tls_len (z : Str) : (tls z).length = z.length := Array.length_toList
theorem tls_app (a b : Str) : tls (a ++ b) = tls a ++ tls b := by
  show (a.cps ++ b.cps).toList = _
  rw [Array.toList_append]
  rfl
theorem tls_to (z : Str) (n : Nat) : tls (cutS z none (some (n : Int))) = (tls z).take n := by
  unfold cutS tls
  rw [show HT.sIx z.length z.length (some (n : Int)) = min n z.length from HT.sIx_nat _ _ n, HT.sIx_none, Nat.sub_zero, List.drop_zero]
  show List.take _ _ = _
  have e : z.length = z.cps.toList.length := Array.length_toList.symm
  by_cases h : n ≤ z.length
  · rw [Nat.min_eq_left h]
  · rw [Nat.min_eq_right (by omega), e, List.take_length, List.take_of_length_le (by omega)]
theorem tls_from (z : Str) (n : Nat) : tls (cutS z (some (n : Int)) none) = (tls z).drop n := by
  unfold cutS tls
  rw [show HT.sIx z.length 0 (some (n : Int)) = min n z.length from HT.sIx_nat _ _ n, HT.sIx_none]
  show List.take _ _ = _
  have e : z.length = z.cps.toList.length := Array.length_toList.symm
  by_cases h : n ≤ z.length
  · rw [Nat.min_eq_left h, List.take_of_length_le (by rw [List.length_drop]; omega)]
  · rw [Nat.min_eq_right (by omega), Nat.sub_self, List.take_zero, List.drop_of_length_le (by omega)]
abbrev sgl : List Nat := signs.cps.toList
theorem sgl_len : sgl.length = 36 := by decide +kernel
theorem sgl_nd : sgl.Nodup := by decide +kernel
def Sg (z : Str) : Prop := ∀ c ∈ tls z, c ∈ sgl
def chr (i : Int) : Str := ⟨#[sgl.getD i.toNat 0]⟩
theorem chr_tls (i : Int) : tls (chr i) = [sgl.getD i.toNat 0] := rfl
theorem sgl_at {i : Int} (h0 : 0 ≤ i) (h1 : i < 36) : sgl[i.toNat]? = some (sgl.getD i.toNat 0) := by
  rw [List.getD_eq_getElem?_getD, List.getElem?_eq_getElem (by rw [sgl_len]; omega)]
  rfl
theorem chr_sg {i : Int} (h0 : 0 ≤ i) (h1 : i < 36) : Sg (chr i) := fun c hc => by
  rw [chr_tls] at hc
  rw [List.mem_singleton.mp hc]
  exact List.mem_of_getElem? (sgl_at h0 h1)
theorem sg_app {a b : Str} (ha : Sg a) (hb : Sg b) : Sg (a ++ b) := fun c hc => by
  rw [tls_app] at hc
  exact (List.mem_append.mp hc).elim (ha c) (hb c)
theorem sg_join : ∀ ys : List Str, (∀ y ∈ ys, Sg y ∧ y.length = 1) → Sg (Str.join "" ys) ∧ (Str.join "" ys).length = ys.length
  | [], _ => ⟨fun _ h => (nomatch h), rfl⟩
  | [y], h => ⟨(h y List.mem_cons_self).1, (h y List.mem_cons_self).2⟩
  | y :: x :: r, h => by
    obtain ⟨h1, h2⟩ := h y List.mem_cons_self
    obtain ⟨i1, i2⟩ := sg_join (x :: r) fun z hz => h z (List.mem_cons_of_mem _ hz)
    show Sg (y ++ "" ++ Str.join "" (x :: r)) ∧ (y ++ "" ++ Str.join "" (x :: r)).length = _
    refine ⟨sg_app (sg_app h1 fun _ h => (nomatch h)) i1, ?_⟩
    rw [← tls_len, tls_app, tls_app, List.length_append, List.length_append, tls_len, tls_len, tls_len, h2, i2]
    show 1 + 0 + (r.length + 1) = r.length + 1 + 1
    omega
theorem atI_int {α : Type} {xs : List α} {i : Int} {v : α} (h0 : 0 ≤ i) (h : xs[i.toNat]? = some v) : atI xs i = some v := by
  have e : i = ((i.toNat : Nat) : Int) := by omega
  rw [e]
  exact atI_nat h
theorem r_sgn {i : Int} {H : Hp} {Q : VK} (h0 : 0 ≤ i) (h1 : i < 36) (q : Q (.str (chr i)) H) : rIxS (.str signs) (.int i) H Q :=
  r_ixS (sz_of (by decide +kernel)) (atI_int h0 (sgl_at h0 h1)) q
/-- a name of the law: a letter, signs, a sign, signs -/
theorem name_ok {a b : Str} {i j : Int} (hi0 : 0 ≤ i) (hi1 : i < 26) (hj0 : 0 ≤ j) (hj1 : j < 36) (ha : Sg a) (hb : Sg b) (hl : a.length + b.length ≤ 10) :
    NameOk (chr i ++ a ++ chr j ++ b) ∧ (tls (chr i ++ a ++ chr j ++ b))[0]? = some (sgl.getD i.toNat 0) := by
  have e : tls (chr i ++ a ++ chr j ++ b) = sgl.getD i.toNat 0 :: (tls a ++ (sgl.getD j.toNat 0 :: tls b)) := by
    rw [tls_app, tls_app, tls_app, chr_tls, chr_tls]
    simp
  have hlen : (chr i ++ a ++ chr j ++ b).length = 2 + (a.length + b.length) := by
    rw [← tls_len, e, List.length_cons, List.length_append, List.length_cons, tls_len, tls_len]
    omega
  have hall : Sg (chr i ++ a ++ chr j ++ b) := sg_app (sg_app (sg_app (chr_sg hi0 (by omega)) ha) (chr_sg hj0 hj1)) hb
  have h0 : (tls (chr i ++ a ++ chr j ++ b))[0]? = some (sgl.getD i.toNat 0) := by rw [e]; rfl
  refine ⟨⟨by omega, by omega, ⟨_, h0, ?_⟩, hall⟩, h0⟩
  have hk : ∀ k : Fin 26, sgl.getD k.val 0 ∉ figures.cps.toList := by decide +kernel
  exact hk ⟨i.toNat, by omega⟩
theorem sgl_inj {i j : Int} (hi0 : 0 ≤ i) (hi1 : i < 36) (hj0 : 0 ≤ j) (hj1 : j < 36) (h : sgl.getD i.toNat 0 = sgl.getD j.toNat 0) : i = j := by
  have h1 := sgl_at hi0 hi1
  have h2 := sgl_at hj0 hj1
  rw [h] at h1
  obtain ⟨g1, e1⟩ := List.getElem?_eq_some_iff.mp h1
  obtain ⟨g2, e2⟩ := List.getElem?_eq_some_iff.mp h2
  have := (List.getElem_inj sgl_nd).mp (e1.trans e2.symm)
  omega
/-- a slot that is set or left -/
theorem ite_set {c : Bool} {te : TE} {D : Ends} {σ : L2.St} {H : Hp} {i : Nat} {v0 v1 : V} (h0 : σ[i]? = some (some v0)) (h1 : ∀ Q : VK, Q v1 H → te σ H Q) (q : ∀ v, v = v0 ∨ v = v1 → D.nx (σ.set i (some v)) H) : if c = true then tAsg te (gName i) D σ H else tNext D σ H := by
  cases c with
  | true => exact iteT (h1 _ (q v1 (.inr rfl)))
  | false =>
    refine iteF ?_
    have e : σ.set i (some v0) = σ := by
      obtain ⟨g1, g2⟩ := List.getElem?_eq_some_iff.mp h0
      rw [← g2]
      exact List.set_getElem_self g1
    have z := q v0 (.inl rfl)
    rw [e] at z
    exact z
theorem r_lenS {z : Str} {H : Hp} {Q : VK} (h : z.length ≤ 10) (q : Q (.int z.length) H) : rLenZ [.str z] H Q := r_lenZ (sz_of (by omega)) q
/-! ### _law_names -/
def sp_law_names (K : PySem.W.Frag) : Sp := fun vs H Q _ => ∃ v1 v2, vs = [v1, v2] ∧ ∃ (z : Int) (n : Nat), v1 = .int z ∧ v2 = .int n ∧ 0 ≤ z ∧ z < 1009 ∧ n ≤ 10 ∧
  ∀ (a : Addr) (ss : List Str) (H' : Hp), Ex H H' → SqL K H' a (ss.map V.str) → ss.length = n → (∀ s ∈ ss, NameOk s) → ss.Nodup → Q (.ref a) H'
abbrev N_law_names : List Str := ["_law_number", "_law_many", "_law_letters", "_law_size", "_law_rest", "_law_place", "_law_names_here", "_law_k", "_law_own", "_law_spot", "_law_step"]
-- slots 0=_law_number 1=_law_many 2=_law_letters 3=_law_size 4=_law_rest 5=_law_place 6=_law_names_here 7=_law_k 8=_law_own 9=_law_spot 10=_law_step; cells ['_law_letters', '_law_number']
theorem sc_law_names : FnScope N_law_names ["_law_number", "_law_many"] (defScope s_law_names) := ⟨rfl, rfl, rfl, by decide +kernel, rfl, by decide +kernel, by decide +kernel⟩
theorem ok_law_names (T : Tx K mg) : Cal P w K mg base 1 (He.ga K "_law_names") ["_law_number", "_law_many"] (sp_law_names K) := by
  obtain ⟨fd, F⟩ := T.s.c.def_ 25 (d := d_law_names) rfl
  refine ⟨fd, F.ok sc_law_names (fun vs H Q E h => ?_) (fun cdv A outer s H vs Q E hr h => ?_), F.bindsN (fun _ _ _ _ _ _ us hl => match us, hl with | [_, _], _ => rfl), F.kp⟩
  · obtain ⟨v1, v2, rfl, _⟩ := h
    rfl
  · have hu := hu_of hr
    obtain ⟨v1, v2, rfl, z, n, rfl, rfl, hz0, hz1, hn, q⟩ := h
    refine ⟨_, PSs.nox (pss_cons (ps_set (i := 2) sc_law_names.nd rfl (Or.inr rfl) pe_str)
        (pss_cons (ps_set (i := 3) sc_law_names.nd rfl (Or.inl rfl) (pe_op op_mod (pe_callTy c_int (by rfl) T.f_int (by decide +kernel) (pa_cons (pv 0) pa_nil)) pe_int))
        (pss_cons (ps_set (i := 4) sc_law_names.nd rfl (Or.inl rfl) (pe_join pe_str (pe_lc (own := [("_law_k", 7)]) rfl sc_law_names.nd (pi_range1 rfl T.f_range (pa_cons (pv 3) pa_nil)) (blkOk_by (own := [("_law_k", 7)]) (N := N_law_names) (sc := defScope s_law_names) (by decide +kernel)) (fun _ _ _ _ _ => (pg_name (i := 7) sc_law_names.nd rfl (Or.inl rfl))) (fun _ _ _ _ _ => pts_nil) (fun _ _ _ _ _ => (pe_ix ix_str (pv 2) (pe_op op_mod (pe_callTy c_int (by rfl) T.f_int (by decide +kernel) (pa_cons (pe_op op_add (pv 0) (pe_op op_mul (pe_op op_mul pe_int (pv 7)) (pv 7))) pa_nil)) pe_int) (fun _ _ => rfl))))))
        (pss_cons (ps_set (i := 5) sc_law_names.nd rfl (Or.inl rfl) (pe_op op_mod (pe_callTy c_int (by rfl) T.f_int (by decide +kernel) (pa_cons (pe_op op_fdiv (pv 0) pe_int) pa_nil)) (pe_op op_add (pv 3) pe_int)))
        (pss_cons (ps_set (i := 6) sc_law_names.nd rfl (Or.inl rfl) (pe_lst pa_nil))
        (pss_cons (ps_for PassesOwn.never rfl (pi_range1 rfl T.f_range (pa_cons (pv 1) pa_nil)) (pg_name (i := 7) sc_law_names.nd rfl (Or.inl rfl))
          (pss_cons (ps_set (i := 8) sc_law_names.nd rfl (Or.inl rfl) (pv 4))
          (pss_cons (ps_if (pt_cmpR op_eq (pe_op op_mod (pe_callTy c_int (by rfl) T.f_int (by decide +kernel) (pa_cons (pe_op op_add (pe_op op_fdiv (pv 0) pe_int) (pv 7)) pa_nil)) pe_int) pe_int (nomark _))
            (pss_one (ps_set (i := 8) sc_law_names.nd rfl (Or.inl rfl) (pe_slice sl_str (pv 4) (po_some pe_int) po_none)))
            pss_nil)
          (pss_cons (ps_set (i := 9) sc_law_names.nd rfl (Or.inl rfl) (pe_callB (c_min2 rfl) (by rfl) T.f_min (by decide +kernel) (pa_cons (pv 5) (pa_cons (pe_callB c_lenZ (by rfl) T.f_len (by decide +kernel) (pa_cons (pv 8) pa_nil)) pa_nil))))
          (pss_cons (ps_set (i := 10) sc_law_names.nd rfl (Or.inl rfl) pe_int)
          (pss_cons (ps_if (pt_cmpR op_eq (pe_op op_mod (pe_callTy c_int (by rfl) T.f_int (by decide +kernel) (pa_cons (pe_op op_fdiv (pv 0) pe_int) pa_nil)) pe_int) pe_int (nomark _))
            (pss_one (ps_set (i := 10) sc_law_names.nd rfl (Or.inl rfl) pe_int))
            pss_nil)
          (pss_one (ps_expr (pe_bm PySem.F.plainAttrs_list PySem.F.slot_list_append PySem.F.type_list_append mt_append (pv 6) (pa_cons (pe_op o_addZ (pe_op o_addZ (pe_op o_addZ (pe_ix ix_str (pv 2) (pe_op op_mod (pe_callTy c_int (by rfl) T.f_int (by decide +kernel) (pa_cons (pe_op op_add (pv 0) (pe_op op_mul pe_int (pv 7))) pa_nil)) pe_int) (fun _ _ => rfl)) (pe_slice sl_str (pv 8) po_none (po_some (pv 9)))) (pe_ix ix_str (pv 2) (pe_op op_mod (pe_callTy c_int (by rfl) T.f_int (by decide +kernel) (pa_cons (pe_op op_add (pv 0) (pe_op op_mul (pv 10) (pv 7))) pa_nil)) pe_int) (fun _ _ => rfl))) (pe_slice sl_str (pv 8) (po_some (pv 9)) po_none)) pa_nil))))))))))
        (pss_one (ps_ret (pv 6))))))))), ?_⟩
    repeat (walk_at "rd")
    have hs0 : 0 ≤ z % 11 := by omega
    have hs1 : z % 11 < 11 := by omega
    refine ⟨⟨_, rfl⟩, ?_⟩
    repeat (walk_at "rd")
    refine r_iR0 ?_
    repeat (walk_at "rd")
    refine ⟨_, rfl, by omega, by omega, lc_r1 (K := K) (n := (z % 11).toNat) (by omega) (fun k => .str (chr ((z + 7 * (k : Int) * (k : Int)) % 36))) ?_ ?_⟩
    · intro i H1 Ky Kn hi e hy
      repeat (walk_at "rd")
      refine r_mul (.inr ⟨by omega, by omega⟩) ?_
      repeat (walk_at "rd")
      refine r_sgn (by omega) (by omega) ?_
      exact hy _ _ (Ex.refl _) (.str _)
    intro D1 H1 ys0 nD1 e1 hd1 ht1
    rw [show (List.range (z % 11).toNat).map (fun k : Nat => PyData.str (chr ((z + 7 * (k : Int) * (k : Int)) % 36))) = ((List.range (z % 11).toNat).map fun k : Nat => chr ((z + 7 * (k : Int) * (k : Int)) % 36)).map PyData.str by rw [List.map_map]; rfl] at ht1
    have ey := tpa_strs ht1
    subst ey
    have hall : ∀ y ∈ (List.range (z % 11).toNat).map (fun k : Nat => chr ((z + 7 * (k : Int) * (k : Int)) % 36)), Sg y ∧ y.length = 1 := fun y hy => by
      obtain ⟨k, _, rfl⟩ := List.mem_map.mp hy
      exact ⟨chr_sg (by omega) (by omega), rfl⟩
    have hyl : ((List.range (z % 11).toNat).map (fun k : Nat => chr ((z + 7 * (k : Int) * (k : Int)) % 36))).length = (z % 11).toNat := by rw [List.length_map, List.length_range]
    generalize (List.range (z % 11).toNat).map (fun k : Nat => chr ((z + 7 * (k : Int) * (k : Int)) % 36)) = ys at hall hyl hd1
    obtain ⟨j1, j2⟩ := sg_join ys hall
    have hsum : (ys.map (·.length)).sum ≤ ys.length := by
      have : ∀ l : List Str, (∀ y ∈ l, Sg y ∧ y.length = 1) → (l.map (·.length)).sum ≤ l.length := fun l => by
        induction l with
        | nil => exact fun _ => Nat.le_refl _
        | cons x r ih =>
          intro h
          have h1 := (h x List.mem_cons_self).2
          have h2 := ih fun y hy => h y (List.mem_cons_of_mem _ hy)
          rw [List.map_cons, List.sum_cons, List.length_cons]
          omega
      exact this ys hall
    refine ⟨_, D1, ys, rfl, rfl, .inl (sq_of hd1), by show _ + _ * 0 ≤ _; omega, ?_⟩
    rw [TL.join_eq]
    have hrl : (Str.join "" ys).length ≤ 10 := by omega
    generalize Str.join "" ys = rest at j1 hrl
    repeat (walk_at "rd")
    refine r_mod (by omega) ?_
    have hpl0 : 0 ≤ z / 11 % (z % 11 + 1) := Int.emod_nonneg _ (by omega)
    generalize z / 11 % (z % 11 + 1) = pl at hpl0
    repeat (walk_at "rd")
    refine ⟨Nat.zero_le _, fun L nL => ?_⟩
    have nLH : H L = none := fresh_back e1 nL
    repeat (walk_at "rd")
    refine r_iR0 ?_
    repeat (walk_at "rd")
    refine ⟨n, rfl, by omega, by omega, for_it (walk_range (lo := 0) (n := n)) (fun i σ' H' => ∃ (y7 y8 y9 y10 : Option V) (ss : List Str), σ' = [some (.int z), some (.int n), some (.str signs), some (.int (z % 11)), some (.str rest), some (.int pl), some (.ref L), y7, y8, y9, y10] ∧ Ex H H' ∧ H' L = some (.lst (ss.map V.str)) ∧ ss.length = i ∧ ∀ (j : Nat) s, ss[j]? = some s → NameOk s ∧ (tls s)[0]? = some (sgl.getD ((z + 3 * (j : Int)) % 26).toNat 0)) ?_ (fun _ _ _ _ _ => trivial) ?_ ?_⟩
    · exact ⟨none, none, none, none, [], rfl, e1.trans (Ex.new nL), upd_same, rfl, fun _ _ h => (nomatch h)⟩
    · rintro i x σ' H' _ hi ⟨y7, y8, y9, y10, ss, rfl, e, hL, hlen, hss⟩ ⟨rfl, rfl⟩
      repeat (walk_at "rd")
      refine ite_set (v0 := .str rest) (v1 := .str (cutS rest (some ((1 : Nat) : Int)) none)) rfl (fun Q q => ⟨_, rfl, 1, rfl, rest, rfl, sz_of (by omega), q⟩) fun v hv => ?_
      have hv : ∃ own, v = .str own ∧ Sg own ∧ own.length ≤ 10 := by
        rcases hv with rfl | rfl
        · exact ⟨_, rfl, j1, hrl⟩
        · refine ⟨_, rfl, fun c hc => j1 c ?_, ?_⟩
          · rw [tls_from] at hc
            exact List.mem_of_mem_drop hc
          · rw [← tls_len, tls_from, List.length_drop, tls_len]
            omega
      obtain ⟨own, rfl, ho1, ho2⟩ := hv
      repeat (walk_at "rd")
      refine r_lenS ho2 ?_
      repeat (walk_at "rd")
      have hsp : ∃ sp : Nat, (if (own.length : Int) < pl then (own.length : Int) else pl) = sp ∧ sp ≤ own.length := ⟨(if (own.length : Int) < pl then (own.length : Int) else pl).toNat, by split <;> omega, by split <;> omega⟩
      obtain ⟨sp, hsp, hspl⟩ := hsp
      rw [hsp]
      repeat (walk_at "rd")
      refine ite_set (v0 := .int 5) (v1 := .int 31) rfl (fun Q q => q) fun v hv => ?_
      have hv : ∃ st, v = .int st ∧ 0 ≤ st ∧ st < 100 := by
        rcases hv with rfl | rfl
        · exact ⟨_, rfl, by omega, by omega⟩
        · exact ⟨_, rfl, by omega, by omega⟩
      obtain ⟨st, rfl, hst0, hst1⟩ := hv
      repeat (walk_at "rd")
      refine r_app rfl hL ?_
      repeat (walk_at "rd")
      refine r_sgn (by omega) (by omega) ?_
      have hc1 : (chr ((z + 3 * (0 + (i : Int))) % 26)).length = 1 := rfl
      have hto : (cutS own none (some (sp : Int))).length = sp := by rw [← tls_len, tls_to, List.length_take, tls_len]; omega
      have hfr : (cutS own (some (sp : Int)) none).length = own.length - sp := by rw [← tls_len, tls_from, List.length_drop, tls_len]
      have app_len : ∀ a b : Str, (a ++ b).length = a.length + b.length := fun a b => by rw [← tls_len, tls_app, List.length_append, tls_len, tls_len]
      refine ⟨_, rfl, _, rfl, sp, rfl, own, rfl, sz_of (by omega), ?_⟩
      refine r_addZ (sz_of (by omega)) ?_
      repeat (walk_at "rd")
      refine r_mul (.inl ⟨by omega, by omega⟩) ?_
      repeat (walk_at "rd")
      refine r_sgn (by omega) (by omega) ?_
      have hc2 : (chr ((z + st * (0 + (i : Int))) % 36)).length = 1 := rfl
      refine r_addZ (sz_of (by rw [app_len]; omega)) ?_
      refine ⟨_, rfl, _, rfl, sp, rfl, own, rfl, sz_of (by omega), ?_⟩
      refine r_addZ (sz_of (by rw [app_len, app_len]; omega)) ?_
      have hln : ss.length < 100000 := by omega
      refine r_appd hL (by rw [List.length_map]; exact hln) ?_
      repeat (walk_at "rd")
      obtain ⟨ok1, ok2⟩ := name_ok (a := cutS own none (some (sp : Int))) (b := cutS own (some (sp : Int)) none) (i := (z + 3 * (0 + (i : Int))) % 26) (j := (z + st * (0 + (i : Int))) % 36) (by omega) (by omega) (by omega) (by omega)
        (fun c hc => ho1 c (by rw [tls_to] at hc; exact List.mem_of_mem_take hc)) (fun c hc => ho1 c (by rw [tls_from] at hc; exact List.mem_of_mem_drop hc)) (by omega)
      refine ⟨_, _, _, _, ss ++ [_], rfl, Ex.mut e nLH, by rw [upd_same, List.map_append]; rfl, by rw [List.length_append, hlen]; rfl, fun j s hj => ?_⟩
      by_cases hji : j < ss.length
      · rw [List.getElem?_append_left hji] at hj
        exact hss j s hj
      · rw [List.getElem?_append_right (by omega)] at hj
        have hj0 : j - ss.length = 0 := by
          by_cases y : j - ss.length = 0
          · exact y
          · rw [List.getElem?_eq_none (by rw [List.length_singleton]; omega)] at hj
            cases hj
        rw [hj0] at hj
        have hj := Option.some.inj hj
        rw [← hj, show (j : Int) = 0 + (i : Int) by omega]
        exact ⟨ok1, ok2⟩
    · rintro σ' H' ⟨y7, y8, y9, y10, ss, rfl, e, hL, hlen, hss⟩
      repeat (walk_at "rd")
      refine q L ss H' e (sq_of hL) hlen (fun s hs => ?_) ?_
      · obtain ⟨j, hj, e2⟩ := List.getElem_of_mem hs
        exact (hss j s (by rw [List.getElem?_eq_getElem hj, e2])).1
      · refine List.pairwise_iff_getElem.mpr fun i j hi hj hij e2 => ?_
        have h1 := (hss j _ (List.getElem?_eq_getElem hj)).2
        have h2 := (hss i _ (List.getElem?_eq_getElem hi)).2
        rw [e2, h1] at h2
        have := sgl_inj (by omega) (by omega) (by omega) (by omega) (Option.some.inj h2)
        omega
end
end EF
end
section
set_option maxHeartbeats 4000000
namespace EF
open PySem PySem.Spec PyProof.Rows PySem.W L2 Evl RZ
section
variable {P : Program} {w : World} {K : PySem.W.Frag} {mg : Str → Option Value} {base : Heap}
/-! ### readings of the law's lists -/
theorem r_num {p : Addr} {ns : List Int} {H : Hp} {Q : VK} {i : Int} (h : SqL K H p (ns.map V.int)) (ok : NsOk ns) (h0 : 0 ≤ i) (h1 : i < 110) (q : ∀ z, 0 ≤ z → z < 1009 → Q (.int z) H) : rIxL K (.ref p) (.int i) H Q := by
  have hl : i.toNat < ns.length := by rw [ok.len]; omega
  have e : ns[i.toNat]? = some ns[i.toNat] := List.getElem?_eq_getElem hl
  obtain ⟨z0, z1⟩ := ok.ok _ (List.mem_of_getElem? e)
  exact r_ixL h (atI_int h0 (by rw [List.getElem?_map, e]; rfl)) (q _ z0 z1)
theorem r_strL {p : Addr} {ss : List Str} {H : Hp} {Q : VK} {i : Int} (h : SqL K H p (ss.map V.str)) (h0 : 0 ≤ i) (h1 : i < ss.length) (q : ∀ s, ss[i.toNat]? = some s → Q (.str s) H) : rIxL K (.ref p) (.int i) H Q := by
  have hl : i.toNat < ss.length := by omega
  have e : ss[i.toNat]? = some ss[i.toNat] := List.getElem?_eq_getElem hl
  exact r_ixL h (atI_int h0 (by rw [List.getElem?_map, e]; rfl)) (q _ e)
theorem r_strT {p : Addr} {ss : List Str} {H : Hp} {Q : VK} {i : Int} (h : SqT K H p (ss.map V.str)) (h0 : 0 ≤ i) (h1 : i < ss.length) (q : ∀ s, ss[i.toNat]? = some s → Q (.str s) H) : rIxT K (.ref p) (.int i) H Q := by
  have hl : i.toNat < ss.length := by omega
  have e : ss[i.toNat]? = some ss[i.toNat] := List.getElem?_eq_getElem hl
  exact r_ixT h (atI_int h0 (by rw [List.getElem?_map, e]; rfl)) (q _ e)
theorem ite_blk {c : Bool} {tb : TS} {D : Ends} {σ : L2.St} {H : Hp} {i : Nat} {v0 v1 : V} (h0 : σ[i]? = some (some v0)) (h1 : ∀ N : L2.St → Hp → Prop, N (σ.set i (some v1)) H → tb { D with nx := N } σ H) (q : ∀ v, v = v0 ∨ v = v1 → D.nx (σ.set i (some v)) H) : if c = true then tb D σ H else tNext D σ H := by
  cases c with
  | true => exact iteT (h1 D.nx (q v1 (.inr rfl)))
  | false =>
    refine iteF ?_
    have e : σ.set i (some v0) = σ := by
      obtain ⟨g1, g2⟩ := List.getElem?_eq_some_iff.mp h0
      rw [← g2]
      exact List.set_getElem_self g1
    have z := q v0 (.inl rfl)
    rw [e] at z
    exact z
theorem other_ne {o r p : Int} (o0 : 0 ≤ o) (o1 : o < p) (r0 : 0 ≤ r) (r1 : r < p - 1) : (o + 1 + r) % p ≠ o := by
  by_cases h : o + 1 + r < p
  · rw [Int.emod_eq_of_lt (by omega) h]
    omega
  · have e : o + 1 + r = (o + 1 + r - p) + p := by omega
    rw [e, Int.add_emod_right, Int.emod_eq_of_lt (by omega) (by omega)]
    omega
/-- the law's parts: winds, places, links -/
def PartsAt (K : PySem.W.Frag) (H : Hp) (a : Addr) (L : LandD) : Prop := ∃ (w p l : Addr) (xs : List V), SqL K H a [.ref w, .ref p, .ref l] ∧ SqT K H w (L.winds.map V.str) ∧ SqT K H p (L.places.map V.str) ∧ SqT K H l xs ∧ TpAll K H xs (L.links.map eLk)
theorem parts_ex {H H' : Hp} {a : Addr} {L : LandD} (e : Ex H H') (h : PartsAt K H a L) : PartsAt K H' a L := by
  obtain ⟨w, p, l, xs, h1, h2, h3, h4, h5⟩ := h
  exact ⟨w, p, l, xs, ex_l e h1, ex_t e h2, ex_t e h3, ex_t e h4, tpa_ex e h5⟩
def sp_law_parts (K : PySem.W.Frag) : Sp := fun vs H Q _ => ∃ v1 v2, vs = [v1, v2] ∧ ∃ (p : Addr) (ns : List Int), v1 = .ref p ∧ v2 = .int 0 ∧ SqL K H p (ns.map V.int) ∧ NsOk ns ∧
  ∀ (a : Addr) (L : LandD) (H' : Hp), Ex H H' → PartsAt K H' a L → LandOk L → Q (.ref a) H'
abbrev N_law_parts : List Str := ["_law_numbers_here", "_law_at", "_law_winds", "_law_places", "_law_names_here", "_law_links", "_law_k", "_law_spot", "_law_one", "_law_other", "_law_times", "_law_j", "_law_number", "_law_least"]
-- slots 0=_law_numbers_here 1=_law_at 2=_law_winds 3=_law_places 4=_law_names_here 5=_law_links 6=_law_k 7=_law_spot 8=_law_one 9=_law_other 10=_law_times 11=_law_j 12=_law_number 13=_law_least; cells []
theorem sc_law_parts : FnScope N_law_parts ["_law_numbers_here", "_law_at"] (defScope s_law_parts) := ⟨rfl, rfl, rfl, by decide +kernel, rfl, by decide +kernel, by decide +kernel⟩
theorem ok_law_parts (T : Tx K mg) : Cal P w K mg base 2 (He.ga K "_law_parts") ["_law_numbers_here", "_law_at"] (sp_law_parts K) := by
  obtain ⟨fd, F⟩ := T.s.c.def_ 26 (d := d_law_parts) rfl
  refine ⟨fd, F.ok sc_law_parts (fun vs H Q E h => ?_) (fun cdv A outer s H vs Q E hr h => ?_), F.bindsN (fun _ _ _ _ _ _ us hl => match us, hl with | [_, _], _ => rfl), F.kp⟩
  · obtain ⟨v1, v2, rfl, _⟩ := h
    rfl
  · have hu := hu_of hr
    obtain ⟨v1, v2, rfl, p, ns, rfl, rfl, hS, ok, q⟩ := h
    refine ⟨_, PSs.nox (pss_cons (ps_set (i := 2) sc_law_parts.nd rfl (Or.inl rfl) (pe_cal (ok_law_names T) hr T.g_law_names (pa_cons (pe_ix (ixL K) (pv 0) (pv 1) (fun _ _ => rfl)) (pa_cons (pe_op op_add pe_int (pe_op op_mod (pe_callTy c_int (by rfl) T.f_int (by decide +kernel) (pa_cons (pe_ix (ixL K) (pv 0) (pe_op op_add (pv 1) pe_int) (fun _ _ => rfl)) pa_nil)) pe_int)) pa_nil))))
        (pss_cons (ps_set (i := 3) sc_law_parts.nd rfl (Or.inl rfl) (pe_cal (ok_law_names T) hr T.g_law_names (pa_cons (pe_ix (ixL K) (pv 0) (pe_op op_add (pv 1) pe_int) (fun _ _ => rfl)) (pa_cons (pe_op op_add pe_int (pe_op op_mod (pe_callTy c_int (by rfl) T.f_int (by decide +kernel) (pa_cons (pe_ix (ixL K) (pv 0) (pe_op op_add (pv 1) pe_int) (fun _ _ => rfl)) pa_nil)) pe_int)) pa_nil))))
        (pss_cons (ps_set (i := 4) sc_law_parts.nd rfl (Or.inl rfl) (pe_cal (ok_law_names T) hr T.g_law_names (pa_cons (pe_ix (ixL K) (pv 0) (pe_op op_add (pv 1) pe_int) (fun _ _ => rfl)) (pa_cons pe_int pa_nil))))
        (pss_cons (ps_set (i := 5) sc_law_parts.nd rfl (Or.inl rfl) (pe_lst pa_nil))
        (pss_cons (ps_for PassesOwn.never rfl (pi_range1 rfl T.f_range (pa_cons (pe_op op_add (pe_op op_mod (pe_callTy c_int (by rfl) T.f_int (by decide +kernel) (pa_cons (pe_ix (ixL K) (pv 0) (pe_op op_add (pv 1) pe_int) (fun _ _ => rfl)) pa_nil)) pe_int) (pe_op op_mod (pe_callTy c_int (by rfl) T.f_int (by decide +kernel) (pa_cons (pe_op op_fdiv (pe_ix (ixL K) (pv 0) (pe_op op_add (pv 1) pe_int) (fun _ _ => rfl)) pe_int) pa_nil)) pe_int)) pa_nil)) (pg_name (i := 6) sc_law_parts.nd rfl (Or.inl rfl))
          (pss_cons (ps_set (i := 7) sc_law_parts.nd rfl (Or.inl rfl) (pe_op op_add (pe_op op_add (pv 1) pe_int) (pe_op op_mul pe_int (pv 6))))
          (pss_cons (ps_set (i := 8) sc_law_parts.nd rfl (Or.inl rfl) (pe_op op_mod (pe_callTy c_int (by rfl) T.f_int (by decide +kernel) (pa_cons (pe_ix (ixL K) (pv 0) (pv 7) (fun _ _ => rfl)) pa_nil)) (pe_callB (lenK K) (by rfl) T.f_len (by decide +kernel) (pa_cons (pv 3) pa_nil))))
          (pss_cons (ps_set (i := 9) sc_law_parts.nd rfl (Or.inl rfl) (pe_op op_mod (pe_callTy c_int (by rfl) T.f_int (by decide +kernel) (pa_cons (pe_op op_add (pe_op op_add (pv 8) pe_int) (pe_op op_mod (pe_callTy c_int (by rfl) T.f_int (by decide +kernel) (pa_cons (pe_op op_fdiv (pe_ix (ixL K) (pv 0) (pv 7) (fun _ _ => rfl)) pe_int) pa_nil)) (pe_op op_sub (pe_callB (lenK K) (by rfl) T.f_len (by decide +kernel) (pa_cons (pv 3) pa_nil)) pe_int))) pa_nil)) (pe_callB (lenK K) (by rfl) T.f_len (by decide +kernel) (pa_cons (pv 3) pa_nil))))
          (pss_cons (ps_set (i := 10) sc_law_parts.nd rfl (Or.inl rfl) (pe_lst pa_nil))
          (pss_cons (ps_for PassesOwn.never rfl (pi_range1 rfl T.f_range (pa_cons (pe_callB (lenK K) (by rfl) T.f_len (by decide +kernel) (pa_cons (pv 2) pa_nil)) pa_nil)) (pg_name (i := 11) sc_law_parts.nd rfl (Or.inl rfl))
            (pss_cons (ps_set (i := 12) sc_law_parts.nd rfl (Or.inl rfl) (pe_ix (ixL K) (pv 0) (pe_op op_add (pe_op op_add (pv 7) pe_int) (pv 11)) (fun _ _ => rfl)))
            (pss_cons (ps_set (i := 13) sc_law_parts.nd rfl (Or.inl rfl) (pe_op op_add pe_int (pe_op op_mod (pe_callTy c_int (by rfl) T.f_int (by decide +kernel) (pa_cons (pe_op op_fdiv (pv 12) pe_int) pa_nil)) pe_int)))
            (pss_cons (ps_if (pt_cmpR op_eq (pe_op op_mod (pe_callTy c_int (by rfl) T.f_int (by decide +kernel) (pa_cons (pv 12) pa_nil)) pe_int) pe_int (nomark _))
              (pss_cons (ps_set (i := 13) sc_law_parts.nd rfl (Or.inl rfl) (pe_op op_add pe_int (pe_callTy c_int (by rfl) T.f_int (by decide +kernel) (pa_cons (pv 12) pa_nil))))
              (pss_one (ps_set (i := 13) sc_law_parts.nd rfl (Or.inl rfl) (pe_callB (c_min2 rfl) (by rfl) T.f_min (by decide +kernel) (pa_cons pe_int (pa_cons (pv 13) pa_nil))))))
              pss_nil)
            (pss_one (ps_if (pt_cmpR op_eq (pe_op op_mod (pe_callTy c_int (by rfl) T.f_int (by decide +kernel) (pa_cons (pv 12) pa_nil)) pe_int) pe_int (nomark _))
              (pss_one (ps_expr (pe_bm PySem.F.plainAttrs_list PySem.F.slot_list_append PySem.F.type_list_append mt_append (pv 10) (pa_cons pe_non pa_nil))))
              (pss_one (ps_expr (pe_bm PySem.F.plainAttrs_list PySem.F.slot_list_append PySem.F.type_list_append mt_append (pv 10) (pa_cons (pe_tup (pa_cons (pv 13) (pa_cons (pe_op op_add (pv 13) (pe_op op_mod (pe_callTy c_int (by rfl) T.f_int (by decide +kernel) (pa_cons (pe_op op_fdiv (pe_ix (ixL K) (pv 0) (pe_op op_add (pv 7) pe_int) (fun _ _ => rfl)) (pe_op op_add pe_int (pv 11))) pa_nil)) pe_int)) pa_nil))) pa_nil))))))))))
          (pss_one (ps_expr (pe_bm PySem.F.plainAttrs_list PySem.F.slot_list_append PySem.F.type_list_append mt_append (pv 5) (pa_cons (pe_tup (pa_cons (pe_ix (ixL K) (pv 4) (pv 6) (fun _ _ => rfl)) (pa_cons (pe_ix (ixL K) (pv 3) (pv 8) (fun _ _ => rfl)) (pa_cons (pe_ix (ixL K) (pv 3) (pv 9) (fun _ _ => rfl)) (pa_cons (pe_callTy (tupleK K) (by rfl) T.f_tuple (by decide +kernel) (pa_cons (pv 10) pa_nil)) pa_nil))))) pa_nil))))))))))
        (pss_one (ps_ret (pe_lst (pa_cons (pe_callTy (tupleK K) (by rfl) T.f_tuple (by decide +kernel) (pa_cons (pv 2) pa_nil)) (pa_cons (pe_callTy (tupleK K) (by rfl) T.f_tuple (by decide +kernel) (pa_cons (pv 3) pa_nil)) (pa_cons (pe_callTy (tupleK K) (by rfl) T.f_tuple (by decide +kernel) (pa_cons (pv 5) pa_nil)) pa_nil))))))))))), ?_⟩
    repeat (walk_at "rd")
    refine r_num hS ok (by omega) (by omega) fun z0 z00 z01 => ?_
    repeat (walk_at "rd")
    refine r_num hS ok (by omega) (by omega) fun z1 z10 z11 => ?_
    repeat (walk_at "rd")
    refine ⟨_, _, rfl, z0, (1 + z1 % 3).toNat, rfl, congrArg V.int (by omega), z00, z01, by omega, fun wl winds H1 e1 hwl hwlen hwok hwnd => ?_⟩
    repeat (walk_at "rd")
    refine r_num (ex_l e1 hS) ok (by omega) (by omega) fun z2 z20 z21 => ?_
    repeat (walk_at "rd")
    refine r_num (ex_l e1 hS) ok (by omega) (by omega) fun z3 z30 z31 => ?_
    repeat (walk_at "rd")
    refine ⟨_, _, rfl, z2, (2 + z3 % 5).toNat, rfl, congrArg V.int (by omega), z20, z21, by omega, fun pl places H2 e2 hpl hplen hpok hpnd => ?_⟩
    have E2 := e1.trans e2
    repeat (walk_at "rd")
    refine r_num (ex_l E2 hS) ok (by omega) (by omega) fun z4 z40 z41 => ?_
    repeat (walk_at "rd")
    refine ⟨_, _, rfl, z4, 10, rfl, rfl, z40, z41, by omega, fun nl names H3 e3 hnl hnlen hnok hnnd => ?_⟩
    have E3 := E2.trans e3
    have hS3 := ex_l E3 hS
    have hwl3 : SqL K H3 wl (winds.map V.str) := ex_l (e2.trans e3) hwl
    have hpl3 : SqL K H3 pl (places.map V.str) := ex_l e3 hpl
    have hnl3 : SqL K H3 nl (names.map V.str) := hnl
    clear hS hwl hpl hnl
    repeat (walk_at "rd")
    refine ⟨Nat.zero_le _, fun LL nLL => ?_⟩
    repeat (walk_at "rd")
    refine r_iR0 ?_
    repeat (walk_at "rd")
    have e4 : Ex H3 (upd H3 LL (.lst [])) := Ex.new nLL
    refine r_num (ex_l e4 hS3) ok (by omega) (by omega) fun z5 z50 z51 => ?_
    repeat (walk_at "rd")
    refine r_num (ex_l e4 hS3) ok (by omega) (by omega) fun z5' z50' z51' => ?_
    repeat (walk_at "rd")
    have hc0 : 0 ≤ z5 % 10 + z5' / 10 % 2 := by omega
    have hc1 : z5 % 10 + z5' / 10 % 2 ≤ 10 := by omega
    generalize z5 % 10 + z5' / 10 % 2 = cnt at hc0 hc1
    have hp2 : 2 ≤ places.length := by omega
    have hp5 : places.length ≤ 6 := by omega
    have hw1 : 1 ≤ winds.length := by omega
    have hw3 : winds.length ≤ 3 := by omega
    refine ⟨cnt, rfl, by omega, by omega, for_it (walk_range (lo := 0) (n := cnt.toNat)) (fun i σ' H' => ∃ (y6 y7 y8 y9 y10 y11 y12 y13 : Option V) (xs : List V) (ls : List Lk), σ' = [some (.ref p), some (.int 0), some (.ref wl), some (.ref pl), some (.ref nl), some (.ref LL), y6, y7, y8, y9, y10, y11, y12, y13] ∧ Ex H3 H' ∧ H' LL = some (.lst xs) ∧ TpAll K H' xs (ls.map eLk) ∧ ls.map Lk.nm = names.take i ∧ ∀ l ∈ ls, LkOk places winds.length l) ?_ (fun _ _ _ _ _ => trivial) ?_ ?_⟩
    · exact ⟨none, none, none, none, none, none, none, none, [], [], rfl, e4, upd_same, .nil, rfl, fun _ h => (nomatch h)⟩
    · rintro i x σ' _ H4 hi ⟨y6, y7, y8, y9, y10, y11, y12, y13, xs, ls, rfl, e5, hLL, hT, hnm, hls⟩ ⟨rfl, rfl⟩
      have hi : i < 10 := by omega
      repeat (walk_at "rd")
      have hS4 := ex_l e5 hS3
      refine r_num hS4 ok (by omega) (by omega) fun n1 n10 n11 => ?_
      repeat (walk_at "rd")
      refine r_lenL (ex_l e5 hpl3) ?_
      rw [List.length_map]
      refine r_mod (by omega) ?_
      have ho0 : 0 ≤ n1 % (places.length : Int) := Int.emod_nonneg _ (by omega)
      have ho1 : n1 % (places.length : Int) < places.length := Int.emod_lt_of_pos _ (by omega)
      generalize n1 % (places.length : Int) = one at ho0 ho1
      repeat (walk_at "rd")
      refine r_num hS4 ok (by omega) (by omega) fun n2 n20 n21 => ?_
      repeat (walk_at "rd")
      refine r_lenL (ex_l e5 hpl3) ?_
      rw [List.length_map]
      repeat (walk_at "rd")
      refine r_mod (by omega) ?_
      have hr0 : 0 ≤ n2 / 7 % ((places.length : Int) - 1) := Int.emod_nonneg _ (by omega)
      have hr1 : n2 / 7 % ((places.length : Int) - 1) < (places.length : Int) - 1 := Int.emod_lt_of_pos _ (by omega)
      generalize n2 / 7 % ((places.length : Int) - 1) = rr at hr0 hr1
      repeat (walk_at "rd")
      refine r_lenL (ex_l e5 hpl3) ?_
      rw [List.length_map]
      refine r_mod (by omega) ?_
      have hne := other_ne ho0 ho1 hr0 hr1
      have hq0 : 0 ≤ (one + 1 + rr) % (places.length : Int) := Int.emod_nonneg _ (by omega)
      have hq1 : (one + 1 + rr) % (places.length : Int) < places.length := Int.emod_lt_of_pos _ (by omega)
      generalize (one + 1 + rr) % (places.length : Int) = oth at hne hq0 hq1
      repeat (walk_at "rd")
      refine ⟨Nat.zero_le _, fun TL nTL => ?_⟩
      have e6 : Ex H4 (upd H4 TL (.lst [])) := Ex.new nTL
      repeat (walk_at "rd")
      refine r_iR0 ?_
      repeat (walk_at "rd")
      refine r_lenL (ex_l (e5.trans e6) hwl3) ?_
      rw [List.length_map]
      refine ⟨(winds.length : Int), rfl, by omega, by omega, for_it (walk_range (lo := 0) (n := winds.length)) (fun j σ' H' => ∃ (y11 y12 y13 : Option V) (xs2 : List V) (tm : List (Option (Int × Int))), σ' = [some (.ref p), some (.int 0), some (.ref wl), some (.ref pl), some (.ref nl), some (.ref LL), some (.int (0 + (i : Int))), some (.int (0 + 6 + 5 * (0 + (i : Int)))), some (.int one), some (.int oth), some (.ref TL), y11, y12, y13] ∧ Ex H4 H' ∧ H' TL = some (.lst xs2) ∧ TpAll K H' xs2 (tm.map ePr) ∧ tm.length = j ∧ ∀ o ∈ tm, TmOk o) ?_ (fun _ _ _ _ _ => trivial) ?_ ?_⟩
      · exact ⟨_, _, _, [], [], rfl, e6, upd_same, .nil, rfl, fun _ h => (nomatch h)⟩
      · rintro j x σ' _ H5 hj ⟨y11', y12', y13', xs2, tm, rfl, e7, hTL, hT2, htl, htm⟩ ⟨rfl, rfl⟩
        have E7 := e5.trans e7
        have hS5 := ex_l E7 hS3
        repeat (walk_at "rd")
        refine r_num hS5 ok (by omega) (by omega) fun m1 m10 m11 => ?_
        repeat (walk_at "rd")
        refine ite_blk (i := 13) (v0 := .int (1 + m1 / 4 % 9)) (v1 := .int (if 200 + m1 < 900 then 200 + m1 else 900)) rfl (fun N qq => ?_) fun v hv => ?_
        · repeat (walk_at "rd")
          exact qq
        have hv : ∃ lo, v = .int lo ∧ 1 ≤ lo ∧ lo ≤ 900 := by
          rcases hv with rfl | rfl
          · exact ⟨_, rfl, by omega, by omega⟩
          · exact ⟨_, rfl, by split <;> omega, by split <;> omega⟩
        obtain ⟨lo, rfl, lo1, lo2⟩ := hv
        have hxl : xs2.length < 100000 := by rw [tpa_maplen hT2]; omega
        have hLL5 := e7 _ _ hLL
        repeat (walk_at "rd")
        refine ite_c (fun _ => ?_) fun _ => ?_
        · repeat (walk_at "rd")
          refine r_app rfl hTL ?_
          repeat (walk_at "rd")
          refine r_appd hTL hxl ?_
          repeat (walk_at "rd")
          refine ⟨_, _, _, _, tm ++ [none], rfl, Ex.mut e7 nTL, upd_same, ?_, by rw [List.length_append, htl]; rfl, fun o ho => ?_⟩
          · rw [List.map_append]
            exact tpa_app (tpa_tk (tk_lst hTL) hT2) (tpa_one .non)
          · rcases List.mem_append.mp ho with y | y
            · exact htm o y
            · rw [List.mem_singleton.mp y]; trivial
        · repeat (walk_at "rd")
          refine r_app rfl hTL ?_
          repeat (walk_at "rd")
          refine r_num hS5 ok (by omega) (by omega) fun m2 m20 m21 => ?_
          repeat (walk_at "rd")
          refine r_fdiv ⟨by omega, by omega⟩ ?_
          repeat (walk_at "rd")
          have hg0 : 0 ≤ m2 / (1 + (0 + (j : Int))) % 8 := by omega
          have hg1 : m2 / (1 + (0 + (j : Int))) % 8 < 8 := by omega
          generalize m2 / (1 + (0 + (j : Int))) % 8 = g at hg0 hg1
          refine ⟨sz_of (by show 2 ≤ 100000; decide), fun t nt => ?_⟩
          have e8 : Ex H5 (upd H5 t (.tup [.int lo, .int (lo + g)])) := Ex.new nt
          refine r_appd (e8 _ _ hTL) hxl ?_
          repeat (walk_at "rd")
          have tTL : TL ≠ t := fun y => by rw [← y, hTL] at nt; cases nt
          refine ⟨_, _, _, _, tm ++ [some (lo, lo + g)], rfl, Ex.mut (e7.trans e8) nTL, upd_same, ?_, by rw [List.length_append, htl]; rfl, fun o ho => ?_⟩
          · rw [List.map_append]
            refine tpa_app (tpa_tk (tk_lst (e8 _ _ hTL)) (tpa_ex e8 hT2)) (tpa_one (tp_tk (tk_lst (e8 _ _ hTL)) ?_))
            exact .tup (st_of upd_same) (.cons (.int _) (.cons (.int _) .nil))
          · rcases List.mem_append.mp ho with y | y
            · exact htm o y
            · rw [List.mem_singleton.mp y]
              exact ⟨lo1, by show lo ≤ lo + g; omega, by show lo + g ≤ 1000; omega⟩
      · rintro σ' H5 ⟨y11', y12', y13', xs2, tm, rfl, e7, hTL, hT2, htl, htm⟩
        have E7 := e5.trans e7
        repeat (walk_at "rd")
        refine r_app rfl (e7 _ _ hLL) ?_
        repeat (walk_at "rd")
        refine r_strL (ex_l E7 hnl3) (by omega) (by omega) fun nm hnm' => ?_
        have hnm' : names[i]? = some nm := by rw [show i = (0 + (i : Int)).toNat by omega]; exact hnm'
        repeat (walk_at "rd")
        refine r_strL (ex_l E7 hpl3) ho0 ho1 fun s1 hs1 => ?_
        repeat (walk_at "rd")
        refine r_strL (ex_l E7 hpl3) hq0 hq1 fun s2 hs2 => ?_
        repeat (walk_at "rd")
        refine r_tupL (sq_of hTL) fun tt ntt => ?_
        have e8 : Ex H5 (upd H5 tt (.tup xs2)) := Ex.new ntt
        have htt : SqT K (upd H5 tt (.tup xs2)) tt xs2 := st_of upd_same
        have hT8 := tpa_ex e8 hT2
        generalize upd H5 tt (.tup xs2) = H6 at e8 htt hT8
        repeat (walk_at "rd")
        refine ⟨sz_of (by show 4 ≤ 100000; decide), fun t nt => ?_⟩
        have e9 : Ex H6 (upd H6 t (.tup [.str nm, .str s1, .str s2, .ref tt])) := Ex.new nt
        have tl9 : Tp K (upd H6 t (.tup [.str nm, .str s1, .str s2, .ref tt])) (.ref t) (eLk ⟨nm, s1, s2, tm⟩) := .tup (st_of upd_same) (.cons (.str _) (.cons (.str _) (.cons (.str _) (.cons (.tup (ex_t e9 htt) (tpa_ex e9 hT8)) .nil))))
        generalize upd H6 t (.tup [.str nm, .str s1, .str s2, .ref tt]) = H7 at e9 tl9
        have E9 := (e7.trans e8).trans e9
        have hLL9 := E9 _ _ hLL
        have hll : xs.length ≤ 10 := by
          have h1 := congrArg List.length hnm
          rw [List.length_map, List.length_take] at h1
          rw [tpa_maplen hT, h1]
          omega
        refine r_appd hLL9 (by omega) ?_
        repeat (walk_at "rd")
        refine ⟨_, _, _, _, _, _, _, _, _, ls ++ [⟨nm, s1, s2, tm⟩], rfl, Ex.mut (e5.trans E9) nLL, upd_same, ?_, ?_, fun l hl => ?_⟩
        · rw [List.map_append]
          exact tpa_app (tpa_tk (tk_lst hLL9) (tpa_ex E9 hT)) (tpa_one (tp_tk (tk_lst hLL9) tl9))
        · rw [List.map_append, hnm, take_snoc hnm']
          rfl
        · rcases List.mem_append.mp hl with y | y
          · exact hls l y
          · rw [List.mem_singleton.mp y]
            refine ⟨hnok nm (List.mem_of_getElem? hnm'), List.mem_of_getElem? hs1, List.mem_of_getElem? hs2, fun y => ?_, htl, htm⟩
            have y : s1 = s2 := y
            rw [y] at hs1
            obtain ⟨g1, f1⟩ := List.getElem?_eq_some_iff.mp hs1
            obtain ⟨g2, f2⟩ := List.getElem?_eq_some_iff.mp hs2
            have := (List.getElem_inj hpnd).mp (f1.trans f2.symm)
            omega
    · rintro σ' H4 ⟨y6, y7, y8, y9, y10, y11, y12, y13, xs, ls, rfl, e5, hLL, hT, hnm, hls⟩
      repeat (walk_at "rd")
      refine r_tupL (ex_l e5 hwl3) fun tw ntw => ?_
      have f1 : Ex H4 (upd H4 tw (.tup (winds.map V.str))) := Ex.new ntw
      have g1 : SqT K (upd H4 tw (.tup (winds.map V.str))) tw (winds.map V.str) := st_of upd_same
      generalize upd H4 tw (.tup (winds.map V.str)) = H5 at f1 g1
      repeat (walk_at "rd")
      refine r_tupL (ex_l (e5.trans f1) hpl3) fun tp ntp => ?_
      have f2 : Ex H5 (upd H5 tp (.tup (places.map V.str))) := Ex.new ntp
      have g2 : SqT K (upd H5 tp (.tup (places.map V.str))) tp (places.map V.str) := st_of upd_same
      generalize upd H5 tp (.tup (places.map V.str)) = H6 at f2 g2
      repeat (walk_at "rd")
      refine r_tupL (sq_of ((f1.trans f2) _ _ hLL)) fun tl ntl => ?_
      have f3 : Ex H6 (upd H6 tl (.tup xs)) := Ex.new ntl
      have g3 : SqT K (upd H6 tl (.tup xs)) tl xs := st_of upd_same
      generalize upd H6 tl (.tup xs) = H7 at f3 g3
      repeat (walk_at "rd")
      refine ⟨sz_of (by show 3 ≤ 100000; decide), fun a na => ?_⟩
      have f4 : Ex H7 (upd H7 a (.lst [.ref tw, .ref tp, .ref tl])) := Ex.new na
      have F := ((f1.trans f2).trans f3).trans f4
      refine q a ⟨winds, places, ls⟩ _ (E3.trans (e5.trans F)) ⟨tw, tp, tl, xs, sq_of upd_same, ex_t ((f2.trans f3).trans f4) g1, ex_t (f3.trans f4) g2, ex_t f4 g3, tpa_ex F hT⟩ ?_
      have hln : ls.length ≤ 10 := by
        have h1 := congrArg List.length hnm
        rw [List.length_map, List.length_take] at h1
        omega
      exact { w1 := hw1, w2 := by show winds.length ≤ 4; omega, wn := hwok, wd := hwnd, p1 := by show 1 ≤ places.length; omega, p2 := by show places.length ≤ 24; omega, pn := hpok, pd := hpnd, l2 := by show ls.length ≤ 60; omega, lk := hls, ld := by show (ls.map Lk.nm).Nodup; rw [hnm]; exact (List.take_sublist _ _).nodup hnnd }
end
end EF
end
section
set_option maxHeartbeats 4000000
namespace EF
open PySem PySem.Spec PyProof.Rows PySem.W L2 Evl RZ
section
variable {P : Program} {w : World} {K : PySem.W.Frag} {mg : Str → Option Value} {base : Heap}
/-! ### _law_made -/
theorem r_makeK {C : Addr} {n m : Nat} {sp : Sp} {gV : List V → List V → List V} {E : XK} {t tk : TA} {σ : L2.St} {H : Hp} {Q : VK} (q : t σ H fun vs H1 => tk σ H1 fun zs H2 => vs.length = n ∧ zs.length = m ∧ ∀ x dx, H2 x = none → H2 dx = none → dx ≠ x →
  sp (gV (.ref x :: vs) zs) (upd (upd H2 dx (.own x)) x (.ins C dx [])) (fun v H3 => v = .non ∧ Q (.ref x) H3) E) : tMakeK C n m sp gV E t tk σ H Q := q
theorem sqt_empty {H : Hp} {a : Addr} (h : emptyT K a = true) : SqT K H a [] := by
  unfold emptyT at h
  split at h
  · rename_i c d its m sl he
    obtain ⟨h1, h2⟩ := He.ba h
    have h1 : c = "tuple" := of_decide_eq_true h1
    subst h1
    have h2 : its = #[] := Array.isEmpty_iff.mp h2
    subst h2
    exact .inr ⟨_, #[], m, he, rfl, rfl, Nat.zero_le _, .nil⟩
  · cases h
def sp_law_made (K : PySem.W.Frag) : Sp := fun vs H Q _ => ∃ v1, vs = [v1] ∧ ∃ (a : Addr) (L : LandD), v1 = .ref a ∧ PartsAt K H a L ∧ LandOk L ∧ ∀ (p : Addr) (H' : Hp), Ex H H' → LandAt K H' p L → Q (.ref p) H'
abbrev N_law_made : List Str := ["_law_parts_here"]
-- slots 0=_law_parts_here; cells []
theorem sc_law_made : FnScope N_law_made ["_law_parts_here"] (defScope s_law_made) := ⟨rfl, rfl, rfl, by decide +kernel, rfl, by decide +kernel, by decide +kernel⟩
theorem ok_law_made (T : Tx K mg) : Cal P w K mg base 6 (He.ga K "_law_made") ["_law_parts_here"] (sp_law_made K) := by
  obtain ⟨fd, F⟩ := T.s.c.def_ 27 (d := d_law_made) rfl
  refine ⟨fd, F.ok sc_law_made (fun vs H Q E h => ?_) (fun cdv A outer s H vs Q E hr h => ?_), F.bindsN (fun _ _ _ _ _ _ us hl => match us, hl with | [_], _ => rfl), F.kp⟩
  · obtain ⟨v1, rfl, _⟩ := h
    rfl
  · have hu := hu_of hr
    obtain ⟨v1, rfl, a, L, rfl, hP, ok, q⟩ := h
    have hex : emptyT K (kwAt "paths" K) = true := by
      have h := T.s.ex
      unfold exB at h
      exact (He.ba (He.ba h).2).1
    obtain ⟨ifd, iF, iD⟩ := ok_L_init (P := P) (w := w) (base := base) T
    obtain ⟨mv, hb⟩ := iD.kbinds0 (ps := ["self", "winds", "places", "links", "paths"]) 1 ["winds", "places", "links"] [("paths", .ref (kwAt "paths" K))] (fun us mz ws => us ++ ws ++ mz) (fun z => nomatch z) (fun q hq => by rw [List.mem_singleton.mp hq]; exact List.mem_cons_of_mem _ List.mem_cons_self)
      (fun r1 r2 r3 => (r1.append r3).append r2) (fun D doc pm an cdv ct us mv ws l1 l2 l3 => match us, l1, mv, l2, ws, l3 with
        | [_], _, [_], _, [_, _, _], _ => ⟨_, _, _, _, _, _, rfl, rfl, rfl⟩)
    refine ⟨_, PSs.nox (pss_one (ps_ret (pe_makeK0 T.mkr iF hr rfl T.g_Land hb pass0 (pk_cons (pe_callTy (listK K) (by rfl) T.f_list (by decide +kernel) (pa_cons (pe_ix (ixL K) (pv 0) pe_int (fun _ _ => rfl)) pa_nil)) (pk_cons (pe_callTy (listK K) (by rfl) T.f_list (by decide +kernel) (pa_cons (pe_ix (ixL K) (pv 0) pe_int (fun _ _ => rfl)) pa_nil)) (pk_cons (pe_callTy (listK K) (by rfl) T.f_list (by decide +kernel) (pa_cons (pe_ix (ixL K) (pv 0) pe_int (fun _ _ => rfl)) pa_nil)) pk_nil)))))), ?_⟩
    repeat (walk_at "rd")
    refine r_makeK ?_
    obtain ⟨w, pl, l, xs, hS, hw, hp, hl, hT⟩ := hP
    repeat (walk_at "rd")
    refine r_listT hw fun lw nlw => ?_
    have e1 : Ex H (upd H lw (.lst (L.winds.map V.str))) := Ex.new nlw
    have g1 : SqL K (upd H lw (.lst (L.winds.map V.str))) lw (L.winds.map V.str) := sq_of upd_same
    generalize upd H lw (.lst (L.winds.map V.str)) = H1 at e1 g1
    have hS1 := ex_l e1 hS
    repeat (walk_at "rd")
    refine r_listT (ex_t e1 hp) fun lp nlp => ?_
    have e2 : Ex H1 (upd H1 lp (.lst (L.places.map V.str))) := Ex.new nlp
    have g2 : SqL K (upd H1 lp (.lst (L.places.map V.str))) lp (L.places.map V.str) := sq_of upd_same
    generalize upd H1 lp (.lst (L.places.map V.str)) = H2 at e2 g2
    have hS2 := ex_l e2 hS1
    repeat (walk_at "rd")
    refine r_listT (ex_t (e1.trans e2) hl) fun ll nll => ?_
    have e3 : Ex H2 (upd H2 ll (.lst xs)) := Ex.new nll
    have g3 : SqL K (upd H2 ll (.lst xs)) ll xs := sq_of upd_same
    generalize upd H2 ll (.lst xs) = H3 at e3 g3
    have E3 := (e1.trans e2).trans e3
    repeat (walk_at "rd")
    refine ⟨rfl, rfl, fun x dx nx ndx nd => ?_⟩
    have e4 : Ex H3 (upd (upd H3 dx (.own x)) x (.ins (CL K) dx [])) := (Ex.new ndx).trans (Ex.new (by rw [upd_ne nd.symm]; exact nx))
    have hx : upd (upd H3 dx (.own x)) x (.ins (CL K) dx []) x = some (.ins (CL K) dx []) := upd_same
    have e5 : Ex H3 (er x (upd (upd H3 dx (.own x)) x (.ins (CL K) dx []))) := fun b o h => by
      have hb : b ≠ x := fun y => by rw [y, nx] at h; cases h
      rw [er_ne hb]
      exact e4 _ _ h
    have E4 := E3.trans e4
    refine ⟨_, _, _, _, _, rfl, x, dx, lw, lp, ll, _, L, xs, rfl, rfl, rfl, rfl, rfl, hx, ex_l ((e2.trans e3).trans e4) g1, ex_l (e3.trans e4) g2, ex_l e4 g3, tpa_ex E4 hT, sqt_empty hex, ok, fun H' e' hL => ⟨rfl, ?_⟩⟩
    exact q x H' (E3.trans (e5.trans e')) hL
end
end EF
end
section
set_option maxHeartbeats 4000000
namespace EF
open PySem PySem.Spec PyProof.Rows PySem.W L2 Evl RZ
section
variable {P : Program} {w : World} {K : PySem.W.Frag} {mg : Str → Option Value} {base : Heap}
/-! ### _law_weather -/
theorem tpa_snoc {H : Hp} {d : PyData} : ∀ {vs : List V} {ds : List PyData}, TpAll K H vs (ds ++ [d]) → ∃ us u, vs = us ++ [u] ∧ TpAll K H us ds ∧ Tp K H u d
  | _, [], h => by
    obtain ⟨x, xs, rfl, r, t⟩ := tpa_cons h
    cases tpa_nil t
    exact ⟨[], x, rfl, .nil, r⟩
  | _, e :: ds, h => by
    obtain ⟨x, xs, rfl, r, t⟩ := tpa_cons (show TpAll K H _ (e :: (ds ++ [d])) from h)
    obtain ⟨us, u, rfl, t1, t2⟩ := tpa_snoc t
    exact ⟨x :: us, u, rfl, .cons r t1, t2⟩
structure WGo (ws : List Str) (we : List (Int × Str)) (i : Nat) : Prop where
  ln : we.length = i + 1
  zero : (we.map (·.1))[0]? = some 0
  asc : (we.map (·.1)).Pairwise (· < ·)
  mx : ∀ q ∈ we, q.1 ≤ 11 * (i : Int)
  wn : ∀ q ∈ we, q.2 ∈ ws
theorem WGo.step {ws : List Str} {ini : List (Int × Str)} {x y : Int × Str} {i : Nat} (h : WGo ws (ini ++ [x]) i) (h1 : x.1 < y.1) (h2 : y.1 ≤ x.1 + 11) (hy : y.2 ∈ ws) : WGo ws (ini ++ [x] ++ [y]) (i + 1) := by
  refine ⟨by rw [List.length_append, h.ln]; rfl, ?_, ?_, fun q hq => ?_, fun q hq => ?_⟩
  · rw [List.map_append, List.getElem?_append_left (by rw [List.length_map, h.ln]; omega)]
    exact h.zero
  · rw [List.map_append]
    refine List.pairwise_append.mpr ⟨h.asc, List.pairwise_singleton _ _, fun a ha b hb => ?_⟩
    rw [List.mem_singleton.mp hb]
    show a < y.1
    have hs := h.asc
    rw [List.map_append] at hs ha
    rcases List.mem_append.mp ha with z | z
    · have := (List.pairwise_append.mp hs).2.2 a z x.1 (List.mem_singleton.mpr rfl)
      omega
    · rw [List.mem_singleton.mp z]
      exact h1
  · rcases List.mem_append.mp hq with z | z
    · have := h.mx q z
      omega
    · rw [List.mem_singleton.mp z]
      have := h.mx x (List.mem_append_right _ (List.mem_singleton.mpr rfl))
      omega
  · rcases List.mem_append.mp hq with z | z
    · exact h.wn q z
    · rw [List.mem_singleton.mp z]; exact hy
def sp_law_weather (K : PySem.W.Frag) : Sp := fun vs H Q _ => ∃ v1 v2 v3, vs = [v1, v2, v3] ∧ ∃ (a p : Addr) (L : LandD) (ns : List Int), v1 = .ref a ∧ v2 = .ref p ∧ v3 = .int 60 ∧ PartsAt K H a L ∧ SqL K H p (ns.map V.int) ∧ NsOk ns ∧ LandOk L ∧
  ∀ (b : Addr) (we : List (Int × Str)) (H' : Hp), Ex H H' → Ls K H' (.ref b) (we.map eMP) → WOk we → (∀ q ∈ we, q.2 ∈ L.winds) → Q (.ref b) H'
abbrev N_law_weather : List Str := ["_law_parts_here", "_law_numbers_here", "_law_at", "_law_weather_here", "_law_k", "_law_minute"]
-- slots 0=_law_parts_here 1=_law_numbers_here 2=_law_at 3=_law_weather_here 4=_law_k 5=_law_minute; cells []
theorem sc_law_weather : FnScope N_law_weather ["_law_parts_here", "_law_numbers_here", "_law_at"] (defScope s_law_weather) := ⟨rfl, rfl, rfl, by decide +kernel, rfl, by decide +kernel, by decide +kernel⟩
theorem ok_law_weather (T : Tx K mg) : Cal P w K mg base 1 (He.ga K "_law_weather") ["_law_parts_here", "_law_numbers_here", "_law_at"] (sp_law_weather K) := by
  obtain ⟨fd, F⟩ := T.s.c.def_ 28 (d := d_law_weather) rfl
  refine ⟨fd, F.ok sc_law_weather (fun vs H Q E h => ?_) (fun cdv A outer s H vs Q E hr h => ?_), F.bindsN (fun _ _ _ _ _ _ us hl => match us, hl with | [_, _, _], _ => rfl), F.kp⟩
  · obtain ⟨v1, v2, v3, rfl, _⟩ := h
    rfl
  · have hu := hu_of hr
    obtain ⟨v1, v2, v3, rfl, a, p, L, ns, rfl, rfl, rfl, hP, hS, ok, lok, q⟩ := h
    obtain ⟨w, pl, l, xs, hA, hw, hp, hl, hT⟩ := hP
    have w1 := lok.w1
    refine ⟨_, PSs.nox (pss_cons (ps_set (i := 3) sc_law_weather.nd rfl (Or.inl rfl) (pe_lst (pa_cons (pe_tup (pa_cons pe_int (pa_cons (pe_ix (ixT K) (pe_ix (ixL K) (pv 0) pe_int (fun _ _ => rfl)) (pe_op op_mod (pe_callTy c_int (by rfl) T.f_int (by decide +kernel) (pa_cons (pe_ix (ixL K) (pv 1) (pv 2) (fun _ _ => rfl)) pa_nil)) (pe_callB (lenK K) (by rfl) T.f_len (by decide +kernel) (pa_cons (pe_ix (ixL K) (pv 0) pe_int (fun _ _ => rfl)) pa_nil))) (fun _ _ => rfl)) pa_nil))) pa_nil)))
        (pss_cons (ps_for PassesOwn.never rfl (pi_range1 rfl T.f_range (pa_cons (pe_op op_mod (pe_callTy c_int (by rfl) T.f_int (by decide +kernel) (pa_cons (pe_ix (ixL K) (pv 1) (pe_op op_add (pv 2) pe_int) (fun _ _ => rfl)) pa_nil)) pe_int) pa_nil)) (pg_name (i := 4) sc_law_weather.nd rfl (Or.inl rfl))
          (pss_cons (ps_set (i := 5) sc_law_weather.nd rfl (Or.inl rfl) (pe_op op_add (pe_op op_add (pe_ix (ixT K) (pe_ix (ixL K) (pv 3) (pe_un un_neg pe_int) (fun _ _ => rfl)) pe_int (fun _ _ => rfl)) pe_int) (pe_op op_mod (pe_callTy c_int (by rfl) T.f_int (by decide +kernel) (pa_cons (pe_ix (ixL K) (pv 1) (pe_op op_add (pe_op op_add (pv 2) pe_int) (pv 4)) (fun _ _ => rfl)) pa_nil)) pe_int)))
          (pss_one (ps_expr (pe_bm PySem.F.plainAttrs_list PySem.F.slot_list_append PySem.F.type_list_append mt_append (pv 3) (pa_cons (pe_tup (pa_cons (pv 5) (pa_cons (pe_ix (ixT K) (pe_ix (ixL K) (pv 0) pe_int (fun _ _ => rfl)) (pe_op op_mod (pe_callTy c_int (by rfl) T.f_int (by decide +kernel) (pa_cons (pe_op op_fdiv (pe_ix (ixL K) (pv 1) (pe_op op_add (pe_op op_add (pv 2) pe_int) (pv 4)) (fun _ _ => rfl)) pe_int) pa_nil)) (pe_callB (lenK K) (by rfl) T.f_len (by decide +kernel) (pa_cons (pe_ix (ixL K) (pv 0) pe_int (fun _ _ => rfl)) pa_nil))) (fun _ _ => rfl)) pa_nil))) pa_nil))))))
        (pss_one (ps_ret (pv 3))))), ?_⟩
    repeat (walk_at "rd")
    refine r_num hS ok (by omega) (by omega) fun z z0 z1 => ?_
    repeat (walk_at "rd")
    refine r_lenT hw ?_
    rw [List.length_map]
    refine r_mod (by omega) ?_
    refine r_strT hw (Int.emod_nonneg _ (by omega)) (Int.emod_lt_of_pos _ (by omega)) fun s0 hs0 => ?_
    repeat (walk_at "rd")
    refine ⟨sz_of (by show 2 ≤ 100000; decide), fun t nt => ?_⟩
    have e1 : Ex H (upd H t (.tup [.int 0, .str s0])) := Ex.new nt
    have t1 : Tp K (upd H t (.tup [.int 0, .str s0])) (.ref t) (eMP (0, s0)) := .tup (st_of upd_same) (.cons (.int _) (.cons (.str _) .nil))
    generalize upd H t (.tup [.int 0, .str s0]) = H1 at e1 t1
    repeat (walk_at "rd")
    refine ⟨sz_of (by show 1 ≤ 100000; decide), fun W nW => ?_⟩
    have e2 : Ex H1 (upd H1 W (.lst [.ref t])) := Ex.new nW
    have nWH : H W = none := fresh_back e1 nW
    have t2 := tp_ex e2 t1
    have hW2 : upd H1 W (.lst [.ref t]) W = some (.lst [.ref t]) := upd_same
    generalize upd H1 W (.lst [.ref t]) = H2 at e2 t2 hW2
    have E2 := e1.trans e2
    repeat (walk_at "rd")
    refine r_iR0 ?_
    repeat (walk_at "rd")
    refine r_num (ex_l E2 hS) ok (by omega) (by omega) fun z' z0' z1' => ?_
    repeat (walk_at "rd")
    refine ⟨z' % 5, rfl, by omega, by omega, for_it (walk_range (lo := 0) (n := (z' % 5).toNat)) (fun i σ' H' => ∃ (y4 y5 : Option V) (xs : List V) (we : List (Int × Str)), σ' = [some (.ref a), some (.ref p), some (.int 60), some (.ref W), y4, y5] ∧ Ex H H' ∧ H' W = some (.lst xs) ∧ TpAll K H' xs (we.map eMP) ∧ WGo L.winds we i) ?_ (fun _ _ _ _ _ => trivial) ?_ ?_⟩
    · exact ⟨none, none, _, [(0, s0)], rfl, E2, hW2, tpa_one t2, ⟨rfl, rfl, List.pairwise_singleton _ _, fun q hq => by rw [List.mem_singleton.mp hq]; exact Int.le_refl _, fun q hq => by rw [List.mem_singleton.mp hq]; exact List.mem_of_getElem? hs0⟩⟩
    · rintro i x σ' _ H3 hi ⟨y4, y5, xs', we, rfl, e, hW, hT', hgo⟩ ⟨rfl, rfl⟩
      have hi : i < 5 := by omega
      obtain ⟨ini, lst, rfl⟩ := last_of (l := we) (by rw [hgo.ln]; omega)
      rw [List.map_append] at hT'
      obtain ⟨us, u, rfl, tu, tl⟩ := tpa_snoc (show TpAll K H3 xs' (ini.map eMP ++ [eMP lst]) from hT')
      repeat (walk_at "rd")
      refine r_ixL (sq_of hW) (atI_last _ _) ?_
      obtain ⟨tt, x1, x2, rfl, htt, tx1, tx2⟩ := tp_tup2 tl
      cases tp_int tx1
      repeat (walk_at "rd")
      refine r_num (ex_l e hS) ok (by omega) (by omega) fun n n0 n1 => ?_
      repeat (walk_at "rd")
      refine r_app rfl hW ?_
      repeat (walk_at "rd")
      have hA3 := ex_l e hA
      refine r_ixL hA3 rfl ?_
      repeat (walk_at "rd")
      refine r_num (ex_l e hS) ok (by omega) (by omega) fun n2 n20 n21 => ?_
      repeat (walk_at "rd")
      refine r_lenT (ex_t e hw) ?_
      rw [List.length_map]
      refine r_mod (by omega) ?_
      refine r_strT (ex_t e hw) (Int.emod_nonneg _ (by omega)) (Int.emod_lt_of_pos _ (by omega)) fun s1 hs1 => ?_
      repeat (walk_at "rd")
      refine ⟨sz_of (by show 2 ≤ 100000; decide), fun t' nt' => ?_⟩
      have e5 : Ex H3 (upd H3 t' (.tup [.int (lst.1 + 1 + n % 11), .str s1])) := Ex.new nt'
      have t5 : Tp K (upd H3 t' (.tup [.int (lst.1 + 1 + n % 11), .str s1])) (.ref t') (eMP (lst.1 + 1 + n % 11, s1)) := .tup (st_of upd_same) (.cons (.int _) (.cons (.str _) .nil))
      generalize upd H3 t' (.tup [.int (lst.1 + 1 + n % 11), .str s1]) = H5 at e5 t5
      have hW5 := e5 _ _ hW
      have hxl : (us ++ [V.ref tt]).length < 100000 := by
        rw [tpa_len hT', List.length_append, List.length_map]
        show ini.length + 1 < 100000
        have := hgo.ln
        rw [List.length_append, List.length_singleton] at this
        omega
      refine r_appd hW5 hxl ?_
      repeat (walk_at "rd")
      refine ⟨_, _, _, ini ++ [lst] ++ [(lst.1 + 1 + n % 11, s1)], rfl, Ex.mut (e.trans e5) nWH, upd_same, ?_, hgo.step (by show lst.1 < lst.1 + 1 + n % 11; omega) (by show lst.1 + 1 + n % 11 ≤ _; omega) (List.mem_of_getElem? hs1)⟩
      rw [List.map_append, List.map_append]
      exact tpa_app (tpa_tk (tk_lst hW5) (tpa_ex e5 hT')) (tpa_one (tp_tk (tk_lst hW5) t5))
    · rintro σ' H' ⟨y4, y5, xs', we, rfl, e, hW, hT', hgo⟩
      repeat (walk_at "rd")
      refine q W we H' e ⟨W, xs', rfl, sq_of hW, hT'⟩ ⟨by rw [hgo.ln]; omega, by rw [hgo.ln]; omega, hgo.zero, fun q hq => by have := hgo.mx q hq; omega, hgo.asc⟩ hgo.wn
/-! ### _law_rows -/
def sp_law_rows (K : PySem.W.Frag) : Sp := fun vs H Q _ => ∃ v1 v2 v3 v4, vs = [v1, v2, v3, v4] ∧ ∃ (a p : Addr) (L : LandD) (ns : List Int) (at_ : Int) (n : Nat), v1 = .ref a ∧ v2 = .ref p ∧ v3 = .int at_ ∧ v4 = .int n ∧ 0 ≤ at_ ∧ at_ ≤ 80 ∧ n ≤ 10 ∧ PartsAt K H a L ∧ SqL K H p (ns.map V.int) ∧ NsOk ns ∧ LandOk L ∧
  ∀ (b : Addr) (rs : List (Str × Int)) (H' : Hp), Ex H H' → Ls K H' (.ref b) (rs.map ePM) → rs.length = n → (∀ q ∈ rs, q.1 ∈ L.places ∧ 0 ≤ q.2) → Q (.ref b) H'
abbrev N_law_rows : List Str := ["_law_parts_here", "_law_numbers_here", "_law_at", "_law_many", "_law_rows_here", "_law_k"]
-- slots 0=_law_parts_here 1=_law_numbers_here 2=_law_at 3=_law_many 4=_law_rows_here 5=_law_k; cells []
theorem sc_law_rows : FnScope N_law_rows ["_law_parts_here", "_law_numbers_here", "_law_at", "_law_many"] (defScope s_law_rows) := ⟨rfl, rfl, rfl, by decide +kernel, rfl, by decide +kernel, by decide +kernel⟩
theorem ok_law_rows (T : Tx K mg) : Cal P w K mg base 1 (He.ga K "_law_rows") ["_law_parts_here", "_law_numbers_here", "_law_at", "_law_many"] (sp_law_rows K) := by
  obtain ⟨fd, F⟩ := T.s.c.def_ 29 (d := d_law_rows) rfl
  refine ⟨fd, F.ok sc_law_rows (fun vs H Q E h => ?_) (fun cdv A outer s H vs Q E hr h => ?_), F.bindsN (fun _ _ _ _ _ _ us hl => match us, hl with | [_, _, _, _], _ => rfl), F.kp⟩
  · obtain ⟨v1, v2, v3, v4, rfl, _⟩ := h
    rfl
  · have hu := hu_of hr
    obtain ⟨v1, v2, v3, v4, rfl, a, p, L, ns, at_, n, rfl, rfl, rfl, rfl, a0, a1, hn, hP, hS, ok, lok, q⟩ := h
    obtain ⟨w, pl, l, xs, hA, hw, hp, hl, hT⟩ := hP
    have p1 := lok.p1
    refine ⟨_, PSs.nox (pss_cons (ps_set (i := 4) sc_law_rows.nd rfl (Or.inl rfl) (pe_lst pa_nil))
        (pss_cons (ps_for PassesOwn.never rfl (pi_range1 rfl T.f_range (pa_cons (pv 3) pa_nil)) (pg_name (i := 5) sc_law_rows.nd rfl (Or.inl rfl))
          (pss_one (ps_expr (pe_bm PySem.F.plainAttrs_list PySem.F.slot_list_append PySem.F.type_list_append mt_append (pv 4) (pa_cons (pe_tup (pa_cons (pe_ix (ixT K) (pe_ix (ixL K) (pv 0) pe_int (fun _ _ => rfl)) (pe_op op_mod (pe_callTy c_int (by rfl) T.f_int (by decide +kernel) (pa_cons (pe_ix (ixL K) (pv 1) (pe_op op_add (pv 2) (pv 5)) (fun _ _ => rfl)) pa_nil)) (pe_callB (lenK K) (by rfl) T.f_len (by decide +kernel) (pa_cons (pe_ix (ixL K) (pv 0) pe_int (fun _ _ => rfl)) pa_nil))) (fun _ _ => rfl)) (pa_cons (pe_op op_mod (pe_callTy c_int (by rfl) T.f_int (by decide +kernel) (pa_cons (pe_op op_fdiv (pe_ix (ixL K) (pv 1) (pe_op op_add (pv 2) (pv 5)) (fun _ _ => rfl)) pe_int) pa_nil)) pe_int) pa_nil))) pa_nil)))))
        (pss_one (ps_ret (pv 4))))), ?_⟩
    repeat (walk_at "rd")
    refine ⟨Nat.zero_le _, fun W nW => ?_⟩
    repeat (walk_at "rd")
    refine r_iR0 ?_
    repeat (walk_at "rd")
    refine ⟨n, rfl, by omega, by omega, for_it (walk_range (lo := 0) (n := n)) (fun i σ' H' => ∃ (y5 : Option V) (xs : List V) (rs : List (Str × Int)), σ' = [some (.ref a), some (.ref p), some (.int at_), some (.int n), some (.ref W), y5] ∧ Ex H H' ∧ H' W = some (.lst xs) ∧ TpAll K H' xs (rs.map ePM) ∧ rs.length = i ∧ ∀ q ∈ rs, q.1 ∈ L.places ∧ 0 ≤ q.2) ?_ (fun _ _ _ _ _ => trivial) ?_ ?_⟩
    · exact ⟨none, [], [], rfl, Ex.new nW, upd_same, .nil, rfl, fun _ h => (nomatch h)⟩
    · rintro i x σ' _ H3 hi ⟨y5, xs', rs, rfl, e, hW, hT', hlen, hall⟩ ⟨rfl, rfl⟩
      have hA3 := ex_l e hA
      repeat (walk_at "rd")
      refine r_app rfl hW ?_
      repeat (walk_at "rd")
      refine r_num (ex_l e hS) ok (by omega) (by omega) fun n1 n10 n11 => ?_
      repeat (walk_at "rd")
      refine r_lenT (ex_t e hp) ?_
      rw [List.length_map]
      refine r_mod (by omega) ?_
      refine r_strT (ex_t e hp) (Int.emod_nonneg _ (by omega)) (Int.emod_lt_of_pos _ (by omega)) fun s1 hs1 => ?_
      repeat (walk_at "rd")
      refine r_num (ex_l e hS) ok (by omega) (by omega) fun n2 n20 n21 => ?_
      repeat (walk_at "rd")
      refine ⟨sz_of (by show 2 ≤ 100000; decide), fun t' nt' => ?_⟩
      have e5 : Ex H3 (upd H3 t' (.tup [.str s1, .int (n2 / 9 % 30)])) := Ex.new nt'
      have t5 : Tp K (upd H3 t' (.tup [.str s1, .int (n2 / 9 % 30)])) (.ref t') (ePM (s1, n2 / 9 % 30)) := .tup (st_of upd_same) (.cons (.str _) (.cons (.int _) .nil))
      generalize upd H3 t' (.tup [.str s1, .int (n2 / 9 % 30)]) = H5 at e5 t5
      have hW5 := e5 _ _ hW
      refine r_appd hW5 (by rw [tpa_maplen hT']; omega) ?_
      repeat (walk_at "rd")
      refine ⟨_, _, rs ++ [(s1, n2 / 9 % 30)], rfl, Ex.mut (e.trans e5) nW, upd_same, ?_, by rw [List.length_append, hlen]; rfl, fun q hq => ?_⟩
      · rw [List.map_append]
        exact tpa_app (tpa_tk (tk_lst hW5) (tpa_ex e5 hT')) (tpa_one (tp_tk (tk_lst hW5) t5))
      · rcases List.mem_append.mp hq with z | z
        · exact hall q z
        · rw [List.mem_singleton.mp z]
          exact ⟨List.mem_of_getElem? hs1, by show 0 ≤ n2 / 9 % 30; omega⟩
    · rintro σ' H' ⟨y5, xs', rs, rfl, e, hW, hT', hlen, hall⟩
      repeat (walk_at "rd")
      exact q W rs H' e ⟨W, xs', rfl, sq_of hW, hT'⟩ hlen hall
/-! ### _law_wind -/
theorem r_bm {T : String} {r : V → List V → Hp → VK → Prop} {to : TE} {t : TA} {σ : L2.St} {H : Hp} {Q : VK} (q : to σ H fun x H1 => tyV K T x H1 ∧ t σ H1 fun xs H2 => r x xs H2 Q) : tBM K T r to t σ H Q := q
def bl (w0 : Str) (we : List (Int × Str)) (m : Int) : Str := (((we.filter fun q => decide (q.1 ≤ m)).map (·.2)).getLast?).getD w0
theorem bl_snoc {w0 : Str} {we : List (Int × Str)} {q : Int × Str} {m : Int} : bl w0 (we ++ [q]) m = if q.1 ≤ m then q.2 else bl w0 we m := by
  unfold bl
  rw [List.filter_append, List.map_append]
  by_cases h : q.1 ≤ m
  · rw [if_pos h, show [q].filter (fun q => decide (q.1 ≤ m)) = [q] from List.filter_cons_of_pos (p := fun q : Int × Str => decide (q.1 ≤ m)) (decide_eq_true h)]
    show ((_ ++ [q.2]).getLast?).getD w0 = q.2
    rw [List.getLast?_concat]
    rfl
  · rw [if_neg h, show [q].filter (fun q => decide (q.1 ≤ m)) = [] from List.filter_cons_of_neg (p := fun q : Int × Str => decide (q.1 ≤ m)) (fun z => h (of_decide_eq_true z))]
    show ((_ ++ []).getLast?).getD w0 = _
    rw [List.append_nil]
theorem bl_blow {w0 : Str} {we : List (Int × Str)} {m : Int} (h : ∃ q ∈ we, q.1 ≤ m) : bl w0 we m = blow we m := by
  obtain ⟨q0, h1, h2⟩ := h
  have hne : 1 ≤ ((we.filter fun q => decide (q.1 ≤ m)).map (·.2)).length := by
    rw [List.length_map]
    exact List.length_pos_of_mem (List.mem_filter.mpr ⟨h1, decide_eq_true h2⟩)
  obtain ⟨i, x, e⟩ := last_of hne
  unfold bl blow
  rw [e, List.getLast?_concat]
  rfl
def sp_law_wind (K : PySem.W.Frag) : Sp := fun vs H Q _ => ∃ v1 v2 v3, vs = [v1, v2, v3] ∧ ∃ (a : Addr) (L : LandD) (we : List (Int × Str)) (m : Int), v1 = .ref a ∧ v3 = .int m ∧ PartsAt K H a L ∧ Ls K H v2 (we.map eMP) ∧ WOk we ∧ (∀ q ∈ we, q.2 ∈ L.winds) ∧ 0 ≤ m ∧
  ∀ H', Ex H H' → Q (.int (L.winds.idxOf (blow we m) : Nat)) H'
abbrev N_law_wind : List Str := ["_law_parts_here", "_law_weather_here", "_law_minute", "_law_wind_here", "_law_start", "_law_name"]
-- slots 0=_law_parts_here 1=_law_weather_here 2=_law_minute 3=_law_wind_here 4=_law_start 5=_law_name; cells []
theorem sc_law_wind : FnScope N_law_wind ["_law_parts_here", "_law_weather_here", "_law_minute"] (defScope s_law_wind) := ⟨rfl, rfl, rfl, by decide +kernel, rfl, by decide +kernel, by decide +kernel⟩
theorem ok_law_wind (T : Tx K mg) : Cal P w K mg base 1 (He.ga K "_law_wind") ["_law_parts_here", "_law_weather_here", "_law_minute"] (sp_law_wind K) := by
  obtain ⟨fd, F⟩ := T.s.c.def_ 30 (d := d_law_wind) rfl
  refine ⟨fd, F.ok sc_law_wind (fun vs H Q E h => ?_) (fun cdv A outer s H vs Q E hr h => ?_), F.bindsN (fun _ _ _ _ _ _ us hl => match us, hl with | [_, _, _], _ => rfl), F.kp⟩
  · obtain ⟨v1, v2, v3, rfl, _⟩ := h
    rfl
  · have hu := hu_of hr
    obtain ⟨v1, v2, v3, rfl, a, L, we, m, rfl, rfl, hP, ⟨aw, xs, rfl, hS, hT⟩, wok, win, hm, q⟩ := h
    obtain ⟨w, pl, l, ys, hA, hw, hp, hl, hTl⟩ := hP
    obtain ⟨q0, hq0⟩ : ∃ q0, we[0]? = some q0 := ⟨_, List.getElem?_eq_getElem wok.ne⟩
    obtain ⟨v, hv, tv⟩ := tpa_item' hT hq0
    obtain ⟨t, x1, x2, rfl, ht, t1, t2⟩ := tp_tup2 tv
    cases tp_str t2
    refine ⟨_, PSs.nox (pss_cons (ps_set (i := 3) sc_law_wind.nd rfl (Or.inl rfl) (pe_ix (ixT K) (pe_ix (ixL K) (pv 1) pe_int (fun _ _ => rfl)) pe_int (fun _ _ => rfl)))
        (pss_cons (ps_for PassesOwn.never rfl (piL K (pv 1)) (pgT K (n := 2) rfl (pgs_cons (pg_name (i := 4) sc_law_wind.nd rfl (Or.inl rfl)) (pgs_cons (pg_name (i := 5) sc_law_wind.nd rfl (Or.inl rfl)) pgs_nil)))
          (pss_one (ps_if (pt_cmpR op_le (pv 4) (pv 2) (nomark _))
            (pss_one (ps_set (i := 3) sc_law_wind.nd rfl (Or.inl rfl) (pv 5)))
            pss_nil)))
        (pss_one (ps_ret (pe_bm PySem.F.plainAttrs_list PySem.F.slot_list_index PySem.F.type_list_index mt_index (pe_callTy (listK K) (by rfl) T.f_list (by decide +kernel) (pa_cons (pe_ix (ixL K) (pv 0) pe_int (fun _ _ => rfl)) pa_nil)) (pa_cons (pv 3) pa_nil)))))), ?_⟩
    repeat (walk_at "rd")
    refine r_ixL hS (atI_nat (j := 0) hv) ?_
    repeat (walk_at "rd")
    refine r_iL rfl hS ?_
    refine f_lB (B := H) hS hT (fun i σ' H' => ∃ (y4 y5 : Option V), σ' = [some (.ref a), some (.ref aw), some (.int m), some (.str (bl q0.2 (we.take i) m)), y4, y5] ∧ Ex H H') ?_ ?_ ?_ ?_
    · exact ⟨none, none, rfl, Ex.refl H⟩
    · rintro i σ' H' ⟨_, _, _, e⟩
      exact e
    · rintro i b x σ' H' hb tx ⟨y4, y5, rfl, e⟩
      obtain ⟨t', z1, z2, rfl, ht', tz1, tz2⟩ := tp_tup2 tx
      cases tp_int tz1
      cases tp_str tz2
      refine r_gtup ht' rfl ?_
      repeat (walk_at "rd")
      refine ite_c (fun hc => ?_) fun hc => ?_
      · repeat (walk_at "rd")
        refine ⟨some (.int b.1), some (.str b.2), ?_, e⟩
        rw [take_snoc hb, bl_snoc, if_pos (of_decide_eq_true hc)]
        rfl
      · repeat (walk_at "rd")
        refine ⟨some (.int b.1), some (.str b.2), ?_, e⟩
        rw [take_snoc hb, bl_snoc, if_neg (of_decide_eq_false hc)]
        rfl
    · rintro σ' H' ⟨y4, y5, rfl, e⟩
      rw [List.take_length, bl_blow (wok.has hm)]
      obtain ⟨qw, hqw, hqe⟩ := blow_mem (wok.has hm)
      have hbin : blow we m ∈ L.winds := by rw [← hqe]; exact win _ hqw
      obtain ⟨ix1, ix2⟩ := idx_first _ _ hbin
      have hA3 := ex_l e hA
      repeat (walk_at "rd")
      refine r_bm ?_
      repeat (walk_at "rd")
      refine r_listT (ex_t e hw) fun ll nll => ?_
      have e5 : Ex H' (upd H' ll (.lst (L.winds.map V.str))) := Ex.new nll
      refine ⟨.inl ⟨rfl, _, sq_of upd_same⟩, ?_⟩
      repeat (walk_at "rd")
      refine ⟨ll, _, .str (blow we m), L.winds.idxOf (blow we m), .str (blow we m), rfl, rfl, sq_of upd_same, rfl, flat_strs _, by rw [List.getElem?_map, ix1]; rfl, beq_self_eq_true (blow we m), fun j z' hj hz' => ?_, q _ (e.trans e5)⟩
      rw [List.getElem?_map] at hz'
      cases hh : L.winds[j]? with
      | none => rw [hh] at hz'; cases hz'
      | some s' =>
        rw [hh] at hz'
        cases hz'
        exact beq_eq_false_iff_ne.mpr fun y => ix2 j hj (by rw [hh, y])
/-! ### _law_stopped -/
def sp_law_stopped (K : PySem.W.Frag) : Sp := fun vs H Q _ => ∃ v1 v2 v3, vs = [v1, v2, v3] ∧ ∃ (bs : List (Str × Int)) (s : Str) (m : Int), Ls K H v1 (bs.map ePM) ∧ v2 = .str s ∧ v3 = .int m ∧ bs.length ≤ 1000 ∧ ∀ b H', Ex H H' → (b = true ↔ Stop bs s m) → Q (.bl b) H'
abbrev N_law_stopped : List Str := ["_law_breaks", "_law_place", "_law_minute", "_law_row_here"]
-- slots 0=_law_breaks 1=_law_place 2=_law_minute 3=_law_row_here; cells ['_law_minute', '_law_place']
theorem sc_law_stopped : FnScope N_law_stopped ["_law_breaks", "_law_place", "_law_minute"] (defScope s_law_stopped) := ⟨rfl, rfl, rfl, by decide +kernel, rfl, by decide +kernel, by decide +kernel⟩
theorem ok_law_stopped (T : Tx K mg) : Cal P w K mg base 1 (He.ga K "_law_stopped") ["_law_breaks", "_law_place", "_law_minute"] (sp_law_stopped K) := by
  obtain ⟨fd, F⟩ := T.s.c.def_ 31 (d := d_law_stopped) rfl
  refine ⟨fd, F.ok sc_law_stopped (fun vs H Q E h => ?_) (fun cdv A outer s H vs Q E hr h => ?_), F.bindsN (fun _ _ _ _ _ _ us hl => match us, hl with | [_, _, _], _ => rfl), F.kp⟩
  · obtain ⟨v1, v2, v3, rfl, _⟩ := h
    rfl
  · have hu := hu_of hr
    obtain ⟨v1, v2, v3, rfl, bs, s', m, ⟨a, xs, rfl, hS, hT⟩, rfl, rfl, hz, q⟩ := h
    refine ⟨_, PSs.nox (pss_one (ps_ret (pe_cmpR op_gt (pe_callB (lenK K) (by rfl) T.f_len (by decide +kernel) (pa_cons (pe_lc (own := [("_law_row_here", 3)]) rfl sc_law_stopped.nd (piL K (pv 0)) (blkOk_by (own := [("_law_row_here", 3)]) (N := N_law_stopped) (sc := defScope s_law_stopped) (by decide +kernel)) (fun _ _ _ _ _ => (pg_name (i := 3) sc_law_stopped.nd rfl (Or.inl rfl))) (fun _ _ _ _ _ => (pts_one (PW.pt (pw_and (pt_cmpR op_eq (pe_ix (ixT K) (pv 3) pe_int (fun _ _ => rfl)) (pv 1) (nomark _)) (pw_and1 (pt_cmpR op_le (pe_ix (ixT K) (pv 3) pe_int (fun _ _ => rfl)) (pv 2) (nomark _))))))) (fun _ _ _ _ _ => (pv 3))) pa_nil)) pe_int (nomark _)))), ?_⟩
    repeat (walk_at "rd")
    refine r_iL rfl hS (lc_l1 hS hT (by omega) (fun q => decide (V.str q.1 = V.str s') && decide (q.2 ≤ m)) ePM ?_ ?_)
    · intro b x H1 Ky Kn ha e tx hy hn
      obtain ⟨t, x1, x2, rfl, ht, t1, t2⟩ := tp_tup2 tx
      cases tp_str t1
      cases tp_int t2
      repeat (walk_at "rd")
      refine ite_c (fun h1 => ?_) fun h1 => ?_
      · repeat (walk_at "rd")
        refine ite_c (fun h2 => ?_) fun h2 => ?_
        · repeat (walk_at "rd")
          exact hy _ _ (by rw [h1, h2]; rfl) (Ex.refl _) tx
        · exact hn _ (by rw [h1, h2]; rfl) (Ex.refl _)
      · exact hn _ (by rw [h1]; rfl) (Ex.refl _)
    · intro D H1 ys _ e hd ht
      repeat (walk_at "rd")
      refine r_lenL (sq_of hd) ?_
      rw [tpa_maplen ht]
      repeat (walk_at "rd")
      refine q _ _ e ?_
      constructor
      · intro h
        have h := of_decide_eq_true h
        have h : 0 < (bs.filter fun q => decide (V.str q.1 = V.str s') && decide (q.2 ≤ m)).length := by omega
        obtain ⟨x, hx⟩ := List.exists_mem_of_length_pos h
        obtain ⟨h1, h2⟩ := List.mem_filter.mp hx
        obtain ⟨h3, h4⟩ := Bool.and_eq_true_iff.mp h2
        exact ⟨x, h1, V.str.inj (of_decide_eq_true h3), of_decide_eq_true h4⟩
      · rintro ⟨x, h1, h2, h3⟩
        have := List.length_pos_of_mem (List.mem_filter.mpr ⟨h1, show (decide (V.str x.1 = V.str s') && decide (x.2 ≤ m)) = true by rw [decide_eq_true (congrArg V.str h2), decide_eq_true h3]; rfl⟩ : x ∈ bs.filter fun q => decide (V.str q.1 = V.str s') && decide (q.2 ≤ m))
        exact decide_eq_true (by omega)
end
end EF
end
section
set_option maxHeartbeats 4000000
namespace EF
open PySem PySem.Spec PyProof.Rows PySem.W L2 Evl RZ
section
variable {P : Program} {w : World} {K : PySem.W.Frag} {mg : Str → Option Value} {base : Heap}
/-! ### _law_course -/
/-- whatever the least minutes, the course is no faster -/
def Led (L : LandD) (we : List (Int × Str)) (ss bs : List (Str × Int)) (st : Str × Int) (p : Str) (m : Int) : Prop := p ∈ L.places ∧ ∀ F, Closed (fire L we ss bs loRow) F → Had F st.1 st.2 → Had F p m
theorem Led.mono {L : LandD} {we : List (Int × Str)} {ss bs : List (Str × Int)} {st : Str × Int} {p : Str} {m m' : Int} (h : Led L we ss bs st p m) (hm : m ≤ m') : Led L we ss bs st p m' := ⟨h.1, fun F hc hh => (h.2 F hc hh).mono hm⟩
def sp_law_course (K : PySem.W.Frag) : Sp := fun vs H Q _ => ∃ v1 v2 v3 v4 v5 v6, vs = [v1, v2, v3, v4, v5, v6] ∧ ∃ (a p : Addr) (L : LandD) (we : List (Int × Str)) (ss bs : List (Str × Int)) (ns : List Int) (st : Str × Int), v1 = .ref a ∧ v5 = .ref p ∧ v6 = .int 80 ∧ PartsAt K H a L ∧ Ls K H v2 (we.map eMP) ∧ Tp K H v3 (ePM st) ∧ Ls K H v4 (bs.map ePM) ∧ SqL K H p (ns.map V.int) ∧ NsOk ns ∧
  LandOk L ∧ WOk we ∧ (∀ q ∈ we, q.2 ∈ L.winds) ∧ bs.length ≤ 1000 ∧ 0 ≤ st.2 ∧ st.1 ∈ L.places ∧
  ∀ (b : Addr) (rs : List (Str × Int)) (H' : Hp), Ex H H' → Ls K H' (.ref b) (rs.map ePM) → rs.length ≤ 100 → (∀ q ∈ rs, Led L we ss bs st q.1 q.2) → Q (.ref b) H'
abbrev N_law_course : List Str := ["_law_parts_here", "_law_weather_here", "_law_start", "_law_breaks", "_law_numbers_here", "_law_at", "_law_place", "_law_minute", "_law_rows_here", "_law_k", "_law_wind_here", "_law_choices", "_law_link", "_law_least", "_law_most", "_law_end"]
-- slots 0=_law_parts_here 1=_law_weather_here 2=_law_start 3=_law_breaks 4=_law_numbers_here 5=_law_at 6=_law_place 7=_law_minute 8=_law_rows_here 9=_law_k 10=_law_wind_here 11=_law_choices 12=_law_link 13=_law_least 14=_law_most 15=_law_end; cells ['_law_place', '_law_wind_here']
theorem sc_law_course : FnScope N_law_course ["_law_parts_here", "_law_weather_here", "_law_start", "_law_breaks", "_law_numbers_here", "_law_at"] (defScope s_law_course) := ⟨rfl, rfl, rfl, by decide +kernel, rfl, by decide +kernel, by decide +kernel⟩
theorem ok_law_course (T : Tx K mg) : Cal P w K mg base 2 (He.ga K "_law_course") ["_law_parts_here", "_law_weather_here", "_law_start", "_law_breaks", "_law_numbers_here", "_law_at"] (sp_law_course K) := by
  obtain ⟨fd, F⟩ := T.s.c.def_ 32 (d := d_law_course) rfl
  refine ⟨fd, F.ok sc_law_course (fun vs H Q E h => ?_) (fun cdv A outer s H vs Q E hr h => ?_), F.bindsN (fun _ _ _ _ _ _ us hl => match us, hl with | [_, _, _, _, _, _], _ => rfl), F.kp⟩
  · obtain ⟨v1, v2, v3, v4, v5, v6, rfl, _⟩ := h
    rfl
  · have hu := hu_of hr
    obtain ⟨v1, v2, v3, v4, v5, v6, rfl, a, p, L, we, ss, bs, ns, ⟨s0, m0⟩, rfl, rfl, rfl, hP, ⟨aw, wxs, rfl, hwS, hwT⟩, tst, ⟨ab, bxs, rfl, hbS, hbT⟩, hS, ok, lok, wok, win, hbl, hm0, hs0, q⟩ := h
    obtain ⟨w, pl, al, lxs, hA, hw, hp, hl, hT⟩ := hP
    have tst : Tp K H v3 (.tuple [.str s0, .int m0]) := tst
    have hm0 : 0 ≤ m0 := hm0
    have hhad : Led L we ss bs (s0, m0) s0 m0 := ⟨hs0, fun _ _ h => h⟩
    have l2 := lok.l2
    have tst' := tst
    obtain ⟨t, x1, x2, rfl, ht, t1, t2⟩ := tp_tup2 tst
    cases tp_str t1
    cases tp_int t2
    refine ⟨_, PSs.nox (pss_cons (ps_asg (pv 2) (pgT K (n := 2) rfl (pgs_cons (pg_name (i := 6) sc_law_course.nd rfl (Or.inr rfl)) (pgs_cons (pg_name (i := 7) sc_law_course.nd rfl (Or.inl rfl)) pgs_nil))))
        (pss_cons (ps_set (i := 8) sc_law_course.nd rfl (Or.inl rfl) (pe_lst (pa_cons (pv 2) pa_nil)))
        (pss_cons (ps_for PassesOwn.never rfl (pi_range1 rfl T.f_range (pa_cons pe_int pa_nil)) (pg_name (i := 9) sc_law_course.nd rfl (Or.inl rfl))
          (pss_cons (ps_set (i := 7) sc_law_course.nd rfl (Or.inl rfl) (pe_op op_add (pv 7) (pe_op op_mul (pe_op op_mod (pe_callTy c_int (by rfl) T.f_int (by decide +kernel) (pa_cons (pe_op op_fdiv (pe_ix (ixL K) (pv 4) (pe_op op_add (pv 5) (pe_op op_mul pe_int (pv 9))) (fun _ _ => rfl)) pe_int) pa_nil)) pe_int) (pe_op op_mod (pe_callTy c_int (by rfl) T.f_int (by decide +kernel) (pa_cons (pe_ix (ixL K) (pv 4) (pe_op op_add (pv 5) (pe_op op_mul pe_int (pv 9))) (fun _ _ => rfl)) pa_nil)) pe_int))))
          (pss_cons (ps_set (i := 10) sc_law_course.nd rfl (Or.inr rfl) (pe_cal (ok_law_wind T) hr T.g_law_wind (pa_cons (pv 0) (pa_cons (pv 1) (pa_cons (pv 7) pa_nil)))))
          (pss_cons (ps_setLc (i := 11) (own := [("_law_link", 12)]) rfl sc_law_course.nd rfl rfl (sw_true rfl rfl rfl (by decide +kernel)) (piT K (pe_ix (ixL K) (pv 0) pe_int (fun _ _ => rfl))) (blkOk_by (own := [("_law_link", 12)]) (N := N_law_course) (sc := defScope s_law_course) (by decide +kernel)) (fun _ _ _ _ _ => (pg_name (i := 12) sc_law_course.nd rfl (Or.inl rfl))) (fun _ _ _ _ _ => (pts_one (PW.pt (pw_and (pt_cmpR op_eq (pe_ix (ixT K) (pv 12) pe_int (fun _ _ => rfl)) (pv 6) (nomark _)) (pw_and1 (pt_cmpR op_notN1 (pe_ix (ixT K) (pe_ix (ixT K) (pv 12) pe_int (fun _ _ => rfl)) (pv 10) (fun _ _ => rfl)) pe_non (nomark _))))))) (fun _ _ _ _ _ => (pv 12)))
          (pss_one (ps_if (pt_cmpR op_gt (pe_callB (lenK K) (by rfl) T.f_len (by decide +kernel) (pa_cons (pv 11) pa_nil)) pe_int (nomark _))
            (pss_cons (ps_set (i := 12) sc_law_course.nd rfl (Or.inl rfl) (pe_ix (ixL K) (pv 11) (pe_op op_mod (pe_callTy c_int (by rfl) T.f_int (by decide +kernel) (pa_cons (pe_ix (ixL K) (pv 4) (pe_op op_add (pe_op op_add (pv 5) (pe_op op_mul pe_int (pv 9))) pe_int) (fun _ _ => rfl)) pa_nil)) (pe_callB (lenK K) (by rfl) T.f_len (by decide +kernel) (pa_cons (pv 11) pa_nil))) (fun _ _ => rfl)))
            (pss_cons (ps_asg (pe_ix (ixT K) (pe_ix (ixT K) (pv 12) pe_int (fun _ _ => rfl)) (pv 10) (fun _ _ => rfl)) (pgT K (n := 2) rfl (pgs_cons (pg_name (i := 13) sc_law_course.nd rfl (Or.inl rfl)) (pgs_cons (pg_name (i := 14) sc_law_course.nd rfl (Or.inl rfl)) pgs_nil))))
            (pss_cons (ps_set (i := 15) sc_law_course.nd rfl (Or.inl rfl) (pe_op op_add (pe_op op_add (pv 7) (pv 13)) (pe_op op_mod (pe_callTy c_int (by rfl) T.f_int (by decide +kernel) (pa_cons (pe_op op_fdiv (pe_ix (ixL K) (pv 4) (pe_op op_add (pe_op op_add (pv 5) (pe_op op_mul pe_int (pv 9))) pe_int) (fun _ _ => rfl)) pe_int) pa_nil)) (pe_op op_add (pe_op op_sub (pv 14) (pv 13)) pe_int))))
            (pss_cons (ps_if (pt_val (pe_cal (ok_law_stopped T) hr T.g_law_stopped (pa_cons (pv 3) (pa_cons (pe_ix (ixT K) (pv 12) pe_int (fun _ _ => rfl)) (pa_cons (pv 15) pa_nil)))))
              (pss_one (ps_ret (pv 8)))
              pss_nil)
            (pss_cons (ps_set (i := 6) sc_law_course.nd rfl (Or.inr rfl) (pe_ix (ixT K) (pv 12) pe_int (fun _ _ => rfl)))
            (pss_cons (ps_set (i := 7) sc_law_course.nd rfl (Or.inl rfl) (pv 15))
            (pss_one (ps_expr (pe_bm PySem.F.plainAttrs_list PySem.F.slot_list_append PySem.F.type_list_append mt_append (pv 8) (pa_cons (pe_tup (pa_cons (pv 6) (pa_cons (pv 15) pa_nil))) pa_nil))))))))))
            pss_nil))))))
        (pss_one (ps_ret (pv 8)))))), ?_⟩
    repeat (walk_at "rd")
    refine r_gtup ht rfl ?_
    repeat (walk_at "rd")
    refine ⟨sz_of (by show 1 ≤ 100000; decide), fun R nR => ?_⟩
    have e0 : Ex H (upd H R (.lst [.ref t])) := Ex.new nR
    repeat (walk_at "rd")
    refine r_iR0 ?_
    repeat (walk_at "rd")
    refine ⟨8, rfl, by omega, by omega, for_it (walk_range (lo := 0) (n := 8)) (fun i σ' H' => ∃ (y9 y10 y11 y12 y13 y14 y15 : Option V) (pc : Str) (m : Int) (xs : List V) (rs : List (Str × Int)), σ' = [some (.ref a), some (.ref aw), some (.ref t), some (.ref ab), some (.ref p), some (.int 80), some (.str pc), some (.int m), some (.ref R), y9, y10, y11, y12, y13, y14, y15] ∧ Ex H H' ∧ H' R = some (.lst xs) ∧ TpAll K H' xs (rs.map ePM) ∧ rs.length ≤ i + 1 ∧ (∀ q ∈ rs, Led L we ss bs (s0, m0) q.1 q.2) ∧ Led L we ss bs (s0, m0) pc m ∧ 0 ≤ m) ?_ (fun _ _ _ _ _ => trivial) ?_ ?_⟩
    · refine ⟨none, none, none, none, none, none, none, s0, m0, _, [(s0, m0)], rfl, e0, upd_same, tpa_one (tp_ex e0 tst'), Nat.le_refl _, fun q hq => ?_, hhad, hm0⟩
      rw [List.mem_singleton.mp hq]
      exact hhad
    · rintro i x σ' _ H3 hi ⟨y9, y10, y11, y12, y13, y14, y15, pc, m, xs, rs, rfl, e, hR, hTR, hlen, hall, hpc, hm⟩ ⟨rfl, rfl⟩
      repeat (walk_at "rd")
      refine r_num (ex_l e hS) ok (by omega) (by omega) fun n1 n10 n11 => ?_
      repeat (walk_at "rd")
      refine r_num (ex_l e hS) ok (by omega) (by omega) fun n2 n20 n21 => ?_
      repeat (walk_at "rd")
      refine r_mul (.inl ⟨by omega, by omega⟩) ?_
      repeat (walk_at "rd")
      have hge : 0 ≤ n1 / 13 % 3 * (n2 % 12) := Int.mul_nonneg (by omega) (by omega)
      have hpc2 := hpc.mono (show m ≤ m + n1 / 13 % 3 * (n2 % 12) by omega)
      have hm2 : 0 ≤ m + n1 / 13 % 3 * (n2 % 12) := by omega
      generalize m + n1 / 13 % 3 * (n2 % 12) = m2 at hpc2 hm2
      refine ⟨_, _, _, rfl, a, L, we, m2, rfl, rfl, ⟨w, pl, al, lxs, ex_l e hA, ex_t e hw, ex_t e hp, ex_t e hl, tpa_ex e hT⟩, ⟨aw, wxs, rfl, ex_l e hwS, tpa_ex e hwT⟩, wok, win, hm2, fun H4 e4 => ?_⟩
      have E4 := e.trans e4
      obtain ⟨qw, hqw, hqe⟩ := blow_mem (wok.has hm2)
      have hbin : blow we m2 ∈ L.winds := by rw [← hqe]; exact win _ hqw
      obtain ⟨ix1, _⟩ := idx_first _ _ hbin
      have hix : L.winds.idxOf (blow we m2) < L.winds.length := (List.getElem?_eq_some_iff.mp ix1).1
      have hA4 := ex_l E4 hA
      have hl4 := ex_t E4 hl
      have hT4 := tpa_ex E4 hT
      have hR4 := e4 _ _ hR
      have hTR4 := tpa_ex e4 hTR
      generalize hj : L.winds.idxOf (blow we m2) = j at hix
      repeat (walk_at "rd")
      refine r_iT0 ?_
      repeat (walk_at "rd")
      refine ⟨al, rfl, ⟨_, hl4⟩, lc_t1 hl4 hT4 (by omega) (fun l => decide (V.str l.one = V.str pc) && ((l.tm[j]?).getD none).isSome) eLk ?_ ?_⟩
      · intro l x H5 Ky Kn hlm e5 tx hy hn
        have lk := lok.lk l hlm
        have tx' := tx
        obtain ⟨t4, x1, x2, x3, x4, rfl, ht4, tx1, tx2, tx3, tx4⟩ := tp_tup4 tx
        cases tp_str tx2
        obtain ⟨a4, xs4, rfl, hS4, hT5⟩ := tp_tup tx4
        repeat (walk_at "rd")
        refine ite_c (fun h1 => ?_) fun h1 => ?_
        · repeat (walk_at "rd")
          obtain ⟨o, ho⟩ : ∃ o, l.tm[j]? = some o := ⟨_, List.getElem?_eq_getElem (by rw [lk.len]; exact hix)⟩
          obtain ⟨v, hv, tv⟩ := tpa_item' hT5 ho
          refine r_ixT hS4 (atI_nat hv) ?_
          cases o with
          | none =>
            cases tp_non tv
            repeat (walk_at "rd")
            exact hn _ (by rw [h1, ho]; rfl) (Ex.refl _)
          | some pr =>
            obtain ⟨t5, z1, z2, rfl, _, _, _⟩ := tp_tup2 tv
            repeat (walk_at "rd")
            exact hy _ _ (by rw [h1, ho]; rfl) (Ex.refl _) tx'
        · exact hn _ (by rw [h1]; rfl) (Ex.refl _)
      intro D H5 ys nD e5 hd htD
      have E5 := E4.trans e5
      have hR5 := e5 _ _ hR4
      have hTR5 := tpa_ex e5 hTR4
      generalize hch : L.links.filter (fun l => decide (V.str l.one = V.str pc) && ((l.tm[j]?).getD none).isSome) = ch at htD
      repeat (walk_at "rd")
      refine r_lenL (sq_of hd) ?_
      rw [tpa_maplen htD]
      repeat (walk_at "rd")
      refine ite_c (fun hpos => ?_) fun hpos => ?_
      · have hpos := of_decide_eq_true hpos
        repeat (walk_at "rd")
        refine r_num (ex_l E5 hS) ok (by omega) (by omega) fun n3 n30 n31 => ?_
        repeat (walk_at "rd")
        refine r_lenL (sq_of hd) ?_
        rw [tpa_maplen htD]
        refine r_mod (by omega) ?_
        have hk0 : 0 ≤ n3 % (ch.length : Int) := Int.emod_nonneg _ (by omega)
        have hk1 : n3 % (ch.length : Int) < ch.length := Int.emod_lt_of_pos _ (by omega)
        generalize n3 % (ch.length : Int) = kk at hk0 hk1
        obtain ⟨l, hlk⟩ : ∃ l, ch[kk.toNat]? = some l := ⟨_, List.getElem?_eq_getElem (by omega)⟩
        obtain ⟨v, hv, tv⟩ := tpa_item' htD hlk
        refine r_ixL (sq_of hd) (atI_int hk0 hv) ?_
        have hlm := List.mem_of_getElem? hlk
        rw [← hch] at hlm
        obtain ⟨hlL, hlp⟩ := List.mem_filter.mp hlm
        obtain ⟨hl1, hl2⟩ := Bool.and_eq_true_iff.mp hlp
        have hone : l.one = pc := V.str.inj (of_decide_eq_true hl1)
        have lk := lok.lk l hlL
        obtain ⟨o, ho⟩ : ∃ o, l.tm[j]? = some o := ⟨_, List.getElem?_eq_getElem (by rw [lk.len]; exact hix)⟩
        rw [ho] at hl2
        obtain ⟨pr, hpr⟩ := Option.isSome_iff_exists.mp (show o.isSome = true from hl2)
        subst hpr
        obtain ⟨lo, hi'⟩ := pr
        obtain ⟨tk1, tk2, tk3⟩ := lk.tm _ (List.mem_of_getElem? ho)
        have tk1 : 1 ≤ lo := tk1
        have tk2 : lo ≤ hi' := tk2
        obtain ⟨t4, x1, x2, x3, x4, rfl, ht4, tx1, tx2, tx3, tx4⟩ := tp_tup4 tv
        cases tp_str tx3
        obtain ⟨a4, xs4, rfl, hS4, hT5⟩ := tp_tup tx4
        obtain ⟨v5, hv5, tv5⟩ := tpa_item' hT5 ho
        have tv5 : Tp K H5 v5 (.tuple [.int lo, .int hi']) := tv5
        obtain ⟨t5, z1, z2, rfl, ht5, tz1, tz2⟩ := tp_tup2 tv5
        cases tp_int tz1
        cases tp_int tz2
        repeat (walk_at "rd")
        refine r_ixT hS4 (atI_nat hv5) ?_
        refine r_gtup ht5 rfl ?_
        repeat (walk_at "rd")
        refine r_num (ex_l E5 hS) ok (by omega) (by omega) fun n4 n40 n41 => ?_
        repeat (walk_at "rd")
        refine r_mod (by omega) ?_
        have hg0 : 0 ≤ n4 / 11 % (hi' - lo + 1) := Int.emod_nonneg _ (by omega)
        generalize n4 / 11 % (hi' - lo + 1) = g at hg0
        repeat (walk_at "rd")
        refine ⟨_, _, _, rfl, bs, l.oth, m2 + lo + g, ⟨ab, bxs, rfl, ex_l E5 hbS, tpa_ex E5 hbT⟩, rfl, rfl, hbl, fun b H6 e6 hb => ?_⟩
        have E6 := E5.trans e6
        have hR6 := e6 _ _ hR5
        have hTR6 := tpa_ex e6 hTR5
        have ht46 := ex_t e6 ht4
        refine ⟨b, rfl, ?_⟩
        refine ite_c (fun hst => ?_) fun hst => ?_
        · repeat (walk_at "rd")
          exact q R rs H6 E6 ⟨R, xs, rfl, sq_of hR6, hTR6⟩ (by omega) hall
        · have hns : ¬ Stop bs l.oth (m2 + lo + g) := fun z => by rw [hb.mpr z] at hst; cases hst
          have hnew : Led L we ss bs (s0, m0) l.oth (m2 + lo + g) := ⟨lk.oth, fun F hc hh => Had.step hc hlL (by rw [hone]; exact hpc2.2 F hc hh) (by rw [hj]; exact ho) (by omega) hns⟩
          repeat (walk_at "rd")
          refine r_app rfl hR6 ?_
          repeat (walk_at "rd")
          refine ⟨sz_of (by show 2 ≤ 100000; decide), fun t' nt' => ?_⟩
          have e7 : Ex H6 (upd H6 t' (.tup [.str l.oth, .int (m2 + lo + g)])) := Ex.new nt'
          have t7 : Tp K (upd H6 t' (.tup [.str l.oth, .int (m2 + lo + g)])) (.ref t') (ePM (l.oth, m2 + lo + g)) := .tup (st_of upd_same) (.cons (.str _) (.cons (.int _) .nil))
          generalize upd H6 t' (.tup [.str l.oth, .int (m2 + lo + g)]) = H7 at e7 t7
          have hR7 := e7 _ _ hR6
          refine r_appd hR7 (by rw [tpa_maplen hTR]; omega) ?_
          repeat (walk_at "rd")
          refine ⟨_, _, _, _, _, _, _, l.oth, m2 + lo + g, _, rs ++ [(l.oth, m2 + lo + g)], rfl, Ex.mut (E6.trans e7) nR, upd_same, ?_, by rw [List.length_append]; show rs.length + 1 ≤ _; omega, fun q' hq' => ?_, hnew, by omega⟩
          · rw [List.map_append]
            exact tpa_app (tpa_tk (tk_lst hR7) (tpa_ex e7 hTR6)) (tpa_one (tp_tk (tk_lst hR7) t7))
          · rcases List.mem_append.mp hq' with z | z
            · exact hall q' z
            · rw [List.mem_singleton.mp z]
              exact hnew
      · repeat (walk_at "rd")
        exact ⟨_, _, _, _, _, _, _, pc, m2, xs, rs, rfl, E5, hR5, hTR5, by omega, hall, hpc2, hm2⟩
    · rintro σ' H' ⟨y9, y10, y11, y12, y13, y14, y15, pc, m, xs, rs, rfl, e, hR, hTR, hlen, hall, hpc, hm⟩
      repeat (walk_at "rd")
      exact q R rs H' e ⟨R, xs, rfl, sq_of hR, hTR⟩ (by omega) hall
end
end EF
end
section
set_option maxHeartbeats 4000000
namespace EF
open PySem PySem.Spec PyProof.Rows PySem.W L2 Evl RZ
section
variable {P : Program} {w : World} {K : PySem.W.Frag} {mg : Str → Option Value} {base : Heap}
/-! ### the law -/
theorem er_l2 {p a : Addr} {H : Hp} {kvs : List (Key × V)} {xs : List V} (hp : H p = some (.dK kvs)) (h : SqL K H a xs) : SqL K (er p H) a xs := by
  rcases h with (h | ⟨o, h⟩) | h
  · exact .inl (.inl (by rw [er_ne fun z => by rw [z, hp] at h; cases h]; exact h))
  · exact .inl (.inr ⟨o, by rw [er_ne fun z => by rw [z, hp] at h; cases h]; exact h⟩)
  · exact .inr h
theorem er_tk2 {p : Addr} {H : Hp} {kvs : List (Key × V)} (hp : H p = some (.dK kvs)) : Tk H (er p H) := by
  refine ⟨fun a xs h => ?_, fun a ob xs h => ?_⟩
  · rcases h with h | ⟨o, h⟩
    · exact .inl (by rw [er_ne fun z => by rw [z, hp] at h; cases h]; exact h)
    · exact .inr ⟨o, by rw [er_ne fun z => by rw [z, hp] at h; cases h]; exact h⟩
  · rw [er_ne fun z => by rw [z, hp] at h; cases h]
    exact h
theorem putK_len (l : List (Key × V)) (k : Key) (v : V) : (putK l k v).length ≤ l.length + 1 := by
  unfold putK
  split
  · rw [List.length_map]; omega
  · rw [List.length_append]; exact Nat.le_refl _
abbrev N_law : List Str := ["_law_script", "_law_numbers_here", "_law_parts_here", "_law_land", "_law_weather_here", "_law_starts", "_law_breaks", "_law_start", "_law_first", "_law_place", "_law_minute", "_law_never", "_law_row_here"]
-- slots 0=_law_script 1=_law_numbers_here 2=_law_parts_here 3=_law_land 4=_law_weather_here 5=_law_starts 6=_law_breaks 7=_law_start 8=_law_first 9=_law_place 10=_law_minute 11=_law_never 12=_law_row_here; cells []
theorem sc_law : FnScope N_law ["_law_script"] (defScope s_law) := ⟨rfl, rfl, rfl, by decide +kernel, rfl, by decide +kernel, by decide +kernel⟩
theorem ok_law (T : Tx K mg) (P : Program) (w : World) (base : Heap) (fd : FuncData) (F : FunD K d_law.name d_law.qual d_law.params d_law.body d_law.scope (d_law.dvs K) (d_law.kws K) (He.fAd K d_law.at_) fd) : FnOk P w K mg base CX0 20 (He.fAd K d_law.at_) fd ["_law_script"] (spLaw K) := by
  refine F.ok sc_law (fun vs H Q E h => ?_) (fun cdv A outer s H vs Q E hr h => ?_)
  · obtain ⟨a, ns, rfl, _⟩ := h
    rfl
  · have hu := hu_of hr
    obtain ⟨a, ns, rfl, hS, hn, hb, q⟩ := h
    refine ⟨_, PSs.nox (pss_cons (ps_set (i := 1) sc_law.nd rfl (Or.inl rfl) (pe_cal (ok_law_numbers T) hr T.g_law_numbers (pa_cons (pv 0) (pa_cons pe_int pa_nil))))
        (pss_cons (ps_set (i := 2) sc_law.nd rfl (Or.inl rfl) (pe_cal (ok_law_parts T) hr T.g_law_parts (pa_cons (pv 1) (pa_cons pe_int pa_nil))))
        (pss_cons (ps_set (i := 3) sc_law.nd rfl (Or.inl rfl) (pe_cal (ok_law_made T) hr T.g_law_made (pa_cons (pv 2) pa_nil)))
        (pss_cons (ps_set (i := 4) sc_law.nd rfl (Or.inl rfl) (pe_cal (ok_law_weather T) hr T.g_law_weather (pa_cons (pv 2) (pa_cons (pv 1) (pa_cons pe_int pa_nil)))))
        (pss_cons (ps_set (i := 5) sc_law.nd rfl (Or.inl rfl) (pe_cal (ok_law_rows T) hr T.g_law_rows (pa_cons (pv 2) (pa_cons (pv 1) (pa_cons pe_int (pa_cons (pe_op op_add pe_int (pe_op op_mod (pe_callTy c_int (by rfl) T.f_int (by decide +kernel) (pa_cons (pe_ix (ixL K) (pv 1) pe_int (fun _ _ => rfl)) pa_nil)) pe_int)) pa_nil))))))
        (pss_cons (ps_set (i := 6) sc_law.nd rfl (Or.inl rfl) (pe_cal (ok_law_rows T) hr T.g_law_rows (pa_cons (pv 2) (pa_cons (pv 1) (pa_cons pe_int (pa_cons (pe_op op_mod (pe_callTy c_int (by rfl) T.f_int (by decide +kernel) (pa_cons (pe_ix (ixL K) (pv 1) pe_int (fun _ _ => rfl)) pa_nil)) pe_int) pa_nil))))))
        (pss_cons (ps_set (i := 7) sc_law.nd rfl (Or.inl rfl) (pe_ix (ixL K) (pv 5) (pe_op op_mod (pe_callTy c_int (by rfl) T.f_int (by decide +kernel) (pa_cons (pe_ix (ixL K) (pv 1) pe_int (fun _ _ => rfl)) pa_nil)) (pe_callB (lenK K) (by rfl) T.f_len (by decide +kernel) (pa_cons (pv 5) pa_nil))) (fun _ _ => rfl)))
        (pss_cons (ps_if (pt_val (pe_cal (ok_law_stopped T) hr T.g_law_stopped (pa_cons (pv 6) (pa_cons (pe_ix (ixT K) (pv 7) pe_int (fun _ _ => rfl)) (pa_cons (pe_ix (ixT K) (pv 7) pe_int (fun _ _ => rfl)) pa_nil)))))
          (pss_one (ps_ret pe_bl))
          pss_nil)
        (pss_cons (ps_set (i := 8) sc_law.nd rfl (Or.inl rfl) pe_dnewK)
        (pss_cons (ps_for PassesOwn.never rfl (piL K (pe_cal (ok_fastest T) hr T.g_fastest (pa_cons (pv 3) (pa_cons (pv 4) (pa_cons (pv 5) (pa_cons (pv 6) pa_nil)))))) (pgT K (n := 2) rfl (pgs_cons (pg_name (i := 9) sc_law.nd rfl (Or.inl rfl)) (pgs_cons (pg_name (i := 10) sc_law.nd rfl (Or.inl rfl)) pgs_nil)))
          (pss_one (ps_dput hu (pv 8) (pv 9) (pv 10) rfl)))
        (pss_cons (ps_setLc (i := 11) (own := [("_law_row_here", 12)]) rfl sc_law.nd rfl rfl (sw_true rfl rfl rfl (by decide +kernel)) (piL K (pe_cal (ok_states T) hr T.g_states (pa_cons (pv 3) (pa_cons (pv 4) (pa_cons (pv 5) (pa_cons (pv 6) pa_nil)))))) (blkOk_by (own := [("_law_row_here", 12)]) (N := N_law) (sc := defScope s_law) (by decide +kernel)) (fun _ _ _ _ _ => (pg_name (i := 12) sc_law.nd rfl (Or.inl rfl))) (fun _ _ _ _ _ => (pts_one (pt_cmpR op_eq (pe_ix (ixT K) (pv 12) pe_int (fun _ _ => rfl)) pe_str (nomark _)))) (fun _ _ _ _ _ => (pe_ix (ixT K) (pv 12) pe_int (fun _ _ => rfl))))
        (pss_cons (ps_for PassesOwn.never rfl (piL K (pe_cal (ok_law_course T) hr T.g_law_course (pa_cons (pv 2) (pa_cons (pv 4) (pa_cons (pv 7) (pa_cons (pv 6) (pa_cons (pv 1) (pa_cons pe_int pa_nil)))))))) (pgT K (n := 2) rfl (pgs_cons (pg_name (i := 9) sc_law.nd rfl (Or.inl rfl)) (pgs_cons (pg_name (i := 10) sc_law.nd rfl (Or.inl rfl)) pgs_nil)))
          (pss_one (ps_if (PW.pt (pw_or (pt_cmpR op_isN1 (pe_dget hu (pv 8) (pv 9) (fun _ _ => rfl)) pe_non (nomark _)) (pw_or (pt_cmpR op_gt (pe_dget hu (pv 8) (pv 9) (fun _ _ => rfl)) (pv 10) (nomark _)) (pw_or1 (pt_cmpR (inK K) (pv 9) (pv 11) (by rfl))))))
            (pss_one (ps_ret pe_bl))
            pss_nil)))
        (pss_one (ps_ret pe_bl)))))))))))))), ?_⟩
    repeat (walk_at "rd")
    refine ⟨_, _, rfl, a, ns, rfl, hS, hn, hb, rfl, fun nl ms H1 e1 hM ok => ?_⟩
    repeat (walk_at "rd")
    refine ⟨_, _, rfl, nl, ms, rfl, rfl, hM, ok, fun pa L H2 e2 hP lok => ?_⟩
    have hM2 := ex_l e2 hM
    repeat (walk_at "rd")
    refine ⟨_, rfl, pa, L, rfl, hP, lok, fun p H3 e3 hL => ?_⟩
    have hM3 := ex_l e3 hM2
    have hP3 := parts_ex e3 hP
    repeat (walk_at "rd")
    refine ⟨_, _, _, rfl, pa, nl, L, ms, rfl, rfl, rfl, hP3, hM3, ok, lok, fun W we H4 e4 hW wok win => ?_⟩
    have hM4 := ex_l e4 hM3
    have hP4 := parts_ex e4 hP3
    have hL4 := land_ex e4 hL
    repeat (walk_at "rd")
    refine r_num hM4 ok (by omega) (by omega) fun z z0 z1 => ?_
    repeat (walk_at "rd")
    refine ⟨_, _, _, _, rfl, pa, nl, L, ms, 70, (1 + z % 3).toNat, rfl, rfl, rfl, congrArg V.int (by omega), by omega, by omega, by omega, hP4, hM4, ok, lok, fun S ss H5 e5 hSs hsl hsa => ?_⟩
    have hM5 := ex_l e5 hM4
    have hP5 := parts_ex e5 hP4
    have hL5 := land_ex e5 hL4
    have hW5 := ls_ex e5 hW
    repeat (walk_at "rd")
    refine r_num hM5 ok (by omega) (by omega) fun z' z0' z1' => ?_
    repeat (walk_at "rd")
    refine ⟨_, _, _, _, rfl, pa, nl, L, ms, 75, (z' % 4).toNat, rfl, rfl, rfl, congrArg V.int (by omega), by omega, by omega, by omega, hP5, hM5, ok, lok, fun Bk bs H6 e6 hBs hbl hba => ?_⟩
    have hM6 := ex_l e6 hM5
    have hP6 := parts_ex e6 hP5
    have hL6 := land_ex e6 hL5
    have hW6 := ls_ex e6 hW5
    have hS6 := ls_ex e6 hSs
    clear hM hM2 hM3 hM4 hM5 hP hP3 hP4 hP5 hL hL4 hL5 hW hW5 hSs
    obtain ⟨sa, sxs, hsa', hsS, hsT⟩ := hS6
    cases hsa'
    repeat (walk_at "rd")
    refine r_num hM6 ok (by omega) (by omega) fun y y0 y1 => ?_
    repeat (walk_at "rd")
    refine r_lenL hsS ?_
    rw [tpa_maplen hsT]
    refine r_mod (by omega) ?_
    have hk0 : 0 ≤ y % (ss.length : Int) := Int.emod_nonneg _ (by omega)
    have hk1 : y % (ss.length : Int) < ss.length := Int.emod_lt_of_pos _ (by omega)
    generalize y % (ss.length : Int) = kk at hk0 hk1
    obtain ⟨st, hst⟩ : ∃ st, ss[kk.toNat]? = some st := ⟨_, List.getElem?_eq_getElem (by omega)⟩
    obtain ⟨v, hv, tv⟩ := tpa_item' hsT hst
    refine r_ixL hsS (atI_int hk0 hv) ?_
    have hstm := List.mem_of_getElem? hst
    obtain ⟨st1, st2⟩ := hsa st hstm
    have tv' := tv
    obtain ⟨t, x1, x2, rfl, ht, t1, t2⟩ := tp_tup2 tv
    cases tp_str t1
    cases tp_int t2
    repeat (walk_at "rd")
    refine ⟨_, _, _, rfl, bs, st.1, st.2, hBs, rfl, rfl, by omega, fun b H7 e7 hbb => ?_⟩
    refine ⟨b, rfl, ?_⟩
    have aok : AskOk L we ss bs := ⟨lok, wok, win, fun q hq => (hsa q hq).1, fun q hq => (hba q hq).1, fun q hq => (hsa q hq).2, by omega, by omega⟩
    have hM7 := ex_l e7 hM6
    have hP7 := parts_ex e7 hP6
    have hL7 := land_ex e7 hL6
    have hW7 := ls_ex e7 hW6
    have hS7 : Ls K H7 (.ref S) (ss.map ePM) := ⟨S, sxs, rfl, ex_l e7 hsS, tpa_ex e7 hsT⟩
    have hB7 := ls_ex e7 hBs
    have tv7 := tp_ex e7 tv'
    refine ite_c (fun hst' => ?_) fun hst' => ?_
    · repeat (walk_at "rd")
      exact q _
    have hns : ¬ Stop bs st.1 st.2 := fun z => by rw [hbb.mpr z] at hst'; cases hst'
    have had : ∀ F, Closed (fire L we ss bs loRow) F → Had F st.1 st.2 := fun F hc => hc.st st hstm hns
    clear hM6 hP6 hL6 hW6 hBs hsS hsT
    repeat (walk_at "rd")
    refine fun fd' nfd => ?_
    repeat (walk_at "rd")
    have e8 : Ex H7 (upd H7 fd' (.dK [])) := Ex.new nfd
    refine r_iL0 ?_
    repeat (walk_at "rd")
    refine ⟨_, _, _, _, rfl, p, L, we, ss, bs, rfl, land_ex e8 hL7, ls_ex e8 hW7, ls_ex e8 hS7, ls_ex e8 hB7, aok, fun v F0 H9 e9 hv hc0 => ?_⟩
    obtain ⟨la, lxs, rfl, hlS, hlT⟩ := hv
    have hfd9 : H9 fd' = some (.dK []) := e9 _ _ upd_same
    have e79 := e8.trans e9
    have p2 := lok.p2
    refine ⟨la, rfl, ⟨_, hlS⟩, f_lB (B := er fd' H9) (er_l2 hfd9 hlS) (tpa_tk (er_tk2 hfd9) hlT) (fun i σ' H' => ∃ (y9 y10 : Option V) (kvs : List (Key × V)), σ' = [some (.ref a), some (.ref nl), some (.ref pa), some (.ref p), some (.ref W), some (.ref S), some (.ref Bk), some (.ref t), some (.ref fd'), y9, y10, none, none] ∧ Ex (er fd' H9) H' ∧ Ex H7 H' ∧ H' fd' = some (.dK kvs) ∧ kvs.length ≤ i ∧ ∀ s ∈ L.places.take i, valV kvs (.inr s) = some (vO (lk F0 s))) ?_ ?_ ?_ ?_⟩
    · exact ⟨none, none, [], rfl, ex_er, e79, hfd9, Nat.le_refl _, fun _ h => by rw [List.take_zero] at h; cases h⟩
    · rintro i σ' H' ⟨_, _, _, _, e', _⟩
      exact e'
    · rintro i s' x σ' H' hs' tx ⟨y9, y10, kvs, rfl, eB, e', hfd, hkl, hkv⟩
      obtain ⟨t5, z1, z2, rfl, ht5, tz1, tz2⟩ := tp_tup2 tx
      cases tp_str tz1
      cases tp_o tz2
      have hi : i < L.places.length := (List.getElem?_eq_some_iff.mp hs').1
      refine r_gtup ht5 rfl ?_
      repeat (walk_at "rd")
      refine ⟨fd', _, rfl, DPut.k (k := .inr s') hfd (sz_lt (by omega)), _, _, _, rfl, Ex.mut eB er_self, Ex.mut e' nfd, upd_same, ?_, fun s2 hs2 => ?_⟩
      · exact Nat.le_trans (putK_len _ _ _) (Nat.succ_le_succ hkl)
      · rw [valV_put]
        rw [take_snoc hs'] at hs2
        by_cases hq : s2 = s'
        · rw [if_pos (congrArg Sum.inr hq), hq]
        · rw [if_neg fun z => hq (Sum.inr.inj z)]
          rcases List.mem_append.mp hs2 with y | y
          · exact hkv s2 y
          · exact absurd (List.mem_singleton.mp y) hq
    rintro σ' H10 ⟨y9, y10, kvs, rfl, eB, e10, hfd, hkl, hkv⟩
    rw [List.take_length] at hkv
    repeat (walk_at "rd")
    refine r_iL0 ?_
    repeat (walk_at "rd")
    refine ⟨_, _, _, _, rfl, p, L, we, ss, bs, rfl, land_ex e10 hL7, ls_ex e10 hW7, ls_ex e10 hS7, ls_ex e10 hB7, aok, fun v F1 F2 H11 e11 hv hc1 => ?_⟩
    obtain ⟨ga, gxs, rfl, hgS, hgT⟩ := hv
    have e7b := e10.trans e11
    refine ⟨ga, rfl, ⟨_, hgS⟩, lc_l1 hgS hgT (by omega) (fun s => decide (V.str (wordOf (lk F1 s) (lk F2 s)) = V.str "never")) (fun s => .str s) ?_ ?_⟩
    · intro s' x H' Ky Kn ha' e' tx hy hn
      obtain ⟨t5, z1, z2, rfl, ht5, tz1, tz2⟩ := tp_tup2 tx
      cases tp_str tz1
      cases tp_str tz2
      repeat (walk_at "rd")
      refine ite_c (fun h1 => ?_) fun h1 => ?_
      · repeat (walk_at "rd")
        exact hy _ _ h1 (Ex.refl _) (.str _)
      · exact hn _ h1 (Ex.refl _)
    intro D H12 ys nD e12 hd htD
    have ey := tpa_strs htD
    subst ey
    have E12 := e7b.trans e12
    have hfd12 : H12 fd' = some (.dK kvs) := (e11.trans e12) _ _ hfd
    repeat (walk_at "rd")
    refine r_iL0 ?_
    repeat (walk_at "rd")
    refine ⟨_, _, _, _, _, _, rfl, pa, nl, L, we, ss, bs, ms, st, rfl, rfl, rfl, parts_ex E12 hP7, ls_ex E12 hW7, tp_ex E12 tv7, ls_ex E12 hB7, ex_l E12 hM7, ok, lok, wok, win, by omega, st2, st1, fun R rs H13 e13 hR hrl hrs => ?_⟩
    obtain ⟨ra, rxs, hra, hrS, hrT⟩ := hR
    cases hra
    refine ⟨R, rfl, ⟨_, hrS⟩, f_lB (B := H13) hrS hrT (fun i σ' H' => ∃ (y9 y10 y12 : Option V), σ' = [some (.ref a), some (.ref nl), some (.ref pa), some (.ref p), some (.ref W), some (.ref S), some (.ref Bk), some (.ref t), some (.ref fd'), y9, y10, some (.ref D), y12] ∧ Ex H13 H') ?_ ?_ ?_ ?_⟩
    · exact ⟨_, _, _, rfl, Ex.refl _⟩
    · rintro i σ' H' ⟨_, _, _, _, e'⟩
      exact e'
    · rintro i r x σ' H' hr' tx ⟨y9, y10, y12, rfl, e'⟩
      obtain ⟨t5, z1, z2, rfl, ht5, tz1, tz2⟩ := tp_tup2 tx
      cases tp_str tz1
      cases tp_int tz2
      obtain ⟨hrp, hrF⟩ := hrs r (List.mem_of_getElem? hr')
      obtain ⟨m0, hm0, hm1⟩ := hrF F0 hc0 (had F0 hc0)
      obtain ⟨m1', hm2, _⟩ := hrF F1 hc1 (had F1 hc1)
      have hfd' : H' fd' = some (.dK kvs) := (e13.trans e') _ _ hfd12
      have hval := hkv r.1 hrp
      rw [hm0] at hval
      have hget : DGet H' fd' (.str r.1) (some (.int m0)) := by
        have := DGet.k (k := (.inr r.1 : Key)) hfd'
        rw [hval] at this
        exact this
      refine r_gtup ht5 rfl ?_
      repeat (walk_at "rd")
      refine ⟨fd', .int m0, rfl, hget, ?_⟩
      repeat (walk_at "rd")
      refine ⟨fd', .int m0, rfl, hget, ?_⟩
      repeat (walk_at "rd")
      have hd13 : SqL K H' D _ := ex_l (e13.trans e') (sq_of hd)
      rw [decide_eq_false (show ¬ r.2 < m0 by omega)]
      repeat (walk_at "rd")
      refine r_inL hd13 rfl (flat_strs _) ?_
      rw [inV_strs, decide_eq_false (fun z => by
        obtain ⟨h1, h2⟩ := List.mem_filter.mp (show r.1 ∈ L.places.filter (fun s => decide (V.str (wordOf (lk F1 s) (lk F2 s)) = V.str "never")) by simpa using z)
        have h2 := V.str.inj (of_decide_eq_true h2)
        rw [hm2] at h2
        cases hq : lk F2 r.1 with
        | none => rw [hq] at h2; exact absurd (show ("maybe" : Str) = "never" from h2) (by decide +kernel)
        | some y => rw [hq] at h2; exact absurd (show ("surely" : Str) = "never" from h2) (by decide +kernel))]
      repeat (walk_at "rd")
      exact ⟨_, _, _, rfl, e'⟩
    · rintro σ' H' ⟨y9, y10, y12, rfl, e'⟩
      repeat (walk_at "rd")
      exact q _
end
end EF
end
theorem PySem.Challenge.cw_everyfire_k15_whole_courses_of_a_fire_holds : PySem.Challenge.rw_everyfire_k15_whole_courses_of_a_fire.Holds := by
  exact EF.holds_of fun P w K mg base fd T F => EF.ok_law T P w base fd F
